import PyProof.Rows.All
import Wide.All
import OpenK.AllK
import Wide.FinOn
import HandS.ForMost
import HandS.Wide
import HandS.Zip
import KE.SortData
import HandS.Deep
import HandS.TupAny
import HandS.TupMul
import HandS.Style
import HandS.IsInst
import KE.GoesMore
import KE.GoesEnum
import PyProof.LongRange
import KE.Datum
import PySem.Challenge.RW_apartbook_k15_gains
set_option Elab.async false
set_option linter.all false
set_option maxRecDepth 100000
set_option maxHeartbeats 4000000
/-! DL, a layer of data over the hand layer: what an expression gives is told by a plain function of the frame's data. -/
namespace DL
open PySem PySem.Spec L2

abbrev D := PyData
/-- how a result stands: vw seen for now, sv seen and staying, fz frozen for good, ow a new list of one's own -/
inductive RK where
  | vw | vl | sv | fz | ow
/-- a slot's content -/
inductive C where
  | und | val (d : D) | brw (d : D) | lst (ds : List D) | dK (kvs : List (Key × D)) | dT (kvs : List (List Key × D))

/-- the entry: its heap, its frozen part, what may be written of it -/
structure GC where
  H0 : Hp
  F0 : Hp
  W : List Addr
/-- what stays of the entry -/
def GC.kp (G : GC) : Hp := fun a => if a ∈ G.W then none else G.H0 a

/-! frozen data: its lists are plain ones -/
mutual
inductive DF (K : PySem.W.Frag) (H : Hp) : V → PyData → Prop
  | non : DF K H .non .none
  | bl (b : Bool) : DF K H (.bl b) (.bool b)
  | int (i : Int) : DF K H (.int i) (.int i)
  | str (x : Str) : DF K H (.str x) (.str x)
  | lst {a : Addr} {xs : List V} {ds : List PyData} : H a = some (.lst xs) → DFAll K H xs ds → DF K H (.ref a) (.list ds)
  | tup {a : Addr} {xs : List V} {ds : List PyData} : SqT K H a xs → DFAll K H xs ds → DF K H (.ref a) (.tuple ds)
inductive DFAll (K : PySem.W.Frag) (H : Hp) : List V → List PyData → Prop
  | nil : DFAll K H [] []
  | cons {v : V} {vs : List V} {d : PyData} {ds : List PyData} : DF K H v d → DFAll K H vs ds → DFAll K H (v :: vs) (d :: ds)
end
section
variable {K : PySem.W.Frag} {H H' F F' : Hp}
theorem Same.seqT (e : Same H H') {a : Addr} {xs : List V} (h : SqT K H a xs) : SqT K H' a xs := by
  rcases h with (h | ⟨o, h⟩) | h
  · exact .inl (.inl (e _ _ h))
  · exact .inl (.inr ⟨o, e _ _ h⟩)
  · exact .inr h
mutual
theorem Dp_mono (e : Same H H') : ∀ (d : D) (v : V), Dp K H v d → Dp K H' v d
  | .none, _, h => by cases h; exact .non
  | .bool b, _, h => by cases h; exact .bl b
  | .int i, _, h => by cases h; exact .int i
  | .str x, _, h => by cases h; exact .str x
  | .list ds, _, h => by
    cases h with
    | lst hs ha => exact .lst (e.seq hs) (DpAll_mono e ds _ ha)
  | .tuple ds, _, h => by
    cases h with
    | tup hs ha => exact .tup (Same.seqT e hs) (DpAll_mono e ds _ ha)
  | .dict _, _, h => by cases h
theorem DpAll_mono (e : Same H H') : ∀ (ds : List D) (vs : List V), DpAll K H vs ds → DpAll K H' vs ds
  | [], _, h => by cases h; exact .nil
  | d :: ds, _, h => by
    cases h with
    | cons h1 h2 => exact .cons (Dp_mono e d _ h1) (DpAll_mono e ds _ h2)
end
theorem DpAll_len : ∀ {vs : List V} {ds : List D}, DpAll K H vs ds → vs.length = ds.length
  | [], ds, h => by cases h; rfl
  | v :: vs, ds, h => by
    cases h with
    | cons h1 h2 => rw [List.length_cons, List.length_cons, DpAll_len h2]
theorem DpAll_get : ∀ {vs : List V} {ds : List D} {i : Nat} {d : D}, DpAll K H vs ds → ds[i]? = some d → ∃ v, vs[i]? = some v ∧ Dp K H v d
  | [], ds, i, d, h, e => by cases h; simp at e
  | v :: vs, ds, i, d, h, e => by
    cases h with
    | cons h1 h2 =>
      cases i with
      | zero => simp at e; subst e; exact ⟨v, rfl, h1⟩
      | succ i => simpa using DpAll_get h2 (by simpa using e)
theorem DpAll_getV : ∀ {vs : List V} {ds : List D} {i : Nat} {v : V}, DpAll K H vs ds → vs[i]? = some v → ∃ d, ds[i]? = some d ∧ Dp K H v d
  | [], ds, i, d, h, e => by simp at e
  | v :: vs, ds, i, d, h, e => by
    cases h with
    | cons h1 h2 =>
      cases i with
      | zero => simp at e; subst e; exact ⟨_, rfl, h1⟩
      | succ i => simpa using DpAll_getV h2 (by simpa using e)
theorem DpAll_app : ∀ {vs ws : List V} {ds es : List D}, DpAll K H vs ds → DpAll K H ws es → DpAll K H (vs ++ ws) (ds ++ es)
  | [], ws, ds, es, h, h' => by cases h; exact h'
  | v :: vs, ws, ds, es, h, h' => by
    cases h with
    | cons h1 h2 => exact .cons h1 (DpAll_app h2 h')
theorem DpAll_take : ∀ {vs : List V} {ds : List D} (n : Nat), DpAll K H vs ds → DpAll K H (vs.take n) (ds.take n)
  | _, _, 0, _ => .nil
  | [], _, n + 1, h => by cases h; exact .nil
  | v :: vs, _, n + 1, h => by
    cases h with
    | cons h1 h2 => exact .cons h1 (DpAll_take n h2)
theorem DpAll_drop : ∀ {vs : List V} {ds : List D} (n : Nat), DpAll K H vs ds → DpAll K H (vs.drop n) (ds.drop n)
  | _, _, 0, h => h
  | [], _, n + 1, h => by cases h; exact .nil
  | v :: vs, _, n + 1, h => by
    cases h with
    | cons h1 h2 => exact DpAll_drop n h2
theorem DpAll_set : ∀ {vs : List V} {ds : List D} {v : V} {d : D} (i : Nat), DpAll K H vs ds → Dp K H v d → DpAll K H (vs.set i v) (ds.set i d)
  | [], _, v, d, i, h, _ => by cases h; exact .nil
  | w :: vs, _, v, d, i, h, hd => by
    cases h with
    | cons h1 h2 =>
      cases i with
      | zero => exact .cons hd h2
      | succ i => exact .cons h1 (DpAll_set i h2 hd)
theorem DpAll_rev {vs : List V} {ds : List D} (h : DpAll K H vs ds) : DpAll K H vs.reverse ds.reverse := by
  induction vs generalizing ds with
  | nil => cases h; exact .nil
  | cons v vs ih =>
    cases h with
    | cons h1 h2 =>
      rw [List.reverse_cons, List.reverse_cons]
      exact DpAll_app (ih h2) (.cons h1 .nil)
theorem DpAll_rep {vs : List V} {ds : List D} (h : DpAll K H vs ds) : ∀ n : Nat, DpAll K H (List.replicate n vs).flatten (List.replicate n ds).flatten
  | 0 => .nil
  | n + 1 => by
    rw [List.replicate_succ, List.replicate_succ, List.flatten_cons, List.flatten_cons]
    exact DpAll_app h (DpAll_rep h n)
theorem DpAll_ints : ∀ (ns : List Int), DpAll K H (ns.map V.int) (ns.map PyData.int)
  | [] => .nil
  | n :: ns => .cons (.int n) (DpAll_ints ns)
theorem DpAll_ints_of : ∀ {vs : List V} {ns : List Int}, DpAll K H vs (ns.map PyData.int) → vs = ns.map V.int
  | [], ns, h => by
    cases ns with
    | nil => rfl
    | cons n ns => cases h
  | v :: vs, ns, h => by
    cases ns with
    | nil => cases h
    | cons n ns =>
      cases h with
      | cons h1 h2 =>
        cases h1
        rw [List.map_cons, DpAll_ints_of h2]
theorem DpAll_strs_of : ∀ {vs : List V} {ns : List Str}, DpAll K H vs (ns.map PyData.str) → vs = ns.map V.str
  | [], ns, h => by
    cases ns with
    | nil => rfl
    | cons n ns => cases h
  | v :: vs, ns, h => by
    cases ns with
    | nil => cases h
    | cons n ns =>
      cases h with
      | cons h1 h2 =>
        cases h1
        rw [List.map_cons, DpAll_strs_of h2]
mutual
theorem DF_mono (e : Same H H') : ∀ (d : D) (v : V), DF K H v d → DF K H' v d
  | .none, _, h => by cases h; exact .non
  | .bool b, _, h => by cases h; exact .bl b
  | .int i, _, h => by cases h; exact .int i
  | .str x, _, h => by cases h; exact .str x
  | .list ds, _, h => by
    cases h with
    | lst hs ha => exact .lst (e _ _ hs) (DFAll_mono e ds _ ha)
  | .tuple ds, _, h => by
    cases h with
    | tup hs ha => exact .tup (Same.seqT e hs) (DFAll_mono e ds _ ha)
  | .dict _, _, h => by cases h
theorem DFAll_mono (e : Same H H') : ∀ (ds : List D) (vs : List V), DFAll K H vs ds → DFAll K H' vs ds
  | [], _, h => by cases h; exact .nil
  | d :: ds, _, h => by
    cases h with
    | cons h1 h2 => exact .cons (DF_mono e d _ h1) (DFAll_mono e ds _ h2)
end
theorem DFAll_len : ∀ {vs : List V} {ds : List D}, DFAll K H vs ds → vs.length = ds.length
  | [], ds, h => by cases h; rfl
  | v :: vs, ds, h => by
    cases h with
    | cons h1 h2 => rw [List.length_cons, List.length_cons, DFAll_len h2]
theorem DFAll_get : ∀ {vs : List V} {ds : List D} {i : Nat} {d : D}, DFAll K H vs ds → ds[i]? = some d → ∃ v, vs[i]? = some v ∧ DF K H v d
  | [], ds, i, d, h, e => by cases h; simp at e
  | v :: vs, ds, i, d, h, e => by
    cases h with
    | cons h1 h2 =>
      cases i with
      | zero => simp at e; subst e; exact ⟨v, rfl, h1⟩
      | succ i => simpa using DFAll_get h2 (by simpa using e)
theorem DFAll_getV : ∀ {vs : List V} {ds : List D} {i : Nat} {v : V}, DFAll K H vs ds → vs[i]? = some v → ∃ d, ds[i]? = some d ∧ DF K H v d
  | [], ds, i, d, h, e => by simp at e
  | v :: vs, ds, i, d, h, e => by
    cases h with
    | cons h1 h2 =>
      cases i with
      | zero => simp at e; subst e; exact ⟨_, rfl, h1⟩
      | succ i => simpa using DFAll_getV h2 (by simpa using e)
theorem DFAll_app : ∀ {vs ws : List V} {ds es : List D}, DFAll K H vs ds → DFAll K H ws es → DFAll K H (vs ++ ws) (ds ++ es)
  | [], ws, ds, es, h, h' => by cases h; exact h'
  | v :: vs, ws, ds, es, h, h' => by
    cases h with
    | cons h1 h2 => exact .cons h1 (DFAll_app h2 h')
theorem DFAll_take : ∀ {vs : List V} {ds : List D} (n : Nat), DFAll K H vs ds → DFAll K H (vs.take n) (ds.take n)
  | _, _, 0, _ => .nil
  | [], _, n + 1, h => by cases h; exact .nil
  | v :: vs, _, n + 1, h => by
    cases h with
    | cons h1 h2 => exact .cons h1 (DFAll_take n h2)
theorem DFAll_drop : ∀ {vs : List V} {ds : List D} (n : Nat), DFAll K H vs ds → DFAll K H (vs.drop n) (ds.drop n)
  | _, _, 0, h => h
  | [], _, n + 1, h => by cases h; exact .nil
  | v :: vs, _, n + 1, h => by
    cases h with
    | cons h1 h2 => exact DFAll_drop n h2
theorem DFAll_set : ∀ {vs : List V} {ds : List D} {v : V} {d : D} (i : Nat), DFAll K H vs ds → DF K H v d → DFAll K H (vs.set i v) (ds.set i d)
  | [], _, v, d, i, h, _ => by cases h; exact .nil
  | w :: vs, _, v, d, i, h, hd => by
    cases h with
    | cons h1 h2 =>
      cases i with
      | zero => exact .cons hd h2
      | succ i => exact .cons h1 (DFAll_set i h2 hd)
theorem DFAll_rev {vs : List V} {ds : List D} (h : DFAll K H vs ds) : DFAll K H vs.reverse ds.reverse := by
  induction vs generalizing ds with
  | nil => cases h; exact .nil
  | cons v vs ih =>
    cases h with
    | cons h1 h2 =>
      rw [List.reverse_cons, List.reverse_cons]
      exact DFAll_app (ih h2) (.cons h1 .nil)
theorem DFAll_rep {vs : List V} {ds : List D} (h : DFAll K H vs ds) : ∀ n : Nat, DFAll K H (List.replicate n vs).flatten (List.replicate n ds).flatten
  | 0 => .nil
  | n + 1 => by
    rw [List.replicate_succ, List.replicate_succ, List.flatten_cons, List.flatten_cons]
    exact DFAll_app h (DFAll_rep h n)
theorem DFAll_ints : ∀ (ns : List Int), DFAll K H (ns.map V.int) (ns.map PyData.int)
  | [] => .nil
  | n :: ns => .cons (.int n) (DFAll_ints ns)
theorem DFAll_ints_of : ∀ {vs : List V} {ns : List Int}, DFAll K H vs (ns.map PyData.int) → vs = ns.map V.int
  | [], ns, h => by
    cases ns with
    | nil => rfl
    | cons n ns => cases h
  | v :: vs, ns, h => by
    cases ns with
    | nil => cases h
    | cons n ns =>
      cases h with
      | cons h1 h2 =>
        cases h1
        rw [List.map_cons, DFAll_ints_of h2]
theorem DFAll_strs_of : ∀ {vs : List V} {ns : List Str}, DFAll K H vs (ns.map PyData.str) → vs = ns.map V.str
  | [], ns, h => by
    cases ns with
    | nil => rfl
    | cons n ns => cases h
  | v :: vs, ns, h => by
    cases ns with
    | nil => cases h
    | cons n ns =>
      cases h with
      | cons h1 h2 =>
        cases h1
        rw [List.map_cons, DFAll_strs_of h2]

mutual
theorem DF.dp : ∀ (d : D) (v : V), DF K H v d → Dp K H v d
  | .none, _, h => by cases h; exact .non
  | .bool b, _, h => by cases h; exact .bl b
  | .int i, _, h => by cases h; exact .int i
  | .str x, _, h => by cases h; exact .str x
  | .list ds, _, h => by
    cases h with
    | lst hs ha => exact .lst (.inl (.inl hs)) (DFAll.dp ds _ ha)
  | .tuple ds, _, h => by
    cases h with
    | tup hs ha => exact .tup hs (DFAll.dp ds _ ha)
  | .dict _, _, h => by cases h
theorem DFAll.dp : ∀ (ds : List D) (vs : List V), DFAll K H vs ds → DpAll K H vs ds
  | [], _, h => by cases h; exact .nil
  | d :: ds, _, h => by
    cases h with
    | cons h1 h2 => exact .cons (DF.dp d _ h1) (DFAll.dp ds _ h2)
end
end

/-- the dict's pairs by their data -/
inductive KDp {κ : Type} (K : PySem.W.Frag) (H : Hp) : List (κ × V) → List (κ × D) → Prop
  | nil : KDp K H [] []
  | cons {k : κ} {v : V} {d : D} {vs ds} : DF K H v d → KDp K H vs ds → KDp K H ((k, v) :: vs) ((k, d) :: ds)
theorem KDp.mono {κ : Type} {K : PySem.W.Frag} {H H' : Hp} (e : Same H H') : ∀ {vs : List (κ × V)} {ds : List (κ × D)}, KDp K H vs ds → KDp K H' vs ds
  | _, _, .nil => .nil
  | _, _, .cons h t => .cons (DF_mono e _ _ h) (KDp.mono e t)

def SlotRep (K : PySem.W.Frag) (G : GC) (H F : Hp) (x : Option V) (c : C) (fp : List Addr) : Prop :=
  match c with
  | .und => fp = []
  | .val d => fp = [] ∧ ∃ v, x = some v ∧ DF K F v d
  | .brw d => fp = [] ∧ ∃ v, x = some v ∧ Dp K G.kp v d
  | .lst ds => ∃ a vs, fp = [a] ∧ x = some (.ref a) ∧ H a = some (.lst vs) ∧ DFAll K F vs ds
  | .dK ds => ∃ a vs, fp = [a] ∧ x = some (.ref a) ∧ H a = some (.dK vs) ∧ KDp K F vs ds
  | .dT ds => ∃ a vs, fp = [a] ∧ x = some (.ref a) ∧ H a = some (.dT vs) ∧ KDp K F vs ds

structure Rel (K : PySem.W.Frag) (G : GC) (env : List C) (σ : St) (H F : Hp) (fp : Nat → List Addr) : Prop where
  len : env.length = σ.length
  slot : ∀ i c, env[i]? = some c → SlotRep K G H F (σ[i]?.join) c (fp i)
  dj : ∀ i j a, a ∈ fp i → a ∈ fp j → i = j
  own : ∀ i a, a ∈ fp i → F a = none ∧ H a ≠ none ∧ (G.H0 a = none ∨ a ∈ G.W)
  sub : Same F H
  new : ∀ a o, F a = some o → G.F0 a = some o ∨ G.H0 a = none
  old : Same G.F0 F
  keep : ∀ a o, G.H0 a = some o → a ∉ G.W → H a = some o
  alive : ∀ a, G.H0 a ≠ none → H a ≠ none

structure Ext (H F H' F' : Hp) : Prop where
  h : Same H H'
  f : Same F F'
  sub : Same F' H'
  new : ∀ a o, F' a = some o → F a = some o ∨ H a = none
section
variable {K : PySem.W.Frag} {G : GC} {env : List C} {σ : St} {H F H' F' H1 F1 : Hp} {fp : Nat → List Addr}
theorem Ext.refl (h : Same F H) : Ext H F H F := ⟨Same.refl _, Same.refl _, h, fun _ _ e => .inl e⟩
theorem Ext.trans (a : Ext H F H1 F1) (b : Ext H1 F1 H' F') : Ext H F H' F' :=
  ⟨a.h.trans b.h, a.f.trans b.f, b.sub, fun x o e => by
    rcases b.new x o e with q | q
    · exact a.new x o q
    · exact .inr (a.h.free q)⟩
/-- a new object, frozen at once -/
theorem Ext.frozen {p : Addr} {o : HO} (h : Same F H) (np : H p = none) : Ext H F (upd H p o) (upd F p o) := by
  have nf : F p = none := h.free np
  refine ⟨fun b x e => ?_, fun b x e => ?_, fun b x e => ?_, fun b x e => ?_⟩
  · rw [upd_ne (ne_of_none e np)]; exact e
  · rw [upd_ne (ne_of_none e nf)]; exact e
  · by_cases hb : b = p
    · subst hb; rw [upd_same] at e ⊢; exact e
    · rw [upd_ne hb] at e ⊢; exact h _ _ e
  · by_cases hb : b = p
    · subst hb; exact .inr np
    · rw [upd_ne hb] at e; exact .inl e
/-- a new object, not frozen -/
theorem Ext.laid {p : Addr} {o : HO} (h : Same F H) (np : H p = none) : Ext H F (upd H p o) F := by
  refine ⟨fun b x e => ?_, Same.refl _, fun b x e => ?_, fun b x e => .inl e⟩
  · rw [upd_ne (ne_of_none e np)]; exact e
  · rw [upd_ne (ne_of_none (h _ _ e) np)]; exact h _ _ e
theorem Rel.ext (R : Rel K G env σ H F fp) (E : Ext H F H' F') : Rel K G env σ H' F' fp where
  len := R.len
  slot := fun i c e => by
    have q := R.slot i c e
    cases c with
    | und => exact q
    | val d => obtain ⟨q1, v, q2, q3⟩ := q; exact ⟨q1, v, q2, DF_mono E.f _ _ q3⟩
    | brw d => exact q
    | lst ds => obtain ⟨a, vs, q1, q2, q3, q4⟩ := q; exact ⟨a, vs, q1, q2, E.h _ _ q3, DFAll_mono E.f _ _ q4⟩
    | dK ds => obtain ⟨a, vs, q1, q2, q3, q4⟩ := q; exact ⟨a, vs, q1, q2, E.h _ _ q3, q4.mono E.f⟩
    | dT ds => obtain ⟨a, vs, q1, q2, q3, q4⟩ := q; exact ⟨a, vs, q1, q2, E.h _ _ q3, q4.mono E.f⟩
  dj := R.dj
  own := fun i a ha => by
    obtain ⟨h1, h2, h3⟩ := R.own i a ha
    refine ⟨?_, ?_, h3⟩
    · cases q : F' a with
      | none => rfl
      | some o =>
        rcases E.new a o q with z | z
        · rw [h1] at z; cases z
        · exact absurd z h2
    · cases q : H a with
      | none => exact absurd q h2
      | some o => rw [E.h _ _ q]; intro z; cases z
  sub := E.sub
  new := fun a o e => by
    rcases E.new a o e with z | z
    · exact R.new a o z
    · right
      cases q : G.H0 a with
      | none => rfl
      | some u => exact absurd z (R.alive a (by rw [q]; intro z; cases z))
  old := R.old.trans E.f
  keep := fun a o e hw => E.h _ _ (R.keep a o e hw)
  alive := fun a e => by
    have q := R.alive a e
    cases z : H a with
    | none => exact absurd z q
    | some o => rw [E.h _ _ z]; intro y; cases y
theorem Rel.kpSame (R : Rel K G env σ H F fp) : Same G.kp H := fun a o e => by
  unfold GC.kp at e
  by_cases hw : a ∈ G.W
  · rw [if_pos hw] at e; cases e
  · rw [if_neg hw] at e; exact R.keep a o e hw
end

/-- a list or tuple that is read has a length within the line -/
def LenOk (K : PySem.W.Frag) (H : Hp) : Prop := ∀ a xs, (SqL K H a xs ∨ SqT K H a xs) → xs.length ≤ sizeLine
theorem pe_len {X : Cx} {e : Expr} {t : TE} (h : PE X e t) : PE X e (fun σ H Q => LenOk X.K H → t σ H Q) := ⟨fun pins s σ H Q I hq => h.run pins s σ H Q I (hq fun a xs hx => by
  rcases hx with hx | hx
  · obtain ⟨_, _, _, z⟩ := I.list hx
    exact z
  · obtain ⟨_, _, _, z⟩ := I.tuple hx
    exact z)⟩

/-- what stays: the frozen and the entry's kept part -/
def stb (G : GC) (F : Hp) : Hp := fun a => (F a).or (G.kp a)
def RepK (K : PySem.W.Frag) (G : GC) (k : RK) (H : Hp) (H' F' : Hp) (v : V) (d : D) : Prop :=
  match k with
  | .vw => Dp K H' v d
  | .vl => DF K F' v d ∨ ∃ a vs ds, v = .ref a ∧ d = .list ds ∧ H' a = some (.lst vs) ∧ DFAll K F' vs ds
  | .sv => Dp K (stb G F') v d
  | .fz => DF K F' v d
  | .ow => ∃ a vs ds, v = .ref a ∧ d = .list ds ∧ H a = none ∧ H' a = some (.lst vs) ∧ F' a = none ∧ DFAll K F' vs ds

/-- an expression: f tells its value by the frame's data -/
structure DE (X : Cx) (G : GC) (k : RK) (e : Expr) (f : List C → Option D) : Prop where
  ex : ∃ t, PE X e t ∧ ∀ (σ : St) (H F : Hp) (fp : Nat → List Addr) (env : List C) (d : D) (Q : VK), Rel X.K G env σ H F fp → f env = some d →
    (∀ v H' F', Ext H F H' F' → RepK X.K G k H H' F' v d → Q v H') → t σ H Q
def RepA (K : PySem.W.Frag) (G : GC) (k : RK) (H' F' : Hp) (v : V) (d : D) : Prop :=
  match k with
  | .vw => Dp K H' v d
  | .vl => DF K F' v d ∨ ∃ a vs ds, v = .ref a ∧ d = .list ds ∧ H' a = some (.lst vs) ∧ DFAll K F' vs ds
  | .sv => Dp K (stb G F') v d
  | _ => DF K F' v d
/-- arguments -/
def RepKs (K : PySem.W.Frag) (G : GC) (H' F' : Hp) : List RK → List V → List D → Prop
  | [], [], [] => True
  | k :: ks, v :: vs, d :: ds => RepA K G k H' F' v d ∧ RepKs K G H' F' ks vs ds
  | _, _, _ => False
structure DA (X : Cx) (G : GC) (ks : List RK) (es : List Expr) (f : List C → Option (List D)) : Prop where
  ex : ∃ t, PA X es t ∧ ∀ (σ : St) (H F : Hp) (fp : Nat → List Addr) (env : List C) (ds : List D) (Q : List V → Hp → Prop), Rel X.K G env σ H F fp → f env = some ds →
    (∀ vs H' F', Ext H F H' F' → RepKs X.K G H' F' ks vs ds → Q vs H') → t σ H Q
/-- a test -/
structure DTs (X : Cx) (G : GC) (e : Expr) (f : List C → Option Bool) : Prop where
  ex : ∃ t, PT X e t ∧ ∀ (σ : St) (H F : Hp) (fp : Nat → List Addr) (env : List C) (b : Bool) (Q : Bool → Hp → Prop), Rel X.K G env σ H F fp → f env = some b →
    (∀ H' F', Ext H F H' F' → Q b H') → t σ H Q
end DL
set_option Elab.async false
set_option linter.all false
set_option maxRecDepth 100000
set_option maxHeartbeats 4000000
namespace DL
open PySem PySem.Spec L2

def RK.le : RK → RK → Bool
  | .ow, _ => true
  | .fz, .fz => true | .fz, .sv => true | .fz, .vl => true | .fz, .vw => true
  | .vl, .vl => true | .vl, .vw => true
  | .sv, .sv => true | .sv, .vw => true
  | .vw, .vw => true
  | _, _ => false
/-- the place of a result in an argument: never a list of one's own -/
def RK.arg : RK → Bool
  | .ow => false
  | _ => true

section
variable {K : PySem.W.Frag} {G : GC} {H H1 F1 H' F F' : Hp} {v : V} {d : D}
theorem stb_f : Same F (stb G F) := fun a o e => by unfold stb; rw [e]; rfl
theorem stb_kp (sub : Same F H) (kp : Same G.kp H) : Same G.kp (stb G F) := fun a o e => by
  unfold stb
  cases q : F a with
  | none => exact e
  | some u =>
    have h1 := sub _ _ q
    rw [kp _ _ e] at h1
    cases h1; rfl
theorem stb_sub (sub : Same F H) (kp : Same G.kp H) : Same (stb G F) H := fun a o e => by
  unfold stb at e
  cases q : F a with
  | none => rw [q] at e; exact kp _ _ e
  | some u => rw [q] at e; cases e; exact sub _ _ q
theorem stb_mono (sub : Same F' H') (kp : Same G.kp H') (f : Same F F') : Same (stb G F) (stb G F') := fun a o e => by
  unfold stb at e
  cases q : F a with
  | none => rw [q] at e; exact stb_kp sub kp _ _ e
  | some u => rw [q] at e; cases e; exact stb_f _ _ (f _ _ q)
theorem RepA.ext {k : RK} (E : Ext H F H' F') (kp : Same G.kp H') (r : RepA K G k H F v d) : RepA K G k H' F' v d := by
  cases k with
  | vw => exact Dp_mono E.h _ _ r
  | vl =>
    rcases r with r | ⟨a, vs, ds, e1, e2, e3, e4⟩
    · exact .inl (DF_mono E.f _ _ r)
    · exact .inr ⟨a, vs, ds, e1, e2, E.h _ _ e3, DFAll_mono E.f _ _ e4⟩
  | sv => exact Dp_mono (stb_mono E.sub kp E.f) _ _ r
  | fz => exact DF_mono E.f _ _ r
  | ow => exact DF_mono E.f _ _ r
/-- for now -/
theorem RepA.now {k : RK} (sub : Same F H) (kp : Same G.kp H) (r : RepA K G k H F v d) : Dp K H v d := by
  cases k with
  | vw => exact r
  | vl =>
    rcases r with r | ⟨a, vs, ds, rfl, rfl, e3, e4⟩
    · exact Dp_mono sub _ _ (DF.dp _ _ r)
    · exact .lst (.inl (.inl e3)) (DpAll_mono sub _ _ (DFAll.dp _ _ e4))
  | sv => exact Dp_mono (stb_sub sub kp) _ _ r
  | fz => exact Dp_mono sub _ _ (DF.dp _ _ r)
  | ow => exact Dp_mono sub _ _ (DF.dp _ _ r)
/-- a list's or tuple's items, frozen -/
theorem vl_list {ds : List D} (sub : Same F H) (r : RepA K G .vl H F v (.list ds)) : ∃ a vs, v = .ref a ∧ H a = some (.lst vs) ∧ DFAll K F vs ds := by
  rcases r with r | ⟨a, vs, ds', e1, e2, e3, e4⟩
  · cases r with
    | lst h1 h2 => exact ⟨_, _, rfl, sub _ _ h1, h2⟩
  · cases e2
    exact ⟨a, vs, e1, e3, e4⟩
theorem vl_tup {ds : List D} (sub : Same F H) (r : RepA K G .vl H F v (.tuple ds)) : ∃ a vs, v = .ref a ∧ SqT K H a vs ∧ DFAll K F vs ds := by
  rcases r with r | ⟨a, vs, ds', e1, e2, e3, e4⟩
  · cases r with
    | tup h1 h2 => exact ⟨_, _, rfl, Same.seqT sub h1, h2⟩
  · cases e2
theorem vl_int {i : Int} (r : RepA K G .vl H F v (.int i)) : v = .int i := by
  rcases r with r | ⟨a, vs, ds', e1, e2, e3, e4⟩
  · cases r; rfl
  · cases e2
theorem vl_str {i : Str} (r : RepA K G .vl H F v (.str i)) : v = .str i := by
  rcases r with r | ⟨a, vs, ds', e1, e2, e3, e4⟩
  · cases r; rfl
  · cases e2
theorem vl_bl {i : Bool} (r : RepA K G .vl H F v (.bool i)) : v = .bl i := by
  rcases r with r | ⟨a, vs, ds', e1, e2, e3, e4⟩
  · cases r; rfl
  · cases e2
theorem vl_non (r : RepA K G .vl H F v .none) : v = .non := by
  rcases r with r | ⟨a, vs, ds', e1, e2, e3, e4⟩
  · cases r; rfl
  · cases e2
end

section
variable {X : Cx} {G : GC} {k k' : RK} {e : Expr} {f : List C → Option D}
/-- another way of standing -/
theorem DE.conv (h : DE X G k e f) (hk : k.le k' = true) : DE X G k' e f := by
  obtain ⟨t, pt, ok⟩ := h.ex
  refine ⟨t, pt, fun σ H F fp env d Q R hf q => ok σ H F fp env d Q R hf fun v H' F' E r => ?_⟩
  have kp := (R.ext E).kpSame
  cases k with
  | ow =>
    obtain ⟨a, vs, ds, rfl, rfl, h1, h2, h3, h4⟩ := r
    have E2 : Ext H F H' (upd F' a (.lst vs)) := by
      refine ⟨E.h, fun b x e => ?_, fun b x e => ?_, fun b x e => ?_⟩
      · rw [upd_ne (ne_of_none (E.f _ _ e) h3)]; exact E.f _ _ e
      · by_cases hb : b = a
        · subst hb; rw [upd_same] at e; rw [← e]; exact h2
        · rw [upd_ne hb] at e; exact E.sub _ _ e
      · by_cases hb : b = a
        · subst hb; exact .inr h1
        · rw [upd_ne hb] at e; exact E.new _ _ e
    have m : Same F' (upd F' a (.lst vs)) := fun b x e => by
      rw [upd_ne (ne_of_none e h3)]; exact e
    have z : DF X.K (upd F' a (.lst vs)) (.ref a) (.list ds) := .lst upd_same (DFAll_mono m _ _ h4)
    cases k' with
    | vw => exact q _ H' _ E2 (Dp_mono E2.sub _ _ (DF.dp _ _ z))
    | vl => exact q _ H' _ E2 (.inl z)
    | sv => exact q _ H' _ E2 (Dp_mono stb_f _ _ (DF.dp _ _ z))
    | fz => exact q _ H' _ E2 z
    | ow => exact q _ H' F' E ⟨a, vs, ds, rfl, rfl, h1, h2, h3, h4⟩
  | fz =>
    have z : DF X.K F' v d := r
    cases k' with
    | vw => exact q _ H' _ E (Dp_mono E.sub _ _ (DF.dp _ _ z))
    | vl => exact q _ H' _ E (.inl z)
    | sv => exact q _ H' _ E (Dp_mono stb_f _ _ (DF.dp _ _ z))
    | fz => exact q _ H' _ E z
    | ow => cases hk
  | vl =>
    cases k' with
    | vw => exact q _ H' _ E (RepA.now (k := .vl) E.sub kp r)
    | vl => exact q _ H' _ E r
    | sv => cases hk
    | fz => cases hk
    | ow => cases hk
  | sv =>
    cases k' with
    | vw => exact q _ H' _ E (Dp_mono (stb_sub E.sub kp) _ _ r)
    | sv => exact q _ H' _ E r
    | vl => cases hk
    | fz => cases hk
    | ow => cases hk
  | vw =>
    cases k' with
    | vw => exact q _ H' _ E r
    | sv => cases hk
    | vl => cases hk
    | fz => cases hk
    | ow => cases hk
theorem repK_A {K : PySem.W.Frag} {H H' F' : Hp} {v : V} {d : D} (ha : k.arg = true) (r : RepK K G k H H' F' v d) : RepA K G k H' F' v d := by
  cases k with
  | ow => cases ha
  | _ => exact r
theorem repA_K {K : PySem.W.Frag} {H H' F' : Hp} {v : V} {d : D} (ha : k.arg = true) (r : RepA K G k H' F' v d) : RepK K G k H H' F' v d := by
  cases k with
  | ow => cases ha
  | _ => exact r

/-! ### names, constants -/
def eV (i : Nat) : List C → Option D := fun env => match env[i]? with | some (.val d) => some d | _ => none
def eL (i : Nat) : List C → Option D := fun env => match env[i]? with | some (.val d) => some d | some (.lst ds) => some (.list ds) | _ => none
def eB (i : Nat) : List C → Option D := fun env => match env[i]? with | some (.val d) => some d | some (.brw d) => some d | _ => none
def eC (d : D) : List C → Option D := fun _ => some d
theorem d_var {x : Str} {pos : Pos} (i : Nat) (h : PE X (.Name x pos) (tVar i)) : DE X G .fz (.Name x pos) (eV i) := by
  refine ⟨_, h, fun σ H F fp env d Q R hf q => ?_⟩
  unfold eV at hf
  split at hf
  · rename_i d' e
    cases hf
    obtain ⟨_, v, e1, r⟩ := R.slot i _ e
    cases z : σ[i]? with
    | none => rw [z] at e1; cases e1
    | some o =>
      rw [z] at e1
      have e2 : o = some v := e1
      subst e2
      exact ⟨v, z, q v H F (Ext.refl R.sub) r⟩
  · cases hf
theorem d_varL {x : Str} {pos : Pos} (i : Nat) (h : PE X (.Name x pos) (tVar i)) : DE X G .vl (.Name x pos) (eL i) := by
  refine ⟨_, h, fun σ H F fp env d Q R hf q => ?_⟩
  unfold eL at hf
  split at hf
  · rename_i d' e
    cases hf
    obtain ⟨_, v, e1, r⟩ := R.slot i _ e
    cases z : σ[i]? with
    | none => rw [z] at e1; cases e1
    | some o =>
      rw [z] at e1
      have e2 : o = some v := e1
      subst e2
      exact ⟨v, z, q v H F (Ext.refl R.sub) (.inl r)⟩
  · rename_i ds e
    cases hf
    obtain ⟨a, vs, _, e1, e3, r⟩ := R.slot i _ e
    cases z : σ[i]? with
    | none => rw [z] at e1; cases e1
    | some o =>
      rw [z] at e1
      have e2 : o = some (.ref a) := e1
      subst e2
      exact ⟨_, z, q _ H F (Ext.refl R.sub) (.inr ⟨a, vs, ds, rfl, rfl, e3, r⟩)⟩
  · cases hf
theorem d_varB {x : Str} {pos : Pos} (i : Nat) (h : PE X (.Name x pos) (tVar i)) : DE X G .sv (.Name x pos) (eB i) := by
  refine ⟨_, h, fun σ H F fp env d Q R hf q => ?_⟩
  unfold eB at hf
  split at hf
  · rename_i d' e
    cases hf
    obtain ⟨_, v, e1, r⟩ := R.slot i _ e
    cases z : σ[i]? with
    | none => rw [z] at e1; cases e1
    | some o =>
      rw [z] at e1
      have e2 : o = some v := e1
      subst e2
      exact ⟨v, z, q v H F (Ext.refl R.sub) (Dp_mono stb_f _ _ (DF.dp _ _ r))⟩
  · rename_i ds e
    cases hf
    obtain ⟨_, v, e1, r⟩ := R.slot i _ e
    cases z : σ[i]? with
    | none => rw [z] at e1; cases e1
    | some o =>
      rw [z] at e1
      have e2 : o = some v := e1
      subst e2
      exact ⟨v, z, q v H F (Ext.refl R.sub) (Dp_mono (stb_kp R.sub R.kpSame) _ _ r)⟩
  · cases hf
theorem d_int {i j pos} : DE X G .fz (.Constant (.int i) j pos) (eC (.int i)) := ⟨_, pe_int, fun σ H F fp env d Q R hf q => by cases hf; exact q _ H F (Ext.refl R.sub) (.int i)⟩
theorem d_bl {b j pos} : DE X G .fz (.Constant (.bool b) j pos) (eC (.bool b)) := ⟨_, pe_bl, fun σ H F fp env d Q R hf q => by cases hf; exact q _ H F (Ext.refl R.sub) (.bl b)⟩
theorem d_non {j pos} : DE X G .fz (.Constant .none j pos) (eC .none) := ⟨_, pe_non, fun σ H F fp env d Q R hf q => by cases hf; exact q _ H F (Ext.refl R.sub) .non⟩
theorem d_str {x j pos} : DE X G .fz (.Constant (.str x) j pos) (eC (.str x)) := ⟨_, pe_str, fun σ H F fp env d Q R hf q => by cases hf; exact q _ H F (Ext.refl R.sub) (.str x)⟩
/-- a module's constant -/
theorem d_glob {x : Str} {v : V} {d : D} {u : Value} {pos : Pos} (hg : Gl X x) (hm : X.mg x = some u) (r : RelV v u) (hd : DF X.K (fun _ => none) v d) (hdb : (x == ("__debug__" : Str)) = false := by decide) : DE X G .fz (.Name x pos) (eC d) :=
  ⟨_, pe_glob hg hm r hdb, fun σ H F fp env d' Q R hf q => by cases hf; exact q _ H F (Ext.refl R.sub) (DF_mono (fun _ _ z => by simp at z) _ _ hd)⟩

/-! ### operators by values -/
theorem opr_len {f : Value → Value → Sem Value} {r : R2} (h : OpR X f r) : OpR X f (fun x y H Q => LenOk X.K H → r x y H Q) := fun pins s σ H x y v u Q I rx ry q => h pins s σ H x y v u Q I rx ry (q fun a xs hx => by
  rcases hx with hx | hx
  · obtain ⟨_, _, _, z⟩ := I.list hx
    exact z
  · obtain ⟨_, _, _, z⟩ := I.tuple hx
    exact z)
structure DOp (X : Cx) (G : GC) (f : Value → Value → Sem Value) (ka kb kr : RK) (g : D → D → Option D) : Prop where
  ex : ∃ r, OpR X f r ∧ ∀ (H F : Hp) (vx vy : V) (dx dy d : D) (Q : VK), Same F H → Same G.kp H → LenOk X.K H → RepA X.K G ka H F vx dx → RepA X.K G kb H F vy dy → g dx dy = some d →
    (∀ v H' F', Ext H F H' F' → RepK X.K G kr H H' F' v d → Q v H') → r vx vy H Q
def e2 (g : D → D → Option D) (fa fb : List C → Option D) : List C → Option D := fun env => (fa env).bind fun x => (fb env).bind fun y => g x y
variable {op : Operator} {a b : Expr} {fa fb : List C → Option D} {pos : Pos} {ka kb kr k1 k2 : RK} {g : D → D → Option D}
theorem RepK.back {K : PySem.W.Frag} {H H1 H' F' : Hp} {v : V} {d : D} (s : Same H H1) (r : RepK K G k H1 H' F' v d) : RepK K G k H H' F' v d := by
  cases k with
  | ow =>
    obtain ⟨a, vs, ds, e1, e2, h1, r⟩ := r
    exact ⟨a, vs, ds, e1, e2, s.free h1, r⟩
  | _ => exact r
theorem two_ok {r : R2} {ta tb : TE} (o2 : ∀ (H F : Hp) (vx vy : V) (dx dy d : D) (Q : VK), Same F H → Same G.kp H → LenOk X.K H → RepA X.K G ka H F vx dx → RepA X.K G kb H F vy dy → g dx dy = some d →
    (∀ v H' F', Ext H F H' F' → RepK X.K G kr H H' F' v d → Q v H') → r vx vy H Q) (haa : ka.arg = true) (hba : kb.arg = true)
    (oa : ∀ (σ : L2.St) (H F : Hp) (fp : Nat → List Addr) (env : List C) (d : D) (Q : VK), Rel X.K G env σ H F fp → fa env = some d → (∀ v H' F', Ext H F H' F' → RepK X.K G ka H H' F' v d → Q v H') → ta σ H Q)
    (ob : ∀ (σ : L2.St) (H F : Hp) (fp : Nat → List Addr) (env : List C) (d : D) (Q : VK), Rel X.K G env σ H F fp → fb env = some d → (∀ v H' F', Ext H F H' F' → RepK X.K G kb H H' F' v d → Q v H') → tb σ H Q)
    {σ : L2.St} {H F : Hp} {fp : Nat → List Addr} {env : List C} {d : D} {Q : VK} (R : Rel X.K G env σ H F fp) (hf : e2 g fa fb env = some d) (q : ∀ v H' F', Ext H F H' F' → RepK X.K G kr H H' F' v d → Q v H') :
    tOp (fun x y H Q => LenOk X.K H → r x y H Q) ta tb σ H Q := by
  unfold e2 at hf
  cases h1 : fa env with
  | none => rw [h1] at hf; cases hf
  | some x =>
    cases h2 : fb env with
    | none => rw [h1, h2] at hf; cases hf
    | some y =>
      rw [h1, h2] at hf
      refine oa σ H F fp env x _ R h1 fun vx H1 F1 E1 r1 => ?_
      refine ob σ H1 F1 fp env y _ (R.ext E1) h2 fun vy H2 F2 E2 r2 => ?_
      intro hl
      have kp2 := ((R.ext E1).ext E2).kpSame
      exact o2 H2 F2 vx vy x y d Q E2.sub kp2 hl ((repK_A haa r1).ext E2 kp2) (repK_A hba r2) hf fun v H' F' E3 r3 => q v H' F' ((E1.trans E2).trans E3) (r3.back (E1.h.trans E2.h))
theorem d_bin (o : DOp X G (binaryOp op) ka kb kr g) (ha : DE X G k1 a fa) (hb : DE X G k2 b fb) (h1 : k1.le ka = true := by rfl) (h2 : k2.le kb = true := by rfl) (haa : ka.arg = true := by rfl) (hba : kb.arg = true := by rfl) :
    DE X G kr (.BinOp a op b pos) (e2 g fa fb) := by
  obtain ⟨r, or, o2⟩ := o.ex
  obtain ⟨ta, pa, oa⟩ := (ha.conv h1).ex
  obtain ⟨tb, pb, ob⟩ := (hb.conv h2).ex
  exact ⟨_, pe_op (opr_len or) pa pb, fun σ H F fp env d Q R hf q => two_ok o2 haa hba oa ob R hf q⟩
/-- a comparison as a value, as a test -/
theorem d_cmp {op : CmpOp} (o : DOp X G (compareOp op) ka kb kr g) (ha : DE X G k1 a fa) (hb : DE X G k2 b fb) (hm : behindInMarks op b = false) (h1 : k1.le ka = true := by rfl) (h2 : k2.le kb = true := by rfl) (haa : ka.arg = true := by rfl) (hba : kb.arg = true := by rfl) :
    DE X G kr (.Compare a [op] [b] pos) (e2 g fa fb) := by
  obtain ⟨r, or, o2⟩ := o.ex
  obtain ⟨ta, pa, oa⟩ := (ha.conv h1).ex
  obtain ⟨tb, pb, ob⟩ := (hb.conv h2).ex
  exact ⟨_, pe_cmpR (opr_len or) pa pb hm, fun σ H F fp env d Q R hf q => two_ok o2 haa hba oa ob R hf q⟩
def asB : Option D → Option Bool
  | some (.bool b) => some b
  | _ => none
def tB (f : List C → Option D) : List C → Option Bool := fun env => asB (f env)
theorem asB_some {o : Option D} {b : Bool} (h : asB o = some b) : o = some (.bool b) := by
  cases o with
  | none => cases h
  | some d => cases d <;> first | (cases h; rfl) | cases h
theorem repK_bl {K : PySem.W.Frag} {H H' F' : Hp} {v : V} {c : Bool} (ha : k.arg = true) (r : RepK K G k H H' F' v (.bool c)) : v = .bl c := by
  cases k with
  | ow => cases ha
  | vw => cases r; rfl
  | vl => exact vl_bl (G := G) (H := H') (F := F') r
  | sv => cases r; rfl
  | fz => cases r; rfl
theorem dt_cmp {op : CmpOp} (o : DOp X G (compareOp op) ka kb .fz g) (ha : DE X G k1 a fa) (hb : DE X G k2 b fb) (hm : behindInMarks op b = false) (h1 : k1.le ka = true := by rfl) (h2 : k2.le kb = true := by rfl) (haa : ka.arg = true := by rfl) (hba : kb.arg = true := by rfl) :
    DTs X G (.Compare a [op] [b] pos) (tB (e2 g fa fb)) := by
  obtain ⟨r, or, o2⟩ := o.ex
  obtain ⟨ta, pa, oa⟩ := (ha.conv h1).ex
  obtain ⟨tb, pb, ob⟩ := (hb.conv h2).ex
  refine ⟨_, pt_cmpR (opr_len or) pa pb hm, fun σ H F fp env d Q R hf q => ?_⟩
  exact two_ok (r := r) (Q := fun x H' => ∃ k, x = .bl k ∧ Q k H') o2 haa hba oa ob R (asB_some hf) fun v H' F' E r => ⟨d, repK_bl (k := .fz) (G := G) (H := H) rfl r, q H' F' E⟩
/-- an expression that gives True or False, as a test -/
theorem dt_val (h : DE X G k e f) (h1 : k.le .vw = true := by rfl) (he : ∀ whole, isTrue e X.env whole = (do let v ← whole; standAt e.pos; holding [v] (truthy v)) := by intro _; rfl) : DTs X G e (tB f) := by
  obtain ⟨t, pt, ok⟩ := (h.conv h1).ex
  refine ⟨_, pt_val pt he, fun σ H F fp env d Q R hf q => ?_⟩
  exact ok σ H F fp env _ _ R (asB_some hf) fun v H' F' E r => ⟨d, repK_bl (k := .vw) (G := G) (H := H) rfl r, q H' F' E⟩
def tNotF (f : List C → Option Bool) : List C → Option Bool := fun env => (f env).map (!·)
theorem dt_not {f : List C → Option Bool} (h : DTs X G a f) : DTs X G (.UnaryOp .Not a pos) (tNotF f) := by
  obtain ⟨t, pt, ok⟩ := h.ex
  refine ⟨_, pt_not pt, fun σ H F fp env d Q R hf q => ?_⟩
  unfold tNotF at hf
  cases z : f env with
  | none => rw [z] at hf; cases hf
  | some c =>
    rw [z] at hf; cases hf
    exact ok σ H F fp env c _ R z fun H' F' E => q H' F' E
/-- and, or in tests: a chain -/
structure DW (X : Cx) (G : GC) (e : Expr) (f : List C → Option Bool) : Prop where
  ex : ∃ t, PW X e t ∧ ∀ (σ : L2.St) (H F : Hp) (fp : Nat → List Addr) (env : List C) (b : Bool) (Q : Bool → Hp → Prop), Rel X.K G env σ H F fp → f env = some b →
    (∀ H' F', Ext H F H' F' → Q b H') → t σ H Q
theorem DW.t {f : List C → Option Bool} (h : DW X G e f) : DTs X G e f := let ⟨t, p, o⟩ := h.ex; ⟨t, p.pt, o⟩
def tAndF (f g : List C → Option Bool) : List C → Option Bool := fun env => (f env).bind fun c => if c = true then g env else some false
def tOrF (f g : List C → Option Bool) : List C → Option Bool := fun env => (f env).bind fun c => if c = true then some true else g env
variable {f1 f2 : List C → Option Bool} {rest : List Expr}
theorem dw_and1 (h : DTs X G a f1) : DW X G (.BoolOp .And [a] pos) f1 := let ⟨t, p, o⟩ := h.ex; ⟨t, pw_and1 p, o⟩
theorem dw_or1 (h : DTs X G a f1) : DW X G (.BoolOp .Or [a] pos) f1 := let ⟨t, p, o⟩ := h.ex; ⟨t, pw_or1 p, o⟩
theorem dw_and (h : DTs X G a f1) (h2 : DW X G (.BoolOp .And (b :: rest) pos) f2) : DW X G (.BoolOp .And (a :: b :: rest) pos) (tAndF f1 f2) := by
  obtain ⟨t, p, o⟩ := h.ex
  obtain ⟨t2, p2, o2⟩ := h2.ex
  refine ⟨_, pw_and p p2, fun σ H F fp env d Q R hf q => ?_⟩
  unfold tAndF at hf
  cases z : f1 env with
  | none => rw [z] at hf; cases hf
  | some c =>
    rw [z] at hf
    refine o σ H F fp env c _ R z fun H1 F1 E1 => ?_
    cases c with
    | true =>
      refine iteT ?_
      exact o2 σ H1 F1 fp env d _ (R.ext E1) hf fun H' F' E => q H' F' (E1.trans E)
    | false =>
      cases hf
      exact iteF (q H1 F1 E1)
theorem dw_or (h : DTs X G a f1) (h2 : DW X G (.BoolOp .Or (b :: rest) pos) f2) : DW X G (.BoolOp .Or (a :: b :: rest) pos) (tOrF f1 f2) := by
  obtain ⟨t, p, o⟩ := h.ex
  obtain ⟨t2, p2, o2⟩ := h2.ex
  refine ⟨_, pw_or p p2, fun σ H F fp env d Q R hf q => ?_⟩
  unfold tOrF at hf
  cases z : f1 env with
  | none => rw [z] at hf; cases hf
  | some c =>
    rw [z] at hf
    refine o σ H F fp env c _ R z fun H1 F1 E1 => ?_
    cases c with
    | true =>
      cases hf
      exact iteT (q H1 F1 E1)
    | false =>
      refine iteF ?_
      exact o2 σ H1 F1 fp env d _ (R.ext E1) hf fun H' F' E => q H' F' (E1.trans E)
/-- and, or, not as values (truths) -/
def eAnd (f g : List C → Option D) : List C → Option D := fun env => (asB (f env)).bind fun c => if c = true then g env else some (.bool false)
def eOr (f g : List C → Option D) : List C → Option D := fun env => (asB (f env)).bind fun c => if c = true then some (.bool true) else g env
def eNot (f : List C → Option D) : List C → Option D := fun env => (asB (f env)).map fun c => .bool (!c)
theorem d_one {op} (h : DE X G k a fa) : DE X G k (.BoolOp op [a] pos) fa := let ⟨t, p, o⟩ := h.ex; ⟨t, pe_one p, o⟩
theorem d_and (h : DE X G k1 a fa) (h2 : DE X G k2 (.BoolOp .And (b :: rest) pos) fb) (hk : k1.le .vw = true := by rfl) (hk2 : k2.le .fz = true := by rfl) : DE X G .fz (.BoolOp .And (a :: b :: rest) pos) (eAnd fa fb) := by
  obtain ⟨t, p, o⟩ := (h.conv hk).ex
  obtain ⟨t2, p2, o2⟩ := (h2.conv hk2).ex
  refine ⟨_, pe_and p p2, fun σ H F fp env d Q R hf q => ?_⟩
  unfold eAnd at hf
  cases z : asB (fa env) with
  | none => rw [z] at hf; cases hf
  | some c =>
    rw [z] at hf
    refine o σ H F fp env _ _ R (asB_some z) fun v H1 F1 E1 r => ⟨c, repK_bl (k := .vw) (G := G) (H := H) rfl r, ?_⟩
    cases c with
    | true =>
      refine iteT ?_
      exact o2 σ H1 F1 fp env d _ (R.ext E1) hf fun v H' F' E r => q v H' F' (E1.trans E) r
    | false =>
      cases hf
      exact iteF (q _ H1 F1 E1 (.bl false))
theorem d_or (h : DE X G k1 a fa) (h2 : DE X G k2 (.BoolOp .Or (b :: rest) pos) fb) (hk : k1.le .vw = true := by rfl) (hk2 : k2.le .fz = true := by rfl) : DE X G .fz (.BoolOp .Or (a :: b :: rest) pos) (eOr fa fb) := by
  obtain ⟨t, p, o⟩ := (h.conv hk).ex
  obtain ⟨t2, p2, o2⟩ := (h2.conv hk2).ex
  refine ⟨_, pe_or p p2, fun σ H F fp env d Q R hf q => ?_⟩
  unfold eOr at hf
  cases z : asB (fa env) with
  | none => rw [z] at hf; cases hf
  | some c =>
    rw [z] at hf
    refine o σ H F fp env _ _ R (asB_some z) fun v H1 F1 E1 r => ⟨c, repK_bl (k := .vw) (G := G) (H := H) rfl r, ?_⟩
    cases c with
    | true =>
      cases hf
      exact iteT (q _ H1 F1 E1 (.bl true))
    | false =>
      refine iteF ?_
      exact o2 σ H1 F1 fp env d _ (R.ext E1) hf fun v H' F' E r => q v H' F' (E1.trans E) r
theorem d_not (h : DE X G k1 a fa) (hk : k1.le .vw = true := by rfl) : DE X G .fz (.UnaryOp .Not a pos) (eNot fa) := by
  obtain ⟨t, p, o⟩ := (h.conv hk).ex
  refine ⟨_, pe_not p, fun σ H F fp env d Q R hf q => ?_⟩
  unfold eNot at hf
  cases z : asB (fa env) with
  | none => rw [z] at hf; cases hf
  | some c =>
    rw [z] at hf; cases hf
    exact o σ H F fp env _ _ R (asB_some z) fun v H1 F1 E1 r => ⟨c, repK_bl (k := .vw) (G := G) (H := H) rfl r, q _ H1 F1 E1 (.bl _)⟩
end
end DL
set_option Elab.async false
set_option linter.all false
set_option maxRecDepth 100000
set_option maxHeartbeats 4000000
namespace DL
open PySem PySem.Spec L2

section
variable {X : Cx} {G : GC}
/-! ### numbers -/
def gAddI : D → D → Option D | .int i, .int j => some (.int (i + j)) | _, _ => none
def gSub : D → D → Option D | .int i, .int j => some (.int (i - j)) | _, _ => none
def gMulI : D → D → Option D | .int i, .int j => if i.natAbs.log2 + j.natAbs.log2 < 1000000 then some (.int (i * j)) else none | _, _ => none
def gDiv : D → D → Option D | .int i, .int j => if 0 < j ∧ j.natAbs.log2 < 9000 then some (.int (i / j)) else none | _, _ => none
def gMod : D → D → Option D | .int i, .int j => if 0 < j then some (.int (i % j)) else none | _, _ => none
def gPow : D → D → Option D | .int i, .int j => if 0 ≤ j ∧ j ≤ 1000000 ∧ i.natAbs < 2 ^ 64 then some (.int (i ^ j.toNat)) else none | _, _ => none
def gLt : D → D → Option D | .int i, .int j => some (.bool (decide (i < j))) | _, _ => none
def gLe : D → D → Option D | .int i, .int j => some (.bool (decide (i ≤ j))) | _, _ => none
def gGt : D → D → Option D | .int i, .int j => some (.bool (decide (j < i))) | _, _ => none
def gGe : D → D → Option D | .int i, .int j => some (.bool (decide (j ≤ i))) | _, _ => none

theorem dop_int {f : Value → Value → Sem Value} {C : Int → Int → Prop} [∀ i j, Decidable (C i j)] {r : Int → Int → V} {r' : Int → Int → D} (h : OpR X f (rI C r)) {g : D → D → Option D}
    (hg : ∀ x y d, g x y = some d → ∃ i j, x = .int i ∧ y = .int j ∧ C i j ∧ d = r' i j) (hr : ∀ K F i j, DF K F (r i j) (r' i j)) : DOp X G f .vl .vl .fz g :=
  ⟨_, h, fun H F vx vy dx dy d Q sub kp hl rx ry hd q => by
    obtain ⟨i, j, rfl, rfl, hC, rfl⟩ := hg _ _ _ hd
    have e1 := vl_int rx
    have e2 := vl_int ry
    subst e1 e2
    exact ⟨i, j, rfl, rfl, hC, q _ H F (Ext.refl sub) (hr _ _ _ _)⟩⟩
theorem rI_of0 {f : Value → Value → Sem Value} {r : Int → Int → V} (h : OpR X f (rI0 r)) : OpR X f (rI (fun _ _ => True) r) := fun pins s σ H x y v u Q I rx ry q => h pins s σ H x y v u Q I rx ry (by
  obtain ⟨i, j, e1, e2, _, q⟩ := q
  exact ⟨i, j, e1, e2, q⟩)
theorem o_addI : DOp X G (binaryOp .Add) .vl .vl .fz gAddI := dop_int (r' := fun i j => .int (i + j)) (rI_of0 op_add) (fun x y d h => by
  unfold gAddI at h; split at h <;> cases h; exact ⟨_, _, rfl, rfl, True.intro, rfl⟩) fun _ _ _ _ => .int _
theorem o_sub : DOp X G (binaryOp .Sub) .vl .vl .fz gSub := dop_int (r' := fun i j => .int (i - j)) (rI_of0 op_sub) (fun x y d h => by
  unfold gSub at h; split at h <;> cases h; exact ⟨_, _, rfl, rfl, True.intro, rfl⟩) fun _ _ _ _ => .int _
theorem o_mulI : DOp X G (binaryOp .Mult) .vl .vl .fz gMulI := dop_int (C := fun i j => i.natAbs.log2 + j.natAbs.log2 < 1000000) (r' := fun i j => .int (i * j)) op_mulW (fun x y d h => by
  unfold gMulI at h
  split at h
  · split at h <;> cases h
    exact ⟨_, _, rfl, rfl, by assumption, rfl⟩
  · cases h) fun _ _ _ _ => .int _
theorem o_div : DOp X G (binaryOp .FloorDiv) .vl .vl .fz gDiv := dop_int (C := fun i j => 0 < j ∧ j.natAbs.log2 < 9000) (r' := fun i j => .int (i / j)) op_fdivW (fun x y d h => by
  unfold gDiv at h
  split at h
  · split at h <;> cases h
    exact ⟨_, _, rfl, rfl, by assumption, rfl⟩
  · cases h) fun _ _ _ _ => .int _
theorem o_mod : DOp X G (binaryOp .Mod) .vl .vl .fz gMod := dop_int (C := fun i j => 0 < j) (r' := fun i j => .int (i % j)) op_mod (fun x y d h => by
  unfold gMod at h
  split at h
  · split at h <;> cases h
    exact ⟨_, _, rfl, rfl, by assumption, rfl⟩
  · cases h) fun _ _ _ _ => .int _
theorem o_pow : DOp X G (binaryOp .Pow) .vl .vl .fz gPow := dop_int (C := fun i j => 0 ≤ j ∧ j ≤ 1000000 ∧ i.natAbs < 2 ^ 64) (r' := fun i j => .int (i ^ j.toNat)) op_pow (fun x y d h => by
  unfold gPow at h
  split at h
  · split at h <;> cases h
    exact ⟨_, _, rfl, rfl, by assumption, rfl⟩
  · cases h) fun _ _ _ _ => .int _
theorem o_lt : DOp X G (compareOp .Lt) .vl .vl .fz gLt := dop_int (r' := fun i j => .bool (decide (i < j))) (rI_of0 op_lt) (fun x y d h => by
  unfold gLt at h; split at h <;> cases h; exact ⟨_, _, rfl, rfl, True.intro, rfl⟩) fun _ _ _ _ => .bl _
theorem o_le : DOp X G (compareOp .LtE) .vl .vl .fz gLe := dop_int (r' := fun i j => .bool (decide (i ≤ j))) (rI_of0 op_le) (fun x y d h => by
  unfold gLe at h; split at h <;> cases h; exact ⟨_, _, rfl, rfl, True.intro, rfl⟩) fun _ _ _ _ => .bl _
theorem o_gt : DOp X G (compareOp .Gt) .vl .vl .fz gGt := dop_int (r' := fun i j => .bool (decide (j < i))) (rI_of0 op_gt) (fun x y d h => by
  unfold gGt at h; split at h <;> cases h; exact ⟨_, _, rfl, rfl, True.intro, rfl⟩) fun _ _ _ _ => .bl _
theorem o_ge : DOp X G (compareOp .GtE) .vl .vl .fz gGe := dop_int (r' := fun i j => .bool (decide (j ≤ i))) (rI_of0 op_ge) (fun x y d h => by
  unfold gGe at h; split at h <;> cases h; exact ⟨_, _, rfl, rfl, True.intro, rfl⟩) fun _ _ _ _ => .bl _
/-- minus -/
def eNeg (f : List C → Option D) : List C → Option D := fun env => match f env with | some (.int i) => some (.int (-i)) | _ => none
theorem d_neg {a : Expr} {k1 : RK} {fa : List C → Option D} {pos : Pos} (h : DE X G k1 a fa) (hk : k1.le .vl = true := by rfl) : DE X G .fz (.UnaryOp .USub a pos) (eNeg fa) := by
  obtain ⟨t, p, o⟩ := (h.conv hk).ex
  refine ⟨_, pe_un un_neg p, fun σ H F fp env d Q R hf q => ?_⟩
  unfold eNeg at hf
  cases z : fa env with
  | none => rw [z] at hf; cases hf
  | some c =>
    rw [z] at hf
    cases c <;> cases hf
    refine o σ H F fp env _ _ R z fun v H1 F1 E1 r => ?_
    have e := vl_int (G := G) (H := H1) (F := F1) r
    subst e
    exact ⟨_, rfl, q _ H1 F1 E1 (.int _)⟩

/-! ### texts, lists, tuples: + and * -/
def gAddS : D → D → Option D | .str x, .str y => if x.length + y.length ≤ sizeLine then some (.str (x ++ y)) else none | _, _ => none
theorem o_addS : DOp X G (binaryOp .Add) .vl .vl .fz gAddS := ⟨_, op_add_str, fun H F vx vy dx dy d Q sub kp hl rx ry hd q => by
  unfold gAddS at hd
  split at hd
  · split at hd <;> cases hd
    have e1 := vl_str rx
    have e2 := vl_str ry
    subst e1 e2
    exact ⟨_, _, rfl, rfl, by assumption, q _ H F (Ext.refl sub) (.str _)⟩
  · cases hd⟩
def gAddL : D → D → Option D | .list xs, .list ys => if xs.length + ys.length ≤ sizeLine then some (.list (xs ++ ys)) else none | _, _ => none
theorem new_ow {H F : Hp} {p : Addr} {vs : List V} {ds : List D} (sub : Same F H) (np : H p = none) (r : DFAll X.K F vs ds) : Ext H F (upd H p (.lst vs)) F ∧ RepK X.K G .ow H (upd H p (.lst vs)) F (.ref p) (.list ds) :=
  ⟨Ext.laid sub np, p, vs, ds, rfl, rfl, np, upd_same, sub.free np, r⟩
theorem new_tup {H F : Hp} {p : Addr} {vs : List V} {ds : List D} (sub : Same F H) (np : H p = none) (r : DFAll X.K F vs ds) : Ext H F (upd H p (.tup vs)) (upd F p (.tup vs)) ∧ DF X.K (upd F p (.tup vs)) (.ref p) (.tuple ds) :=
  ⟨Ext.frozen sub np, .tup (.inl (.inl upd_same)) (DFAll_mono (fun b x e => by rw [upd_ne (ne_of_none e (sub.free np))]; exact e) _ _ r)⟩
theorem o_addL : DOp X G (binaryOp .Add) .vl .vl .ow gAddL := ⟨_, op_cat, fun H F vx vy dx dy d Q sub kp hl rx ry hd q => by
  unfold gAddL at hd
  split at hd
  · split at hd <;> cases hd
    obtain ⟨a, vs, rfl, h1, h2⟩ := vl_list sub rx
    obtain ⟨b, ws, rfl, h3, h4⟩ := vl_list sub ry
    refine ⟨a, b, vs, ws, rfl, rfl, h1, h3, by rw [DFAll_len h2, DFAll_len h4]; assumption, fun p np => ?_⟩
    obtain ⟨E, r⟩ := new_ow (G := G) sub np (DFAll_app h2 h4)
    exact q _ _ _ E r
  · cases hd⟩
def gAddT : D → D → Option D | .tuple xs, .tuple ys => if xs.length + ys.length ≤ sizeLine then some (.tuple (xs ++ ys)) else none | _, _ => none
theorem o_addT : DOp X G (binaryOp .Add) .vl .vl .fz gAddT := ⟨_, op_catA, fun H F vx vy dx dy d Q sub kp hl rx ry hd q => by
  unfold gAddT at hd
  split at hd
  · split at hd <;> cases hd
    rename_i xs ys _
    have fx : ∃ a vs, vx = .ref a ∧ SqT X.K F a vs ∧ DFAll X.K F vs xs := by
      rcases rx with rx | ⟨_, _, _, _, z, _⟩
      · cases rx with | tup h1 h2 => exact ⟨_, _, rfl, h1, h2⟩
      · cases z
    have fy : ∃ a vs, vy = .ref a ∧ SqT X.K F a vs ∧ DFAll X.K F vs ys := by
      rcases ry with rx | ⟨_, _, _, _, z, _⟩
      · cases rx with | tup h1 h2 => exact ⟨_, _, rfl, h1, h2⟩
      · cases z
    obtain ⟨a, vs, rfl, h1, h2⟩ := fx
    obtain ⟨b, ws, rfl, h3, h4⟩ := fy
    refine ⟨a, b, vs, ws, rfl, rfl, Same.seqT sub h1, Same.seqT sub h3, by rw [DFAll_len h2, DFAll_len h4]; assumption, fun e => ?_, fun e0 e => ?_, fun e0 e1 p np => ?_⟩
    · subst e; cases h2; exact q _ H F (Ext.refl sub) (.tup h3 h4)
    · subst e; cases h4; rw [List.append_nil] at q; exact q _ H F (Ext.refl sub) (.tup h1 h2)
    · obtain ⟨E, r⟩ := new_tup sub np (DFAll_app h2 h4)
      exact q _ _ _ E r
  · cases hd⟩
def gMulL : D → D → Option D | .list xs, .int k => if k < 2 ^ 63 ∧ -(2 ^ 63) ≤ k ∧ xs.length * k.toNat ≤ sizeLine then some (.list (List.replicate k.toNat xs).flatten) else none | _, _ => none
theorem o_mulL : DOp X G (binaryOp .Mult) .vl .vl .ow gMulL := ⟨_, op_rep, fun H F vx vy dx dy d Q sub kp hl rx ry hd q => by
  unfold gMulL at hd
  split at hd
  · split at hd <;> cases hd
    rename_i hc
    obtain ⟨a, vs, rfl, h1, h2⟩ := vl_list sub rx
    have e2 := vl_int ry
    subst e2
    refine ⟨a, _, vs, rfl, rfl, h1, hc.2.1, hc.1, by rw [DFAll_len h2]; exact hc.2.2, fun p np => ?_⟩
    obtain ⟨E, r⟩ := new_ow (G := G) sub np (DFAll_rep h2 _)
    exact q _ _ _ E r
  · cases hd⟩
def gMulT : D → D → Option D | .tuple xs, .int k => if xs ≠ [] ∧ 2 ≤ k ∧ k ≤ 1000 ∧ xs.length ≤ 1000 then some (.tuple (List.replicate k.toNat xs).flatten) else none | _, _ => none
theorem o_mulT : DOp X G (binaryOp .Mult) .vl .vl .fz gMulT := ⟨_, op_repT, fun H F vx vy dx dy d Q sub kp hl rx ry hd q => by
  unfold gMulT at hd
  split at hd
  · split at hd <;> cases hd
    rename_i hc
    obtain ⟨a, vs, rfl, h1, h2⟩ := vl_tup sub rx
    have e2 := vl_int ry
    subst e2
    refine ⟨a, _, vs, rfl, rfl, h1, fun e => ?_, hc.2.1, hc.2.2.1, by rw [DFAll_len h2]; exact hc.2.2.2, fun p np => ?_⟩
    · subst e; cases h2; exact hc.1 rfl
    obtain ⟨E, r⟩ := new_tup sub np (DFAll_rep h2 _)
    exact q _ _ _ E r
  · cases hd⟩

/-! ### == and != of scalars (S) and of data (D) -/
def gEqS : D → D → Option D
  | .int i, .int j => some (.bool (decide (i = j)))
  | .str i, .str j => some (.bool (decide (i = j)))
  | .bool i, .bool j => some (.bool (decide (i = j)))
  | _, _ => none
def gNeS : D → D → Option D
  | .int i, .int j => some (.bool (!decide (i = j)))
  | .str i, .str j => some (.bool (!decide (i = j)))
  | .bool i, .bool j => some (.bool (!decide (i = j)))
  | _, _ => none
theorem o_eqS : DOp X G (compareOp .Eq) .vl .vl .fz gEqS := ⟨_, op_eq, fun H F vx vy dx dy d Q sub kp hl rx ry hd q => by
  unfold gEqS at hd
  split at hd <;> cases hd
  · have e1 := vl_int rx; have e2 := vl_int ry; subst e1 e2
    refine ⟨rfl, ?_⟩
    rw [dec_int, Bool.beq_eq_decide_eq]
    exact q _ H F (Ext.refl sub) (.bl _)
  · have e1 := vl_str rx; have e2 := vl_str ry; subst e1 e2
    refine ⟨rfl, ?_⟩
    rw [dec_str, Bool.beq_eq_decide_eq]
    exact q _ H F (Ext.refl sub) (.bl _)
  · have e1 := vl_bl rx; have e2 := vl_bl ry; subst e1 e2
    refine ⟨rfl, ?_⟩
    rw [dec_bl, Bool.beq_eq_decide_eq]
    exact q _ H F (Ext.refl sub) (.bl _)⟩
theorem o_neS : DOp X G (compareOp .NotEq) .vl .vl .fz gNeS := ⟨_, op_ne, fun H F vx vy dx dy d Q sub kp hl rx ry hd q => by
  unfold gNeS at hd
  split at hd <;> cases hd
  · have e1 := vl_int rx; have e2 := vl_int ry; subst e1 e2
    refine ⟨rfl, ?_⟩
    rw [dec_int, Bool.beq_eq_decide_eq]
    exact q _ H F (Ext.refl sub) (.bl _)
  · have e1 := vl_str rx; have e2 := vl_str ry; subst e1 e2
    refine ⟨rfl, ?_⟩
    rw [dec_str, Bool.beq_eq_decide_eq]
    exact q _ H F (Ext.refl sub) (.bl _)
  · have e1 := vl_bl rx; have e2 := vl_bl ry; subst e1 e2
    refine ⟨rfl, ?_⟩
    rw [dec_bl, Bool.beq_eq_decide_eq]
    exact q _ H F (Ext.refl sub) (.bl _)⟩
def gEqD : D → D → Option D := fun x y => if SeqAt.shaped x = true ∧ SeqAt.shaped y = true then some (.bool (PyData.eqv x y)) else none
def gNeD : D → D → Option D := fun x y => if SeqAt.shaped x = true ∧ SeqAt.shaped y = true then some (.bool (!PyData.eqv x y)) else none
theorem o_eqD (hu : X.A.units + 64 < cLine) : DOp X G (compareOp .Eq) .vw .vw .fz gEqD := ⟨_, op_eqD hu, fun H F vx vy dx dy d Q sub kp hl rx ry hd q => by
  unfold gEqD at hd
  split at hd <;> cases hd
  rename_i hc
  exact ⟨_, _, rx, ry, hc.1, hc.2, q _ H F (Ext.refl sub) (.bl _)⟩⟩
theorem o_neD (hu : X.A.units + 64 < cLine) : DOp X G (compareOp .NotEq) .vw .vw .fz gNeD := ⟨_, op_neD hu, fun H F vx vy dx dy d Q sub kp hl rx ry hd q => by
  unfold gNeD at hd
  split at hd <;> cases hd
  rename_i hc
  exact ⟨_, _, rx, ry, hc.1, hc.2, q _ H F (Ext.refl sub) (.bl _)⟩⟩
/-! ### in, not in: a list's items of any depth; a sign in a text -/
def gInL : D → D → Option D | x, .list ys => if SeqAt.shaped x = true ∧ SeqAt.shaped (.list ys) = true then some (.bool (ys.any fun z => PyData.eqv z x)) else none | _, _ => none
def gNotInL : D → D → Option D | x, .list ys => if SeqAt.shaped x = true ∧ SeqAt.shaped (.list ys) = true then some (.bool (!ys.any fun z => PyData.eqv z x)) else none | _, _ => none
theorem o_inL (hu : X.A.units + 65 < cLine) : DOp X G (compareOp .In) .vw .vw .fz gInL := ⟨_, op_inD hu, fun H F vx vy dx dy d Q sub kp hl rx ry hd q => by
  unfold gInL at hd
  split at hd
  · split at hd <;> cases hd
    rename_i hc
    exact ⟨_, _, rx, ry, hc.1, hc.2, q _ H F (Ext.refl sub) (.bl _)⟩
  · cases hd⟩
theorem o_notInL (hu : X.A.units + 65 < cLine) : DOp X G (compareOp .NotIn) .vw .vw .fz gNotInL := ⟨_, op_notInD hu, fun H F vx vy dx dy d Q sub kp hl rx ry hd q => by
  unfold gNotInL at hd
  split at hd
  · split at hd <;> cases hd
    rename_i hc
    exact ⟨_, _, rx, ry, hc.1, hc.2, q _ H F (Ext.refl sub) (.bl _)⟩
  · cases hd⟩

/-! ### a[i] -/
def gIx : D → D → Option D
  | .list xs, .int i => atI xs i
  | .tuple xs, .int i => atI xs i
  | .str z, .int i => (atI z.cps.toList i).map fun c => .str ⟨#[c]⟩
  | _, _ => none
theorem atI_rep {K : PySem.W.Frag} {F : Hp} {vs : List V} {ds : List D} {i : Int} {d : D} (h : DFAll K F vs ds) (e : atI ds i = some d) : ∃ v, atI vs i = some v ∧ DF K F v d := by
  unfold atI at e ⊢
  rw [DFAll_len h]
  cases z : ixN ds.length i with
  | none => rw [z] at e; cases e
  | some j =>
    rw [z] at e
    exact DFAll_get h e
theorem atI_repD {K : PySem.W.Frag} {F : Hp} {vs : List V} {ds : List D} {i : Int} {d : D} (h : DpAll K F vs ds) (e : atI ds i = some d) : ∃ v, atI vs i = some v ∧ Dp K F v d := by
  unfold atI at e ⊢
  rw [DpAll_len h]
  cases z : ixN ds.length i with
  | none => rw [z] at e; cases e
  | some j =>
    rw [z] at e
    exact DpAll_get h e
theorem ixr_len {r : R2} (h : IxR X r) : IxR X (fun x y H Q => LenOk X.K H → r x y H Q) := fun a b pins s σ H x y v u Q I rx ry q hs => h a b pins s σ H x y v u Q I rx ry (q fun a xs hx => by
  rcases hx with hx | hx
  · obtain ⟨_, _, _, z⟩ := I.list hx
    exact z
  · obtain ⟨_, _, _, z⟩ := I.tuple hx
    exact z) hs
/-- a text's length is within the line where it is read: asked -/
def gIxS : D → D → Option D
  | .str z, .int i => if z.length ≤ sizeLine then (atI z.cps.toList i).map fun c => .str ⟨#[c]⟩ else none
  | x, y => gIx x y
theorem ix_ok {H F : Hp} {vx vy : V} {dx dy d : D} {Q : VK} (sub : Same F H) (rx : RepA X.K G .vl H F vx dx) (ry : RepA X.K G .vl H F vy dy) (hd : gIxS dx dy = some d)
    (q : ∀ v H' F', Ext H F H' F' → RepK X.K G .fz H H' F' v d → Q v H') : rIx X.K vx vy H Q := by
  unfold gIxS at hd
  split at hd
  · split at hd
    · rename_i z i hz
      have e1 := vl_str rx; have e2 := vl_int ry; subst e1 e2
      cases e : atI z.cps.toList i with
      | none => rw [e] at hd; cases hd
      | some c =>
        rw [e] at hd; cases hd
        exact .inr (.inr ⟨z, i, c, rfl, rfl, hz, e, q _ H F (Ext.refl sub) (.str _)⟩)
    · cases hd
  · rename_i hne
    unfold gIx at hd
    split at hd
    · obtain ⟨a, vs, rfl, h1, h2⟩ := vl_list sub rx
      have e2 := vl_int ry; subst e2
      obtain ⟨v, e, r⟩ := atI_rep h2 hd
      exact .inl ⟨a, vs, _, v, rfl, rfl, .inl (.inl h1), e, q _ H F (Ext.refl sub) r⟩
    · obtain ⟨a, vs, rfl, h1, h2⟩ := vl_tup sub rx
      have e2 := vl_int ry; subst e2
      obtain ⟨v, e, r⟩ := atI_rep h2 hd
      exact .inr (.inl ⟨a, vs, _, v, rfl, rfl, h1, e, q _ H F (Ext.refl sub) r⟩)
    · exact (hne _ _ rfl rfl).elim
    · cases hd
theorem ixB_ok {H F : Hp} {vx vy : V} {dx dy d : D} {Q : VK} (sub : Same F H) (kp : Same G.kp H) (rx : Dp X.K (stb G F) vx dx) (ry : RepA X.K G .vl H F vy dy) (hd : gIx dx dy = some d) (hz : ∀ z, dx ≠ .str z)
    (q : ∀ v H' F', Ext H F H' F' → RepK X.K G .sv H H' F' v d → Q v H') : rIx X.K vx vy H Q := by
  unfold gIx at hd
  split at hd
  · cases rx with
    | lst h1 h2 =>
      have e2 := vl_int ry; subst e2
      obtain ⟨v, e, r⟩ := atI_repD h2 hd
      exact .inl ⟨_, _, _, v, rfl, rfl, (stb_sub sub kp).seq h1, e, q _ H F (Ext.refl sub) r⟩
  · cases rx with
    | tup h1 h2 =>
      have e2 := vl_int ry; subst e2
      obtain ⟨v, e, r⟩ := atI_repD h2 hd
      exact .inr (.inl ⟨_, _, _, v, rfl, rfl, Same.seqT (stb_sub sub kp) h1, e, q _ H F (Ext.refl sub) r⟩)
  · exact absurd rfl (hz _)
  · cases hd
variable {a b : Expr} {fa fb : List C → Option D} {pos : Pos} {k1 k2 : RK}
theorem d_ix (ha : DE X G k1 a fa) (hb : DE X G k2 b fb) (hs : PlainIx b) (h1 : k1.le .vl = true := by rfl) (h2 : k2.le .vl = true := by rfl) : DE X G .fz (.Subscript a b pos) (e2 gIxS fa fb) := by
  obtain ⟨ta, pa, oa⟩ := (ha.conv h1).ex
  obtain ⟨tb, pb, ob⟩ := (hb.conv h2).ex
  exact ⟨_, pe_ix (ixr_len ix_seq) pa pb hs, fun σ H F fp env d Q R hf q => two_ok (kr := .fz) (fun H F vx vy dx dy d Q sub kp hl rx ry hd q => ix_ok sub rx ry hd q) rfl rfl oa ob R hf q⟩
def gIxB : D → D → Option D | .str _, _ => none | x, y => gIx x y
theorem d_ixB (ha : DE X G k1 a fa) (hb : DE X G k2 b fb) (hs : PlainIx b) (h1 : k1.le .sv = true := by rfl) (h2 : k2.le .vl = true := by rfl) : DE X G .sv (.Subscript a b pos) (e2 gIxB fa fb) := by
  obtain ⟨ta, pa, oa⟩ := (ha.conv h1).ex
  obtain ⟨tb, pb, ob⟩ := (hb.conv h2).ex
  refine ⟨_, pe_ix (ixr_len ix_seq) pa pb hs, fun σ H F fp env d Q R hf q => two_ok (kr := .sv) (fun H F vx vy dx dy d Q sub kp hl rx ry hd q => ?_) rfl rfl oa ob R hf q⟩
  unfold gIxB at hd
  split at hd
  · cases hd
  · rename_i hn
    exact ixB_ok sub kp rx ry hd (fun z e => hn z e) q
/-- what is a number, text, truth or None stands anywhere -/
def scalD : D → Bool | .int _ => true | .str _ => true | .bool _ => true | .none => true | _ => false
def eScal (f : List C → Option D) : List C → Option D := fun env => match f env with | some d => if scalD d then some d else none | none => none
theorem d_scal {e : Expr} {f : List C → Option D} (h : DE X G k1 e f) (h1 : k1.le .vw = true := by rfl) : DE X G .fz e (eScal f) := by
  obtain ⟨t, p, o⟩ := (h.conv h1).ex
  refine ⟨t, p, fun σ H F fp env d Q R hf q => ?_⟩
  unfold eScal at hf
  split at hf
  · rename_i d' e
    split at hf
    · cases hf
      rename_i hs
      refine o σ H F fp env _ _ R e fun v H' F' E r => q v H' F' E ?_
      have r' : Dp X.K H' v d := r
      cases r' with
      | non => exact .non
      | bl b => exact .bl b
      | int i => exact .int i
      | str x => exact .str x
      | lst _ _ => cases hs
      | tup _ _ => cases hs
    · cases hf
  · cases hf

/-! ### slices -/
structure DP (X : Cx) (G : GC) (e : Option Expr) (f : List C → Option (Option Int)) : Prop where
  ex : ∃ t, PO X e t ∧ ∀ (σ : L2.St) (H F : Hp) (fp : Nat → List Addr) (env : List C) (o : Option Int) (Q : Option Int → Hp → Prop), Rel X.K G env σ H F fp → f env = some o →
    (∀ H' F', Ext H F H' F' → Q o H') → t σ H Q
def pN : List C → Option (Option Int) := fun _ => some none
def pS (f : List C → Option D) : List C → Option (Option Int) := fun env => match f env with | some (.int i) => some (some i) | _ => none
theorem dp_none : DP X G none pN := ⟨_, po_none, fun σ H F fp env d Q R hf q => by cases hf; exact q H F (Ext.refl R.sub)⟩
theorem dp_some {e : Expr} {f : List C → Option D} (h : DE X G k1 e f) (h1 : k1.le .vl = true := by rfl) : DP X G (some e) (pS f) := by
  obtain ⟨t, p, o⟩ := (h.conv h1).ex
  refine ⟨_, po_some p, fun σ H F fp env d Q R hf q => ?_⟩
  unfold pS at hf
  split at hf
  · rename_i i e
    cases hf
    refine o σ H F fp env _ _ R e fun v H' F' E r => ?_
    have e1 := vl_int (G := G) (H := H') (F := F') r
    exact ⟨i, e1, q H' F' E⟩
  · cases hf
def cutD {α : Type} (xs : List α) (lo hi : Option Int) : List α := (xs.drop (HT.sIx xs.length 0 lo)).take (HT.sIx xs.length xs.length hi - HT.sIx xs.length 0 lo)
theorem cut_rep {K : PySem.W.Frag} {F : Hp} {vs : List V} {ds : List D} (h : DFAll K F vs ds) (lo hi : Option Int) : DFAll K F (cutV vs lo hi) (cutD ds lo hi) := by
  unfold cutV cutD
  rw [DFAll_len h]
  exact DFAll_take _ (DFAll_drop _ h)
theorem slr_len {r : V → Option Int → Option Int → Hp → VK → Prop} (h : SlR X r) : SlR X (fun x l u H Q => LenOk X.K H → r x l u H Q) := fun pins s σ H x v vl vu lo hi sl Q I rx hs pl pu q => h pins s σ H x v vl vu lo hi sl Q I rx hs pl pu (q fun a xs hx => by
  rcases hx with hx | hx
  · obtain ⟨_, _, _, z⟩ := I.list hx
    exact z
  · obtain ⟨_, _, _, z⟩ := I.tuple hx
    exact z)
def e3 (g : D → Option Int → Option Int → Option D) (fa : List C → Option D) (fl fu : List C → Option (Option Int)) : List C → Option D := fun env => (fa env).bind fun x => (fl env).bind fun l => (fu env).bind fun u => g x l u
theorem d_slice {r : V → Option Int → Option Int → Hp → VK → Prop} {ka kr : RK} {g : D → Option Int → Option Int → Option D} {lo hi : Option Expr} {fl fu : List C → Option (Option Int)} {p2 : Pos} (hr : SlR X r)
    (hg : ∀ (H F : Hp) (vx : V) (dx d : D) (l u : Option Int) (Q : VK), Same F H → Same G.kp H → LenOk X.K H → RepA X.K G ka H F vx dx → g dx l u = some d → (∀ v H' F', Ext H F H' F' → RepK X.K G kr H H' F' v d → Q v H') → r vx l u H Q)
    (ha : DE X G k1 a fa) (hl : DP X G lo fl) (hu : DP X G hi fu) (h1 : k1.le ka = true := by rfl) (haa : ka.arg = true := by rfl) : DE X G kr (.Subscript a (.Slice lo hi none p2) pos) (e3 g fa fl fu) := by
  obtain ⟨ta, pa, oa⟩ := (ha.conv h1).ex
  obtain ⟨tl, pl, ol⟩ := hl.ex
  obtain ⟨tu, pu, ou⟩ := hu.ex
  refine ⟨_, pe_slice (slr_len hr) pa pl pu, fun σ H F fp env d Q R hf q => ?_⟩
  unfold e3 at hf
  cases z1 : fa env with
  | none => rw [z1] at hf; cases hf
  | some x =>
    cases z2 : fl env with
    | none => rw [z1, z2] at hf; cases hf
    | some l =>
      cases z3 : fu env with
      | none => rw [z1, z2, z3] at hf; cases hf
      | some u =>
        rw [z1, z2, z3] at hf
        refine oa σ H F fp env x _ R z1 fun vx H1 F1 E1 r1 => ?_
        refine ol σ H1 F1 fp env l _ (R.ext E1) z2 fun H2 F2 E2 => ?_
        have R2 := (R.ext E1).ext E2
        refine ou σ H2 F2 fp env u _ R2 z3 fun H3 F3 E3 hlen => ?_
        have R3 := R2.ext E3
        have kp3 := R3.kpSame
        have kp2 := R2.kpSame
        exact hg H3 F3 vx x d l u Q E3.sub kp3 hlen (((repK_A haa r1).ext E2 kp2).ext E3 kp3) hf fun v H' F' E r => q v H' F' (((E1.trans E2).trans E3).trans E) (r.back ((E1.h.trans E2.h).trans E3.h))
def gSlL : D → Option Int → Option Int → Option D | .list xs, l, u => some (.list (cutD xs l u)) | _, _, _ => none
theorem d_slL {lo hi : Option Expr} {fl fu : List C → Option (Option Int)} {p2 : Pos} (ha : DE X G k1 a fa) (hl : DP X G lo fl) (hu : DP X G hi fu) (h1 : k1.le .vl = true := by rfl) : DE X G .ow (.Subscript a (.Slice lo hi none p2) pos) (e3 gSlL fa fl fu) :=
  d_slice (ka := .vl) sl_list (fun H F vx dx d l u Q sub kp hlen rx hd q => by
    unfold gSlL at hd
    split at hd <;> cases hd
    obtain ⟨p, vs, rfl, h1, h2⟩ := vl_list sub rx
    refine ⟨p, vs, rfl, .inl (.inl h1), fun n nn => ?_⟩
    obtain ⟨E, r⟩ := new_ow (G := G) sub nn (cut_rep h2 l u)
    exact q _ _ _ E r) ha hl hu h1
/-- a slice of a borrowed list of numbers -/
def allInt : List D → Option (List Int)
  | [] => some []
  | .int i :: r => (allInt r).map (i :: ·)
  | _ => none
theorem allInt_eq : ∀ {ds : List D} {ns : List Int}, allInt ds = some ns → ds = ns.map PyData.int
  | [], ns, h => by cases h; rfl
  | d :: ds, ns, h => by
    cases d <;> simp only [allInt] at h <;> try cases h
    rename_i i
    cases z : allInt ds with
    | none => rw [z] at h; cases h
    | some ms => rw [z] at h; cases h; rw [allInt_eq z]; rfl
theorem allInt_map : ∀ ns : List Int, allInt (ns.map PyData.int) = some ns
  | [] => rfl
  | n :: ns => by rw [List.map_cons, allInt, allInt_map ns]; rfl
def gSlB : D → Option Int → Option Int → Option D | .list xs, l, u => (allInt xs).map fun ns => .list ((cutD ns l u).map .int) | _, _, _ => none
theorem d_slB {lo hi : Option Expr} {fl fu : List C → Option (Option Int)} {p2 : Pos} (ha : DE X G k1 a fa) (hl : DP X G lo fl) (hu : DP X G hi fu) (h1 : k1.le .sv = true := by rfl) : DE X G .ow (.Subscript a (.Slice lo hi none p2) pos) (e3 gSlB fa fl fu) :=
  d_slice (ka := .sv) sl_list (fun H F vx dx d l u Q sub kp hlen rx hd q => by
    unfold gSlB at hd
    split at hd
    · rename_i xs
      cases z : allInt xs with
      | none => rw [z] at hd; cases hd
      | some ns =>
        rw [z] at hd; cases hd
        have e := allInt_eq z
        subst e
        have rx' : Dp X.K (stb G F) vx (.list (ns.map .int)) := rx
        cases rx' with
        | lst h1 h2 =>
          have e2 := DpAll_ints_of h2
          subst e2
          refine ⟨_, _, rfl, (stb_sub sub kp).seq h1, fun n nn => ?_⟩
          have e3 : cutV (ns.map V.int) l u = (cutD ns l u).map V.int := by
            unfold cutV cutD
            rw [List.length_map, List.map_take, List.map_drop]
          rw [e3]
          obtain ⟨E, r⟩ := new_ow (X := X) (G := G) sub nn (DFAll_ints (K := X.K) (H := F) (cutD ns l u))
          exact q _ _ _ E r
    · cases hd) ha hl hu h1
def gSlT : D → Option Int → Option Int → Option D | .tuple xs, l, u => some (.tuple (cutD xs l u)) | _, _, _ => none
theorem d_slT {lo hi : Option Expr} {fl fu : List C → Option (Option Int)} {p2 : Pos} (ha : DE X G k1 a fa) (hl : DP X G lo fl) (hu : DP X G hi fu) (h1 : k1.le .vl = true := by rfl) : DE X G .fz (.Subscript a (.Slice lo hi none p2) pos) (e3 gSlT fa fl fu) :=
  d_slice (ka := .vl) sl_tupA (fun H F vx dx d l u Q sub kp hlen rx hd q => by
    unfold gSlT at hd
    split at hd <;> cases hd
    rename_i xs
    have fx : ∃ a vs, vx = .ref a ∧ SqT X.K F a vs ∧ DFAll X.K F vs xs := by
      rcases rx with rx | ⟨_, _, _, _, z, _⟩
      · cases rx with | tup h1 h2 => exact ⟨_, _, rfl, h1, h2⟩
      · cases z
    obtain ⟨p, vs, rfl, h1, h2⟩ := fx
    refine ⟨p, vs, rfl, Same.seqT sub h1, fun hw => ?_, fun hw n nn => ?_⟩
    · have e : cutV vs l u = vs := by
        unfold cutV
        rw [hw.1, hw.2]
        exact List.take_length
      have r := cut_rep h2 l u
      rw [e] at r
      exact q _ H F (Ext.refl sub) (.tup h1 r)
    · obtain ⟨E, r⟩ := new_tup sub nn (cut_rep h2 l u)
      exact q _ _ _ E r) ha hl hu h1
end
end DL
set_option Elab.async false
set_option linter.all false
set_option maxRecDepth 100000
set_option maxHeartbeats 4000000
namespace DL
open PySem PySem.Spec L2

section
variable {X : Cx} {G : GC} {e : Expr} {es : List Expr} {k k' kr : RK} {ks : List RK} {f : List C → Option D} {fs : List C → Option (List D)} {pos p : Pos}
/-! ### argument lists, displays -/
theorem RepKs_len {K : PySem.W.Frag} {H F : Hp} : ∀ {ks : List RK} {vs : List V} {ds : List D}, RepKs K G H F ks vs ds → vs.length = ds.length ∧ ks.length = ds.length
  | [], [], [], _ => ⟨rfl, rfl⟩
  | k :: ks, v :: vs, d :: ds, h => by
    obtain ⟨h1, h2⟩ := RepKs_len h.2
    exact ⟨by rw [List.length_cons, List.length_cons, h1], by rw [List.length_cons, List.length_cons, h2]⟩
  | [], _ :: _, _, h => by cases h
  | [], [], _ :: _, h => by cases h
  | _ :: _, [], _, h => by cases h
  | _ :: _, _ :: _, [], h => by cases h
theorem RepKs_ext {K : PySem.W.Frag} {H F H' F' : Hp} (E : Ext H F H' F') (kp : Same G.kp H') : ∀ {ks : List RK} {vs : List V} {ds : List D}, RepKs K G H F ks vs ds → RepKs K G H' F' ks vs ds
  | [], [], [], _ => trivial
  | k :: ks, v :: vs, d :: ds, h => ⟨h.1.ext E kp, RepKs_ext E kp h.2⟩
  | [], _ :: _, _, h => by cases h
  | [], [], _ :: _, h => by cases h
  | _ :: _, [], _, h => by cases h
  | _ :: _, _ :: _, [], h => by cases h
def aNil : List C → Option (List D) := fun _ => some []
def aCons (f : List C → Option D) (g : List C → Option (List D)) : List C → Option (List D) := fun env => (f env).bind fun d => (g env).bind fun ds => some (d :: ds)
theorem da_nil : DA X G [] [] aNil := ⟨_, pa_nil, fun σ H F fp env ds Q R hf q => by cases hf; exact q [] H F (Ext.refl R.sub) trivial⟩
theorem da_cons (h : DE X G k e f) (k' : RK) (ht : DA X G ks es fs) (hk : k.le k' = true := by rfl) (ha : k'.arg = true := by rfl) (hs : starEach (e :: es) X.env = (false, eval e X.env) :: starEach es X.env := by rfl) : DA X G (k' :: ks) (e :: es) (aCons f fs) := by
  obtain ⟨t, pt, o⟩ := (h.conv hk).ex
  obtain ⟨t2, pt2, o2⟩ := ht.ex
  refine ⟨_, pa_cons pt pt2 hs, fun σ H F fp env ds Q R hf q => ?_⟩
  unfold aCons at hf
  cases z : f env with
  | none => rw [z] at hf; cases hf
  | some d =>
    cases z2 : fs env with
    | none => rw [z, z2] at hf; cases hf
    | some es =>
      rw [z, z2] at hf; cases hf
      refine o σ H F fp env d _ R z fun v H1 F1 E1 r1 => ?_
      refine o2 σ H1 F1 fp env es _ (R.ext E1) z2 fun vs H2 F2 E2 r2 => ?_
      exact q (v :: vs) H2 F2 (E1.trans E2) ⟨(repK_A ha r1).ext E2 ((R.ext E1).ext E2).kpSame, r2⟩
def allFz : List RK → Bool
  | [] => true
  | .fz :: r => allFz r
  | _ => false
theorem RepKs_fz {K : PySem.W.Frag} {H F : Hp} : ∀ {ks : List RK} {vs : List V} {ds : List D}, allFz ks = true → RepKs K G H F ks vs ds → DFAll K F vs ds
  | [], [], [], _, _ => .nil
  | k :: ks, v :: vs, d :: ds, hk, h => by
    cases k with
    | fz => exact .cons h.1 (RepKs_fz (show allFz ks = true from hk) h.2)
    | _ => cases hk
  | [], _ :: _, _, _, h => by cases h
  | [], [], _ :: _, _, h => by cases h
  | _ :: _, [], _, _, h => by cases h
  | _ :: _, _ :: _, [], _, h => by cases h
def eTup (f : List C → Option (List D)) : List C → Option D := fun env => (f env).map .tuple
def eLst (f : List C → Option (List D)) : List C → Option D := fun env => (f env).map .list
theorem line1000 {n : Nat} (h : n ≤ 1000) : n ≤ sizeLine := by rw [sizeLine_eq]; omega
theorem d_tup {x1} (h : DA X G ks es fs) (hk : allFz ks = true := by rfl) (hn : ks.length ≤ 1000 := by decide) : DE X G .fz (.Tuple es x1 pos) (eTup fs) := by
  obtain ⟨t, pt, o⟩ := h.ex
  refine ⟨_, pe_tup pt, fun σ H F fp env d Q R hf q => ?_⟩
  unfold eTup at hf
  cases z : fs env with
  | none => rw [z] at hf; cases hf
  | some ds =>
    rw [z] at hf; cases hf
    refine o σ H F fp env ds _ R z fun vs H1 F1 E1 r => ?_
    obtain ⟨l1, l2⟩ := RepKs_len r
    refine ⟨line1000 (by omega), fun n nn => ?_⟩
    obtain ⟨E, r'⟩ := new_tup E1.sub nn (RepKs_fz hk r)
    exact q _ _ _ (E1.trans E) r'
theorem d_lst (h : DA X G ks es fs) (hk : allFz ks = true := by rfl) (hn : ks.length ≤ 1000 := by decide) : DE X G .ow (.List es pos) (eLst fs) := by
  obtain ⟨t, pt, o⟩ := h.ex
  refine ⟨_, pe_lst pt, fun σ H F fp env d Q R hf q => ?_⟩
  unfold eLst at hf
  cases z : fs env with
  | none => rw [z] at hf; cases hf
  | some ds =>
    rw [z] at hf; cases hf
    refine o σ H F fp env ds _ R z fun vs H1 F1 E1 r => ?_
    obtain ⟨l1, l2⟩ := RepKs_len r
    refine ⟨line1000 (by omega), fun n nn => ?_⟩
    obtain ⟨E, r'⟩ := new_ow (G := G) E1.sub nn (RepKs_fz hk r)
    exact q _ _ _ (E1.trans E) (r'.back E1.h)

/-! ### calls of built-ins -/
theorem callr_len {f : Value} {r : List V → Hp → VK → Prop} (h : CallR X f r) : CallR X f (fun xs H Q => LenOk X.K H → r xs H Q) := fun pins s σ H xs us Q I rx q => h pins s σ H xs us Q I rx (q fun a xs hx => by
  rcases hx with hx | hx
  · obtain ⟨_, _, _, z⟩ := I.list hx
    exact z
  · obtain ⟨_, _, _, z⟩ := I.tuple hx
    exact z)
structure DCall (X : Cx) (G : GC) (f : Value) (ks : List RK) (kr : RK) (g : List D → Option D) : Prop where
  ex : ∃ r, CallR X f r ∧ ∀ (H F : Hp) (vs : List V) (ds : List D) (d : D) (Q : VK), Same F H → Same G.kp H → LenOk X.K H → RepKs X.K G H F ks vs ds → g ds = some d →
    (∀ v H' F', Ext H F H' F' → RepK X.K G kr H H' F' v d → Q v H') → r vs H Q
def e1 (g : List D → Option D) (f : List C → Option (List D)) : List C → Option D := fun env => (f env).bind g
theorem call_ok {r : List V → Hp → VK → Prop} {t : TA} {g : List D → Option D} (o : ∀ (H F : Hp) (vs : List V) (ds : List D) (d : D) (Q : VK), Same F H → Same G.kp H → LenOk X.K H → RepKs X.K G H F ks vs ds → g ds = some d →
    (∀ v H' F', Ext H F H' F' → RepK X.K G kr H H' F' v d → Q v H') → r vs H Q)
    (oa : ∀ (σ : L2.St) (H F : Hp) (fp : Nat → List Addr) (env : List C) (ds : List D) (Q : List V → Hp → Prop), Rel X.K G env σ H F fp → fs env = some ds → (∀ vs H' F', Ext H F H' F' → RepKs X.K G H' F' ks vs ds → Q vs H') → t σ H Q)
    {σ : L2.St} {H F : Hp} {fp : Nat → List Addr} {env : List C} {d : D} {Q : VK} (R : Rel X.K G env σ H F fp) (hf : e1 g fs env = some d) (q : ∀ v H' F', Ext H F H' F' → RepK X.K G kr H H' F' v d → Q v H') :
    tCB (fun xs H Q => LenOk X.K H → r xs H Q) t σ H Q := by
  unfold e1 at hf
  cases z : fs env with
  | none => rw [z] at hf; cases hf
  | some ds =>
    rw [z] at hf
    refine oa σ H F fp env ds _ R z fun vs H1 F1 E1 r1 hl => ?_
    exact o H1 F1 vs ds d Q E1.sub (R.ext E1).kpSame hl r1 hf fun v H' F' E r => q v H' F' (E1.trans E) (r.back E1.h)
variable {x : Str} {id T : String} {g : List D → Option D}
theorem d_callB (o : DCall X G (.builtin id) ks kr g) (hg : Gl X x) (hm : X.mg x = none) (hv : bootBuiltins x = some (.builtin id)) (ha : DA X G ks (e :: es) fs) (hn : x ≠ "__name__" := by decide) (hdb : (x == ("__debug__" : Str)) = false := by decide)
    (he : starEach (e :: es) X.env = (false, eval e X.env) :: starEach es X.env := by rfl) (hpl : (backTo pos (starEach es X.env)).any (·.1) = false := by rfl) : DE X G kr (.Call (.Name x p) (e :: es) [] pos) (e1 g fs) := by
  obtain ⟨r, hr, o⟩ := o.ex
  obtain ⟨t, pt, oa⟩ := ha.ex
  exact ⟨_, pe_callB (callr_len hr) hg hm hv pt hn hdb he hpl, fun σ H F fp env d Q R hf q => call_ok o oa R hf q⟩
theorem d_callT (o : DCall X G (.type T) ks kr g) (hg : Gl X x) (hm : X.mg x = none) (hv : bootBuiltins x = some (.type T)) (ha : DA X G ks (e :: es) fs) (hn : x ≠ "__name__" := by decide) (hdb : (x == ("__debug__" : Str)) = false := by decide)
    (he : starEach (e :: es) X.env = (false, eval e X.env) :: starEach es X.env := by rfl) (hpl : (backTo pos (starEach es X.env)).any (·.1) = false := by rfl) : DE X G kr (.Call (.Name x p) (e :: es) [] pos) (e1 g fs) := by
  obtain ⟨r, hr, o⟩ := o.ex
  obtain ⟨t, pt, oa⟩ := ha.ex
  exact ⟨_, pe_callTy (callr_len hr) hg hm hv pt hn hdb he hpl, fun σ H F fp env d Q R hf q => call_ok o oa R hf q⟩

theorem rep1 {K : PySem.W.Frag} {H F : Hp} {k : RK} {vs : List V} {ds : List D} (h : RepKs K G H F [k] vs ds) : ∃ v d, vs = [v] ∧ ds = [d] ∧ RepA K G k H F v d := by
  obtain ⟨l1, l2⟩ := RepKs_len h
  have l3 : ds.length = 1 := l2.symm
  obtain ⟨d, rfl⟩ := List.length_eq_one_iff.mp l3
  obtain ⟨v, rfl⟩ := List.length_eq_one_iff.mp (l1.trans l3)
  exact ⟨v, d, rfl, rfl, h.1⟩
theorem len2 {α : Type} {l : List α} (h : l.length = 2) : ∃ a b, l = [a, b] := by
  cases l with
  | nil => cases h
  | cons a l =>
    cases l with
    | nil => cases h
    | cons b l =>
      cases l with
      | nil => exact ⟨a, b, rfl⟩
      | cons c l => simp at h
theorem rep2 {K : PySem.W.Frag} {H F : Hp} {k k2 : RK} {vs : List V} {ds : List D} (h : RepKs K G H F [k, k2] vs ds) : ∃ v d v2 d2, vs = [v, v2] ∧ ds = [d, d2] ∧ RepA K G k H F v d ∧ RepA K G k2 H F v2 d2 := by
  obtain ⟨l1, l2⟩ := RepKs_len h
  have l3 : ds.length = 2 := l2.symm
  obtain ⟨d, d2, rfl⟩ := len2 l3
  obtain ⟨v, v2, rfl⟩ := len2 (l1.trans l3)
  exact ⟨v, d, v2, d2, rfl, rfl, h.1, h.2.1⟩
/-! ### len, abs, min, max, sum, sorted, int, str, list, tuple -/
def gLen : List D → Option D
  | [.list xs] => some (.int xs.length)
  | [.tuple xs] => some (.int xs.length)
  | [.str z] => if z.length ≤ sizeLine then some (.int z.length) else none
  | _ => none
theorem o_len : DCall X G (.builtin "len") [.vw] .fz gLen := ⟨_, call_len_seq.or call_len_str, fun H F vs ds d Q sub kp hl rs hd q => by
  obtain ⟨v, d1, rfl, rfl, r⟩ := rep1 rs
  have r' : Dp X.K H v d1 := r
  unfold gLen at hd
  split at hd
  · rename_i e; cases e; cases hd
    cases r' with
    | lst h1 h2 =>
      left
      refine ⟨_, _, rfl, .inl h1, ?_⟩
      rw [DpAll_len h2]
      exact q _ H F (Ext.refl sub) (.int _)
  · rename_i e; cases e; cases hd
    cases r' with
    | tup h1 h2 =>
      left
      refine ⟨_, _, rfl, .inr h1, ?_⟩
      rw [DpAll_len h2]
      exact q _ H F (Ext.refl sub) (.int _)
  · rename_i e; cases e
    split at hd <;> cases hd
    cases r'
    right
    exact ⟨_, rfl, by assumption, q _ H F (Ext.refl sub) (.int _)⟩
  · cases hd⟩
def gAbs : List D → Option D | [.int i] => some (.int (if i < 0 then -i else i)) | _ => none
theorem o_abs : DCall X G (.builtin "abs") [.vw] .fz gAbs := ⟨_, call_abs, fun H F vs ds d Q sub kp hl rs hd q => by
  obtain ⟨v, d1, rfl, rfl, r⟩ := rep1 rs
  have r' : Dp X.K H v d1 := r
  unfold gAbs at hd
  split at hd
  · rename_i e; cases e; cases hd; cases r'
    exact ⟨_, rfl, q _ H F (Ext.refl sub) (.int _)⟩
  · cases hd⟩
def gMax2 : List D → Option D | [.int i, .int j] => some (.int (if j > i then j else i)) | _ => none
def gMin2 : List D → Option D | [.int i, .int j] => some (.int (if j < i then j else i)) | _ => none
theorem o_max2 (hc : X.calm = true) : DCall X G (.builtin "max") [.vw, .vw] .fz gMax2 := ⟨_, call_max2 hc, fun H F vs ds d Q sub kp hl rs hd q => by
  obtain ⟨v, d1, v2, d2, rfl, rfl, r, r2⟩ := rep2 rs
  have r' : Dp X.K H v d1 := r
  have r2' : Dp X.K H v2 d2 := r2
  unfold gMax2 at hd
  split at hd
  · rename_i e; cases e; cases hd; cases r'; cases r2'
    exact ⟨_, _, rfl, q _ H F (Ext.refl sub) (.int _)⟩
  · cases hd⟩
theorem o_min2 (hc : X.calm = true) : DCall X G (.builtin "min") [.vw, .vw] .fz gMin2 := ⟨_, call_min2 hc, fun H F vs ds d Q sub kp hl rs hd q => by
  obtain ⟨v, d1, v2, d2, rfl, rfl, r, r2⟩ := rep2 rs
  have r' : Dp X.K H v d1 := r
  have r2' : Dp X.K H v2 d2 := r2
  unfold gMin2 at hd
  split at hd
  · rename_i e; cases e; cases hd; cases r'; cases r2'
    exact ⟨_, _, rfl, q _ H F (Ext.refl sub) (.int _)⟩
  · cases hd⟩
def gSum : List D → Option D | [.list xs] => (allInt xs).map fun ns => .int ns.sum | _ => none
theorem o_sum (hc : X.calm = true) : DCall X G (.builtin "sum") [.vw] .fz gSum := ⟨_, cr_sum hc, fun H F vs ds d Q sub kp hl rs hd q => by
  obtain ⟨v, d1, rfl, rfl, r⟩ := rep1 rs
  have r' : Dp X.K H v d1 := r
  unfold gSum at hd
  split at hd
  · rename_i xs e; cases e
    cases z : allInt xs with
    | none => rw [z] at hd; cases hd
    | some ns =>
      rw [z] at hd; cases hd
      have e := allInt_eq z
      subst e
      cases r' with
      | lst h1 h2 =>
        have e2 := DpAll_ints_of h2
        subst e2
        exact ⟨_, ns, rfl, h1, q _ H F (Ext.refl sub) (.int _)⟩
  · cases hd⟩
def gInt : List D → Option D
  | [.int i] => some (.int i)
  | [.bool b] => some (.int (if b then 1 else 0))
  | [.str a] => if a.length ≤ 640 then (PySem.intText? a).map .int else none
  | _ => none
theorem o_int : DCall X G (.type "int") [.vw] .fz gInt := ⟨_, call_int1.or call_int_str, fun H F vs ds d Q sub kp hl rs hd q => by
  obtain ⟨v, d1, rfl, rfl, r⟩ := rep1 rs
  have r' : Dp X.K H v d1 := r
  unfold gInt at hd
  split at hd
  · rename_i e; cases e; cases hd; cases r'
    exact .inl (.inl ⟨_, rfl, q _ H F (Ext.refl sub) (.int _)⟩)
  · rename_i e; cases e; cases hd; cases r'
    exact .inl (.inr ⟨_, rfl, q _ H F (Ext.refl sub) (.int _)⟩)
  · rename_i a e; cases e; cases r'
    split at hd
    · cases z : PySem.intText? a with
      | none => rw [z] at hd; cases hd
      | some n =>
        rw [z] at hd; cases hd
        exact .inr ⟨a, n, rfl, z, by assumption, q _ H F (Ext.refl sub) (.int _)⟩
    · cases hd
  · cases hd⟩
def gStr : List D → Option D | [.int i] => if i.natAbs.log2 < 1920 then some (.str (toString i)) else none | _ => none
theorem o_str : DCall X G (.type "str") [.vw] .fz gStr := ⟨_, call_str_int, fun H F vs ds d Q sub kp hl rs hd q => by
  obtain ⟨v, d1, rfl, rfl, r⟩ := rep1 rs
  have r' : Dp X.K H v d1 := r
  unfold gStr at hd
  split at hd
  · rename_i e; cases e; cases r'
    split at hd <;> cases hd
    exact ⟨_, rfl, by assumption, q _ H F (Ext.refl sub) (.str _)⟩
  · cases hd⟩
def gList : List D → Option D | [.list xs] => some (.list xs) | [.tuple xs] => some (.list xs) | _ => none
theorem o_list : DCall X G (.type "list") [.vl] .ow gList := ⟨_, call_list_of, fun H F vs ds d Q sub kp hl rs hd q => by
  obtain ⟨v, d1, rfl, rfl, r⟩ := rep1 rs
  unfold gList at hd
  split at hd
  · rename_i e; cases e; cases hd
    obtain ⟨a, vs, rfl, h1, h2⟩ := vl_list sub r
    refine ⟨a, vs, rfl, .inl (.inl (.inl h1)), fun n nn => ?_⟩
    obtain ⟨E, r'⟩ := new_ow (G := G) sub nn h2
    exact q _ _ _ E r'
  · rename_i e; cases e; cases hd
    obtain ⟨a, vs, rfl, h1, h2⟩ := vl_tup sub r
    refine ⟨a, vs, rfl, .inr h1, fun n nn => ?_⟩
    obtain ⟨E, r'⟩ := new_ow (G := G) sub nn h2
    exact q _ _ _ E r'
  · cases hd⟩
def gTuple : List D → Option D | [.list xs] => some (.tuple xs) | [.tuple xs] => some (.tuple xs) | _ => none
theorem o_tuple : DCall X G (.type "tuple") [.vl] .fz gTuple := ⟨_, call_tuple_of, fun H F vs ds d Q sub kp hl rs hd q => by
  obtain ⟨v, d1, rfl, rfl, r⟩ := rep1 rs
  unfold gTuple at hd
  split at hd
  · rename_i e; cases e; cases hd
    obtain ⟨a, vs, rfl, h1, h2⟩ := vl_list sub r
    refine ⟨a, vs, rfl, .inl ⟨.inl (.inl h1), fun n nn => ?_⟩⟩
    obtain ⟨E, r'⟩ := new_tup sub nn h2
    exact q _ _ _ E r'
  · rename_i xs e; cases e; cases hd
    have fx : ∃ a vs, v = .ref a ∧ SqT X.K F a vs ∧ DFAll X.K F vs xs := by
      rcases r with rx | ⟨_, _, _, _, z, _⟩
      · cases rx with | tup h1 h2 => exact ⟨_, _, rfl, h1, h2⟩
      · cases z
    obtain ⟨a, vs, rfl, h1, h2⟩ := fx
    exact ⟨a, vs, rfl, .inr ⟨Same.seqT sub h1, q _ H F (Ext.refl sub) (.tup h1 h2)⟩⟩
  · cases hd⟩

/-! ### isinstance of a built-in type -/
def tyD : D → String
  | .none => "NoneType" | .bool _ => "bool" | .int _ => "int" | .str _ => "str" | .list _ => "list" | .tuple _ => "tuple" | .dict _ => "dict"
theorem dp_ty {K : PySem.W.Frag} {H : Hp} {v : V} {d : D} (h : Dp K H v d) : TyX K H v (.type (tyD d)) := by
  cases h with
  | non => exact .base .non
  | bl b => exact .base (.bl b)
  | int i => exact .base (.int i)
  | str x => exact .base (.str x)
  | lst h _ =>
    rcases h with (h | ⟨o, h⟩) | ⟨o, its, n, h1, h2, _⟩
    · exact .base (.lst h)
    · exact .base (.frz h)
    · exact .kList h1 h2
  | tup h _ =>
    rcases h with (h | ⟨o, h⟩) | ⟨o, its, n, h1, h2, _⟩
    · exact .base (.tup h)
    · exact .fTuple h
    · exact .kTuple h1 h2
def eIsi (T : String) (f : List C → Option D) : List C → Option D := fun env => (f env).bind fun d => (kitB (tyD d) T).map .bool
theorem d_isi {e : Expr} {y : Str} {p2 : Pos} {T : String} (h : DE X G k e f) (hg : Gl X "isinstance") (hm : X.mg "isinstance" = none) (hg2 : Gl X y) (hm2 : X.mg y = none) (hv2 : bootBuiltins y = some (.type T)) (hc : ClsV (.ty T) (.type T))
    (hk : k.le .vw = true := by rfl) (hv : bootBuiltins "isinstance" = some (.builtin "isinstance") := by decide +kernel) (hy : y ≠ "__name__" := by decide) (hdb : (y == ("__debug__" : Str)) = false := by decide)
    (he : starEach [e, .Name y p2] X.env = (false, eval e X.env) :: starEach [.Name y p2] X.env := by rfl) (he2 : starEach [.Name y p2] X.env = (false, eval (.Name y p2) X.env) :: starEach [] X.env := by rfl)
    (hpl : (backTo pos (starEach [.Name y p2] X.env)).any (·.1) = false := by rfl) : DE X G .fz (.Call (.Name "isinstance" p) [e, .Name y p2] [] pos) (eIsi T f) := by
  obtain ⟨t, pt, o⟩ := (h.conv hk).ex
  refine ⟨_, pe_callB call_isi hg hm hv (pa_cons pt (pa_cons (pe_bltn hg2 hm2 hv2 (v := .ty T) rfl hy hdb) pa_nil he2) he) (by decide) (by decide) he hpl, fun σ H F fp env d Q R hf q => ?_⟩
  unfold eIsi at hf
  cases z : f env with
  | none => rw [z] at hf; cases hf
  | some d1 =>
    rw [z] at hf
    cases z2 : kitB (tyD d1) T with
    | none => rw [show (some d1 : Option D).bind (fun d => (kitB (tyD d) T).map PyData.bool) = (kitB (tyD d1) T).map PyData.bool from rfl, z2] at hf; cases hf
    | some b =>
      rw [show (some d1 : Option D).bind (fun d => (kitB (tyD d) T).map PyData.bool) = (kitB (tyD d1) T).map PyData.bool from rfl, z2] at hf; cases hf
      refine o σ H F fp env d1 _ R z fun v H1 F1 E1 r => ?_
      exact ⟨_, _, _, _, _, rfl, hc, dp_ty r, kit_ty z2, q _ H1 F1 E1 (.bl _)⟩
end

/-! ### calls of the text's own defs -/
/-- the promise: F of the arguments' data; what stood stands. ks: how the arguments stand (fz, vw); kr: how the result does (fz, ow) -/
def spP (K : PySem.W.Frag) (ks : List RK) (kr : RK) (g : List D → Option D) : Sp := fun vs H Q _ => ∃ (F0 : Hp) (ds : List D) (d : D), Same F0 H ∧ g ds = some d ∧ RepKs K ⟨H, F0, []⟩ H F0 ks vs ds ∧
  ∀ v H' F', Ext H F0 H' F' → RepK K ⟨H, F0, []⟩ kr H H' F' v d → Q v H'
structure Callee (P : Program) (w : World) (K : PySem.W.Frag) (mg : Str → Option Value) (base : Heap) (k : Nat) (x : Str) (ks : List RK) (kr : RK) (g : List D → Option D) : Prop where
  ex : ∃ (f : Addr) (fd : FuncData) (ps : List Str), FnOk P w K mg base CX0 k f fd ps (spP K ks kr g) ∧ mg x = some (.ref f) ∧ PySem.W.keepIn K (.ref f) = true ∧ Binds K fd ps []
def okPs : List RK → Bool
  | [] => true
  | .fz :: r => okPs r
  | .vw :: r => okPs r
  | _ => false
def okR : RK → Bool | .fz => true | .ow => true | _ => false
section
variable {X : Cx} {G G' : GC} {es : List Expr} {kr : RK} {ks : List RK} {fs : List C → Option (List D)} {pos p : Pos} {x : Str} {g : List D → Option D} {n : Nat}
theorem RepKs_any {K : PySem.W.Frag} {H F : Hp} : ∀ {ks : List RK} {vs : List V} {ds : List D}, okPs ks = true → RepKs K G H F ks vs ds → RepKs K G' H F ks vs ds
  | [], [], [], _, _ => trivial
  | k :: ks, v :: vs, d :: ds, hk, h => by
    cases k with
    | fz => exact ⟨h.1, RepKs_any hk h.2⟩
    | vw => exact ⟨h.1, RepKs_any hk h.2⟩
    | _ => cases hk
  | [], _ :: _, _, _, h => by cases h
  | [], [], _ :: _, _, h => by cases h
  | _ :: _, [], _, _, h => by cases h
  | _ :: _, _ :: _, [], _, h => by cases h
theorem RepK_any {K : PySem.W.Frag} {H H' F' : Hp} {v : V} {d : D} (hk : okR kr = true) (h : RepK K G kr H H' F' v d) : RepK K G' kr H H' F' v d := by
  cases kr with
  | fz => exact h
  | ow => exact h
  | _ => cases hk
theorem d_call {e : Expr} (c : Callee X.prog X.w X.K X.mg X.base n x ks kr g) (hr : Room n X.A) (hg : Gl X x) (ha : DA X G ks (e :: es) fs) (hp : okPs ks = true := by rfl) (hk : okR kr = true := by rfl) (hdb : (x == ("__debug__" : Str)) = false := by decide)
    (he : starEach (e :: es) X.env = (false, eval e X.env) :: starEach es X.env := by rfl) (hpl : (backTo pos (starEach es X.env)).any (·.1) = false := by rfl) : DE X G kr (.Call (.Name x p) (e :: es) [] pos) (e1 g fs) := by
  obtain ⟨f, fd, ps, F, hm, kp, b⟩ := c.ex
  obtain ⟨t, pt, oa⟩ := ha.ex
  refine ⟨_, pe_call F hr hg hm kp b .nil pass0 pt hdb he hpl, fun σ H F fp env d Q R hf q => ?_⟩
  unfold e1 at hf
  cases z : fs env with
  | none => rw [z] at hf; cases hf
  | some ds =>
    rw [z] at hf
    refine oa σ H F fp env ds _ R z fun vs H1 F1 E1 r1 => ?_
    rw [List.append_nil]
    exact ⟨F1, ds, d, E1.sub, hf, RepKs_any hp r1, fun v H' F' E r => q v H' F' (E1.trans E) ((RepK_any hk r).back E1.h)⟩
end
end DL
set_option Elab.async false
set_option linter.all false
set_option maxRecDepth 100000
set_option maxHeartbeats 4000000
namespace DL
open PySem PySem.Spec L2

inductive Out where
  | nx (env : List C) | rt (d : D) | bk (env : List C) | ct (env : List C) | err
/-- at a def's end: what stood and may not be written stands -/
structure Fin (G : GC) (H' F' : Hp) : Prop where
  h : ∀ a o, G.H0 a = some o → a ∉ G.W → H' a = some o
  f : Same G.F0 F'
  sub : Same F' H'
  new : ∀ a o, F' a = some o → G.F0 a = some o ∨ G.H0 a = none
def Post (K : PySem.W.Frag) (G : GC) (kr : RK) (F : Hp) (E : Ends) : Out → Prop
  | .nx env' => ∀ σ' H' F' fp', Rel K G env' σ' H' F' fp' → Same F F' → E.nx σ' H'
  | .rt d => ∀ v H' F', Fin G H' F' → RepK K G kr G.H0 H' F' v d → E.rt v H'
  | .bk env' => ∀ σ' H' F' fp', Rel K G env' σ' H' F' fp' → Same F F' → E.bk σ' H'
  | .ct env' => ∀ σ' H' F' fp', Rel K G env' σ' H' F' fp' → Same F F' → E.ct σ' H'
  | .err => False
structure DS (X : Cx) (G : GC) (kr : RK) (st : Stmt) (f : List C → Out) : Prop where
  ex : ∃ t, PS X st t ∧ ∀ (σ : L2.St) (H F : Hp) (fp : Nat → List Addr) (env : List C) (E : Ends), Rel X.K G env σ H F fp → Post X.K G kr F E (f env) → t E σ H
structure DSs (X : Cx) (G : GC) (kr : RK) (st : List Stmt) (f : List C → Out) : Prop where
  ex : ∃ t, PSs X st t ∧ ∀ (σ : L2.St) (H F : Hp) (fp : Nat → List Addr) (env : List C) (E : Ends), Rel X.K G env σ H F fp → Post X.K G kr F E (f env) → t E σ H

section
variable {K : PySem.W.Frag} {G : GC} {env : List C} {σ : L2.St} {H F H' F' : Hp} {fp : Nat → List Addr} {kr : RK}
theorem Post.mono {F F1 : Hp} {E : Ends} (s : Same F F1) : ∀ {o : Out}, Post K G kr F E o → Post K G kr F1 E o
  | .nx _, h => fun σ' H' F' fp' R z => h σ' H' F' fp' R (s.trans z)
  | .rt _, h => h
  | .bk _, h => fun σ' H' F' fp' R z => h σ' H' F' fp' R (s.trans z)
  | .ct _, h => fun σ' H' F' fp' R z => h σ' H' F' fp' R (s.trans z)
  | .err, h => h
theorem Rel.fin (R : Rel K G env σ H F fp) : Fin G H F := ⟨R.keep, R.old, R.sub, R.new⟩
theorem Rel.h0 (R : Rel K G env σ H F fp) {a : Addr} (e : H a = none) : G.H0 a = none := by
  cases q : G.H0 a with
  | none => rfl
  | some o => exact absurd e (R.alive a (by rw [q]; intro z; cases z))
def fset (fp : Nat → List Addr) (i : Nat) (l : List Addr) : Nat → List Addr := fun j => if j = i then l else fp j
theorem fset_at {fp : Nat → List Addr} {i : Nat} {l : List Addr} : fset fp i l i = l := if_pos rfl
theorem fset_ne {fp : Nat → List Addr} {i j : Nat} {l : List Addr} (h : j ≠ i) : fset fp i l j = fp j := if_neg h
theorem join_set_at {σ : L2.St} {i : Nat} {v : V} (h : i < σ.length) : ((σ.set i (some v))[i]?).join = some v := by
  rw [List.getElem?_set_self h]; rfl
/-- a slot is stored -/
theorem Rel.put (R : Rel K G env σ H F fp) {i : Nat} {v : V} {c : C} {l : List Addr} (hs : SlotRep K G H F (some v) c l) (ho : ∀ a, a ∈ l → F a = none ∧ H a ≠ none ∧ (G.H0 a = none ∨ a ∈ G.W)) (hd : ∀ a, a ∈ l → ∀ j, j ≠ i → a ∉ fp j) :
    Rel K G (env.set i c) (σ.set i (some v)) H F (fset fp i l) where
  len := by rw [List.length_set, List.length_set, R.len]
  slot := fun j c' e => by
    by_cases hj : j = i
    · subst hj
      rw [fset_at]
      by_cases hl : j < env.length
      · rw [List.getElem?_set_self hl] at e; cases e
        rw [join_set_at (by rw [← R.len]; exact hl)]
        exact hs
      · rw [List.getElem?_eq_none (by rw [List.length_set]; omega)] at e; cases e
    · rw [List.getElem?_set_ne (Ne.symm hj)] at e
      rw [List.getElem?_set_ne (Ne.symm hj), fset_ne hj]
      exact R.slot j c' e
  dj := fun j k a h1 h2 => by
    by_cases hj : j = i
    · by_cases hk : k = i
      · exact hj.trans hk.symm
      · subst hj
        rw [fset_at] at h1; rw [fset_ne hk] at h2
        exact absurd h2 (hd a h1 k hk)
    · by_cases hk : k = i
      · subst hk
        rw [fset_at] at h2; rw [fset_ne hj] at h1
        exact absurd h1 (hd a h2 j hj)
      · rw [fset_ne hj] at h1; rw [fset_ne hk] at h2
        exact R.dj j k a h1 h2
  own := fun j a h1 => by
    by_cases hj : j = i
    · subst hj; rw [fset_at] at h1; exact ho a h1
    · rw [fset_ne hj] at h1; exact R.own j a h1
  sub := R.sub
  new := R.new
  old := R.old
  keep := R.keep
  alive := R.alive
/-- a slot is given up -/
theorem Rel.drop (R : Rel K G env σ H F fp) (i : Nat) : Rel K G (env.set i .und) σ H F (fset fp i []) where
  len := by rw [List.length_set]; exact R.len
  slot := fun j c' e => by
    by_cases hj : j = i
    · subst hj
      rw [fset_at]
      by_cases hl : j < env.length
      · rw [List.getElem?_set_self hl] at e; cases e; rfl
      · rw [List.getElem?_eq_none (by rw [List.length_set]; omega)] at e; cases e
    · rw [List.getElem?_set_ne (Ne.symm hj)] at e
      rw [fset_ne hj]
      exact R.slot j c' e
  dj := fun j k a h1 h2 => by
    by_cases hj : j = i
    · subst hj; rw [fset_at] at h1; cases h1
    · by_cases hk : k = i
      · subst hk; rw [fset_at] at h2; cases h2
      · rw [fset_ne hj] at h1; rw [fset_ne hk] at h2
        exact R.dj j k a h1 h2
  own := fun j a h1 => by
    by_cases hj : j = i
    · subst hj; rw [fset_at] at h1; cases h1
    · rw [fset_ne hj] at h1; exact R.own j a h1
  sub := R.sub
  new := R.new
  old := R.old
  keep := R.keep
  alive := R.alive
/-- a slot's list is written in place -/
theorem Rel.write (R : Rel K G env σ H F fp) {i : Nat} {a : Addr} {o : HO} {c : C} (hi : fp i = [a]) (hs : SlotRep K G (upd H a o) F (σ[i]?.join) c [a]) : Rel K G (env.set i c) σ (upd H a o) F fp := by
  obtain ⟨h1, h2, h3⟩ := R.own i a (by rw [hi]; exact List.mem_singleton.mpr rfl)
  have ne : ∀ b u, F b = some u → b ≠ a := fun b u e z => by rw [z, h1] at e; cases e
  exact {
    len := by rw [List.length_set]; exact R.len
    slot := fun j c' e => by
      by_cases hj : j = i
      · subst hj
        by_cases hl : j < env.length
        · rw [List.getElem?_set_self hl] at e; cases e; rw [hi]; exact hs
        · rw [List.getElem?_eq_none (by rw [List.length_set]; omega)] at e; cases e
      · rw [List.getElem?_set_ne (Ne.symm hj)] at e
        have q := R.slot j c' e
        have na : ∀ b, fp j = [b] → b ≠ a := fun b z y => hj (R.dj j i a (by rw [z, y]; exact List.mem_singleton.mpr rfl) (by rw [hi]; exact List.mem_singleton.mpr rfl))
        cases c' with
        | und => exact q
        | val d => exact q
        | brw d => exact q
        | lst ds => obtain ⟨b, vs, q1, q2, q3, q4⟩ := q; exact ⟨b, vs, q1, q2, by rw [upd_ne (na b q1)]; exact q3, q4⟩
        | dK ds => obtain ⟨b, vs, q1, q2, q3, q4⟩ := q; exact ⟨b, vs, q1, q2, by rw [upd_ne (na b q1)]; exact q3, q4⟩
        | dT ds => obtain ⟨b, vs, q1, q2, q3, q4⟩ := q; exact ⟨b, vs, q1, q2, by rw [upd_ne (na b q1)]; exact q3, q4⟩
    dj := R.dj
    own := fun j b hb => by
      obtain ⟨g1, g2, g3⟩ := R.own j b hb
      refine ⟨g1, ?_, g3⟩
      by_cases hb' : b = a
      · rw [hb', upd_same]; intro z; cases z
      · rw [upd_ne hb']; exact g2
    sub := fun b u e => by rw [upd_ne (ne b u e)]; exact R.sub b u e
    new := R.new
    old := R.old
    keep := fun b u e hw => by
      have nb : b ≠ a := fun z => by
        rcases h3 with y | y
        · rw [z, y] at e; cases e
        · exact hw (by rw [z]; exact y)
      rw [upd_ne nb]; exact R.keep b u e hw
    alive := fun b e => by
      by_cases hb' : b = a
      · rw [hb', upd_same]; intro z; cases z
      · rw [upd_ne hb']; exact R.alive b e }
/-- a slot's list is frozen -/
theorem Rel.freeze (R : Rel K G env σ H F fp) (hW : G.W = []) {i : Nat} {ds : List D} (e : env[i]? = some (.lst ds)) : ∃ F', Rel K G (env.set i (.val (.list ds))) σ H F' (fset fp i []) ∧ Same F F' ∧ ∃ a, (σ[i]?).join = some (.ref a) ∧ DF K F' (.ref a) (.list ds) := by
  obtain ⟨a, vs, q1, q2, q3, q4⟩ := R.slot i _ e
  obtain ⟨h1, h2, h3⟩ := R.own i a (by rw [q1]; exact List.mem_singleton.mpr rfl)
  have sm : Same F (upd F a (.lst vs)) := fun b x z => by rw [upd_ne (ne_of_none z h1)]; exact z
  have z : DF K (upd F a (.lst vs)) (.ref a) (.list ds) := .lst upd_same (DFAll_mono sm _ _ q4)
  have h0 : G.H0 a = none := h3.resolve_right (by rw [hW]; exact List.not_mem_nil)
  refine ⟨upd F a (.lst vs), ?_, sm, a, q2, z⟩
  exact {
    len := by rw [List.length_set]; exact R.len
    slot := fun j c' ej => by
      by_cases hj : j = i
      · subst hj
        rw [fset_at]
        have hl := (List.getElem?_eq_some_iff.mp e).1
        rw [List.getElem?_set_self hl] at ej; cases ej
        exact ⟨rfl, _, q2, z⟩
      · rw [List.getElem?_set_ne (Ne.symm hj)] at ej
        rw [fset_ne hj]
        have q := R.slot j c' ej
        cases c' with
        | und => exact q
        | val d => obtain ⟨y1, v, y2, y3⟩ := q; exact ⟨y1, v, y2, DF_mono sm _ _ y3⟩
        | brw d => exact q
        | lst ds => obtain ⟨b, vs, y1, y2, y3, y4⟩ := q; exact ⟨b, vs, y1, y2, y3, DFAll_mono sm _ _ y4⟩
        | dK ds => obtain ⟨b, vs, y1, y2, y3, y4⟩ := q; exact ⟨b, vs, y1, y2, y3, y4.mono sm⟩
        | dT ds => obtain ⟨b, vs, y1, y2, y3, y4⟩ := q; exact ⟨b, vs, y1, y2, y3, y4.mono sm⟩
    dj := fun j k b h1 h2 => by
      by_cases hj : j = i
      · subst hj; rw [fset_at] at h1; cases h1
      · by_cases hk : k = i
        · subst hk; rw [fset_at] at h2; cases h2
        · rw [fset_ne hj] at h1; rw [fset_ne hk] at h2
          exact R.dj j k b h1 h2
    own := fun j b hb => by
      by_cases hj : j = i
      · subst hj; rw [fset_at] at hb; cases hb
      · rw [fset_ne hj] at hb
        obtain ⟨g1, g2, g3⟩ := R.own j b hb
        have nb : b ≠ a := fun z => hj (R.dj j i b hb (by rw [q1, z]; exact List.mem_singleton.mpr rfl))
        exact ⟨by rw [upd_ne nb]; exact g1, g2, g3⟩
    sub := fun b u eb => by
      by_cases hb : b = a
      · rw [hb] at eb ⊢; rw [upd_same] at eb; rw [← eb]; exact q3
      · rw [upd_ne hb] at eb; exact R.sub b u eb
    new := fun b u eb => by
      by_cases hb : b = a
      · rw [hb]; exact .inr h0
      · rw [upd_ne hb] at eb; exact R.new b u eb
    old := R.old.trans sm
    keep := R.keep
    alive := R.alive }
end

section
variable {X : Cx} {G : GC} {kr k k1 : RK} {st : Stmt} {rest sts sts2 : List Stmt} {e a : Expr} {f g : List C → Out} {fe fa : List C → Option D} {ft : List C → Option Bool} {pos pos' : Pos}
/-! ### blocks -/
def sNil : List C → Out := fun env => .nx env
def sSeq (f g : List C → Out) : List C → Out := fun env => match f env with | .nx e => g e | o => o
theorem dss_nil : DSs X G kr [] sNil := ⟨_, pss_nil, fun σ H F fp env E R q => q σ H F fp R (Same.refl _)⟩
theorem dss_cons (h : DS X G kr st f) (h2 : DSs X G kr rest g) : DSs X G kr (st :: rest) (sSeq f g) := by
  obtain ⟨t, p, o⟩ := h.ex
  obtain ⟨t2, p2, o2⟩ := h2.ex
  refine ⟨_, pss_cons p p2, fun σ H F fp env E R q => o σ H F fp env _ R ?_⟩
  unfold sSeq at q
  cases z : f env with
  | nx e' =>
    rw [z] at q
    intro σ' H' F' fp' R' s
    exact o2 σ' H' F' fp' e' E R' (Post.mono s q)
  | rt d => rw [z] at q; exact q
  | bk e' => rw [z] at q; exact q
  | ct e' => rw [z] at q; exact q
  | err => rw [z] at q; exact q
theorem dss_one (h : DS X G kr st f) : DSs X G kr [st] f := let ⟨t, p, o⟩ := h.ex; ⟨t, pss_one p, o⟩
/-- (nothing of the text): the list of a slot is frozen from here on -/
def sFz (i : Nat) (g : List C → Out) : List C → Out := fun env => match env[i]? with | some (.lst ds) => g (env.set i (.val (.list ds))) | some (.val _) => g env | _ => .err
theorem dss_fz (i : Nat) (h : DSs X G kr sts g) (hW : G.W = [] := by first | rfl | assumption) : DSs X G kr sts (sFz i g) := by
  obtain ⟨t, p, o⟩ := h.ex
  refine ⟨t, p, fun σ H F fp env E R q => ?_⟩
  unfold sFz at q
  split at q
  · rename_i ds e
    obtain ⟨F', R', s, _⟩ := R.freeze hW e
    exact o σ H F' _ _ E R' (Post.mono s q)
  · exact o σ H F fp env E R q
  · exact q.elim
theorem ds_pass : DS X G kr (.Pass pos) sNil := ⟨_, ps_pass, fun σ H F fp env E R q => q σ H F fp R (Same.refl _)⟩
def sBrk : List C → Out := fun env => .bk env
def sCnt : List C → Out := fun env => .ct env
theorem ds_break : DS X G kr (.Break pos) sBrk := ⟨_, ps_break, fun σ H F fp env E R q => q σ H F fp R (Same.refl _)⟩
theorem ds_continue : DS X G kr (.Continue pos) sCnt := ⟨_, ps_continue, fun σ H F fp env E R q => q σ H F fp R (Same.refl _)⟩
theorem ds_doc {x j} : DS X G kr (.Expr (.Constant (.str x) j pos) pos') sNil := ⟨_, ps_doc, fun σ H F fp env E R q => q σ H F fp R (Same.refl _)⟩
/-- an expression as a statement -/
def sDrop (fe : List C → Option D) : List C → Out := fun env => match fe env with | some _ => .nx env | none => .err
theorem ds_expr (h : DE X G k e fe) (hs : swapsWith e none pos.line X.env = pure false := by rfl) : DS X G kr (.Expr e pos) (sDrop fe) := by
  obtain ⟨t, p, o⟩ := h.ex
  refine ⟨_, ps_expr p hs, fun σ H F fp env E R q => ?_⟩
  unfold sDrop at q
  cases z : fe env with
  | none => rw [z] at q; exact q.elim
  | some d =>
    rw [z] at q
    exact o σ H F fp env d _ R z fun v H' F' E' _ => q σ H' F' fp (R.ext E') E'.f
/-! ### return -/
def sRet (fe : List C → Option D) : List C → Out := fun env => match fe env with | some d => .rt d | none => .err
theorem RepK_h0 {K : PySem.W.Frag} {env : List C} {σ : L2.St} {H F H' F' : Hp} {fp : Nat → List Addr} {v : V} {d : D} (R : Rel K G env σ H F fp) (r : RepK K G k H H' F' v d) : RepK K G k G.H0 H' F' v d := by
  cases k with
  | ow =>
    obtain ⟨a, vs, ds, e1, e2, h1, r⟩ := r
    exact ⟨a, vs, ds, e1, e2, R.h0 h1, r⟩
  | _ => exact r
theorem ds_ret (h : DE X G k e fe) (hk : k.le kr = true := by rfl) : DS X G kr (.Return (some e) pos) (sRet fe) := by
  obtain ⟨t, p, o⟩ := (h.conv hk).ex
  refine ⟨_, ps_ret p, fun σ H F fp env E R q => ?_⟩
  unfold sRet at q
  cases z : fe env with
  | none => rw [z] at q; exact q.elim
  | some d =>
    rw [z] at q
    exact o σ H F fp env d _ R z fun v H' F' E' r => q v H' F' (R.ext E').fin (RepK_h0 R r)
def sRetL (i : Nat) : List C → Out := fun env => match env[i]? with | some (.lst ds) => .rt (.list ds) | _ => .err
/-- return of a list of one's own -/
theorem ds_retL {x : Str} (i : Nat) (h : PE X (.Name x pos') (tVar i)) (hW : G.W = [] := by first | rfl | assumption) : DS X G .ow (.Return (some (.Name x pos')) pos) (sRetL i) := by
  refine ⟨_, ps_ret h, fun σ H F fp env E R q => ?_⟩
  unfold sRetL at q
  split at q
  · rename_i ds e
    obtain ⟨a, vs, q1, q2, q3, q4⟩ := R.slot i _ e
    obtain ⟨h1, h2, h3⟩ := R.own i a (by rw [q1]; exact List.mem_singleton.mpr rfl)
    cases z : σ[i]? with
    | none => rw [z] at q2; cases q2
    | some o =>
      rw [z] at q2
      have e2 : o = some (.ref a) := q2
      subst e2
      exact ⟨_, z, q (.ref a) H F R.fin ⟨a, vs, ds, rfl, rfl, h3.resolve_right (by rw [hW]; exact List.not_mem_nil), q3, h1, q4⟩⟩
  · exact q.elim
def sRetN : List C → Out := fun _ => .rt .none
theorem ds_retN : DS X G .fz (.Return none pos) sRetN := ⟨_, ps_retN, fun σ H F fp env E R q => q _ H F R.fin .non⟩
/-! ### if -/
def sIf (ft : List C → Option Bool) (f g : List C → Out) : List C → Out := fun env => match ft env with | some true => f env | some false => g env | none => .err
theorem ds_if (hc : DTs X G e ft) (ha : DSs X G kr sts f) (hb : DSs X G kr sts2 g) : DS X G kr (.If e sts sts2 pos) (sIf ft f g) := by
  obtain ⟨tc, pc, oc⟩ := hc.ex
  obtain ⟨ta, pa, oa⟩ := ha.ex
  obtain ⟨tb, pb, ob⟩ := hb.ex
  refine ⟨_, ps_if pc pa pb, fun σ H F fp env E R q => ?_⟩
  unfold sIf at q
  cases z : ft env with
  | none => rw [z] at q; exact q.elim
  | some b =>
    rw [z] at q
    refine oc σ H F fp env b _ R z fun H' F' E' => ?_
    cases b with
    | true => exact iteT (oa σ H' F' fp env E (R.ext E') (Post.mono E'.f q))
    | false => exact iteF (ob σ H' F' fp env E (R.ext E') (Post.mono E'.f q))
/-! ### names stored -/
def sSet (i : Nat) (fe : List C → Option D) : List C → Out := fun env => match fe env with | some d => .nx (env.set i (.val d)) | none => .err
theorem ds_set {x : Str} (i : Nat) (hN : X.N.Nodup) (hi : X.N[i]? = some x) (h : DE X G k e fe) (hx : Loc X.env.scope x := by first | exact .inl rfl | exact .inr rfl) (hk : k.le .fz = true := by rfl) (hs : swapsWith e (some (.Name x pos')) pos.line X.env = pure false := by rfl)
    (hf : X.fn x = true ∨ X.env.scope.names.lookup x = some .local := by first | exact .inl rfl | exact .inr rfl | assumption) : DS X G kr (.Assign [.Name x pos'] e pos) (sSet i fe) := by
  obtain ⟨t, p, o⟩ := (h.conv hk).ex
  refine ⟨_, ps_set hN hi hx p hs hf, fun σ H F fp env E R q => ?_⟩
  unfold sSet at q
  cases z : fe env with
  | none => rw [z] at q; exact q.elim
  | some d =>
    rw [z] at q
    refine o σ H F fp env d _ R z fun v H' F' E' r => ?_
    exact q _ H' F' _ ((R.ext E').put (i := i) (v := v) (c := .val d) (l := []) ⟨rfl, v, rfl, r⟩ (fun _ m => nomatch m) (fun _ m => nomatch m)) E'.f
def sSetL (i : Nat) (fe : List C → Option D) : List C → Out := fun env => match fe env with | some (.list ds) => .nx (env.set i (.lst ds)) | _ => .err
theorem Rel.putL {K : PySem.W.Frag} {env : List C} {σ : L2.St} {H F H' F' : Hp} {fp : Nat → List Addr} {v : V} {d : D} (R : Rel K G env σ H F fp) (E : Ext H F H' F') (i : Nat) (r : RepK K G .ow H H' F' v d) :
    ∃ ds a, d = .list ds ∧ Rel K G (env.set i (.lst ds)) (σ.set i (some v)) H' F' (fset fp i [a]) := by
  obtain ⟨a, vs, ds, rfl, rfl, h1, h2, h3, h4⟩ := r
  have R' := R.ext E
  refine ⟨ds, a, rfl, R'.put (c := .lst ds) ⟨a, vs, rfl, rfl, h2, h4⟩ (fun b hb => ?_) (fun b hb j hj hm => ?_)⟩
  · have e : b = a := List.mem_singleton.mp hb
    subst e
    exact ⟨h3, (by rw [h2]; intro z; cases z), .inl (R.h0 h1)⟩
  · have e : b = a := List.mem_singleton.mp hb
    subst e
    exact (R.own j b hm).2.1 h1
theorem ds_setL {x : Str} (i : Nat) (hN : X.N.Nodup) (hi : X.N[i]? = some x) (h : DE X G .ow e fe) (hx : Loc X.env.scope x := by first | exact .inl rfl | exact .inr rfl) (hs : swapsWith e (some (.Name x pos')) pos.line X.env = pure false := by rfl)
    (hf : X.fn x = true ∨ X.env.scope.names.lookup x = some .local := by first | exact .inl rfl | exact .inr rfl | assumption) : DS X G kr (.Assign [.Name x pos'] e pos) (sSetL i fe) := by
  obtain ⟨t, p, o⟩ := h.ex
  refine ⟨_, ps_set hN hi hx p hs hf, fun σ H F fp env E R q => ?_⟩
  unfold sSetL at q
  cases z : fe env with
  | none => rw [z] at q; exact q.elim
  | some d =>
    rw [z] at q
    refine o σ H F fp env d _ R z fun v H' F' E' r => ?_
    obtain ⟨ds, a, rfl, R'⟩ := R.putL E' i r
    exact q _ H' F' _ R' E'.f
/-! ### op= -/
def sAug (i : Nat) (g : D → D → Option D) (fe : List C → Option D) : List C → Out := fun env => match env[i]? with
  | some (.val x) => (match fe env with | some y => (match g x y with | some z => .nx (env.set i (.val z)) | none => .err) | none => .err)
  | _ => .err
theorem ds_aug {x : Str} {op : Operator} {g : D → D → Option D} {kb : RK} (i : Nat) (hN : X.N.Nodup) (hi : X.N[i]? = some x) (og : DOp X G (inplaceOp op) .vl kb .fz g) (h : DE X G k e fe) (hx : Loc X.env.scope x := by first | exact .inl rfl | exact .inr rfl) (hk : k.le kb = true := by rfl) (hb : kb.arg = true := by rfl)
    (hf : X.fn x = true ∨ X.env.scope.names.lookup x = some .local := by first | exact .inl rfl | exact .inr rfl | assumption) : DS X G kr (.AugAssign (.Name x pos') op e pos) (sAug i g fe) := by
  obtain ⟨t, p, o⟩ := (h.conv hk).ex
  obtain ⟨r, or, o2⟩ := og.ex
  refine ⟨_, ps_aug (ti := fun x y H Q => LenOk X.K H → r x y H Q) hN hi hx p (opr_len or) hf, fun σ H F fp env E R q => ?_⟩
  unfold sAug at q
  split at q
  · rename_i dx ex
    cases z : fe env with
    | none => rw [z] at q; exact q.elim
    | some dy =>
      rw [z] at q
      cases z2 : g dx dy with
      | none => simp only [z2] at q; exact q.elim
      | some dz =>
        simp only [z2] at q
        obtain ⟨_, vx, e1, r1⟩ := R.slot i _ ex
        cases y : σ[i]? with
        | none => rw [y] at e1; cases e1
        | some w =>
          rw [y] at e1
          have e2 : w = some vx := e1
          subst e2
          refine ⟨vx, y, o σ H F fp env dy _ R z fun vy H1 F1 E1 ry hl => ?_⟩
          have kp1 := (R.ext E1).kpSame
          refine o2 H1 F1 vx vy dx dy dz _ E1.sub kp1 hl (.inl (DF_mono E1.f _ _ r1)) (repK_A hb ry) z2 fun v H' F' E2 rz => ?_
          exact q _ H' F' _ (((R.ext E1).ext E2).put (i := i) (v := v) (c := .val dz) (l := []) ⟨rfl, v, rfl, rz⟩ (fun _ m => nomatch m) (fun _ m => nomatch m)) (E1.f.trans E2.f)
  · exact q.elim
theorem a_addI : DOp X G (inplaceOp .Add) .vl .vl .fz gAddI := dop_int (r' := fun i j => .int (i + j)) (rI_of0 iop_add) (fun x y d h => by
  unfold gAddI at h; split at h <;> cases h; exact ⟨_, _, rfl, rfl, True.intro, rfl⟩) fun _ _ _ _ => .int _
theorem a_sub : DOp X G (inplaceOp .Sub) .vl .vl .fz gSub := dop_int (r' := fun i j => .int (i - j)) (rI_of0 iop_sub) (fun x y d h => by
  unfold gSub at h; split at h <;> cases h; exact ⟨_, _, rfl, rfl, True.intro, rfl⟩) fun _ _ _ _ => .int _
theorem a_addS : DOp X G (inplaceOp .Add) .vl .vl .fz gAddS := ⟨_, iop_add_str, fun H F vx vy dx dy d Q sub kp hl rx ry hd q => by
  unfold gAddS at hd
  split at hd
  · split at hd <;> cases hd
    have e1 := vl_str rx
    have e2 := vl_str ry
    subst e1 e2
    exact ⟨_, _, rfl, rfl, by assumption, q _ H F (Ext.refl sub) (.str _)⟩
  · cases hd⟩
/-! ### a list of one's own: append, items stored -/
def sApp (i : Nat) (fe : List C → Option D) : List C → Out := fun env => match env[i]? with
  | some (.lst ds) => (match fe env with | some d => if ds.length < 16000000 then .nx (env.set i (.lst (ds ++ [d]))) else .err | none => .err)
  | _ => .err
theorem slot_at {K : PySem.W.Frag} {env : List C} {σ : L2.St} {H F : Hp} {fp : Nat → List Addr} {i : Nat} {ds : List D} (R : Rel K G env σ H F fp) (e : env[i]? = some (.lst ds)) : ∃ a vs, fp i = [a] ∧ σ[i]? = some (some (.ref a)) ∧ H a = some (.lst vs) ∧ DFAll K F vs ds := by
  obtain ⟨a, vs, q1, q2, q3, q4⟩ := R.slot i _ e
  cases z : σ[i]? with
  | none => rw [z] at q2; cases q2
  | some o =>
    rw [z] at q2
    have e2 : o = some (.ref a) := q2
    subst e2
    exact ⟨a, vs, q1, rfl, q3, q4⟩
theorem ds_app {x : Str} {p1 p2 p3 : Pos} (i : Nat) (hv : PE X (.Name x p1) (tVar i)) (h : DE X G k e fe) (hk : k.le .fz = true := by rfl) (hs : starEach [e] X.env = [(false, eval e X.env)] := by rfl)
    (hbm : ∀ (r : V → List V → Hp → VK → Prop) (t : TA), MtM X "list.append" r → PA X [e] t → PE X (.Call (.Attribute (.Name x p1) "append" p2) [e] [] p3) (tBM X.K "list" r (tVar i) t) := by exact fun r t hm ha => pe_bm PySem.F.plainAttrs_list PySem.F.slot_list_append PySem.F.type_list_append hm (pv _) ha)
    (hsw : swapsWith (.Call (.Attribute (.Name x p1) "append" p2) [e] [] p3) none pos.line X.env = pure false := by rfl) : DS X G kr (.Expr (.Call (.Attribute (.Name x p1) "append" p2) [e] [] p3) pos) (sApp i fe) := by
  obtain ⟨t, p, o⟩ := (h.conv hk).ex
  refine ⟨_, ps_expr (hbm _ _ mt_append (pa_cons p pa_nil hs)) hsw, fun σ H F fp env E R q => ?_⟩
  unfold sApp at q
  split at q
  · rename_i ds e1
    cases z : fe env with
    | none => simp only [z] at q; exact q.elim
    | some d =>
      simp only [z] at q
      split at q
      · rename_i hlen
        obtain ⟨a, vs, q1, q2, q3, q4⟩ := slot_at R e1
        refine ⟨.ref a, q2, .inl ⟨rfl, _, .inl (.inl q3)⟩, ?_⟩
        refine o σ H F fp env d _ R z fun v H1 F1 E1 r => ?_
        have R1 := R.ext E1
        have q3' := E1.h _ _ q3
        refine ⟨a, vs, v, rfl, rfl, q3', ?_, ?_⟩
        · rw [DFAll_len q4, sizeLine_eq]; omega
        · exact q σ _ F1 fp (R1.write q1 (c := .lst (ds ++ [d])) ⟨a, vs ++ [v], rfl, by rw [q2]; rfl, upd_same, DFAll_app (DFAll_mono E1.f _ _ q4) (.cons r .nil)⟩) E1.f
      · exact q.elim
  · exact q.elim
def setAt (ds : List D) (i : Int) (d : D) : Option (List D) := (ixN ds.length i).map fun j => ds.set j d
def sSetIx (i : Nat) (fi fe : List C → Option D) : List C → Out := fun env => match env[i]? with
  | some (.lst ds) => (match fe env with
    | some d => (match fi env with
      | some (.int j) => (match setAt ds j d with | some ds' => .nx (env.set i (.lst ds')) | none => .err)
      | _ => .err)
    | none => .err)
  | _ => .err
theorem ds_setIx {x : Str} {ei : Expr} {fi : List C → Option D} {k2 : RK} {p1 p2 : Pos} (i : Nat) (hv : PE X (.Name x p1) (tVar i)) (hi : DE X G k2 ei fi) (h : DE X G k e fe) (hk : k.le .fz = true := by rfl) (hk2 : k2.le .vl = true := by rfl)
    (ha : ∀ v, assign (.Subscript (.Name x p1) ei p2) X.env v = (do
      let ov ← holding [v] (eval (.Name x p1) X.env)
      let iv ← holding [v, ov] (eval ei X.env)
      standAt p2
      holding [v, ov, iv] (setItem ov iv v)
      release [v, ov, iv] []) := by intro _; rfl)
    (hs : swapsWithSole [.Subscript (.Name x p1) ei p2] e pos.line X.env = pure false := by rfl) (hw : swappedStores [.Subscript (.Name x p1) ei p2] e X.env = pure none := by rfl)
    (h1 : (assignEach [.Subscript (.Name x p1) ei p2] X.env).map (·.2) = [assign (.Subscript (.Name x p1) ei p2) X.env] := by rfl) : DS X G kr (.Assign [.Subscript (.Name x p1) ei p2] e pos) (sSetIx i fi fe) := by
  obtain ⟨t, p, o⟩ := (h.conv hk).ex
  obtain ⟨ti, pi, oi⟩ := (hi.conv hk2).ex
  refine ⟨_, ps_asg p (pg_sub hv pi set_list ha) hs hw h1, fun σ H F fp env E R q => ?_⟩
  unfold sSetIx at q
  split at q
  · rename_i ds e1
    cases z : fe env with
    | none => simp only [z] at q; exact q.elim
    | some d =>
      simp only [z] at q
      split at q
      · rename_i j ej
        split at q
        · rename_i ds' es
          obtain ⟨a, vs, q1, q2, q3, q4⟩ := slot_at R e1
          refine o σ H F fp env d _ R z fun v H1 F1 E1 r => ?_
          refine ⟨.ref a, q2, ?_⟩
          have R1 := R.ext E1
          refine oi σ H1 F1 fp env _ _ R1 ej fun vi H2 F2 E2 ri => ?_
          have ei := vl_int (G := G) (H := H2) (F := F2) ri
          subst ei
          have R2 := R1.ext E2
          unfold setAt at es
          cases y : ixN ds.length j with
          | none => rw [y] at es; cases es
          | some m =>
            rw [y] at es; cases es
            refine ⟨a, vs, j, m, rfl, rfl, E2.h _ _ (E1.h _ _ q3), by rw [DFAll_len q4]; exact y, ?_⟩
            exact q σ _ F2 fp (R2.write q1 (c := .lst (ds.set m d)) ⟨a, vs.set m v, rfl, by rw [q2]; rfl, upd_same, DFAll_set m (DFAll_mono (E1.f.trans E2.f) _ _ q4) (DF_mono E2.f _ _ r)⟩) (E1.f.trans E2.f)
        · exact q.elim
      · exact q.elim
  · exact q.elim
end
end DL
set_option Elab.async false
set_option linter.all false
set_option maxRecDepth 100000
set_option maxHeartbeats 4000000
namespace DL
open PySem PySem.Spec L2

/-! ### the canonical readings -/
def tD (K : PySem.W.Frag) (G : GC) (k : RK) (f : List C → Option D) : TE := fun σ H Q => ∃ (F : Hp) (fp : Nat → List Addr) (env : List C) (d : D), Rel K G env σ H F fp ∧ f env = some d ∧ ∀ v H' F', Ext H F H' F' → RepK K G k H H' F' v d → Q v H'
def tDT (K : PySem.W.Frag) (G : GC) (f : List C → Option Bool) : TT := fun σ H Q => ∃ (F : Hp) (fp : Nat → List Addr) (env : List C) (b : Bool), Rel K G env σ H F fp ∧ f env = some b ∧ ∀ H' F', Ext H F H' F' → Q b H'
section
variable {X : Cx} {G : GC} {k : RK} {e : Expr} {f : List C → Option D} {ft : List C → Option Bool}
theorem DE.canon (h : DE X G k e f) : PE X e (tD X.K G k f) := by
  obtain ⟨t, p, o⟩ := h.ex
  exact ⟨fun pins s σ H Q I ⟨F, fp, env, d, R, hf, q⟩ => p.run pins s σ H Q I (o σ H F fp env d Q R hf q)⟩
theorem DE.of (h : PE X e (tD X.K G k f)) : DE X G k e f := ⟨_, h, fun σ H F fp env d Q R hf q => ⟨F, fp, env, d, R, hf, q⟩⟩
theorem DTs.canon (h : DTs X G e ft) : PT X e (tDT X.K G ft) := by
  obtain ⟨t, p, o⟩ := h.ex
  exact ⟨fun pins s σ H Q I ⟨F, fp, env, d, R, hf, q⟩ => p.run pins s σ H Q I (o σ H F fp env d Q R hf q)⟩
end

/-! ### targets -/
structure DG (X : Cx) (G : GC) (is : List Nat) (tg : Expr) (f : D → List C → Option (List C)) : Prop where
  ex : ∃ t, PG X tg t ∧ ∀ (σ : L2.St) (H F : Hp) (fp : Nat → List Addr) (env env' : List C) (v : V) (d : D) (Q : L2.St → Hp → Prop), Rel X.K G env σ H F fp → DF X.K F v d → f d env = some env' →
    (∀ σ' fp', Rel X.K G env' σ' H F fp' → (∀ vs, (∀ i, i ∈ is → i ∈ vs) → wipe σ' vs = wipe σ vs) → (∀ j a, a ∈ fp' j → a ∈ fp j) → Q σ' H) → t v σ H Q
structure DGs (X : Cx) (G : GC) (is : List Nat) (tgs : List Expr) (f : List D → List C → Option (List C)) : Prop where
  ex : ∃ t, PGs X tgs t ∧ ∀ (σ : L2.St) (H F : Hp) (fp : Nat → List Addr) (env env' : List C) (vs : List V) (ds : List D) (Q : L2.St → Hp → Prop), Rel X.K G env σ H F fp → DFAll X.K F vs ds → f ds env = some env' →
    (∀ σ' fp', Rel X.K G env' σ' H F fp' → (∀ vs, (∀ i, i ∈ is → i ∈ vs) → wipe σ' vs = wipe σ vs) → (∀ j a, a ∈ fp' j → a ∈ fp j) → Q σ' H) → t vs σ H Q
theorem wipe_set0 (σ : L2.St) (i : Nat) (x : Option V) : ∀ vs : List Nat, (wipe (σ.set i x) vs).set i none = (wipe σ vs).set i none
  | [] => by unfold wipe; rw [List.set_set]
  | v :: vs => by
    unfold wipe
    by_cases h : v = i
    · subst h; rw [List.set_set, List.set_set]; exact wipe_set0 σ v x vs
    · rw [List.set_comm _ _ h, wipe_set0 σ i x vs, List.set_comm _ _ (Ne.symm h)]
theorem wipe_set (σ : L2.St) (i : Nat) (x : Option V) : ∀ vs : List Nat, i ∈ vs → wipe (σ.set i x) vs = wipe σ vs
  | v :: vs, h => by
    unfold wipe
    by_cases e : v = i
    · subst e; exact wipe_set0 σ v x vs
    · rw [wipe_set σ i x vs (by
        rcases List.mem_cons.mp h with z | z
        · exact absurd z.symm e
        · exact z)]
section
variable {X : Cx} {G : GC} {tg : Expr} {tgs : List Expr} {pos : Pos}
def tgN (i : Nat) : D → List C → Option (List C) := fun d env => some (env.set i (.val d))
theorem dg_name {x : Str} (i : Nat) (hN : X.N.Nodup) (hi : X.N[i]? = some x) (hx : Loc X.env.scope x := by first | exact .inl rfl | exact .inr rfl) (hf : X.fn x = true ∨ X.env.scope.names.lookup x = some .local := by first | exact .inl rfl | exact .inr rfl | assumption) :
    DG X G [i] (.Name x pos) (tgN i) := by
  refine ⟨_, pg_name hN hi hx hf, fun σ H F fp env env' v d Q R r hf q => ?_⟩
  cases hf
  refine q _ _ (R.put (i := i) (v := v) (c := .val d) (l := []) ⟨rfl, v, rfl, r⟩ (fun _ m => nomatch m) (fun _ m => nomatch m)) (fun vs h => wipe_set σ i _ vs (h i (List.mem_singleton.mpr rfl))) (fun j a h => ?_)
  by_cases hj : j = i
  · subst hj; rw [fset_at] at h; cases h
  · rw [fset_ne hj] at h; exact h
def tgNil : List D → List C → Option (List C) := fun ds env => match ds with | [] => some env | _ => none
def tgCons (f : D → List C → Option (List C)) (g : List D → List C → Option (List C)) : List D → List C → Option (List C) := fun ds env => match ds with | d :: r => (f d env).bind (g r) | [] => none
theorem dgs_nil : DGs X G [] [] tgNil := by
  refine ⟨_, pgs_nil, fun σ H F fp env env' vs ds Q R r hf q => ?_⟩
  unfold tgNil at hf
  split at hf
  · cases hf; cases r
    exact ⟨rfl, q σ fp R (fun _ _ => rfl) fun _ _ h => h⟩
  · cases hf
theorem dgs_cons {is js : List Nat} {f : D → List C → Option (List C)} {g : List D → List C → Option (List C)} (h : DG X G is tg f) (h2 : DGs X G js tgs g)
    (hs : (assignEach (tg :: tgs) X.env).map (·.2) = assign tg X.env :: (assignEach tgs X.env).map (·.2) := by rfl) : DGs X G (is ++ js) (tg :: tgs) (tgCons f g) := by
  obtain ⟨t, p, o⟩ := h.ex
  obtain ⟨t2, p2, o2⟩ := h2.ex
  refine ⟨_, pgs_cons p p2 hs, fun σ H F fp env env' vs ds Q R r hf q => ?_⟩
  unfold tgCons at hf
  split at hf
  · rename_i d ds
    cases r with
    | cons r1 r2 =>
      cases z : f d env with
      | none => rw [z] at hf; cases hf
      | some env1 =>
        rw [z] at hf
        refine ⟨_, _, rfl, o σ H F fp env env1 _ d _ R r1 z fun σ1 fp1 R1 w1 s1 => ?_⟩
        exact o2 σ1 H F fp1 env1 env' _ ds _ R1 r2 hf fun σ2 fp2 R2 w2 s2 => q σ2 fp2 R2 (fun vs h => (w2 vs fun i hi => h i (List.mem_append_right _ hi)).trans (w1 vs fun i hi => h i (List.mem_append_left _ hi))) fun j a h => s1 j a (s2 j a h)
  · cases hf
def tgT (g : List D → List C → Option (List C)) : D → List C → Option (List C) := fun d env => match d with | .tuple ds => g ds env | _ => none
theorem dg_tup {is : List Nat} {g : List D → List C → Option (List C)} {kk : Nat} (hc : X.calm = true) (h : DGs X G is tgs g) {n : Nat} (hn : (assignEach tgs X.env).length = n := by rfl) (hl : ∀ ds env env', g ds env = some env' → ds.length = n)
    (hst : (assignEach tgs X.env).findIdx? (·.1) = none := by rfl) : DG X G is (.Tuple tgs kk pos) (tgT g) := by
  obtain ⟨t, p, o⟩ := h.ex
  refine ⟨_, pg_tup hc p hn hst, fun σ H F fp env env' v d Q R r hf q => ?_⟩
  unfold tgT at hf
  split at hf
  · cases r with
    | tup h1 h2 =>
      exact ⟨_, _, rfl, Same.seqT R.sub h1, (DFAll_len h2).trans (hl _ _ _ hf), o σ H F fp env env' _ _ Q R h2 hf q⟩
  · cases hf
theorem tgNil_len {ds : List D} {env env' : List C} (h : tgNil ds env = some env') : ds.length = 0 := by
  unfold tgNil at h; split at h
  · rfl
  · cases h
theorem tgCons_len {f : D → List C → Option (List C)} {g : List D → List C → Option (List C)} {n : Nat} (hg : ∀ ds env env', g ds env = some env' → ds.length = n) {ds : List D} {env env' : List C} (h : tgCons f g ds env = some env') : ds.length = n + 1 := by
  unfold tgCons at h; split at h
  · rename_i d r
    cases z : f d env with
    | none => rw [z] at h; cases h
    | some e => rw [z] at h; rw [List.length_cons, hg _ _ _ h]
  · cases h
/-- a target's store as a statement -/
def sAsg (f : D → List C → Option (List C)) (fe : List C → Option D) : List C → Out := fun env => match fe env with | some d => (match f d env with | some e => .nx e | none => .err) | none => .err
theorem ds_asg {is : List Nat} {kr k : RK} {e : Expr} {f : D → List C → Option (List C)} {fe : List C → Option D} (h : DE X G k e fe) (hg : DG X G is tg f) (hk : k.le .fz = true := by rfl) (hs : swapsWithSole [tg] e pos.line X.env = pure false := by rfl) (hw : swappedStores [tg] e X.env = pure none := by rfl)
    (h1 : (assignEach [tg] X.env).map (·.2) = [assign tg X.env] := by rfl) : DS X G kr (.Assign [tg] e pos) (sAsg f fe) := by
  obtain ⟨t, p, o⟩ := (h.conv hk).ex
  obtain ⟨t2, p2, o2⟩ := hg.ex
  refine ⟨_, ps_asg p p2 hs hw h1, fun σ H F fp env E R q => ?_⟩
  unfold sAsg at q
  cases z : fe env with
  | none => simp only [z] at q; exact q.elim
  | some d =>
    simp only [z] at q
    cases z2 : f d env with
    | none => simp only [z2] at q; exact q.elim
    | some e' =>
      simp only [z2] at q
      refine o σ H F fp env d _ R z fun v H1 F1 E1 r => ?_
      exact o2 σ H1 F1 fp env e' v d _ (R.ext E1) r z2 fun σ' fp' R' _ _ => q σ' H1 F1 fp' R' E1.f
/-- a, b = x, y -/
def sPar (i j : Nat) (fs : List C → Option (List D)) : List C → Out := fun env => match fs env with | some [x, y] => .nx ((env.set i (.val x)).set j (.val y)) | _ => .err
theorem ds_par {kr : RK} {x y : Str} {a b : Expr} {ks : List RK} {fs : List C → Option (List D)} {px py pt : Pos} {kt kk2 pt2} (i j : Nat) (hc : X.calm = true) (hN : X.N.Nodup) (hi : X.N[i]? = some x) (hj : X.N[j]? = some y) (ha : DA X G [.fz, .fz] [a, b] fs) (hij : i ≠ j := by decide)
    (hx : X.env.scope.names.lookup x = some .local := by rfl) (hy : X.env.scope.names.lookup y = some .local := by rfl)
    (hw : swappedStores [.Tuple [.Name x px, .Name y py] kt pt] (.Tuple [a, b] kk2 pt2) X.env = pure (some [x, y]) := by rfl)
    (hs : swapsWithSole [.Tuple [.Name x px, .Name y py] kt pt] (.Tuple [a, b] kk2 pt2) pos.line X.env = pure false := by rfl) :
    DS X G kr (.Assign [.Tuple [.Name x px, .Name y py] kt pt] (.Tuple [a, b] kk2 pt2) pos) (sPar i j fs) := by
  obtain ⟨t, p, o⟩ := ha.ex
  refine ⟨_, ps_par hc hN hi hj hij hx hy p hw hs, fun σ H F fp env E R q => ?_⟩
  unfold sPar at q
  split at q
  · rename_i dx dy z
    refine o σ H F fp env _ _ R z fun vs H1 F1 E1 r => ?_
    obtain ⟨v, d, v2, d2, rfl, e, r1, r2⟩ := rep2 r
    cases e
    refine ⟨v, v2, rfl, ?_⟩
    have R1 := (R.ext E1).put (i := i) (v := v) (c := .val dx) (l := []) ⟨rfl, v, rfl, r1⟩ (fun _ m => nomatch m) (fun _ m => nomatch m)
    exact q _ H1 F1 _ (R1.put (i := j) (v := v2) (c := .val dy) (l := []) ⟨rfl, v2, rfl, r2⟩ (fun _ m => nomatch m) (fun _ m => nomatch m)) E1.f
  · exact q.elim
end

/-! ### what is walked -/
theorem pi_len {X : Cx} {tg iter : Expr} {wi : TI} (h : PI X tg iter wi) : PI X tg iter (fun σ H R => wi σ H fun J H' => LenOk X.K H' → R J H') := ⟨fun pins s σ H R I q => thn (h.run pins s σ H _ I q) fun v s1 h1 => thn h1 fun itv s2 ⟨it, fp, tn, J, H', e, I', T, t0, f0, r⟩ => ⟨it, fp, tn, J, H', e, I', T, t0, f0, r fun a xs hx => by
  rcases hx with hx | hx
  · obtain ⟨_, _, _, z⟩ := I'.list hx
    exact z
  · obtain ⟨_, _, _, z⟩ := I'.tuple hx
    exact z⟩⟩
def Walk (K : PySem.W.Frag) (J : It) (items : List D) (F' : Hp) : Prop := ∀ (i : Nat) (H2 F2 : Hp), Same F' F2 → Same F2 H2 →
  (∀ d, items[i]? = some d → J.go i H2 ∧ ∀ x H3, J.yld i H2 x H3 → ∃ F3, Ext H2 F2 H3 F3 ∧ DF K F3 x d) ∧ (items.length ≤ i → J.stop i H2)
structure DI (X : Cx) (G : GC) (tg iter : Expr) (f : List C → Option (List D)) : Prop where
  ex : ∃ wi, PI X tg iter wi ∧ ∀ (σ : L2.St) (H F : Hp) (fp : Nat → List Addr) (env : List C) (items : List D) (R : It → Hp → Prop), Rel X.K G env σ H F fp → f env = some items →
    (∀ J H' F', Ext H F H' F' → Walk X.K J items F' → (LenOk X.K H' → items.length ≤ sizeLine) → R J H') → wi σ H R
section
variable {X : Cx} {G : GC} {tg iter e : Expr} {k : RK} {f : List C → Option D} {fs : List C → Option (List D)} {p pos : Pos} {ks : List RK}
theorem pi_or {wi wi' : TI} (h : PI X tg iter wi) (h' : PI X tg iter wi') : PI X tg iter (fun σ H R => wi σ H R ∨ wi' σ H R) := ⟨fun pins s σ H R I q => by
  rcases q with q | q
  · exact h.run pins s σ H R I q
  · exact h'.run pins s σ H R I q⟩
theorem list_inj {K : PySem.W.Frag} {H : Hp} {a : Addr} {vs ws : List V} (e : H a = some (.lst vs)) (h : Rd H a (.lst ws)) : ws = vs := by
  rcases h with h | ⟨o, h⟩
  · rw [e] at h; cases h; rfl
  · rw [e] at h; cases h
def iSeq (f : List C → Option D) : List C → Option (List D) := fun env => match f env with | some (.list ds) => some ds | some (.tuple ds) => some ds | _ => none
/-- tracked lists or tuples are what they are, where the written part has no object there -/
theorem di_seq (h : DE X G k e f) (hk : k.le .fz = true := by rfl) : DI X G tg e (iSeq f) := by
  obtain ⟨t, p, o⟩ := (h.conv hk).ex
  refine ⟨_, pi_or (pi_list p) (pi_tup p), fun σ H F fp env items R Rl hf q => ?_⟩
  unfold iSeq at hf
  split at hf
  · rename_i ds z
    cases hf
    left
    refine o σ H F fp env _ _ Rl z fun v H1 F1 E1 r => ?_
    cases r with
    | @lst a vs _ h1 h2 =>
      refine ⟨a, rfl, ⟨vs, .inl (.inl (E1.sub _ _ h1))⟩, q _ H1 F1 E1 (fun i H2 F2 s1 s2 => ⟨fun d hd => ?_, fun hl => ?_⟩) (fun ln => by rw [← DFAll_len h2]; exact ln a vs (.inl (.inl (.inl (E1.sub _ _ h1)))))⟩
      · have e2 : H2 a = some (.lst vs) := s2 _ _ (s1 _ _ h1)
        obtain ⟨v, hv, rv⟩ := DFAll_get h2 hd
        refine ⟨⟨vs, v, .inl (.inl e2), hv⟩, fun x H3 ⟨eH, y⟩ => ⟨F2, ?_, ?_⟩⟩
        · subst eH; exact Ext.refl s2
        · have e3 := y vs (.inl (.inl e2))
          rw [hv] at e3; cases e3
          exact DF_mono s1 _ _ rv
      · exact ⟨vs, .inl (.inl (s2 _ _ (s1 _ _ h1))), by rw [DFAll_len h2]; exact hl⟩
  · rename_i ds z
    cases hf
    right
    refine o σ H F fp env _ _ Rl z fun v H1 F1 E1 r => ?_
    cases r with
    | @tup a vs _ h1 h2 =>
      refine ⟨a, rfl, ⟨vs, Same.seqT E1.sub h1⟩, q _ H1 F1 E1 (fun i H2 F2 s1 s2 => ⟨fun d hd => ?_, fun hl => ?_⟩) (fun ln => by rw [← DFAll_len h2]; exact ln a vs (.inr (Same.seqT E1.sub h1)))⟩
      · have e2 : SqT X.K H2 a vs := Same.seqT (s1.trans s2) h1
        obtain ⟨v, hv, rv⟩ := DFAll_get h2 hd
        refine ⟨⟨vs, v, e2, hv⟩, fun x H3 ⟨eH, y⟩ => ⟨F2, ?_, ?_⟩⟩
        · subst eH; exact Ext.refl s2
        · have e3 := y vs e2
          rw [hv] at e3; cases e3
          exact DF_mono s1 _ _ rv
      · exact ⟨vs, Same.seqT (s1.trans s2) h1, by rw [DFAll_len h2]; exact hl⟩
  · cases hf
/-- range -/
def rng (lo : Int) (n : Nat) : List D := (List.range n).map fun i => .int (lo + (i : Nat))
theorem rng_len (lo : Int) (n : Nat) : (rng lo n).length = n := by unfold rng; rw [List.length_map, List.length_range]
theorem walk_rng {K : PySem.W.Frag} {F' : Hp} (lo : Int) (n : Nat) : Walk K (Itr lo n) (rng lo n) F' := fun i H2 F2 s1 s2 => by
  refine ⟨fun d hd => ?_, fun hl => by rw [rng_len] at hl; exact hl⟩
  have hi : i < n := by
    have := (List.getElem?_eq_some_iff.mp hd).1
    rw [rng_len] at this; exact this
  refine ⟨hi, fun x H3 ⟨e, ex⟩ => ⟨F2, by subst e; exact Ext.refl s2, ?_⟩⟩
  unfold rng at hd
  rw [List.getElem?_map, List.getElem?_range hi] at hd
  cases hd
  subst ex
  exact .int _
def iRng1F (f : List C → Option D) : List C → Option (List D) := fun env => match f env with | some (.int j) => if -(2 ^ 62) ≤ j ∧ j ≤ 16777216 then some (rng 0 j.toNat) else none | _ => none
theorem di_range1 (hg : Gl X "range") (hm : X.mg "range" = none) (h : DE X G k e f) (hk : k.le .vl = true := by rfl) (hs : starEach [e] X.env = [(false, eval e X.env)] := by rfl) : DI X G tg (.Call (.Name "range" p) [e] [] pos) (iRng1F f) := by
  obtain ⟨t, pt, o⟩ := (h.conv hk).ex
  refine ⟨_, pi_range1 hg hm (pa_cons pt pa_nil hs) hs, fun σ H F fp env items R Rl hf q => ?_⟩
  unfold iRng1F at hf
  split at hf
  · rename_i j z
    split at hf
    · cases hf
      rename_i hb
      refine o σ H F fp env _ _ Rl z fun v H1 F1 E1 r => ?_
      have ev := vl_int (G := G) (H := H1) (F := F1) r
      subst ev
      exact ⟨j, rfl, hb.1, by omega, q _ H1 F1 E1 (walk_rng 0 _) fun _ => by rw [rng_len, sizeLine_eq]; omega⟩
    · cases hf
  · cases hf
def iRng2F (f g : List C → Option D) : List C → Option (List D) := fun env => match f env with
  | some (.int i) => (match g env with | some (.int j) => if (-(2 ^ 62) ≤ i ∧ i < 2 ^ 62 ∧ -(2 ^ 62) ≤ j ∧ j < 2 ^ 62 ∧ j - i ≤ 16777216) then some (rng i (j - i).toNat) else none | _ => none)
  | _ => none
theorem di_range2 {e2 : Expr} {k2 : RK} {f2 : List C → Option D} (hg : Gl X "range") (hm : X.mg "range" = none) (h : DE X G k e f) (h2 : DE X G k2 e2 f2) (hk : k.le .vl = true := by rfl) (hk2 : k2.le .vl = true := by rfl)
    (hs : starEach [e, e2] X.env = [(false, eval e X.env), (false, eval e2 X.env)] := by rfl) (hs2 : starEach [e2] X.env = [(false, eval e2 X.env)] := by rfl) : DI X G tg (.Call (.Name "range" p) [e, e2] [] pos) (iRng2F f f2) := by
  obtain ⟨t, pt, o⟩ := (h.conv hk).ex
  obtain ⟨t2, pt2, o2⟩ := (h2.conv hk2).ex
  refine ⟨_, pi_range2 hg hm (pa_cons pt (pa_cons pt2 pa_nil hs2) (by rw [hs, hs2])) hs hs2, fun σ H F fp env items R Rl hf q => ?_⟩
  unfold iRng2F at hf
  split at hf
  · rename_i i z
    split at hf
    · rename_i j z2
      split at hf
      · cases hf
        rename_i hb
        refine o σ H F fp env _ _ Rl z fun v H1 F1 E1 r => ?_
        have ev := vl_int (G := G) (H := H1) (F := F1) r
        subst ev
        refine o2 σ H1 F1 fp env _ _ (Rl.ext E1) z2 fun v H2 F2 E2 r => ?_
        have ev := vl_int (G := G) (H := H2) (F := F2) r
        subst ev
        exact ⟨i, j, rfl, ⟨hb.1, hb.2.1, hb.2.2.1, hb.2.2.2.1⟩, q _ H2 F2 (E1.trans E2) (walk_rng i _) fun _ => by rw [rng_len, sizeLine_eq]; omega⟩
      · cases hf
    · cases hf
  · cases hf
/-- range with a step of -1 -/
def rngD (lo : Int) (n : Nat) : List D := (List.range n).map fun i => .int (lo - (i : Nat))
theorem rngD_len (lo : Int) (n : Nat) : (rngD lo n).length = n := by unfold rngD; rw [List.length_map, List.length_range]
def iRngD (f g h : List C → Option D) : List C → Option (List D) := fun env => match f env with
  | some (.int i) => (match g env with | some (.int j) => (match h env with | some (.int (-1)) => if (-(2 ^ 62) ≤ i ∧ i < 2 ^ 62 ∧ -(2 ^ 62) ≤ j ∧ j < 2 ^ 62 ∧ i - j ≤ 16777216) then some (rngD i (i - j).toNat) else none | _ => none) | _ => none)
  | _ => none
theorem di_rangeD {e2 e3 : Expr} {k2 k3 : RK} {f2 f3 : List C → Option D} (hg : Gl X "range") (hm : X.mg "range" = none) (h : DE X G k e f) (h2 : DE X G k2 e2 f2) (h3 : DE X G k3 e3 f3) (hk : k.le .vl = true := by rfl) (hk2 : k2.le .vl = true := by rfl) (hk3 : k3.le .vl = true := by rfl)
    (n1 : starEach [e, e2, e3] X.env = (false, eval e X.env) :: starEach [e2, e3] X.env := by rfl) (n2 : starEach [e2, e3] X.env = (false, eval e2 X.env) :: starEach [e3] X.env := by rfl) (n3 : starEach [e3] X.env = [(false, eval e3 X.env)] := by rfl)
    (pl : ∀ wi, (∀ ta, PA X [e, e2, e3] ta → PI X tg (.Call (.Name "range" p) [e, e2, e3] [] pos) (iRng3 ta)) → wi = True → True := by intros; trivial)
    (pr : ∀ ta, PA X [e, e2, e3] ta → PI X tg (.Call (.Name "range" p) [e, e2, e3] [] pos) (iRng3 ta) := by exact fun ta h => pi_range3 (by assumption) (by assumption) h) : DI X G tg (.Call (.Name "range" p) [e, e2, e3] [] pos) (iRngD f f2 f3) := by
  obtain ⟨t, pt, o⟩ := (h.conv hk).ex
  obtain ⟨t2, pt2, o2⟩ := (h2.conv hk2).ex
  obtain ⟨t3, pt3, o3⟩ := (h3.conv hk3).ex
  refine ⟨_, pr _ (pa_cons pt (pa_cons pt2 (pa_cons pt3 pa_nil n3) n2) n1), fun σ H F fp env items R Rl hf q => ?_⟩
  unfold iRngD at hf
  split at hf
  · rename_i i z
    split at hf
    · rename_i j z2
      split at hf
      · rename_i z3
        split at hf
        · cases hf
          rename_i hb
          refine o σ H F fp env _ _ Rl z fun v H1 F1 E1 r => ?_
          have ev := vl_int (G := G) (H := H1) (F := F1) r
          subst ev
          refine o2 σ H1 F1 fp env _ _ (Rl.ext E1) z2 fun v H2 F2 E2 r => ?_
          have ev := vl_int (G := G) (H := H2) (F := F2) r
          subst ev
          refine o3 σ H2 F2 fp env _ _ ((Rl.ext E1).ext E2) z3 fun v H3 F3 E3 r => ?_
          have ev := vl_int (G := G) (H := H3) (F := F3) r
          subst ev
          refine ⟨i, j, -1, (i - j).toNat, rfl, RgC.neg hb.1 hb.2.1 hb.2.2.1 hb.2.2.2.1, q _ H3 F3 ((E1.trans E2).trans E3) (fun m Hm Fm s1 s2 => ⟨fun d hd => ?_, fun hl => by rw [rngD_len] at hl; exact hl⟩) (fun _ => by rw [rngD_len, sizeLine_eq]; omega)⟩
          have hi : m < (i - j).toNat := by
            have := (List.getElem?_eq_some_iff.mp hd).1
            rw [rngD_len] at this; exact this
          refine ⟨hi, fun x H3 ⟨e, ex⟩ => ⟨Fm, by subst e; exact Ext.refl s2, ?_⟩⟩
          unfold rngD at hd
          rw [List.getElem?_map, List.getElem?_range hi] at hd
          cases hd
          subst ex
          have e9 : i + ((m : Nat) : Int) * -1 = i - (m : Nat) := by omega
          rw [e9]
          exact .int _
        · cases hf
      · cases hf
    · cases hf
  · cases hf
/-- a text, sign by sign -/
def iStrF (f : List C → Option D) : List C → Option (List D) := fun env => match f env with | some (.str z) => if z.length ≤ sizeLine then some (z.cps.toList.map fun c => .str ⟨#[c]⟩) else none | _ => none
theorem di_str (h : DE X G k e f) (hk : k.le .vl = true := by rfl) : DI X G tg e (iStrF f) := by
  obtain ⟨t, p, o⟩ := (h.conv hk).ex
  refine ⟨_, pi_str p, fun σ H F fp env items R Rl hf q => ?_⟩
  unfold iStrF at hf
  split at hf
  · rename_i z ez
    split at hf
    rotate_left
    · cases hf
    rename_i hz
    cases hf
    refine o σ H F fp env _ _ Rl ez fun v H1 F1 E1 r => ?_
    have ev := vl_str (G := G) (H := H1) (F := F1) r
    refine ⟨z, ev, q _ H1 F1 E1 (fun i H2 F2 s1 s2 => ⟨fun d hd => ?_, fun hl => ?_⟩) (fun _ => by rw [List.length_map, Array.length_toList]; exact hz)⟩
    · rw [List.getElem?_map] at hd
      cases y : z.cps.toList[i]? with
      | none => rw [y] at hd; cases hd
      | some c =>
        rw [y] at hd; cases hd
        have hi : i < z.cps.size := by
          have := (List.getElem?_eq_some_iff.mp y).1
          rw [Array.length_toList] at this; exact this
        refine ⟨hi, fun x H3 ⟨e, c', ec, ex⟩ => ⟨F2, by subst e; exact Ext.refl s2, ?_⟩⟩
        subst ex
        rw [← Array.getElem?_toList, y] at ec
        cases ec
        exact .str _
    · rw [List.length_map, Array.length_toList] at hl; exact hl
  · cases hf
/-- enumerate of a list -/
def enumD (ds : List D) : List D := (List.range ds.length).zipWith (fun i d => .tuple [.int (i : Nat), d]) ds
def iEnumF (f : List C → Option D) : List C → Option (List D) := fun env => match f env with | some (.list ds) => some (enumD ds) | _ => none
theorem enumD_get {ds : List D} {i : Nat} {x : D} (h : (enumD ds)[i]? = some x) : ∃ d, ds[i]? = some d ∧ x = .tuple [.int (i : Nat), d] := by
  unfold enumD at h
  rw [List.getElem?_zipWith] at h
  cases z : ds[i]? with
  | none =>
    rw [z] at h
    cases y : (List.range ds.length)[i]? <;> rw [y] at h <;> cases h
  | some d =>
    have hi := (List.getElem?_eq_some_iff.mp z).1
    rw [z, List.getElem?_range hi] at h
    cases h
    exact ⟨d, rfl, rfl⟩
theorem enumD_len (ds : List D) : (enumD ds).length = ds.length := by
  unfold enumD; rw [List.length_zipWith, List.length_range, Nat.min_self]
theorem pair_new {K : PySem.W.Frag} {H F : Hp} {T : Addr} {v w : V} {d1 d2 : D} (sub : Same F H) (nT : H T = none) (r1 : DF K F v d1) (r2 : DF K F w d2) : Ext H F (upd H T (.tup [v, w])) (upd F T (.tup [v, w])) ∧ DF K (upd F T (.tup [v, w])) (.ref T) (.tuple [d1, d2]) := by
  have m : Same F (upd F T (.tup [v, w])) := fun b x e => by rw [upd_ne (ne_of_none e (sub.free nT))]; exact e
  exact ⟨Ext.frozen sub nT, .tup (.inl (.inl upd_same)) (.cons (DF_mono m _ _ r1) (.cons (DF_mono m _ _ r2) .nil))⟩
theorem di_enum {elts : List Expr} {kk : Nat} {tpos : Pos} (hg : Gl X "enumerate") (hm : X.mg "enumerate" = none) (h : DE X G k e f) (hk : k.le .fz = true := by rfl) (hs : starEach [e] X.env = [(false, eval e X.env)] := by rfl) :
    DI X G (.Tuple elts kk tpos) (.Call (.Name "enumerate" p) [e] [] pos) (iEnumF f) := by
  obtain ⟨t, pt, o⟩ := (h.conv hk).ex
  refine ⟨_, pi_enum hg hm (pa_cons pt pa_nil hs) hs, fun σ H F fp env items R Rl hf q => ?_⟩
  unfold iEnumF at hf
  split at hf
  · rename_i ds z
    cases hf
    refine o σ H F fp env _ _ Rl z fun v H1 F1 E1 r => ?_
    cases r with
    | @lst a vs _ h1 h2 =>
      refine ⟨a, vs, rfl, .inl (.inl (E1.sub _ _ h1)), q _ H1 F1 E1 (fun i H2 F2 s1 s2 => ⟨fun d hd => ?_, fun hl => ?_⟩) (fun ln => by rw [enumD_len, ← DFAll_len h2]; exact ln a vs (.inl (.inl (.inl (E1.sub _ _ h1)))))⟩
      · have e2 : H2 a = some (.lst vs) := s2 _ _ (s1 _ _ h1)
        obtain ⟨d', hd', rfl⟩ := enumD_get hd
        obtain ⟨v, hv, rv⟩ := DFAll_get h2 hd'
        refine ⟨⟨vs, v, .inl (.inl e2), hv⟩, fun x H3 ⟨T, x', ex, nT, eH, y⟩ => ?_⟩
        have e3 := y vs (.inl (.inl e2))
        rw [hv] at e3; cases e3
        subst ex eH
        obtain ⟨E, r'⟩ := pair_new s2 nT (.int (i : Nat)) (DF_mono s1 _ _ rv)
        exact ⟨_, E, r'⟩
      · rw [enumD_len] at hl
        exact ⟨vs, .inl (.inl (s2 _ _ (s1 _ _ h1))), by rw [DFAll_len h2]; exact hl⟩
  · cases hf
/-- zip of two lists, of two tuples -/
def zipD : List D → List D → List D := List.zipWith fun x y => .tuple [x, y]
def iZipF (f g : List C → Option D) : List C → Option (List D) := fun env => match f env with
  | some (.list xs) => (match g env with | some (.list ys) => some (zipD xs ys) | _ => none)
  | some (.tuple xs) => (match g env with | some (.tuple ys) => some (zipD xs ys) | _ => none)
  | _ => none
theorem zipD_get {xs ys : List D} {i : Nat} {x : D} (h : (zipD xs ys)[i]? = some x) : ∃ a b, xs[i]? = some a ∧ ys[i]? = some b ∧ x = .tuple [a, b] := by
  unfold zipD at h
  rw [List.getElem?_zipWith] at h
  cases z : xs[i]? with
  | none => rw [z] at h; cases h
  | some a =>
    cases y : ys[i]? with
    | none => rw [z, y] at h; cases h
    | some b => rw [z, y] at h; cases h; exact ⟨a, b, rfl, rfl, rfl⟩
theorem zipD_len (xs ys : List D) : (zipD xs ys).length = min xs.length ys.length := List.length_zipWith
end
end DL
set_option Elab.async false
set_option linter.all false
set_option maxRecDepth 100000
set_option maxHeartbeats 4000000
namespace DL
open PySem PySem.Spec L2

section
variable {X : Cx} {G : GC} {tg iter e e2 elt : Expr} {k k2 kr : RK} {f f2 fe : List C → Option D} {fs : List C → Option (List D)} {p pos : Pos} {body : List Stmt} {fb : List C → Out} {ft : List C → Option Bool}
theorem di_zip {elts : List Expr} {kk : Nat} {tpos : Pos} (hg : Gl X "zip") (hm : X.mg "zip" = none) (h : DE X G k e f) (h2 : DE X G k2 e2 f2) (hk : k.le .fz = true := by rfl) (hk2 : k2.le .fz = true := by rfl)
    (hs : starEach [e, e2] X.env = (false, eval e X.env) :: starEach [e2] X.env := by rfl) (hs2 : starEach [e2] X.env = [(false, eval e2 X.env)] := by rfl) (hpl : (backTo pos (starEach [e2] X.env)).any (·.1) = false := by rfl) :
    DI X G (.Tuple elts kk tpos) (.Call (.Name "zip" p) [e, e2] [] pos) (iZipF f f2) := by
  obtain ⟨t, pt, o⟩ := (h.conv hk).ex
  obtain ⟨t2, pt2, o2⟩ := (h2.conv hk2).ex
  refine ⟨_, RZ.pi_zipA hg hm (pa_cons pt (pa_cons pt2 pa_nil hs2) hs) hs hpl, fun σ H F fp env items R Rl hf q => ?_⟩
  unfold iZipF at hf
  split at hf
  · rename_i xs z
    split at hf
    · rename_i ys z2
      cases hf
      refine o σ H F fp env _ _ Rl z fun v H1 F1 E1 r => ?_
      refine o2 σ H1 F1 fp env _ _ (Rl.ext E1) z2 fun v2 H2 F2 E2 r2 => ?_
      cases DF_mono E2.f _ _ r with
      | @lst a vs _ h1 h2 =>
        cases r2 with
        | @lst b ws _ h3 h4 =>
          refine ⟨a, b, vs, ws, rfl, .inl ⟨.inl (.inl (E2.sub _ _ h1)), .inl (.inl (E2.sub _ _ h3)), q _ H2 F2 (E1.trans E2) (fun i H3 F3 s1 s2 => ⟨fun d hd => ?_, fun hl => ?_⟩) (fun ln => by have z9 := ln a vs (.inl (.inl (.inl (E2.sub _ _ h1)))); rw [DFAll_len h2] at z9; rw [zipD_len]; omega)⟩⟩
          · obtain ⟨d1, d2, g1, g2, rfl⟩ := zipD_get hd
            obtain ⟨v, hv, rv⟩ := DFAll_get h2 g1
            obtain ⟨w, hw, rw'⟩ := DFAll_get h4 g2
            have ea : SqL X.K H3 a vs := .inl (.inl (s2 _ _ (s1 _ _ h1)))
            have eb : SqL X.K H3 b ws := .inl (.inl (s2 _ _ (s1 _ _ h3)))
            refine ⟨⟨vs, ws, v, w, ea, eb, hv, hw⟩, fun x H4 ⟨T, x1, x2, ex, nT, eH, y1, y2⟩ => ?_⟩
            have z1 := y1 vs ea; rw [hv] at z1; cases z1
            have z2 := y2 ws eb; rw [hw] at z2; cases z2
            subst ex eH
            obtain ⟨E, r'⟩ := pair_new s2 nT (DF_mono s1 _ _ rv) (DF_mono s1 _ _ rw')
            exact ⟨_, E, r'⟩
          · rw [zipD_len] at hl
            refine ⟨vs, ws, .inl (.inl (s2 _ _ (s1 _ _ h1))), .inl (.inl (s2 _ _ (s1 _ _ h3))), ?_⟩
            rw [DFAll_len h2, DFAll_len h4]; omega
    · cases hf
  · rename_i xs z
    split at hf
    · rename_i ys z2
      cases hf
      refine o σ H F fp env _ _ Rl z fun v H1 F1 E1 r => ?_
      refine o2 σ H1 F1 fp env _ _ (Rl.ext E1) z2 fun v2 H2 F2 E2 r2 => ?_
      cases DF_mono E2.f _ _ r with
      | @tup a vs _ h1 h2 =>
        cases r2 with
        | @tup b ws _ h3 h4 =>
          refine ⟨a, b, vs, ws, rfl, .inr ⟨Same.seqT E2.sub h1, Same.seqT E2.sub h3, q _ H2 F2 (E1.trans E2) (fun i H3 F3 s1 s2 => ⟨fun d hd => ?_, fun hl => ?_⟩) (fun ln => by have z9 := ln a vs (.inr (Same.seqT E2.sub h1)); rw [DFAll_len h2] at z9; rw [zipD_len]; omega)⟩⟩
          · obtain ⟨d1, d2, g1, g2, rfl⟩ := zipD_get hd
            obtain ⟨v, hv, rv⟩ := DFAll_get h2 g1
            obtain ⟨w, hw, rw'⟩ := DFAll_get h4 g2
            have ea : SqT X.K H3 a vs := Same.seqT (s1.trans s2) h1
            have eb : SqT X.K H3 b ws := Same.seqT (s1.trans s2) h3
            refine ⟨⟨vs, ws, v, w, ea, eb, hv, hw⟩, fun x H4 ⟨T, x1, x2, ex, nT, eH, y1, y2⟩ => ?_⟩
            have z1 := y1 vs ea; rw [hv] at z1; cases z1
            have z2 := y2 ws eb; rw [hw] at z2; cases z2
            subst ex eH
            obtain ⟨E, r'⟩ := pair_new s2 nT (DF_mono s1 _ _ rv) (DF_mono s1 _ _ rw')
            exact ⟨_, E, r'⟩
          · rw [zipD_len] at hl
            refine ⟨vs, ws, Same.seqT (s1.trans s2) h1, Same.seqT (s1.trans s2) h3, ?_⟩
            rw [DFAll_len h2, DFAll_len h4]; omega
    · cases hf
  · cases hf

/-! ### for -/
def forF (g : D → List C → Option (List C)) (b : List C → Out) : List D → List C → Out
  | [], env => .nx env
  | d :: ds, env => match g d env with
    | none => .err
    | some e => match b e with
      | .nx e' => forF g b ds e'
      | .ct e' => forF g b ds e'
      | .bk e' => .nx e'
      | .rt d => .rt d
      | .err => .err
def sFor (fi : List C → Option (List D)) (g : D → List C → Option (List C)) (b : List C → Out) : List C → Out := fun env => match fi env with | some items => forF g b items env | none => .err
theorem ds_for {is : List Nat} {fi : List C → Option (List D)} {g : D → List C → Option (List C)} (hp : PassesOwn (model X.prog X.w) X.A X.env X.xe) (hc : X.calm = true) (hi : DI X G tg iter fi) (hg : DG X G is tg g) (hb : DSs X G kr body fb)
    (hs : ∀ x, foldedSetIterable iter X.env x = pure x := by intro _; rfl) : DS X G kr (.For tg iter body [] pos) (sFor fi g fb) := by
  obtain ⟨wi, pw, ow⟩ := hi.ex
  obtain ⟨tg', pg, og⟩ := hg.ex
  obtain ⟨tb, pb, ob⟩ := hb.ex
  refine ⟨_, ps_for hp hc pw pg pb hs, fun σ H F fp env E R q => ?_⟩
  unfold sFor at q
  cases z : fi env with
  | none => rw [z] at q; exact q.elim
  | some items =>
    rw [z] at q
    refine ow σ H F fp env items _ R z fun J H1 F1 E1 wk _ => ?_
    refine ⟨fun i m σ H => m = items.length - i ∧ i ≤ items.length ∧ ∃ env fp F, Rel X.K G env σ H F fp ∧ Same F1 F ∧ Post X.K G kr F E (forF g fb (items.drop i) env), ⟨items.length, by simp, Nat.zero_le _, env, fp, F1, R.ext E1, Same.refl _, Post.mono E1.f (by rw [List.drop_zero]; exact q)⟩, ?_⟩
    rintro i m σ2 H2 ⟨rfl, hi, env2, fp2, F2, R2, s2, q2⟩
    obtain ⟨w1, w2⟩ := wk i H2 F2 s2 R2.sub
    by_cases hlt : i < items.length
    · right
      obtain ⟨d, hd⟩ : ∃ d, items[i]? = some d := ⟨items[i], List.getElem?_eq_getElem hlt⟩
      obtain ⟨go, y⟩ := w1 d hd
      have ed : items.drop i = d :: items.drop (i + 1) := by
        rw [List.drop_eq_getElem_cons hlt]
        rw [List.getElem?_eq_getElem hlt] at hd; cases hd; rfl
      rw [ed] at q2
      unfold forF at q2
      refine ⟨go, fun σ' H' => ∃ env' fp' F', Rel X.K G env' σ' H' F' fp' ∧ Same F1 F' ∧ Post X.K G kr F' E (forF g fb (items.drop (i + 1)) env'), fun σ' H' n => ⟨items.length - (i + 1), by omega, rfl, hlt, n⟩, fun x H3 yl => ?_⟩
      obtain ⟨F3, E3, r3⟩ := y x H3 yl
      have R3 := R2.ext E3
      cases z2 : g d env2 with
      | none => simp only [z2] at q2; exact q2.elim
      | some e' =>
        simp only [z2] at q2
        refine og σ2 H3 F3 fp2 env2 e' x d _ R3 r3 z2 fun σ4 fp4 R4 _ _ => ?_
        refine ob σ4 H3 F3 fp4 e' _ R4 ?_
        cases z3 : fb e' with
        | nx e'' =>
          simp only [z3] at q2
          exact fun σ5 H5 F5 fp5 R5 s5 => ⟨e'', fp5, F5, R5, (s2.trans E3.f).trans s5, Post.mono (E3.f.trans s5) q2⟩
        | ct e'' =>
          simp only [z3] at q2
          exact fun σ5 H5 F5 fp5 R5 s5 => ⟨e'', fp5, F5, R5, (s2.trans E3.f).trans s5, Post.mono (E3.f.trans s5) q2⟩
        | bk e'' =>
          simp only [z3] at q2
          exact fun σ5 H5 F5 fp5 R5 s5 => q2 σ5 H5 F5 fp5 R5 (E3.f.trans s5)
        | rt d' => simp only [z3] at q2; exact q2
        | err => simp only [z3] at q2; exact q2
    · left
      have ei : i = items.length := by omega
      subst ei
      rw [List.drop_length] at q2
      exact ⟨w2 (Nat.le_refl _), q2 σ2 H2 F2 fp2 R2 (Same.refl _)⟩
/-! ### while, so many turns at most -/
def whileF (c : List C → Option Bool) (b : List C → Out) : Nat → List C → Out
  | 0, _ => .err
  | n + 1, env => match c env with
    | none => .err
    | some false => .nx env
    | some true => match b env with
      | .nx e' => whileF c b n e'
      | .ct e' => whileF c b n e'
      | .bk e' => .nx e'
      | .rt d => .rt d
      | .err => .err
def sWhile (fuel : List C → Nat) (c : List C → Option Bool) (b : List C → Out) : List C → Out := fun env => whileF c b (fuel env) env
theorem ds_while (fuel : List C → Nat) (hp : PassesOwn (model X.prog X.w) X.A X.env X.xe) (hc : DTs X G e ft) (hb : DSs X G kr body fb) : DS X G kr (.While e body [] pos) (sWhile fuel ft fb) := by
  obtain ⟨tc, pc, oc⟩ := hc.ex
  obtain ⟨tb, pb, ob⟩ := hb.ex
  refine ⟨_, ps_while hp pc pb, fun σ H F fp env E R q => ?_⟩
  unfold sWhile at q
  refine ⟨fun m σ H => ∃ env fp F, Rel X.K G env σ H F fp ∧ Post X.K G kr F E (whileF ft fb m env), ⟨fuel env, env, fp, F, R, q⟩, ?_⟩
  rintro m σ2 H2 ⟨env2, fp2, F2, R2, q2⟩
  cases m with
  | zero => exact q2.elim
  | succ m =>
    unfold whileF at q2
    cases z : ft env2 with
    | none => simp only [z] at q2; exact q2.elim
    | some b =>
      refine oc σ2 H2 F2 fp2 env2 b _ R2 z fun H3 F3 E3 => ?_
      have R3 := R2.ext E3
      cases b with
      | false =>
        simp only [z] at q2
        exact iteF (q2 σ2 H3 F3 fp2 R3 E3.f)
      | true =>
        simp only [z] at q2
        refine iteT ⟨fun σ' H' => ∃ env' fp' F', Rel X.K G env' σ' H' F' fp' ∧ Post X.K G kr F' E (whileF ft fb m env'), fun σ' H' n => ⟨m, Nat.lt_succ_self m, n⟩, ?_⟩
        refine ob σ2 H3 F3 fp2 env2 _ R3 ?_
        cases z3 : fb env2 with
        | nx e'' =>
          simp only [z3] at q2
          exact fun σ5 H5 F5 fp5 R5 s5 => ⟨e'', fp5, F5, R5, Post.mono (E3.f.trans s5) q2⟩
        | ct e'' =>
          simp only [z3] at q2
          exact fun σ5 H5 F5 fp5 R5 s5 => ⟨e'', fp5, F5, R5, Post.mono (E3.f.trans s5) q2⟩
        | bk e'' =>
          simp only [z3] at q2
          exact fun σ5 H5 F5 fp5 R5 s5 => q2 σ5 H5 F5 fp5 R5 (E3.f.trans s5)
        | rt d' => simp only [z3] at q2; exact q2
        | err => simp only [z3] at q2; exact q2

/-! ### comprehensions -/
def wipeE (env : List C) : List Nat → List C
  | [] => env
  | v :: vs => (wipeE env vs).set v .und
theorem Rel.drop2 {K : PySem.W.Frag} {env : List C} {σ : L2.St} {H F : Hp} {fp : Nat → List Addr} (R : Rel K G env σ H F fp) (i : Nat) : Rel K G (env.set i .und) (σ.set i none) H F (fset fp i []) where
  len := by rw [List.length_set, List.length_set]; exact R.len
  slot := fun j c' e => by
    by_cases hj : j = i
    · subst hj
      rw [fset_at]
      by_cases hl : j < env.length
      · rw [List.getElem?_set_self hl] at e; cases e; rfl
      · rw [List.getElem?_eq_none (by rw [List.length_set]; omega)] at e; cases e
    · rw [List.getElem?_set_ne (Ne.symm hj)] at e
      rw [fset_ne hj, List.getElem?_set_ne (Ne.symm hj)]
      exact R.slot j c' e
  dj := (R.drop i).dj
  own := (R.drop i).own
  sub := R.sub
  new := R.new
  old := R.old
  keep := R.keep
  alive := R.alive
theorem Rel.wiped {K : PySem.W.Frag} {env : List C} {σ : L2.St} {H F : Hp} {fp : Nat → List Addr} (R : Rel K G env σ H F fp) : ∀ vs : List Nat, ∃ fp', Rel K G (wipeE env vs) (wipe σ vs) H F fp' ∧ ∀ j a, a ∈ fp' j → a ∈ fp j
  | [] => ⟨fp, R, fun _ _ h => h⟩
  | v :: vs => by
    obtain ⟨fp', R', s⟩ := R.wiped vs
    refine ⟨_, R'.drop2 v, fun j a h => ?_⟩
    by_cases hj : j = v
    · subst hj; rw [fset_at] at h; cases h
    · rw [fset_ne hj] at h; exact s j a h
/-- an object that is neither frozen nor a slot's is written -/
theorem Rel.updD {K : PySem.W.Frag} {env : List C} {σ : L2.St} {H F : Hp} {fp : Nat → List Addr} {p : Addr} {o : HO} (R : Rel K G env σ H F fp) (hp : ∀ j, p ∉ fp j) (hF : F p = none) (h0 : G.H0 p = none) : Rel K G env σ (upd H p o) F fp where
  len := R.len
  slot := fun j c' e => by
    have q := R.slot j c' e
    have na : ∀ b, fp j = [b] → b ≠ p := fun b z y => hp j (by rw [z, y]; exact List.mem_singleton.mpr rfl)
    cases c' with
    | und => exact q
    | val d => exact q
    | brw d => exact q
    | lst ds => obtain ⟨b, vs, q1, q2, q3, q4⟩ := q; exact ⟨b, vs, q1, q2, by rw [upd_ne (na b q1)]; exact q3, q4⟩
    | dK ds => obtain ⟨b, vs, q1, q2, q3, q4⟩ := q; exact ⟨b, vs, q1, q2, by rw [upd_ne (na b q1)]; exact q3, q4⟩
    | dT ds => obtain ⟨b, vs, q1, q2, q3, q4⟩ := q; exact ⟨b, vs, q1, q2, by rw [upd_ne (na b q1)]; exact q3, q4⟩
  dj := R.dj
  own := fun j b hb => by
    obtain ⟨g1, g2, g3⟩ := R.own j b hb
    refine ⟨g1, ?_, g3⟩
    by_cases hb' : b = p
    · rw [hb', upd_same]; intro z; cases z
    · rw [upd_ne hb']; exact g2
  sub := fun b u e => by rw [upd_ne (fun z => by rw [z, hF] at e; cases e)]; exact R.sub b u e
  new := R.new
  old := R.old
  keep := fun b u e hw => by
    rw [upd_ne (fun z => by rw [z, h0] at e; cases e)]; exact R.keep b u e hw
  alive := fun b e => by
    by_cases hb' : b = p
    · rw [hb', upd_same]; intro z; cases z
    · rw [upd_ne hb']; exact R.alive b e
theorem wipe_wipe (σ : L2.St) : ∀ vs : List Nat, wipe (wipe σ vs) vs = wipe σ vs
  | [] => rfl
  | v :: vs => by
    show (wipe ((wipe σ vs).set v none) vs).set v none = (wipe σ vs).set v none
    rw [wipe_set0, wipe_wipe σ vs]
def lcF (g : D → List C → Option (List C)) (tt : List C → Option Bool) (fe : List C → Option D) (env : List C) : List D → Option (List D)
  | [] => some []
  | d :: ds => (g d env).bind fun e => (tt e).bind fun b => if b = true then (fe e).bind fun y => (lcF g tt fe env ds).map (y :: ·) else lcF g tt fe env ds
def eLc (vs : List Nat) (fi : List C → Option (List D)) (g : D → List C → Option (List C)) (tt : List C → Option Bool) (fe : List C → Option D) : List C → Option D := fun env => (fi env).bind fun items => (lcF g tt fe (wipeE env vs) items).map .list
def tgD (K : PySem.W.Frag) (G : GC) (is : List Nat) (f : D → List C → Option (List C)) : TG := fun v σ H Q => ∃ (F : Hp) (fp : Nat → List Addr) (env env' : List C) (d : D), Rel K G env σ H F fp ∧ DF K F v d ∧ f d env = some env' ∧
  ∀ σ' fp', Rel K G env' σ' H F fp' → (∀ vs, (∀ i, i ∈ is → i ∈ vs) → wipe σ' vs = wipe σ vs) → (∀ j a, a ∈ fp' j → a ∈ fp j) → Q σ' H
theorem DG.canon {is : List Nat} {f : D → List C → Option (List C)} (h : DG X G is tg f) : PG X tg (tgD X.K G is f) := by
  obtain ⟨t, p, o⟩ := h.ex
  exact ⟨fun pins s σ H v u Q I r ⟨F, fp, env, env', d, R, rd, hf, q⟩ => p.run pins s σ H v u Q I r (o σ H F fp env env' v d Q R rd hf q)⟩
/-- no test, or one -/
structure DIf (X : Cx) (G : GC) (ifs : List Expr) (f : List C → Option Bool) : Prop where
  run : PTs X ifs (tDT X.K G f)
theorem dif_nil : DIf X G [] (fun _ => some true) := ⟨⟨fun pins s σ H Q I ⟨F, fp, env, b, R, hf, q⟩ => pts_nil.run pins s σ H Q I (by cases hf; exact q H F (Ext.refl R.sub))⟩⟩
theorem dif_one {c : Expr} (h : DTs X G c ft) : DIf X G [c] ft := ⟨pts_one h.canon⟩
theorem lc_ok {wi : TI} {is vs : List Nat} {fi : List C → Option (List D)} {g : D → List C → Option (List C)} (ow : ∀ (σ : L2.St) (H F : Hp) (fp : Nat → List Addr) (env : List C) (items : List D) (R : It → Hp → Prop), Rel X.K G env σ H F fp → fi env = some items →
    (∀ J H' F', Ext H F H' F' → Walk X.K J items F' → (LenOk X.K H' → items.length ≤ sizeLine) → R J H') → wi σ H R) (hi : ∀ i, i ∈ is → i ∈ vs) {σ : L2.St} {H F : Hp} {fp : Nat → List Addr} {env : List C} {d : D} {Q : VK} (R : Rel X.K G env σ H F fp) (hf : eLc vs fi g ft fe env = some d)
    (q : ∀ v H' F', Ext H F H' F' → RepK X.K G .ow H H' F' v d → Q v H') : tLc (fun σ H R => wi σ H fun J H' => LenOk X.K H' → R J H') (tgD X.K G is g) (tDT X.K G ft) (tD X.K G .fz fe) vs σ H Q := by
  unfold eLc at hf
  cases z : fi env with
  | none => rw [z] at hf; cases hf
  | some items =>
    rw [z] at hf
    cases z2 : lcF g ft fe (wipeE env vs) items with
    | none =>
      rw [show (some items : Option (List D)).bind (fun items => (lcF g ft fe (wipeE env vs) items).map PyData.list) = (lcF g ft fe (wipeE env vs) items).map PyData.list from rfl, z2] at hf
      cases hf
    | some res =>
      rw [show (some items : Option (List D)).bind (fun items => (lcF g ft fe (wipeE env vs) items).map PyData.list) = (lcF g ft fe (wipeE env vs) items).map PyData.list from rfl, z2] at hf
      cases hf
      refine ow σ H F fp env items _ R z fun J H1 F1 E1 wk lnw ln p np => ?_
      have hline := lnw ln
      have R1 := R.ext E1
      obtain ⟨fpw, Rw, sw⟩ := R1.wiped vs
      have pfp : ∀ j, p ∉ fpw j := fun j hm => (Rw.own j p hm).2.1 np
      have h0p : G.H0 p = none := R1.h0 np
      have f1p : F1 p = none := R1.sub.free np
      refine ⟨fun i m Hc => m = items.length - i ∧ i ≤ items.length ∧ ∃ Fc acc vs' rest, Rel X.K G (wipeE env vs) (wipe σ vs) Hc Fc fpw ∧ Same H1 Hc ∧ Same F1 Fc ∧ (∀ a o, Fc a = some o → F1 a = some o ∨ H1 a = none) ∧ Hc p = some (.lst vs') ∧ Fc p = none ∧ DFAll X.K Fc vs' acc ∧ lcF g ft fe (wipeE env vs) (items.drop i) = some rest ∧ acc ++ rest = res ∧ acc.length + rest.length ≤ i + rest.length ∧ vs'.length ≤ i,
        ⟨items.length, by simp, Nat.zero_le _, F1, [], [], res, Rw.updD pfp f1p h0p, fun b x e => by rw [upd_ne (ne_of_none e np)]; exact e, Same.refl _, fun _ _ e => .inl e, upd_same, f1p, .nil, by rw [List.drop_zero]; exact z2, rfl, by simp, Nat.le_refl _⟩, ?_⟩
      rintro i m Hc ⟨rfl, hile, Fc, acc, vs', rest, Rc, sH, sF, nF, hp, fpn, dacc, hrest, hres, hle, hvl⟩
      obtain ⟨w1, w2⟩ := wk i Hc Fc sF Rc.sub
      by_cases hlt : i < items.length
      · right
        obtain ⟨dd, hd⟩ : ∃ d, items[i]? = some d := ⟨items[i], List.getElem?_eq_getElem hlt⟩
        obtain ⟨go, y⟩ := w1 dd hd
        have ed : items.drop i = dd :: items.drop (i + 1) := by
          rw [List.drop_eq_getElem_cons hlt]
          rw [List.getElem?_eq_getElem hlt] at hd; cases hd; rfl
        rw [ed] at hrest
        unfold lcF at hrest
        cases z3 : g dd (wipeE env vs) with
        | none => rw [z3] at hrest; cases hrest
        | some e' =>
          rw [z3] at hrest
          have hrest : ((ft e').bind fun b => if b = true then (fe e').bind fun y => (lcF g ft fe (wipeE env vs) (items.drop (i + 1))).map (y :: ·) else lcF g ft fe (wipeE env vs) (items.drop (i + 1))) = some rest := hrest
          cases z4 : ft e' with
          | none => rw [z4] at hrest; cases hrest
          | some b =>
            rw [z4] at hrest
            have hrest : (if b = true then (fe e').bind fun y => (lcF g ft fe (wipeE env vs) (items.drop (i + 1))).map (y :: ·) else lcF g ft fe (wipeE env vs) (items.drop (i + 1))) = some rest := hrest
            refine ⟨go, fun H' => i + 1 ≤ items.length ∧ ∃ Fc acc vs' rest, Rel X.K G (wipeE env vs) (wipe σ vs) H' Fc fpw ∧ Same H1 H' ∧ Same F1 Fc ∧ (∀ a o, Fc a = some o → F1 a = some o ∨ H1 a = none) ∧ H' p = some (.lst vs') ∧ Fc p = none ∧ DFAll X.K Fc vs' acc ∧ lcF g ft fe (wipeE env vs) (items.drop (i + 1)) = some rest ∧ acc ++ rest = res ∧ acc.length + rest.length ≤ i + 1 + rest.length ∧ vs'.length ≤ i + 1,
              fun H' n => ⟨items.length - (i + 1), by omega, rfl, n⟩, fun x H3 yl => ?_⟩
            obtain ⟨F3, E3, r3⟩ := y x H3 yl
            have R3 := Rc.ext E3
            refine ⟨F3, fpw, _, e', dd, R3, r3, z3, fun σ4 fp4 R4 w4 s4 => ⟨w4 vs hi |>.trans ?_, ?_⟩⟩
            · exact wipe_wipe σ vs
            refine ⟨F3, fp4, e', b, R4, z4, fun H5 F5 E5 => ?_⟩
            have back : ∀ {H F}, Ext H3 F3 H F → Rel X.K G (wipeE env vs) (wipe σ vs) H F fpw := fun E => R3.ext E
            have fz : ∀ {H F}, Ext Hc Fc H F → F p = none := fun {H F} E => by
              cases q9 : F p with
              | none => rfl
              | some o =>
                rcases E.new p o q9 with z9 | z9
                · rw [fpn] at z9; cases z9
                · rw [hp] at z9; cases z9
            have nf : ∀ {H F}, Ext Hc Fc H F → ∀ a o, F a = some o → F1 a = some o ∨ H1 a = none := fun {H F} E a o e => by
              rcases E.new a o e with z9 | z9
              · exact nF a o z9
              · exact .inr (sH.free z9)
            cases b with
            | false =>
              simp only [Bool.false_eq_true, if_false] at hrest
              refine iteF ⟨hlt, F5, acc, vs', rest, back E5, sH.trans (E3.h.trans E5.h), sF.trans (E3.f.trans E5.f), nf (E3.trans E5), E5.h _ _ (E3.h _ _ hp), fz (E3.trans E5), DFAll_mono (E3.f.trans E5.f) _ _ dacc, hrest, hres, by omega, by omega⟩
            | true =>
              simp only [if_true] at hrest
              refine iteT ?_
              cases z5 : fe e' with
              | none => rw [z5] at hrest; cases hrest
              | some yv =>
                rw [z5] at hrest
                have hrest : ((lcF g ft fe (wipeE env vs) (items.drop (i + 1))).map (yv :: ·)) = some rest := hrest
                cases z6 : lcF g ft fe (wipeE env vs) (items.drop (i + 1)) with
                | none => rw [z6] at hrest; cases hrest
                | some rest' =>
                  rw [z6] at hrest; cases hrest
                  refine ⟨F5, fp4, e', yv, R4.ext E5, z5, fun v H6 F6 E6 r6 => ?_⟩
                  have E36 := E5.trans E6
                  refine ⟨vs', E6.h _ _ (E5.h _ _ (E3.h _ _ hp)), ?_, hlt, F6, acc ++ [yv], vs' ++ [v], rest', (back E36).updD pfp (fz (E3.trans E36)) h0p, ?_, sF.trans (E3.f.trans E36.f), nf (E3.trans E36), upd_same, fz (E3.trans E36), DFAll_app (DFAll_mono (E3.f.trans E36.f) _ _ dacc) (.cons r6 .nil), rfl, by rw [← hres]; simp, by simp only [List.length_append, List.length_cons, List.length_nil] at hle ⊢; omega, by rw [List.length_append]; simp; omega⟩
                  · omega
                  · intro b x e
                    rw [upd_ne (ne_of_none e np)]
                    exact E36.h _ _ (E3.h _ _ (sH _ _ e))
      · left
        have ei : i = items.length := by omega
        subst ei
        rw [List.drop_length] at hrest
        cases hrest
        rw [List.append_nil] at hres
        subst hres
        refine ⟨w2 (Nat.le_refl _), q _ Hc Fc ⟨E1.h.trans sH, E1.f.trans sF, Rc.sub, fun a o e => ?_⟩ ⟨p, vs', acc, rfl, rfl, E1.h.free np, hp, fpn, dacc⟩⟩
        rcases nF a o e with z9 | z9
        · exact E1.new a o z9
        · exact .inr (E1.h.free z9)
theorem d_lc {is : List Nat} {fi : List C → Option (List D)} {g : D → List C → Option (List C)} {ifs : List Expr} {scope : Scope} (own : List (Str × Nat)) (hc : X.calm = true) (hN : X.N.Nodup) (hi : DI X G tg iter fi) (N : List Str) (sc : Scope) (ok : blkC N sc scope own = true)
    (hg : ∀ (s : Shared) (H : Hp) (C : Addr) (cl : List (Str × Addr)) (fp : List Addr), DG (X.blk s H scope (compEnvC scope cl C X.env) fp) G is tg g) (ht : ∀ (s : Shared) (H : Hp) (C : Addr) (cl : List (Str × Addr)) (fp : List Addr), DIf (X.blk s H scope (compEnvC scope cl C X.env) fp) G ifs ft)
    (he : ∀ (s : Shared) (H : Hp) (C : Addr) (cl : List (Str × Addr)) (fp : List Addr), DE (X.blk s H scope (compEnvC scope cl C X.env) fp) G k elt fe) (hk : k.le .fz = true := by rfl) (his : ∀ i, i ∈ is → i ∈ own.map (·.2) := by decide) (hs : ∀ x, foldedSetIterable iter X.env x = pure x := by intro _; rfl) (hN2 : X.N = N := by rfl) (hs2 : X.env.scope = sc := by rfl) :
    DE X G .ow (.ListComp elt [⟨tg, iter, ifs, 0⟩] scope pos) (eLc (own.map (·.2)) fi g ft fe) := by
  obtain ⟨wi, pw, ow⟩ := hi.ex
  exact ⟨_, pe_lc hc hN (pi_len pw) (blkOk_by (by rw [hN2, hs2]; exact ok)) (fun s H C cl fp => (hg s H C cl fp).canon) (fun s H C cl fp => (ht s H C cl fp).run) (fun s H C cl fp => ((he s H C cl fp).conv hk).canon) hs,
    fun σ H F fp env d Q R hf q => lc_ok ow his R hf q⟩
/-- name = [..] on one line: frozen, or a list of one's own -/
theorem setLc_ok {wi : TI} {tlc : TE} {i : Nat} {fl : List C → Option D} {own : Bool} (ok : ∀ (σ : L2.St) (H F : Hp) (fp : Nat → List Addr) (env : List C) (d : D) (Q : VK), Rel X.K G env σ H F fp → fl env = some d → (∀ v H' F', Ext H F H' F' → RepK X.K G .ow H H' F' v d → Q v H') → tlc σ H Q) :
    ∀ (σ : L2.St) (H F : Hp) (fp : Nat → List Addr) (env : List C) (E : Ends), Rel X.K G env σ H F fp → Post X.K G kr F E ((if own then sSetL i fl else sSet i fl) env) → tAsg tlc (gName i) E σ H := fun σ H F fp env E R q => by
  cases own with
  | true =>
    simp only [if_true] at q
    unfold sSetL at q
    cases z : fl env with
    | none => simp only [z] at q; exact q.elim
    | some d =>
      refine ok σ H F fp env d _ R z fun v H' F' E' r => ?_
      obtain ⟨ds, a, rfl, R'⟩ := R.putL E' i r
      simp only [z] at q
      exact q _ H' F' _ R' E'.f
  | false =>
    simp only [Bool.false_eq_true, if_false] at q
    unfold sSet at q
    cases z : fl env with
    | none => simp only [z] at q; exact q.elim
    | some d =>
      simp only [z] at q
      refine ok σ H F fp env d _ R z fun v H' F' E' r => ?_
      obtain ⟨a, vs, ds, rfl, rfl, h1, h2, h3, h4⟩ := r
      have m : Same F' (upd F' a (.lst vs)) := fun b x e => by
        rw [upd_ne (ne_of_none e h3)]; exact e
      have E2 : Ext H F H' (upd F' a (.lst vs)) := by
        refine ⟨E'.h, E'.f.trans m, fun b x e => ?_, fun b x e => ?_⟩
        · by_cases hb : b = a
          · subst hb; rw [upd_same] at e; rw [← e]; exact h2
          · rw [upd_ne hb] at e; exact E'.sub _ _ e
        · by_cases hb : b = a
          · subst hb; exact .inr h1
          · rw [upd_ne hb] at e; exact E'.new _ _ e
      exact q _ H' _ _ ((R.ext E2).put (i := i) (v := .ref a) (c := .val (.list ds)) (l := []) ⟨rfl, _, rfl, .lst upd_same (DFAll_mono m _ _ h4)⟩ (fun _ m => nomatch m) (fun _ m => nomatch m)) E2.f
theorem ds_setLc {y : Str} {py spos : Pos} {is : List Nat} {fi : List C → Option (List D)} {g : D → List C → Option (List C)} {ifs : List Expr} {scope : Scope} (mine : Bool) (i : Nat) (own : List (Str × Nat)) (hc : X.calm = true) (hN : X.N.Nodup) (hy : X.N[i]? = some y) (hyl : X.env.scope.names.lookup y = some .local)
    (hsw : swapsWith (.ListComp elt [⟨tg, iter, ifs, 0⟩] scope pos) (some (.Name y py)) spos.line X.env = pure true) (hi : DI X G tg iter fi) (N : List Str) (sc : Scope) (ok : blkC N sc scope own = true)
    (hg : ∀ (s : Shared) (H : Hp) (C : Addr) (cl : List (Str × Addr)) (fp : List Addr), DG (X.blk s H scope (compEnvC scope cl C X.env) fp) G is tg g) (ht : ∀ (s : Shared) (H : Hp) (C : Addr) (cl : List (Str × Addr)) (fp : List Addr), DIf (X.blk s H scope (compEnvC scope cl C X.env) fp) G ifs ft)
    (he : ∀ (s : Shared) (H : Hp) (C : Addr) (cl : List (Str × Addr)) (fp : List Addr), DE (X.blk s H scope (compEnvC scope cl C X.env) fp) G k elt fe) (hk : k.le .fz = true := by rfl) (his : ∀ i, i ∈ is → i ∈ own.map (·.2) := by decide) (hs : ∀ x, foldedSetIterable iter X.env x = pure x := by intro _; rfl) (hN2 : X.N = N := by rfl) (hs2 : X.env.scope = sc := by rfl) :
    DS X G kr (.Assign [.Name y py] (.ListComp elt [⟨tg, iter, ifs, 0⟩] scope pos) spos) (if mine then sSetL i (eLc (own.map (·.2)) fi g ft fe) else sSet i (eLc (own.map (·.2)) fi g ft fe)) := by
  obtain ⟨wi, pw, ow⟩ := hi.ex
  refine ⟨_, ps_setLc (g := tgD X.K G is g) (tt := tDT X.K G ft) (te := tD X.K G .fz fe) hc hN hy hyl hsw (pi_len pw) (blkOk_by (by rw [hN2, hs2]; exact ok)) (fun s H C cl fp => (hg s H C cl fp).canon) (fun s H C cl fp => (ht s H C cl fp).run) (fun s H C cl fp => ((he s H C cl fp).conv hk).canon) hs, ?_⟩
  exact setLc_ok (wi := wi) (fun σ H F fp env d Q R hf q => lc_ok ow his R hf q)
end

/-! ### a def by its body -/
def cells : List RK → List D → List C
  | .vw :: ks, d :: ds => .brw d :: cells ks ds
  | _ :: ks, d :: ds => .val d :: cells ks ds
  | _, _ => []
def runP (ks : List RK) (n : Nat) (body : List C → Out) : List D → Option D := fun ds => match body (cells ks ds ++ List.replicate (n - ds.length) .und) with
  | .rt d => some d
  | _ => none
/-- for a def that may fall off its end -/
def runN (ks : List RK) (n : Nat) (body : List C → Out) : List D → Option D := fun ds => match body (cells ks ds ++ List.replicate (n - ds.length) .und) with
  | .rt d => some d
  | .nx _ => some .none
  | _ => none
theorem cells_ok {K : PySem.W.Frag} {G : GC} {H F : Hp} (hk : ∀ v d, Dp K H v d → Dp K G.kp v d) : ∀ {ks : List RK} {vs : List V} {ds : List D}, okPs ks = true → RepKs K G H F ks vs ds → (cells ks ds).length = vs.length ∧ ∀ (i : Nat) (c : C), (cells ks ds)[i]? = some c → SlotRep K G H F ((vs.map some)[i]?.join) c []
  | [], [], [], _, _ => ⟨rfl, fun i c e => by simp [cells] at e⟩
  | k :: ks, v :: vs, d :: ds, hp, h => by
    cases k with
    | fz =>
      obtain ⟨h1, h2⟩ := cells_ok hk (show okPs ks = true from hp) h.2
      refine ⟨by simp [cells, h1], fun i c e => ?_⟩
      cases i with
      | zero => simp [cells] at e; subst e; exact ⟨rfl, v, rfl, h.1⟩
      | succ i => simp only [cells, List.getElem?_cons_succ] at e; simpa using h2 i c e
    | vw =>
      obtain ⟨h1, h2⟩ := cells_ok hk (show okPs ks = true from hp) h.2
      refine ⟨by simp [cells, h1], fun i c e => ?_⟩
      cases i with
      | zero => simp [cells] at e; subst e; exact ⟨rfl, v, rfl, hk _ _ h.1⟩
      | succ i => simp only [cells, List.getElem?_cons_succ] at e; simpa using h2 i c e
    | _ => cases hp
  | [], _ :: _, _, _, h => by cases h
  | [], [], _ :: _, _, h => by cases h
  | _ :: _, [], _, _, h => by cases h
  | _ :: _, _ :: _, [], _, h => by cases h
section
variable {P : Program} {w : World} {K : PySem.W.Frag} {mg : Str → Option Value} {base : Heap}
theorem rel_start {ks : List RK} {N : List Str} {vs : List V} {ds : List D} {H F0 : Hp} (hp : okPs ks = true) (sub : Same F0 H) (r : RepKs K ⟨H, F0, []⟩ H F0 ks vs ds) :
    Rel K ⟨H, F0, []⟩ (cells ks ds ++ List.replicate (N.length - ds.length) .und) (L2.start N vs) H F0 (fun _ => []) := by
  have hk : ∀ v d, Dp K H v d → Dp K (GC.kp ⟨H, F0, []⟩) v d := fun v d h => by
    have e : GC.kp ⟨H, F0, []⟩ = H := by
      funext a
      unfold GC.kp
      rw [if_neg List.not_mem_nil]
    rw [e]; exact h
  obtain ⟨l1, l2⟩ := cells_ok hk hp r
  obtain ⟨m1, m2⟩ := RepKs_len r
  exact {
    len := by
      unfold L2.start
      rw [List.length_append, List.length_append, List.length_replicate, List.length_replicate, List.length_map, l1, m1]
    slot := fun i c e => by
      by_cases hi : i < (cells ks ds).length
      · rw [List.getElem?_append_left hi] at e
        have q := l2 i c e
        unfold L2.start
        rw [List.getElem?_append_left (by rw [List.length_map, ← l1]; exact hi)]
        exact q
      · rw [List.getElem?_append_right (by omega), List.getElem?_replicate] at e
        split at e
        · cases e; rfl
        · cases e
    dj := fun _ _ _ h => nomatch h
    own := fun _ _ h => nomatch h
    sub := sub
    new := fun _ _ e => .inl e
    old := Same.refl _
    keep := fun _ _ e _ => e
    alive := fun _ e => e }
theorem fn_gen {x qual : Str} {st : Stmt} {f : Addr} {fd : FuncData} {N ps : List Str} {k : Nat} {ks : List RK} {kr : RK} {body : List C → Out} {g : List D → Option D} (F : Fun K x qual st f fd) (S : FnScope N ps (defScope st)) (hl : ks.length = ps.length) (hp : okPs ks = true)
    (hgo : ∀ ds d, g ds = some d → body (cells ks ds ++ List.replicate (N.length - ds.length) .und) = .rt d ∨ (kr = .fz ∧ d = .none ∧ ∃ e, body (cells ks ds ++ List.replicate (N.length - ds.length) .und) = .nx e))
    (hbody : ∀ (cdv : Value) (A : Around) (outer : List Env) (s : Shared) (H : Hp) (E : XK) (G : GC), Room k (A.deeper (PyProof.Rows.envOfC qual (defScope st) s.heap.objs.size f cdv)) → G.W = [] →
      DSs (cxOf CX0 P w K mg base N qual (defScope st) f cdv A outer s H E).nox G kr (defBody st) body) : FnOk P w K mg base CX0 (k + 1) f fd ps (spP K ks kr g) := by
  refine F.ok S (fun vs H Q E h => ?_) (fun cdv A outer s H vs Q E hr h => ?_)
  · obtain ⟨F0, ds, d, sub, hg, r, q⟩ := h
    obtain ⟨m1, m2⟩ := RepKs_len r
    omega
  · obtain ⟨F0, ds, d, sub, hg, r, q⟩ := h
    obtain ⟨t, pt, o⟩ := (hbody cdv A outer s H E ⟨H, F0, []⟩ hr rfl).ex
    refine ⟨t, pt, o _ H F0 _ _ _ (rel_start (N := N) hp sub r) ?_⟩
    rcases hgo ds d hg with e | ⟨rfl, rfl, e', e⟩
    · rw [e]
      exact fun v H' F' fin rk => q v H' F' ⟨fun a o e => fin.h a o e List.not_mem_nil, fin.f, fin.sub, fin.new⟩ rk
    · rw [e]
      exact fun σ' H' F' fp' R' s' => q .non H' F' ⟨fun a o e => R'.keep a o e List.not_mem_nil, R'.old, R'.sub, R'.new⟩ .non
theorem fn_pure {x qual : Str} {st : Stmt} {f : Addr} {fd : FuncData} {N ps : List Str} {k : Nat} {ks : List RK} {kr : RK} {body : List C → Out} (F : Fun K x qual st f fd) (S : FnScope N ps (defScope st)) (hl : ks.length = ps.length) (hp : okPs ks = true)
    (hbody : ∀ (cdv : Value) (A : Around) (outer : List Env) (s : Shared) (H : Hp) (E : XK) (G : GC), Room k (A.deeper (PyProof.Rows.envOfC qual (defScope st) s.heap.objs.size f cdv)) → G.W = [] →
      DSs (cxOf CX0 P w K mg base N qual (defScope st) f cdv A outer s H E).nox G kr (defBody st) body) : FnOk P w K mg base CX0 (k + 1) f fd ps (spP K ks kr (runP ks N.length body)) :=
  fn_gen F S hl hp (fun ds d h => by
    unfold runP at h
    split at h
    · cases h; exact .inl (by assumption)
    · cases h) hbody
end
end DL
set_option Elab.async false
set_option linter.all false
set_option maxRecDepth 100000
set_option maxHeartbeats 4000000
namespace DL
open PySem PySem.Spec L2

section
variable {X : Cx} {G : GC} {k k2 kr : RK} {e ei a : Expr} {f fe fi fa : List C → Option D} {pos p1 p2 : Pos} {x : Str}
/-! ### sorted -/
def alikeB (ds : List D) : Bool := ds.all fun d => ds.all fun d' => W.alike d d'
def isTup1 : D → Bool | .tuple (_ :: _) => true | _ => false
def notNT : D → Bool | .none => false | .tuple _ => false | _ => true
def sortableB (ds : List D) : Bool := ds.all isTup1 || ds.all notNT
def gSorted : List D → Option D | [.list ds] => if alikeB ds = true ∧ sortableB ds = true ∧ (ds.all fun d => decide (d.depth ≤ 60)) = true then some (.list (ds.mergeSort (W.dataLe false fun d => d))) else none | _ => none
theorem sort_in {pins : List (Addr × Obj)} {σ : L2.St} {H F : Hp} {s : Shared} (I : Inv X pins σ H s) (sub : Same F H) : ∀ {vs : List V} {ds : List D} {us : List Value}, DFAll X.K F vs ds → Vals vs us →
    W.EachIs (fun u (b : D × V) => RelV b.2 u) us (ds.zip vs) ∧ W.EachIs (fun u (b : D × V) => ∃ as, Reads s.heap u b.1 as) us (ds.zip vs) ∧ (∀ b, b ∈ ds.zip vs → DF X.K F b.2 b.1) ∧ (ds.zip vs).map Prod.fst = ds
  | [], _, _, h, r => by
    cases h; cases r
    exact ⟨.nil, .nil, (fun _ m => nomatch m), rfl⟩
  | v :: vs, _, _, h, r => by
    cases h with
    | cons h1 h2 =>
      cases r with
      | cons r1 r2 =>
        obtain ⟨a1, a2, a3, a4⟩ := sort_in I sub h2 r2
        refine ⟨.cons r1 a1, .cons (Dp.reads I _ _ _ (Dp_mono sub _ _ (DF.dp _ _ h1)) r1) a2, fun b hb => ?_, by simp [a4]⟩
        rcases List.mem_cons.mp hb with rfl | hb
        · exact h1
        · exact a3 b hb
theorem sort_out {K : PySem.W.Frag} {F : Hp} : ∀ {us : List Value} {bs : List (D × V)}, W.EachIs (fun u (b : D × V) => RelV b.2 u) us bs → (∀ b, b ∈ bs → DF K F b.2 b.1) → Vals (bs.map Prod.snd) us ∧ DFAll K F (bs.map Prod.snd) (bs.map Prod.fst)
  | _, _, .nil, _ => ⟨.nil, .nil⟩
  | _, _, .cons h t, m => by
    obtain ⟨a1, a2⟩ := sort_out t fun b hb => m b (List.mem_cons_of_mem _ hb)
    exact ⟨.cons h a1, .cons (m _ List.mem_cons_self) a2⟩
def rSortD (K : PySem.W.Frag) : List V → Hp → VK → Prop := fun xs H Q => ∃ (F : Hp) (a : Addr) (vs : List V) (ds : List D), xs = [.ref a] ∧ Same F H ∧ H a = some (.lst vs) ∧ DFAll K F vs ds ∧ alikeB ds = true ∧ sortableB ds = true ∧ (ds.all fun d => decide (d.depth ≤ 60)) = true ∧
  ∀ p ws, H p = none → DFAll K F ws (ds.mergeSort (W.dataLe false fun d => d)) → Q (.ref p) (upd H p (.lst ws))
theorem call_sortD (hu : X.A.units + 64 < cLine) : CallR X (.builtin "sorted") (rSortD X.K) := by
  intro pins s σ H xs us Q I r h
  obtain ⟨F, a, vs, ds, rfl, sub, hH, hd, h1, h2, h3, q⟩ := h
  obtain ⟨u, rfl, ru⟩ := vals1 r
  cases (show u = Value.ref a from ru)
  obtain ⟨its, rv, pl, hz⟩ := I.list (.inl (.inl hH))
  obtain ⟨e1, e2, e3, e4⟩ := sort_in I sub hd rv
  have hlen : (ds.zip vs).length = vs.length := by rw [List.length_zip, DFAll_len hd, Nat.min_self]
  refine W.sorted_data (enc := Prod.fst) (bs := ds.zip vs) (R := fun u b => RelV b.2 u) pl.isList e1 e2 ?_ ?_ (by rw [hlen]; exact hz) ?_ fun out ho he => ?_
  · rw [e4]
    intro d hd d' hd'
    have z := List.all_eq_true.mp h1 d hd
    exact List.all_eq_true.mp z d' hd'
  · rw [e4]
    unfold sortableB at h2
    rcases Bool.or_eq_true_iff.mp h2 with z | z
    · left
      intro d hd
      have y := List.all_eq_true.mp z d hd
      cases d with
      | tuple xs =>
        cases xs with
        | nil => cases y
        | cons x r => exact ⟨x, r, rfl⟩
      | _ => cases y
    · right
      intro d hd
      have y := List.all_eq_true.mp z d hd
      cases d with
      | none => cases y
      | tuple xs => cases y
      | _ => exact ⟨(fun z => nomatch z), (fun _ z => nomatch z)⟩
  · intro b hb
    have hm : b.1 ∈ ds := (List.of_mem_zip hb).1
    have y := of_decide_eq_true (List.all_eq_true.mp h3 b.1 hm)
    omega
  · have hmem : ∀ b, b ∈ (ds.zip vs).mergeSort (W.dataLe false Prod.fst) → DF X.K F b.2 b.1 := fun b hb => e3 b (List.mem_mergeSort.mp hb)
    obtain ⟨o1, o2⟩ := sort_out he hmem
    have em : ((ds.zip vs).mergeSort (W.dataLe false Prod.fst)).map Prod.fst = ds.mergeSort (W.dataLe false fun d => d) := by
      exact (W.sort_maps (r := W.dataLe false Prod.fst) (s := W.dataLe false fun d => d) Prod.fst (fun _ _ _ _ => rfl)).trans (by rw [e4])
    rw [em] at o2
    obtain ⟨c, hc⟩ := PyProof.Rows.sortedAll_at s.heap its out.toArray
    have hn : H (s.heap.objs.size + 1) = none := I.hok.fresh (Nat.le_succ _)
    refine ⟨.ref (s.heap.objs.size + 1), _, I.laid (t' := s.toks) (o := .lst (((ds.zip vs).mergeSort (W.dataLe false Prod.fst)).map Prod.snd)) (fun b ob z => PyProof.Rows.sortedAll_old z) (Nat.le_succ _) ⟨?_, out, c, o1, hc⟩, rfl, q _ _ hn o2⟩
    rw [List.length_map, List.length_mergeSort, hlen]; exact hz
theorem o_sorted (hu : X.A.units + 64 < cLine) : DCall X G (.builtin "sorted") [.vl] .ow gSorted := ⟨_, call_sortD hu, fun H F vs ds d Q sub kp hl rs hd q => by
  obtain ⟨v, d1, rfl, rfl, r⟩ := rep1 rs
  unfold gSorted at hd
  split at hd
  · rename_i e; cases e
    split at hd <;> cases hd
    rename_i hc
    obtain ⟨a, vs, rfl, h1, h2⟩ := vl_list sub r
    refine ⟨F, a, vs, _, rfl, sub, h1, h2, hc.1, hc.2.1, hc.2.2, fun p ws np hw => ?_⟩
    obtain ⟨E, r'⟩ := new_ow (G := G) sub np hw
    exact q _ _ _ E r'
  · cases hd⟩
/-! ### in, not in of a tuple of plain things (and of lists) -/
def flatD : D → Bool | .none => true | .bool _ => true | .int _ => true | .str _ => true | _ => false
def flV : D → V | .none => .non | .bool b => .bl b | .int i => .int i | .str x => .str x | _ => .non
theorem fl_dp {K : PySem.W.Frag} {H : Hp} {v : V} {d : D} (hf : flatD d = true) (h : Dp K H v d) : v = flV d ∧ flatV v = true := by
  cases h with
  | lst _ _ => cases hf
  | tup _ _ => cases hf
  | _ => exact ⟨rfl, rfl⟩
theorem fl_all {K : PySem.W.Frag} {H : Hp} : ∀ {vs : List V} {ds : List D}, ds.all flatD = true → DpAll K H vs ds → vs = ds.map flV ∧ vs.all flatV = true
  | [], _, _, h => by cases h; exact ⟨rfl, rfl⟩
  | v :: vs, _, hf, h => by
    cases h with
    | cons h1 h2 =>
      rw [List.all_cons, Bool.and_eq_true] at hf
      obtain ⟨a1, a2⟩ := fl_dp hf.1 h1
      obtain ⟨b1, b2⟩ := fl_all hf.2 h2
      exact ⟨by rw [List.map_cons, ← a1, ← b1], by rw [List.all_cons, a2, b2]; rfl⟩
/-- whether a plain thing is among plain things -/
def inF (x : D) (ys : List D) : Bool := inV (flV x) (ys.map flV)
def gInF : D → D → Option D
  | x, .tuple ys => if flatD x = true ∧ ys.all flatD = true then some (.bool (inF x ys)) else none
  | x, .list ys => if flatD x = true ∧ ys.all flatD = true then some (.bool (inF x ys)) else none
  | _, _ => none
def gNotInF : D → D → Option D
  | x, .tuple ys => if flatD x = true ∧ ys.all flatD = true then some (.bool (!inF x ys)) else none
  | x, .list ys => if flatD x = true ∧ ys.all flatD = true then some (.bool (!inF x ys)) else none
  | _, _ => none
theorem inF_ok {H F : Hp} {vx vy : V} {dx dy d : D} {Q : VK} {neg : Bool} (sub : Same F H) (rx : Dp X.K H vx dx) (ry : Dp X.K H vy dy) (hd : (if neg then gNotInF dx dy else gInF dx dy) = some d)
    (q : ∀ v H' F', Ext H F H' F' → RepK X.K G .fz H H' F' v d → Q v H') : rIn X.K neg vx vy H Q := by
  have go : ∀ ys vs p, (SqL X.K H p vs ∨ SqT X.K H p vs) → DpAll X.K H vs ys → flatD dx = true → ys.all flatD = true → d = .bool (if neg then !inF dx ys else inF dx ys) → rIn X.K neg vx (.ref p) H Q := fun ys vs p hs ha h1 h2 e => by
    obtain ⟨a1, a2⟩ := fl_dp h1 rx
    obtain ⟨b1, b2⟩ := fl_all h2 ha
    subst e
    refine ⟨p, vs, rfl, hs, a2, b2, ?_⟩
    have z : inV vx vs = inF dx ys := by unfold inF; rw [a1, b1]
    rw [z]
    exact q _ H F (Ext.refl sub) (.bl _)
  cases neg with
  | true =>
    simp only [if_true] at hd
    unfold gNotInF at hd
    split at hd
    · split at hd <;> cases hd
      rename_i hc
      cases ry with
      | tup h1 h2 => exact go _ _ _ (.inr h1) h2 hc.1 hc.2 rfl
    · split at hd <;> cases hd
      rename_i hc
      cases ry with
      | lst h1 h2 => exact go _ _ _ (.inl h1) h2 hc.1 hc.2 rfl
    · cases hd
  | false =>
    simp only [Bool.false_eq_true, if_false] at hd
    unfold gInF at hd
    split at hd
    · split at hd <;> cases hd
      rename_i hc
      cases ry with
      | tup h1 h2 => exact go _ _ _ (.inr h1) h2 hc.1 hc.2 rfl
    · split at hd <;> cases hd
      rename_i hc
      cases ry with
      | lst h1 h2 => exact go _ _ _ (.inl h1) h2 hc.1 hc.2 rfl
    · cases hd
theorem o_inF : DOp X G (compareOp .In) .vw .vw .fz gInF := ⟨_, op_in_seq, fun H F vx vy dx dy d Q sub kp hl rx ry hd q => inF_ok (neg := false) sub rx ry hd q⟩
theorem o_notInF : DOp X G (compareOp .NotIn) .vw .vw .fz gNotInF := ⟨_, op_notIn_seq, fun H F vx vy dx dy d Q sub kp hl rx ry hd q => inF_ok (neg := true) sub rx ry hd q⟩
/-! ### xs[::-1] -/
def gRev : D → Option D | .list xs => some (.list xs.reverse) | _ => none
def eRev (f : List C → Option D) : List C → Option D := fun env => (f env).bind gRev
theorem d_rev {kk : Nat} {p3 : Pos} (h : DE X G k e f) (hk : k.le .vl = true := by rfl) : DE X G .ow (.Subscript e (.Slice none none (some (.UnaryOp .USub (.Constant (.int 1) kk p1) p2)) p3) pos) (eRev f) := by
  obtain ⟨t, p, o⟩ := (h.conv hk).ex
  refine ⟨_, pe_revL p, fun σ H F fp env d Q R hf q => ?_⟩
  unfold eRev at hf
  cases z : f env with
  | none => rw [z] at hf; cases hf
  | some d1 =>
    rw [z] at hf
    have hf : gRev d1 = some d := hf
    unfold gRev at hf
    split at hf <;> cases hf
    refine o σ H F fp env _ _ R z fun v H1 F1 E1 r => ?_
    obtain ⟨a, vs, rfl, h1, h2⟩ := vl_list (G := G) E1.sub r
    refine ⟨a, vs, rfl, .inl (.inl h1), fun n nn => ?_⟩
    obtain ⟨E, r'⟩ := new_ow (G := G) E1.sub nn (DFAll_rev h2)
    exact q _ _ _ (E1.trans E) (r'.back E1.h)
/-! ### xs[i] += e -/
theorem get_list : PGet X (rIxL X.K) := by
  intro pins s σ H x y v u Q I rx ry h
  obtain ⟨p, xs, i, z, rfl, rfl, hq, he, q⟩ := h
  cases rx
  obtain ⟨t, rfl⟩ := ry
  obtain ⟨its, r, pl, hz⟩ := I.list hq
  obtain ⟨j, h1, h2, h3, h4, h5⟩ := atI_get he
  obtain ⟨w, ew, rw'⟩ := r.get h2
  have hl := r.length
  have hn := line63
  have fin : EP X pins σ Q w s := ⟨z, H, I, rw', q⟩
  by_cases h0 : 0 ≤ i
  · have hj : i.toNat = j := by
      rw [seqIndex_of h0 h5] at h1
      exact Option.some.inj h1
    exact wpAny_getItem_list pl.isList h0 (by omega) (by rw [hj]; simpa using ew) fin
  · have hj : (i + (its.toArray.size : Int)).toNat = j := by
      rw [seqIndex_neg (by omega) h4] at h1
      rw [List.size_toArray, ← hl]
      exact Option.some.inj h1
    exact wpAny_getItem_list_neg pl.isList (by omega) (by rw [List.size_toArray] <;> omega) (by omega) (by rw [hj]; simpa using ew) fin
def sAugIx (i : Nat) (g : D → D → Option D) (fi fe : List C → Option D) : List C → Out := fun env => match env[i]? with
  | some (.lst ds) => (match fi env with
    | some (.int j) => (match atI ds j with
      | some x => (match fe env with
        | some y => (match g x y with
          | some z => (match setAt ds j z with | some ds' => .nx (env.set i (.lst ds')) | none => .err)
          | none => .err)
        | none => .err)
      | none => .err)
    | _ => .err)
  | _ => .err
theorem ds_augIx {op : Operator} {g : D → D → Option D} {kb : RK} (i : Nat) (hv : PE X (.Name x p1) (tVar i)) (hi : DE X G k2 ei fi) (og : DOp X G (inplaceOp op) .vl kb .fz g) (h : DE X G k e fe) (hk : k.le kb = true := by rfl) (hb : kb.arg = true := by rfl) (hk2 : k2.le .vl = true := by rfl)
    (ha : ∀ ov iv new, augStore ei ov iv new = (do holding [new, ov, iv] (setItem ov iv new); release [new, ov, iv] []; pure .next) := by intros; rfl) : DS X G kr (.AugAssign (.Subscript (.Name x p1) ei p2) op e pos) (sAugIx i g fi fe) := by
  obtain ⟨t, p, o⟩ := (h.conv hk).ex
  obtain ⟨ti, pi, oi⟩ := (hi.conv hk2).ex
  obtain ⟨r, or, o2⟩ := og.ex
  refine ⟨_, ps_augS (tip := fun x y H Q => LenOk X.K H → r x y H Q) hv pi get_list p (opr_len or) set_list ha, fun σ H F fp env E R q => ?_⟩
  unfold sAugIx at q
  split at q
  · rename_i ds e1
    split at q
    · rename_i j ej
      split at q
      · rename_i dx ex
        split at q
        · rename_i dy ey
          split at q
          · rename_i dz ez
            split at q
            · rename_i ds' es
              obtain ⟨a, vs, q1, q2, q3, q4⟩ := slot_at R e1
              refine ⟨.ref a, q2, ?_⟩
              refine oi σ H F fp env _ _ R ej fun vi H1 F1 E1 ri => ?_
              have ei := vl_int (G := G) (H := H1) (F := F1) ri
              subst ei
              have R1 := R.ext E1
              obtain ⟨vx, evx, rvx⟩ := atI_rep (DFAll_mono E1.f _ _ q4) ex
              refine ⟨a, vs, j, vx, rfl, rfl, .inl (.inl (E1.h _ _ q3)), evx, ?_⟩
              refine o σ H1 F1 fp env dy _ R1 ey fun vy H2 F2 E2 ry hl => ?_
              have R2 := R1.ext E2
              refine o2 H2 F2 vx vy dx dy dz _ E2.sub R2.kpSame hl (.inl (DF_mono E2.f _ _ rvx)) (repK_A hb ry) ez fun v H3 F3 E3 rz => ?_
              have R3 := R2.ext E3
              unfold setAt at es
              cases y : ixN ds.length j with
              | none => rw [y] at es; cases es
              | some m =>
                rw [y] at es; cases es
                refine ⟨a, vs, j, m, rfl, rfl, E3.h _ _ (E2.h _ _ (E1.h _ _ q3)), by rw [DFAll_len q4]; exact y, ?_⟩
                exact q σ _ F3 fp (R3.write q1 (c := .lst (ds.set m dz)) ⟨a, vs.set m v, rfl, by rw [q2]; rfl, upd_same, DFAll_set m (DFAll_mono ((E1.f.trans E2.f).trans E3.f) _ _ q4) rz⟩) ((E1.f.trans E2.f).trans E3.f)
            · exact q.elim
          · exact q.elim
        · exact q.elim
      · exact q.elim
    · exact q.elim
  · exact q.elim
/-! ### xs.clear() -/
def sClear (i : Nat) : List C → Out := fun env => match env[i]? with | some (.lst _) => .nx (env.set i (.lst [])) | _ => .err
theorem ds_clear {p3 : Pos} (i : Nat) (hbm : ∀ (r : V → List V → Hp → VK → Prop), MtM X "list.clear" r → PE X (.Call (.Attribute (.Name x p1) "clear" p2) [] [] p3) (tBM0 X.K "list" r (tVar i)) := by exact fun r hm => pe_bm0 PySem.F.plainAttrs_list PySem.F.slot_list_clear PySem.F.type_list_clear hm (pv _))
    (hsw : swapsWith (.Call (.Attribute (.Name x p1) "clear" p2) [] [] p3) none pos.line X.env = pure false := by rfl) : DS X G kr (.Expr (.Call (.Attribute (.Name x p1) "clear" p2) [] [] p3) pos) (sClear i) := by
  refine ⟨_, ps_expr (hbm _ mt_clear) hsw, fun σ H F fp env E R q => ?_⟩
  unfold sClear at q
  split at q
  · rename_i ds e1
    obtain ⟨a, vs, q1, q2, q3, q4⟩ := slot_at R e1
    refine ⟨.ref a, q2, .inl ⟨rfl, _, .inl (.inl q3)⟩, a, vs, rfl, rfl, q3, ?_⟩
    exact q σ _ F fp (R.write q1 (c := .lst []) ⟨a, [], rfl, by rw [q2]; rfl, upd_same, .nil⟩) (Same.refl _)
  · exact q.elim
end
end DL
namespace DL
open PySem PySem.Spec L2
section
variable {X : Cx} {G : GC} {ka kb kr k1 : RK} {g1 g2 : D → D → Option D} {f : Value → Value → Sem Value} {tg iter e a : Expr} {pos : Pos}
/-! ### one rule of several kinds -/
def gOr (g1 g2 : D → D → Option D) : D → D → Option D := fun x y => match g1 x y with | some d => some d | none => g2 x y
theorem DOp.or (o1 : DOp X G f ka kb kr g1) (o2 : DOp X G f ka kb kr g2) : DOp X G f ka kb kr (gOr g1 g2) := by
  obtain ⟨r1, p1, q1⟩ := o1.ex
  obtain ⟨r2, p2, q2⟩ := o2.ex
  refine ⟨_, p1.or p2, fun H F vx vy dx dy d Q sub kp hl rx ry hd q => ?_⟩
  unfold gOr at hd
  split at hd
  · rename_i d' e
    cases hd
    exact .inl (q1 H F vx vy dx dy _ Q sub kp hl rx ry e q)
  · exact .inr (q2 H F vx vy dx dy d Q sub kp hl rx ry hd q)
theorem DOp.fz (o : DOp X G f ka kb .ow g1) : DOp X G f ka kb .fz g1 := by
  obtain ⟨r, p, q⟩ := o.ex
  refine ⟨r, p, fun H F vx vy dx dy d Q sub kp hl rx ry hd k => q H F vx vy dx dy d Q sub kp hl rx ry hd fun v H' F' E r => ?_⟩
  obtain ⟨a, vs, ds, rfl, rfl, h1, h2, h3, h4⟩ := r
  have m : Same F' (upd F' a (.lst vs)) := fun b x e => by rw [upd_ne (ne_of_none e h3)]; exact e
  refine k _ H' (upd F' a (.lst vs)) ⟨E.h, E.f.trans m, fun b x e => ?_, fun b x e => ?_⟩ (.lst upd_same (DFAll_mono m _ _ h4))
  · by_cases hb : b = a
    · subst hb; rw [upd_same] at e; rw [← e]; exact h2
    · rw [upd_ne hb] at e; exact E.sub _ _ e
  · by_cases hb : b = a
    · subst hb; exact .inr h1
    · rw [upd_ne hb] at e; exact E.new _ _ e
/-- the operands as for now -/
theorem repA_vw {K : PySem.W.Frag} {H F : Hp} {v : V} {d : D} (sub : Same F H) (r : RepA K G .vl H F v d) : RepA K G .vw H F v d := by
  rcases r with r | ⟨a, vs, ds, rfl, rfl, e3, e4⟩
  · exact Dp_mono sub _ _ (DF.dp _ _ r)
  · exact .lst (.inl (.inl e3)) (DpAll_mono sub _ _ (DFAll.dp _ _ e4))
theorem DOp.vl (o : DOp X G f .vw .vw kr g1) : DOp X G f .vl .vl kr g1 := by
  obtain ⟨r, p, q⟩ := o.ex
  exact ⟨r, p, fun H F vx vy dx dy d Q sub kp hl rx ry hd k => q H F vx vy dx dy d Q sub kp hl (repA_vw sub rx) (repA_vw sub ry) hd k⟩
def gAdd : D → D → Option D := gOr gAddI (gOr gAddS (gOr gAddL gAddT))
theorem o_add : DOp X G (binaryOp .Add) .vl .vl .fz gAdd := o_addI.or (o_addS.or (o_addL.fz.or o_addT))
/-- a text so many times -/
def strRep (x : Str) (k : Nat) : Str := ⟨(List.replicate k x.cps.toList).flatten.toArray⟩
theorem foldl_arr (c : Array Nat) : ∀ (k : Nat) (acc : List Nat), (List.replicate k c).foldl (· ++ ·) acc.toArray = (acc ++ (List.replicate k c.toList).flatten).toArray
  | 0, acc => by simp
  | k + 1, acc => by
    rw [List.replicate_succ, List.foldl_cons, List.replicate_succ, List.flatten_cons, ← List.append_assoc]
    have e : acc.toArray ++ c = (acc ++ c.toList).toArray := by
      apply Array.ext'
      simp
    rw [e]
    exact foldl_arr c k _
theorem op_mulS : OpR X (binaryOp .Mult) (fun x y H Q => ∃ z k, x = .str z ∧ y = .int k ∧ 0 ≤ k ∧ k ≤ 1000 ∧ z.length ≤ 1000 ∧ Q (.str (strRep z k.toNat)) H) := by
  intro pins s σ H x y v u Q I rx ry h
  obtain ⟨z, k, rfl, rfl, h0, h1, h2, q⟩ := h
  obtain ⟨t, rfl⟩ := rx
  obtain ⟨t', rfl⟩ := ry
  have hn : z.length * k.toNat ≤ 1000000 := Nat.le_trans (Nat.mul_le_mul h2 (by omega : k.toNat ≤ 1000)) (by decide)
  have fin : ∀ tk, EP X pins σ Q (.str (strRep z k.toNat) tk) { s with toks := s.toks + 1 } := fun tk => ⟨.str (strRep z k.toNat), H, I.tok _, ⟨tk, rfl⟩, q⟩
  refine P.mul_str ?_ (fun hk _ => ?_) (fun hk _ => ?_) ?_
  · rw [decide_eq_false (by omega), decide_eq_false (by omega)]; rfl
  · intro hc
    have hk' : 0 < k := by omega
    have a1 : (2 ^ 63 - 1) / k ≥ (2 ^ 63 - 1) / 1000 := by
      refine Int.le_ediv_of_mul_le hk' ?_
      have : (2 ^ 63 - 1) / 1000 * k ≤ (2 ^ 63 - 1) / 1000 * 1000 := Int.mul_le_mul_of_nonneg_left h1 (by decide)
      omega
    have a2 : ((2 : Int) ^ 63 - 1) / 1000 ≥ 1000 := by decide
    omega
  · show decide (z.length * k.toNat > sizeLine) = false
    exact decide_eq_false (by rw [sizeLine_eq]; omega)
  · split
    · rename_i hk
      have e : strRep z k.toNat = Str.empty := by
        have : k.toNat = 0 := by omega
        unfold strRep
        rw [this]; rfl
      refine ⟨by decide, ?_⟩
      have := fin s.toks
      rw [e] at this
      exact this
    · split
      · rename_i hk hc
        have e : strRep z k.toNat = z := by
          rcases Bool.or_eq_true_iff.mp hc with y | y
          · have : k.toNat = 1 := by
              have := beq_iff_eq.mp y
              omega
            unfold strRep
            rw [this]
            simp
          · have y' := beq_iff_eq.mp y
            unfold strRep
            have : z.cps.toList = [] := List.eq_nil_of_length_eq_zero (by rw [Array.length_toList]; exact y')
            rw [this]
            apply Str.ext'
            apply Array.ext'
            simp [this]
        show EP X pins σ Q (.str z t) s
        exact ⟨.str z, H, I, ⟨t, rfl⟩, by rw [e] at q; exact q⟩
      · have e : (⟨(List.replicate k.toNat z.cps).foldl (· ++ ·) #[]⟩ : Str) = strRep z k.toNat := by
          unfold strRep
          have := foldl_arr z.cps k.toNat []
          rw [List.nil_append] at this
          rw [← this]
        rw [e]
        refine ⟨?_, fin s.toks⟩
        unfold strRep Str.length
        rw [List.size_toArray, PyProof.Rows.lm_len_rep_flat, Array.length_toList, sizeLine_eq]
        have : k.toNat * z.cps.size ≤ 1000000 := by rw [Nat.mul_comm]; exact hn
        omega
def gMulS : D → D → Option D | .str x, .int k => if 0 ≤ k ∧ k ≤ 1000 ∧ x.length ≤ 1000 then some (.str (strRep x k.toNat)) else none | _, _ => none
theorem o_mulS : DOp X G (binaryOp .Mult) .vl .vl .fz gMulS := ⟨_, op_mulS, fun H F vx vy dx dy d Q sub kp hl rx ry hd q => by
  unfold gMulS at hd
  split at hd
  · split at hd <;> cases hd
    rename_i hc
    have e1 := vl_str rx
    have e2 := vl_int ry
    subst e1 e2
    exact ⟨_, _, rfl, rfl, hc.1, hc.2.1, hc.2.2, q _ H F (Ext.refl sub) (.str _)⟩
  · cases hd⟩
/-- scalars compared as such, all else as data -/
def gEq : D → D → Option D := gOr gEqS gEqD
def gNe : D → D → Option D := gOr gNeS gNeD
theorem eqS_vw {x y d : D} (h : gEqS x y = some d) : (∃ i, x = .int i) ∨ (∃ i, x = .str i) ∨ (∃ i, x = .bool i) := by
  unfold gEqS at h; split at h
  · exact .inl ⟨_, rfl⟩
  · exact .inr (.inl ⟨_, rfl⟩)
  · exact .inr (.inr ⟨_, rfl⟩)
  · cases h
theorem scal_vl {K : PySem.W.Frag} {H F : Hp} {v : V} {d : D} (hs : scalD d = true) (r : Dp K H v d) : RepA K G .vl H F v d := by
  cases r with
  | lst _ _ => cases hs
  | tup _ _ => cases hs
  | non => exact .inl .non
  | bl b => exact .inl (.bl b)
  | int i => exact .inl (.int i)
  | str x => exact .inl (.str x)
theorem o_eqSw : DOp X G (compareOp .Eq) .vw .vw .fz gEqS := by
  obtain ⟨r, p, q⟩ := (o_eqS (X := X) (G := G)).ex
  refine ⟨r, p, fun H F vx vy dx dy d Q sub kp hl rx ry hd k => q H F vx vy dx dy d Q sub kp hl (scal_vl ?_ rx) (scal_vl ?_ ry) hd k⟩
  · unfold gEqS at hd; split at hd <;> first | rfl | cases hd
  · unfold gEqS at hd; split at hd <;> first | rfl | cases hd
theorem o_neSw : DOp X G (compareOp .NotEq) .vw .vw .fz gNeS := by
  obtain ⟨r, p, q⟩ := (o_neS (X := X) (G := G)).ex
  refine ⟨r, p, fun H F vx vy dx dy d Q sub kp hl rx ry hd k => q H F vx vy dx dy d Q sub kp hl (scal_vl ?_ rx) (scal_vl ?_ ry) hd k⟩
  · unfold gNeS at hd; split at hd <;> first | rfl | cases hd
  · unfold gNeS at hd; split at hd <;> first | rfl | cases hd
theorem o_eq (hu : X.A.units + 64 < cLine) : DOp X G (compareOp .Eq) .vw .vw .fz gEq := o_eqSw.or (o_eqD hu)
theorem o_ne (hu : X.A.units + 64 < cLine) : DOp X G (compareOp .NotEq) .vw .vw .fz gNe := o_neSw.or (o_neD hu)
def gIn : D → D → Option D := gOr gInF gInL
def gNotIn : D → D → Option D := gOr gNotInF gNotInL
theorem o_in (hu : X.A.units + 65 < cLine) : DOp X G (compareOp .In) .vw .vw .fz gIn := o_inF.or (o_inL hu)
theorem o_notIn (hu : X.A.units + 65 < cLine) : DOp X G (compareOp .NotIn) .vw .vw .fz gNotIn := o_notInF.or (o_notInL hu)
def gMul : D → D → Option D := gOr gMulI (gOr gMulS (gOr gMulL gMulT))
theorem o_mul : DOp X G (binaryOp .Mult) .vl .vl .fz gMul := o_mulI.or (o_mulS.or (o_mulL.fz.or o_mulT))
/-- slices of any kind -/
def gSlS : D → Option Int → Option Int → Option D | .str z, l, u => if z.length ≤ sizeLine then some (.str (cutS z l u)) else none | _, _, _ => none
def gSl : D → Option Int → Option Int → Option D
  | .list xs, l, u => some (.list (cutD xs l u))
  | .tuple xs, l, u => some (.tuple (cutD xs l u))
  | .str z, l, u => if z.length ≤ sizeLine then some (.str (cutS z l u)) else none
  | _, _, _ => none
theorem d_sl {lo hi : Option Expr} {fa : List C → Option D} {fl fu : List C → Option (Option Int)} {p2 : Pos} (ha : DE X G k1 a fa) (hl : DP X G lo fl) (hu : DP X G hi fu) (h1 : k1.le .vl = true := by rfl) : DE X G .fz (.Subscript a (.Slice lo hi none p2) pos) (e3 gSl fa fl fu) :=
  d_slice (ka := .vl) (sl_list.or (sl_tupA.or sl_str)) (fun H F vx dx d l u Q sub kp hlen rx hd q => by
    unfold gSl at hd
    split at hd
    · cases hd
      obtain ⟨p, vs, rfl, h1, h2⟩ := vl_list sub rx
      refine .inl ⟨p, vs, rfl, .inl (.inl h1), fun n nn => ?_⟩
      have m : Same F (upd F n (.lst (cutV vs l u))) := fun b x e => by rw [upd_ne (ne_of_none e (sub.free nn))]; exact e
      exact q _ _ _ (Ext.frozen sub nn) (.lst upd_same (DFAll_mono m _ _ (cut_rep h2 l u)))
    · rename_i xs
      cases hd
      have fx : ∃ a vs, vx = .ref a ∧ SqT X.K F a vs ∧ DFAll X.K F vs xs := by
        rcases rx with rx | ⟨_, _, _, _, z, _⟩
        · cases rx with | tup h1 h2 => exact ⟨_, _, rfl, h1, h2⟩
        · cases z
      obtain ⟨p, vs, rfl, h1, h2⟩ := fx
      refine .inr (.inl ⟨p, vs, rfl, Same.seqT sub h1, fun hw => ?_, fun hw n nn => ?_⟩)
      · have e : cutV vs l u = vs := by
          unfold cutV
          rw [hw.1, hw.2]
          exact List.take_length
        have r := cut_rep h2 l u
        rw [e] at r
        exact q _ H F (Ext.refl sub) (.tup h1 r)
      · obtain ⟨E, r⟩ := new_tup sub nn (cut_rep h2 l u)
        exact q _ _ _ E r
    · split at hd <;> cases hd
      have e1 := vl_str rx
      subst e1
      exact .inr (.inr ⟨_, rfl, by assumption, q _ H F (Ext.refl sub) (.str _)⟩)
    · cases hd) ha hl hu h1
/-- a list, a tuple, a text gone through -/
def iAny (f : List C → Option D) : List C → Option (List D) := fun env => match f env with
  | some (.list ds) => some ds
  | some (.tuple ds) => some ds
  | some (.str z) => if z.length ≤ sizeLine then some (z.cps.toList.map fun c => .str ⟨#[c]⟩) else none
  | _ => none
theorem di_any {k : RK} {f : List C → Option D} (h : DE X G k e f) (hk : k.le .fz = true := by rfl) : DI X G tg e (iAny f) := by
  obtain ⟨w1, p1, o1⟩ := (di_seq (tg := tg) h hk).ex
  obtain ⟨w2, p2, o2⟩ := (di_str (tg := tg) (h.conv hk)).ex
  refine ⟨_, pi_or p1 p2, fun σ H F fp env items R Rl hf q => ?_⟩
  unfold iAny at hf
  split at hf
  · rename_i ds z
    cases hf
    exact .inl (o1 σ H F fp env _ R Rl (by unfold iSeq; rw [z]) q)
  · rename_i ds z
    cases hf
    exact .inl (o1 σ H F fp env _ R Rl (by unfold iSeq; rw [z]) q)
  · rename_i s z
    exact .inr (o2 σ H F fp env _ R Rl (by unfold iStrF; rw [z]; exact hf) q)
  · cases hf
end
/-- the built-ins' names are not the module's -/
def Free (mg : Str → Option Value) (x : Str) : Prop := mg x = none
end DL
set_option Elab.async false
set_option linter.all false
set_option maxRecDepth 100000
set_option maxHeartbeats 4000000
namespace DL
open PySem PySem.Spec L2
theorem hu64 {A : Around} {k : Nat} (hr : Room k A) : A.units + 64 < cLine := hr.units
theorem hu65 {A : Around} {k : Nat} (hr : Room k A) : A.units + 65 < cLine := by have := hr.un; omega
section
variable {X : Cx} {G : GC} {k kr : RK} {e a : Expr} {f fa : List C → Option D} {pos p pos' : Pos} {tg : Expr}
def gAddIS : D → D → Option D := gOr gAddI gAddS
theorem a_add : DOp X G (inplaceOp .Add) .vl .vl .fz gAddIS := a_addI.or a_addS
/-! ### is None -/
def isNoD : D → Bool | .none => true | _ => false
def eIsN (f : List C → Option D) : List C → Option D := fun env => (f env).map fun d => .bool (isNoD d)
def eNotN (f : List C → Option D) : List C → Option D := fun env => (f env).map fun d => .bool (!isNoD d)
theorem isN_dp {K : PySem.W.Frag} {H : Hp} {v : V} {d : D} (h : Dp K H v d) : decide (v = .non) = isNoD d := by
  cases h <;> rfl
theorem isN_ok {K : PySem.W.Frag} {H : Hp} {v : V} {d : D} (h : Dp K H v d) : (!decide (v = .non)) = (!isNoD d) := by
  cases h <;> rfl
theorem d_isN {j} (h : DE X G k e f) (hk : k.le .vw = true := by rfl) : DE X G .fz (.Compare e [.Is] [.Constant .none j pos'] pos) (eIsN f) := by
  obtain ⟨t, pt, o⟩ := (h.conv hk).ex
  refine ⟨_, pe_cmp (pc_isN pt) rfl, fun σ H F fp env d Q R hf q => ?_⟩
  unfold eIsN at hf
  cases z : f env with
  | none => rw [z] at hf; cases hf
  | some c =>
    rw [z] at hf; cases hf
    refine o σ H F fp env _ _ R z fun v H1 F1 E1 r => ?_
    rw [isN_dp r]
    exact q _ H1 F1 E1 (.bl _)
theorem d_notN {j} (h : DE X G k e f) (hk : k.le .vw = true := by rfl) : DE X G .fz (.Compare e [.IsNot] [.Constant .none j pos'] pos) (eNotN f) := by
  obtain ⟨t, pt, o⟩ := (h.conv hk).ex
  refine ⟨_, pe_cmp (pc_notN pt) rfl, fun σ H F fp env d Q R hf q => ?_⟩
  unfold eNotN at hf
  cases z : f env with
  | none => rw [z] at hf; cases hf
  | some c =>
    rw [z] at hf; cases hf
    refine o σ H F fp env _ _ R z fun v H1 F1 E1 r => ?_
    rw [isN_ok r]
    exact q _ H1 F1 E1 (.bl _)
theorem dt_isN {j} (h : DE X G k e f) (hk : k.le .vw = true := by rfl) : DTs X G (.Compare e [.Is] [.Constant .none j pos'] pos) (tB (eIsN f)) := by
  obtain ⟨t, pt, o⟩ := (h.conv hk).ex
  refine ⟨_, pt_cmp (pc_isN pt) rfl, fun σ H F fp env d Q R hf q => ?_⟩
  have hf := asB_some hf
  unfold eIsN at hf
  cases z : f env with
  | none => rw [z] at hf; cases hf
  | some c =>
    rw [z] at hf; cases hf
    refine o σ H F fp env _ _ R z fun v H1 F1 E1 r => ?_
    rw [isN_dp r]
    exact ⟨_, rfl, q H1 F1 E1⟩
theorem dt_notN {j} (h : DE X G k e f) (hk : k.le .vw = true := by rfl) : DTs X G (.Compare e [.IsNot] [.Constant .none j pos'] pos) (tB (eNotN f)) := by
  obtain ⟨t, pt, o⟩ := (h.conv hk).ex
  refine ⟨_, pt_cmp (pc_notN pt) rfl, fun σ H F fp env d Q R hf q => ?_⟩
  have hf := asB_some hf
  unfold eNotN at hf
  cases z : f env with
  | none => rw [z] at hf; cases hf
  | some c =>
    rw [z] at hf; cases hf
    refine o σ H F fp env _ _ R z fun v H1 F1 E1 r => ?_
    rw [isN_ok r]
    exact ⟨_, rfl, q H1 F1 E1⟩
/-! ### a borrowed list of plain things gone through -/
def iSeqB (f : List C → Option D) : List C → Option (List D) := fun env => match f env with | some (.list ds) => if ds.all scalD = true then some ds else none | _ => none
theorem scal_df {K : PySem.W.Frag} {H F : Hp} {v : V} {d : D} (hs : scalD d = true) (r : Dp K H v d) : DF K F v d := by
  cases r with
  | lst _ _ => cases hs
  | tup _ _ => cases hs
  | non => exact .non
  | bl b => exact .bl b
  | int i => exact .int i
  | str x => exact .str x
end
end DL
set_option Elab.async false
set_option linter.all false
set_option maxRecDepth 100000
set_option maxHeartbeats 4000000
/-! DLj: zip of a list or tuple with a list or tuple -/
namespace DL
open PySem PySem.Spec L2
def SqB (kd : Bool) (K : PySem.W.Frag) (H : Hp) (a : Addr) (xs : List V) : Prop := if kd = true then SqT K H a xs else SqL K H a xs
def IsB (kd : Bool) (h : Heap) (a : Addr) (its : Array Value) : Prop := if kd = true then h.IsTuple a its else h.IsList a its
def ItB (kd : Bool) (h : Heap) (i a : Addr) (n : Nat) : Prop := if kd = true then h.IsTupleIter i a n else h.IsListIter i a n
def itO (kd : Bool) (a : Addr) : Obj := if kd = true then ⟨.type "tuple_iterator", none, .fields #[.ref a, .int 0 0], #[]⟩ else ⟨.type "list_iterator", none, .fields #[.ref a, .int 0 0], #[]⟩
theorem begins_B (kd : Bool) (a : Addr) (its : Array Value) : Begins (.ref a) (itO kd a) fun h => IsB kd h a its := by
  cases kd
  · exact begins_list a its
  · exact begins_tuple a its
theorem itO_at {kd : Bool} {h : Heap} {i a : Addr} (e : h.get? i = some (itO kd a)) : ItB kd h i a 0 := by
  cases kd
  · exact ⟨_, e, rfl, rfl⟩
  · exact ⟨_, e, rfl, rfl⟩
theorem draws_B (kd : Bool) {P : Program} {w : World} {A : Around} (hh : A.handled = none) (i a : Addr) (hne : a ≠ i) (its : Array Value) :
    Draws P w A i [i, a] its.size (fun n v => its[n]? = some v) (fun n h => ItB kd h i a n ∧ IsB kd h a its) := by
  cases kd
  · exact Draws.list hh i a hne its
  · exact Draws.tuple hh i a hne its
theorem itB_keep {kd : Bool} {h h' : Heap} {i a : Addr} {n : Nat} (x : ItB kd h i a n) (k : ∀ o, h.get? i = some o → h'.get? i = some o) : ItB kd h' i a n := by
  cases kd
  · obtain ⟨o, e, p⟩ := (show h.IsListIter i a n from x); exact ⟨o, k o e, p⟩
  · obtain ⟨o, e, p⟩ := (show h.IsTupleIter i a n from x); exact ⟨o, k o e, p⟩
theorem itB_obj {kd : Bool} {h : Heap} {i a : Addr} {n : Nat} (x : ItB kd h i a n) : ∃ o, h.get? i = some o ∧ ∀ v, o.data ≠ .cell v := by
  cases kd
  · obtain ⟨o, e, _, d⟩ := (show h.IsListIter i a n from x); exact ⟨o, e, fun v q => by rw [d] at q; cases q⟩
  · obtain ⟨o, e, _, d⟩ := (show h.IsTupleIter i a n from x); exact ⟨o, e, fun v q => by rw [d] at q; cases q⟩
section
variable {X : Cx} {pins : List (Addr × Obj)} {σ : L2.St} {H : Hp} {s : Shared} {a : Addr} {xs ys : List V} {kd : Bool}
theorem seq_B (I : Inv X pins σ H s) (h : SqB kd X.K H a xs) : ∃ its : List Value, Vals xs its ∧ IsB kd s.heap a its.toArray := by
  cases kd
  · obtain ⟨its, r, p, _⟩ := I.list h
    exact ⟨its, r, p.isList⟩
  · obtain ⟨its, r, p, _⟩ := I.tuple h
    exact ⟨its, r, p⟩
theorem inj_B (I : Inv X pins σ H s) (h : SqB kd X.K H a xs) (h' : SqB kd X.K H a ys) : xs = ys := by
  cases kd
  · exact I.list_inj h h'
  · exact I.tuple_inj h h'
theorem isB_lt {h : Heap} {its : Array Value} (x : IsB kd h a its) : a < h.objs.size := by
  cases kd
  · obtain ⟨o, e, _⟩ := (show h.IsList a its from x); exact Heap.lt_size e
  · obtain ⟨o, e, _⟩ := (show h.IsTuple a its from x); exact Heap.lt_size e
end
/-- what the zip over a and b gives: new pairs, as long as both have items -/
def ItzM (K : PySem.W.Frag) (k1 k2 : Bool) (a b : Addr) (n1 n2 : Nat) : It where
  go := fun i H => ∃ (xs ys : List V) (x y : V), SqB k1 K H a xs ∧ SqB k2 K H b ys ∧ xs.length = n1 ∧ ys.length = n2 ∧ xs[i]? = some x ∧ ys[i]? = some y
  yld := fun i H v H' => ∃ T x y, v = .ref T ∧ H T = none ∧ H' = upd H T (.tup [x, y]) ∧ (∀ xs, SqB k1 K H a xs → xs[i]? = some x) ∧ ∀ ys, SqB k2 K H b ys → ys[i]? = some y
  stop := fun i H => ∃ xs ys : List V, SqB k1 K H a xs ∧ SqB k2 K H b ys ∧ xs.length = n1 ∧ ys.length = n2 ∧ (n1 ≤ i ∨ n2 ≤ i)
def tnM (k1 k2 : Bool) (a b z TI TO i1 i2 : Addr) (n1 n2 : Nat) (i : Nat) (h : Heap) : Prop :=
  IsZip h z TI TO .none ∧ IsTupOf2 h TI (.ref i1) (.ref i2) ∧ (∃ x y, IsTupOf2 h TO x y) ∧ ItB k1 h i1 a i ∧ ItB k2 h i2 b i ∧ i ≤ n1 ∧ i ≤ n2
theorem five {z TI TO i1 i2 c : Addr} (h : c ∈ [z, TI, TO, i1, i2]) : c = z ∨ c = TI ∨ c = TO ∨ c = i1 ∨ c = i2 := by simpa using h
theorem turn_M {P : Program} {w : World} {K : PySem.W.Frag} {elts : List Expr} {kk : Nat} {tpos : Pos} {k1 k2 : Bool} {a b z TI TO i1 i2 : Addr} {n1 n2 : Nat} (S : ZipSep2 z TI TO i1 i2 [i1, a] [i2, b]) (ha : a ≠ i1) (hb : b ≠ i2) :
    Turn P w K (.Tuple elts kk tpos) (ItzM K k1 k2 a b n1 n2) [z, TI, TO, i1, i2] z (tnM k1 k2 a b z TI TO i1 i2 n1 n2) where
  mem := List.mem_cons_self
  obj := fun i h st c hc => by
    obtain ⟨hz, hTI, ⟨x, y, hTO⟩, h1, h2, _, _⟩ := st
    rcases five hc with rfl | rfl | rfl | rfl | rfl
    · exact ⟨_, hz, fun v q => nomatch q⟩
    · exact ⟨_, hTI, fun v q => nomatch q⟩
    · exact ⟨_, hTO, fun v q => nomatch q⟩
    · exact itB_obj h1
    · exact itB_obj h2
  keep := fun i h h' st k => by
    obtain ⟨hz, hTI, ⟨x, y, hTO⟩, h1, h2, l1, l2⟩ := st
    exact ⟨k _ (by simp) _ hz, k _ (by simp) _ hTI, ⟨x, y, k _ (by simp) _ hTO⟩, itB_keep h1 (k _ (by simp)), itB_keep h2 (k _ (by simp)), l1, l2⟩
  item := by
    intro X eP ew eK hc i pins s σ H E I hf st hg
    subst eP ew eK
    obtain ⟨hz, hTI, ⟨x0, y0, hTO⟩, h1, h2, l1, l2⟩ := st
    obtain ⟨xs, ys, x, y, qx, qy, ex, ey, gx, gy⟩ := hg
    obtain ⟨us, r1, p1⟩ := seq_B I qx
    obtain ⟨ws, r2, p2⟩ := seq_B I qy
    obtain ⟨u, gu, ru⟩ := r1.get gx
    obtain ⟨v, gv, rv⟩ := r2.get gy
    have m1 : i < us.toArray.size := by
      rw [List.size_toArray]; exact (List.getElem?_eq_some_iff.mp gu).1
    have m2 : i < ws.toArray.size := by
      rw [List.size_toArray]; exact (List.getElem?_eq_some_iff.mp gv).1
    have hh : X.A.in1.handled = none := I.ok.hd hc
    have zl : z < s.heap.objs.size := Heap.lt_size hz
    refine wpAny_pyNext_zipD2_item S (draws_B k1 hh i1 a ha us.toArray) (draws_B k2 hh i2 b hb ws.toArray) hz hTI hTO ⟨h1, p1⟩ ⟨h2, p2⟩ m1 m2 fun x1 x2 h' tk y1 y2 z' o' t1 t2 hT _ hk => ?_
    have e1 : x1 = u := by
      have y1 : us.toArray[i]? = some x1 := y1
      rw [List.getElem?_toArray, gu] at y1; exact (Option.some.inj y1).symm
    have e2 : x2 = v := by
      have y2 : ws.toArray[i]? = some x2 := y2
      rw [List.getElem?_toArray, gv] at y2; exact (Option.some.inj y2).symm
    subst e1 e2
    refine ⟨_, rfl, wpAny_letOwnedTupleGo_zip (s := ⟨h', s.gens, s.drawn, tk, s.os⟩) z' fun h2' z2 sb => ?_⟩
    have hT2 : h2'.get? s.heap.objs.size = some ⟨.type "tuple", none, .seq #[x1, x2], #[]⟩ := (sb.2 _ (Nat.ne_of_gt zl)).trans hT
    have new : ObjOk X.prog X.w (upd H s.heap.objs.size (.tup [x, y])) h2' s.heap.objs.size (.tup [x, y]) :=
      ⟨by show 2 ≤ sizeLine; rw [sizeLine_eq]; decide, [x1, x2], .cons ru (.cons rv .nil), ⟨_, hT2, rfl, _, rfl⟩⟩
    have away : ∀ c o, c ∉ [z, TI, TO, i1, i2] → s.heap.get? c = some o → h2'.get? c = some o := fun c o hn q => by
      refine (sb.2 c fun e => hn (by simp [e])).trans (hk c o (fun e => hn (by simp [e])) (fun e => hn (by simp [e])) (fun e => hn (by simp [e])) (fun e => hn (by simp [e])) q)
    have J : Inv X pins σ (upd H s.heap.objs.size (.tup [x, y])) ⟨h2', s.gens, s.drawn, tk, s.os⟩ := I.turnedNew (t' := tk) away hf (Nat.le_refl _) new
    refine ⟨.ref s.heap.objs.size, _, J, rfl, ⟨_, x, y, rfl, I.hok.fresh (Nat.le_refl _), rfl, fun l hl => by rw [inj_B I hl qx]; exact gx, fun l hl => by rw [inj_B I hl qy]; exact gy⟩, ⟨z2, ?_, ⟨_, _, (sb.2 _ S.TOz).trans o'⟩, ?_, ?_, ?_, ?_⟩, fun c hcm => ?_⟩
    · exact (sb.2 _ S.TIz).trans (hk _ _ S.TIz S.TITO S.TIi1 S.TIi2 hTI)
    · exact itB_keep t1.1 fun o q => (sb.2 _ (Ne.symm S.zi1)).trans q
    · exact itB_keep t2.1 fun o q => (sb.2 _ (Ne.symm S.zi2)).trans q
    · rw [← ex]; exact (List.getElem?_eq_some_iff.mp gx).1
    · rw [← ey]; exact (List.getElem?_eq_some_iff.mp gy).1
    · have hlt : c < s.heap.objs.size := by
        rcases five hcm with rfl | rfl | rfl | rfl | rfl
        · exact zl
        · exact Heap.lt_size hTI
        · exact Heap.lt_size hTO
        · obtain ⟨o, e, _⟩ := itB_obj h1; exact Heap.lt_size e
        · obtain ⟨o, e, _⟩ := itB_obj h2; exact Heap.lt_size e
      rw [upd_ne (Nat.ne_of_lt hlt)]
      exact (hf c hcm).1
  done := by
    intro X eP ew eK hc i pins s σ H E I hf st hg
    subst eP ew eK
    obtain ⟨hz, hTI, ⟨x0, y0, hTO⟩, h1, h2, l1, l2⟩ := st
    obtain ⟨xs, ys, qx, qy, ex, ey, hend⟩ := hg
    obtain ⟨us, r1, p1⟩ := seq_B I qx
    obtain ⟨ws, r2, p2⟩ := seq_B I qy
    have m1 : us.toArray.size = n1 := by rw [List.size_toArray, ← r1.length, ex]
    have m2 : ws.toArray.size = n2 := by rw [List.size_toArray, ← r2.length, ey]
    have hh : X.A.in1.handled = none := I.ok.hd hc
    refine wpAny_pyNext_zipD2_end S (draws_B k1 hh i1 a ha us.toArray) (draws_B k2 hh i2 b hb ws.toArray) hz hTI hTO ⟨h1, p1⟩ ⟨h2, p2⟩ (by omega) (by omega) (by omega) fun h' tk hk => ⟨rfl, ?_⟩
    exact I.turnedL (t' := tk) (ch := [z, TI, TO, i1, i2]) (fun c o hn q => hk c o (fun e => hn (by simp [e])) (fun e => hn (by simp [e])) (fun e => hn (by simp [e])) (fun e => hn (by simp [e])) q) hf
  self := fun A i s Q E st h => wpAny_pyIter_zip st.1 h
def iZipX (K : PySem.W.Frag) (ta : TA) : TI := fun σ H R => ta σ H fun vs H1 => ∃ k1 k2 a b xs ys, vs = [.ref a, .ref b] ∧ SqB k1 K H1 a xs ∧ SqB k2 K H1 b ys ∧ R (ItzM K k1 k2 a b xs.length ys.length) H1
theorem pi_zipX {X : Cx} {e e2 : Expr} {ta : TA} {p pos tpos : Pos} {elts : List Expr} {kk : Nat} (hg : Gl X "zip") (hm : X.mg "zip" = none) (ha : PA X [e, e2] ta)
    (hs : starEach [e, e2] X.env = (false, eval e X.env) :: starEach [e2] X.env) (hpl : (backTo pos (starEach [e2] X.env)).any (·.1) = false) : PI X (.Tuple elts kk tpos) (.Call (.Name "zip" p) [e, e2] [] pos) (iZipX X.K ta) := by
  refine ⟨fun pins s σ H R I h => ?_⟩
  refine PyProof.Rows.Call_ (ld_blt I hg hm PyProof.Rows.boot_zip (PyProof.Rows.callWith_type1 (thn (ha.run pos pins s σ H _ I h) fun us s1 ⟨vs, H1, I1, r1, q1⟩ => ?_) hs hpl))
  obtain ⟨k1, k2, a, b, xs, ys, rfl, qx, qy, q⟩ := q1
  obtain ⟨us1, m1, p1⟩ := seq_B I1 qx
  obtain ⟨us2, m2, p2⟩ := seq_B I1 qy
  rcases r1 with _ | ⟨⟨⟩, _ | ⟨⟨⟩, _ | _⟩⟩
  have la := isB_lt p1
  have lb := isB_lt p2
  have new : ∀ c, c ∈ [s1.heap.objs.size + 4, s1.heap.objs.size + 2, s1.heap.objs.size + 3, s1.heap.objs.size, s1.heap.objs.size + 1] → FpOk X pins H1 c := fun c hcm => by
    have le : s1.heap.objs.size ≤ c := by
      rcases five hcm with rfl | rfl | rfl | rfl | rfl
      · exact Nat.le_add_right _ _
      · exact Nat.le_add_right _ _
      · exact Nat.le_add_right _ _
      · exact Nat.le_refl _
      · exact Nat.le_add_right _ _
    exact I1.fpOk le (I1.hok.fresh le)
  refine zip_begins2 (begins_B k1 a us1.toArray) (begins_B k2 b us2.toArray) p1 p2 fun h' hz hTI hTO g1 g2 _ hk => wpAny_pyIter_zip hz ?_
  have I2 : Inv X pins σ H1 { s1 with heap := h' } := I1.kept (t' := s1.toks) hk
  have S := zip_sep2 (N := s1.heap.objs.size) (fp1 := [a]) (fp2 := [b]) (fun c hc => by rw [List.mem_singleton.mp hc]; exact la) (fun c hc => by rw [List.mem_singleton.mp hc]; exact lb)
  exact ⟨_, _, _, _, H1, rfl, I2, turn_M S (Nat.ne_of_lt la) (Nat.ne_of_lt (Nat.lt_succ_of_lt lb)), ⟨hz, hTI, ⟨_, _, hTO⟩, itO_at g1, itO_at g2, Nat.zero_le _, Nat.zero_le _⟩, new, q⟩
/-- list or tuple -/
def sqD : D → Option (Bool × List D) | .list xs => some (false, xs) | .tuple xs => some (true, xs) | _ => none
def iZipG (f g : List C → Option D) : List C → Option (List D) := fun env => ((f env).bind sqD).bind fun x => ((g env).bind sqD).bind fun y => some (zipD x.2 y.2)
theorem sqD_df {K : PySem.W.Frag} {F : Hp} {v : V} {d : D} {k : Bool} {ds : List D} (e : sqD d = some (k, ds)) (r : DF K F v d) : ∃ a vs, v = .ref a ∧ SqB k K F a vs ∧ DFAll K F vs ds := by
  unfold sqD at e
  split at e <;> cases e
  · cases r with | lst h1 h2 => exact ⟨_, _, rfl, .inl (.inl h1), h2⟩
  · cases r with | tup h1 h2 => exact ⟨_, _, rfl, h1, h2⟩
theorem sqB_mono {K : PySem.W.Frag} {H H' : Hp} {k : Bool} {a : Addr} {vs : List V} (s : Same H H') (h : SqB k K H a vs) : SqB k K H' a vs := by
  cases k
  · exact s.seq h
  · exact Same.seqT s h
theorem lenB {K : PySem.W.Frag} {H : Hp} {k : Bool} {a : Addr} {vs : List V} (l : LenOk K H) (h : SqB k K H a vs) : vs.length ≤ sizeLine := by
  cases k
  · exact l a vs (.inl h)
  · exact l a vs (.inr h)
theorem di_zipG {X : Cx} {G : GC} {e e2 : Expr} {k k2 : RK} {f f2 : List C → Option D} {p pos : Pos} {elts : List Expr} {kk : Nat} {tpos : Pos} (hg : Gl X "zip") (hm : X.mg "zip" = none) (h : DE X G k e f) (h2 : DE X G k2 e2 f2) (hk : k.le .fz = true := by rfl) (hk2 : k2.le .fz = true := by rfl)
    (hs : starEach [e, e2] X.env = (false, eval e X.env) :: starEach [e2] X.env := by rfl) (hs2 : starEach [e2] X.env = [(false, eval e2 X.env)] := by rfl) (hpl : (backTo pos (starEach [e2] X.env)).any (·.1) = false := by rfl) :
    DI X G (.Tuple elts kk tpos) (.Call (.Name "zip" p) [e, e2] [] pos) (iZipG f f2) := by
  obtain ⟨t, pt, o⟩ := (h.conv hk).ex
  obtain ⟨t2, pt2, o2⟩ := (h2.conv hk2).ex
  refine ⟨_, pi_zipX hg hm (pa_cons pt (pa_cons pt2 pa_nil hs2) hs) hs hpl, fun σ H F fp env items R Rl hf q => ?_⟩
  unfold iZipG at hf
  cases z1 : f env with
  | none => rw [z1] at hf; cases hf
  | some d1 =>
    rw [z1, Option.bind_some] at hf
    cases y1 : sqD d1 with
    | none => rw [y1] at hf; cases hf
    | some x1 =>
      rw [y1, Option.bind_some] at hf
      cases z2 : f2 env with
      | none => rw [z2] at hf; cases hf
      | some d2 =>
        rw [z2, Option.bind_some] at hf
        cases y2 : sqD d2 with
        | none => rw [y2] at hf; cases hf
        | some x2 =>
          rw [y2, Option.bind_some] at hf
          cases hf
          obtain ⟨ka, xs⟩ := x1
          obtain ⟨kb, ys⟩ := x2
          refine o σ H F fp env _ _ Rl z1 fun v H1 F1 E1 r => ?_
          refine o2 σ H1 F1 fp env _ _ (Rl.ext E1) z2 fun v2 H2 F2 E2 r2 => ?_
          obtain ⟨a, vs, rfl, s1, m1⟩ := sqD_df y1 (DF_mono E2.f _ _ r)
          obtain ⟨b, ws, rfl, s2, m2⟩ := sqD_df y2 r2
          have n1 := DFAll_len m1
          have n2 := DFAll_len m2
          refine ⟨ka, kb, a, b, vs, ws, rfl, sqB_mono E2.sub s1, sqB_mono E2.sub s2, q _ H2 F2 (E1.trans E2) (fun i H3 F3 t1 t2 => ⟨fun d hd => ?_, fun hl => ?_⟩) fun ln => ?_⟩
          · obtain ⟨c1, c2, g1, g2, rfl⟩ := zipD_get hd
            obtain ⟨v, hv, rv⟩ := DFAll_get m1 g1
            obtain ⟨w, hw, rw'⟩ := DFAll_get m2 g2
            have ea := sqB_mono (t1.trans t2) s1
            have eb := sqB_mono (t1.trans t2) s2
            refine ⟨⟨vs, ws, v, w, ea, eb, rfl, rfl, hv, hw⟩, fun x H4 ⟨T, x1, x2, ex, nT, eH, j1, j2⟩ => ?_⟩
            have i1 := j1 vs ea; rw [hv] at i1; cases i1
            have i2 := j2 ws eb; rw [hw] at i2; cases i2
            subst ex eH
            obtain ⟨E, r'⟩ := pair_new t2 nT (DF_mono t1 _ _ rv) (DF_mono t1 _ _ rw')
            exact ⟨_, E, r'⟩
          · rw [zipD_len] at hl
            dsimp only at hl
            exact ⟨vs, ws, sqB_mono (t1.trans t2) s1, sqB_mono (t1.trans t2) s2, rfl, rfl, by omega⟩
          · have z9 := lenB ln (sqB_mono E2.sub s1)
            rw [zipD_len]; dsimp only; omega
end DL
set_option Elab.async false
set_option linter.all false
set_option maxRecDepth 100000
set_option maxHeartbeats 4000000
/-! DLk: range of numbers of any size -/
namespace DL
open PySem PySem.Spec L2
theorem turn_long {P : Program} {w : World} {K : PySem.W.Frag} {tg : Expr} (it : Addr) (lo : Int) (n : Nat) : Turn P w K tg (Itr lo n) [it] it (fun i h => IsLongIter h it (lo + (i : Nat) * 1) ((n : Int) - (i : Nat)) 1) where
  mem := List.mem_cons_self
  obj := fun i h st b hb => by
    rw [List.mem_singleton.mp hb]
    exact ⟨_, st, fun v z => nomatch z⟩
  keep := fun i h h' st k => k it List.mem_cons_self _ st
  item := by
    intro X eP ew eK hc i pins s σ H E I hf st hg
    subst eP ew eK
    obtain ⟨f0, f1, f2, f3, f4, f5⟩ := hf it List.mem_cons_self
    refine (Walks.longrange (prog := X.prog) (w := X.w) (I.ok.hd hc) it lo 1 n).item i s _ _ hg st fun v h' tk hv st' kk => ?_
    obtain ⟨t, rfl⟩ := hv
    have J1 : Inv X pins σ H ⟨h', s.gens, s.drawn, tk, s.os⟩ := I.turned (fun c o1 hc1 e1 => kk c o1 (by simpa using hc1) e1) f0 f1 f3 f4 f5
    refine ⟨_, rfl, go_of (s := { s with heap := h', toks := tk }) (n := "longrange_iterator") st' rfl rfl (by decide) ⟨.int (lo + i), H, J1, ⟨t, by rw [Int.mul_one]⟩, ⟨rfl, rfl⟩, st', fun b hb => (hf b hb).1⟩⟩
  done := by
    intro X eP ew eK hc i pins s σ H E I hf st hg
    subst eP ew eK
    obtain ⟨f0, f1, f2, f3, f4, f5⟩ := hf it List.mem_cons_self
    have hg' : n ≤ i := hg
    exact wpAny_pyNext_long_end (I.ok.hd hc) st (by omega) fun h' eb => ⟨rfl, I.turned (t' := s.toks) (fun b o hb e => eb b o hb e) f0 f1 f3 f4 f5⟩
  self := fun _ _ _ _ _ st h => wpAny_pyIter_longiter st h
section
variable {X : Cx} {tg : Expr}
theorem size_one (lo hi : Int) : (((hi - lo).toNat : Nat) : Int) - ((0 : Nat) : Int) = Builtin.Range.rangeSize lo hi 1 := by
  rw [rangeSize_one]; split <;> omega
theorem range_any {pins : List (Addr × Obj)} {σ : L2.St} {H : Hp} {s : Shared} {R : It → Hp → Prop} {E : Value → Shared → Prop} {lo hi : Int} {t u v : Tok} {tk : Nat} (I : Inv X pins σ H s)
    (q : R (Itr lo (hi - lo).toNat) H) : wpAny (model X.prog X.w) X.A (pyIter (.ref s.heap.objs.size)) (PIE X pins σ tg R) E { s with heap := s.heap.push ⟨.type "range", none, .fields #[.int lo t, .int hi u, .int 1 v], #[]⟩, toks := tk } := by
  have J1 : Inv X pins σ H { s with heap := s.heap.push ⟨.type "range", none, .fields #[.int lo t, .int hi u, .int 1 v], #[]⟩, toks := tk } := I.kept fun b o e => Heap.get?_push_of_some _ e
  have e1 : lo + ((0 : Nat) : Int) * 1 = lo := by simp
  cases sm : Builtin.Range.small lo hi 1 with
  | true =>
    refine wpAny_pyIter_range (IsRange.new ..) sm ?_
    refine ⟨_, [(s.heap.push ⟨.type "range", none, .fields #[.int lo t, .int hi u, .int 1 v], #[]⟩).objs.size], _, _, H, rfl, J1.kept (t' := tk) fun b o e => Heap.get?_push_of_some _ e, turn_range _ lo (hi - lo).toNat, ?_, fun b hb => ?_, q⟩
    · show IsRangeIter _ _ (lo + ((0 : Nat) : Int) * 1) ((((hi - lo).toNat : Nat) : Int) - ((0 : Nat) : Int)) (1 : Int)
      rw [e1, size_one]; exact Heap.get?_push_size _ rfl
    · rw [List.mem_singleton.mp hb]
      exact J1.fpOk (Nat.le_refl _) (J1.hok.fresh (Nat.le_refl _))
  | false =>
    refine wpAny_pyIter_longrange (IsRange.new ..) sm ?_
    refine ⟨_, [(s.heap.push ⟨.type "range", none, .fields #[.int lo t, .int hi u, .int 1 v], #[]⟩).objs.size], _, _, H, rfl, J1.kept (t' := tk) fun b o e => Heap.get?_push_of_some _ e, turn_long _ lo (hi - lo).toNat, ?_, fun b hb => ?_, q⟩
    · show IsLongIter _ _ (lo + ((0 : Nat) : Int) * 1) ((((hi - lo).toNat : Nat) : Int) - ((0 : Nat) : Int)) 1
      rw [e1, size_one]; exact Heap.get?_push_size _ rfl
    · rw [List.mem_singleton.mp hb]
      exact J1.fpOk (Nat.le_refl _) (J1.hok.fresh (Nat.le_refl _))
def iRngA (ta : TA) : TI := fun σ H R => ta σ H fun vs H1 => ∃ i j : Int, vs = [.int i, .int j] ∧ R (Itr i (j - i).toNat) H1
theorem pi_rangeA {a b : Expr} {ta : TA} {p pos : Pos} (hg : Gl X "range") (hm : X.mg "range" = none) (ha : PA X [a, b] ta) (hs : starEach [a, b] X.env = [(false, eval a X.env), (false, eval b X.env)]) (hs2 : starEach [b] X.env = [(false, eval b X.env)]) :
    PI X tg (.Call (.Name "range" p) [a, b] [] pos) (iRngA ta) := by
  refine ⟨fun pins s σ H R I h => ?_⟩
  refine PyProof.Rows.Call_ (ld_blt I hg hm PyProof.Rows.boot_range (PyProof.Rows.callWith_type1 (thn (ha.run pos pins s σ H _ I h) fun us s1 ⟨vs, H1, I1, r1, q1⟩ => ?_) (by rw [hs, hs2]) (by rw [hs2]; rfl)))
  obtain ⟨i, j, rfl, q⟩ := q1
  rcases r1 with _ | ⟨⟨t, rfl⟩, _ | ⟨⟨t', rfl⟩, _ | _⟩⟩
  exact call_range_2 (range_any I1 q)
end
def iRng2A (f g : List C → Option D) : List C → Option (List D) := fun env => match f env with
  | some (.int i) => (match g env with | some (.int j) => if j - i ≤ 16777216 then some (rng i (j - i).toNat) else none | _ => none)
  | _ => none
theorem di_rangeA {X : Cx} {G : GC} {tg e e2 : Expr} {k k2 : RK} {f f2 : List C → Option D} {p pos : Pos} (hg : Gl X "range") (hm : X.mg "range" = none) (h : DE X G k e f) (h2 : DE X G k2 e2 f2) (hk : k.le .vl = true := by rfl) (hk2 : k2.le .vl = true := by rfl)
    (hs : starEach [e, e2] X.env = [(false, eval e X.env), (false, eval e2 X.env)] := by rfl) (hs2 : starEach [e2] X.env = [(false, eval e2 X.env)] := by rfl) : DI X G tg (.Call (.Name "range" p) [e, e2] [] pos) (iRng2A f f2) := by
  obtain ⟨t, pt, o⟩ := (h.conv hk).ex
  obtain ⟨t2, pt2, o2⟩ := (h2.conv hk2).ex
  refine ⟨_, pi_rangeA hg hm (pa_cons pt (pa_cons pt2 pa_nil hs2) (by rw [hs, hs2])) hs hs2, fun σ H F fp env items R Rl hf q => ?_⟩
  unfold iRng2A at hf
  split at hf
  · rename_i i z
    split at hf
    · rename_i j z2
      split at hf
      · cases hf
        rename_i hb
        refine o σ H F fp env _ _ Rl z fun v H1 F1 E1 r => ?_
        have ev := vl_int (G := G) (H := H1) (F := F1) r
        subst ev
        refine o2 σ H1 F1 fp env _ _ (Rl.ext E1) z2 fun v H2 F2 E2 r => ?_
        have ev := vl_int (G := G) (H := H2) (F := F2) r
        subst ev
        exact ⟨i, j, rfl, q _ H2 F2 (E1.trans E2) (walk_rng i _) fun _ => by rw [rng_len, sizeLine_eq]; omega⟩
      · cases hf
    · cases hf
  · cases hf
end DL
set_option Elab.async false
set_option linter.all false
set_option maxRecDepth 100000
set_option maxHeartbeats 4000000
set_option exponentiation.threshold 500
/-! DM: the meanings reckoned: each combinator at a frame, as equations for simp -/
namespace DL
open PySem PySem.Spec L2

section
variable {env : List C} {f g : List C → Out} {fe fa fb : List C → Option D} {ft f1 f2 : List C → Option Bool} {fs : List C → Option (List D)} {fi : List C → Option (List D)} {i j n : Nat} {d x y : D} {ds xs ys : List D} {e : List C}
/-! ### plain ones, told as equations (not by unfolding) -/
theorem ev_bs {α β : Type} {x : α} {f : α → Option β} : (some x).bind f = f x := (rfl)
theorem ev_bn {α β : Type} {f : α → Option β} : (none : Option α).bind f = none := (rfl)
theorem ev_ms {α β : Type} {x : α} {f : α → β} : (some x).map f = some (f x) := (rfl)
theorem ev_mn {α β : Type} {f : α → β} : (none : Option α).map f = none := (rfl)
theorem ev_g0 {α : Type} {a : α} {l : List α} : (a :: l)[0]? = some a := (rfl)
theorem ev_gs {α : Type} {a : α} {l : List α} {n : Nat} : (a :: l)[n + 1]? = l[n]? := (rfl)
theorem ev_s0 {α : Type} {a b : α} {l : List α} : (a :: l).set 0 b = b :: l := (rfl)
theorem ev_ss {α : Type} {a b : α} {l : List α} {n : Nat} : (a :: l).set (n + 1) b = a :: l.set n b := (rfl)
theorem ev_bn1 : (!true) = false := (rfl)
theorem ev_bn2 : (!false) = true := (rfl)
/-! ### statements -/
def oSeq (o : Out) (g : List C → Out) : Out := match o with | .nx e => g e | o => o
theorem ev_seq : sSeq f g env = oSeq (f env) g := by unfold sSeq oSeq; cases f env <;> rfl
theorem ev_seq_nx : oSeq (.nx e) g = g e := (rfl)
theorem ev_seq_rt : oSeq (.rt d) g = .rt d := (rfl)
theorem ev_seq_bk : oSeq (.bk e) g = .bk e := (rfl)
theorem ev_seq_ct : oSeq (.ct e) g = .ct e := (rfl)
theorem ev_nil : sNil env = .nx env := (rfl)
theorem ev_brk : sBrk env = .bk env := (rfl)
theorem ev_cnt : sCnt env = .ct env := (rfl)
def oIf (c : Option Bool) (f g : List C → Out) (env : List C) : Out := match c with | some true => f env | some false => g env | none => .err
theorem ev_if : sIf ft f g env = oIf (ft env) f g env := (rfl)
theorem ev_if_t : oIf (some true) f g env = f env := (rfl)
theorem ev_if_f : oIf (some false) f g env = g env := (rfl)
theorem if_dec {p : Prop} [Decidable p] : oIf (some (decide p)) f g env = if p then f env else g env := by
  by_cases h : p
  · rw [decide_eq_true h, if_pos h]; rfl
  · rw [decide_eq_false h, if_neg h]; rfl
def oSet (o : Option D) (i : Nat) (env : List C) : Out := match o with | some d => .nx (env.set i (.val d)) | none => .err
theorem ev_set : sSet i fe env = oSet (fe env) i env := (rfl)
theorem ev_oset : oSet (some d) i env = .nx (env.set i (.val d)) := (rfl)
def oSetL (o : Option D) (i : Nat) (env : List C) : Out := match o with | some (.list ds) => .nx (env.set i (.lst ds)) | _ => .err
theorem ev_setL : sSetL i fe env = oSetL (fe env) i env := (rfl)
theorem ev_osetL : oSetL (some (.list ds)) i env = .nx (env.set i (.lst ds)) := (rfl)
def oDrop (o : Option D) (env : List C) : Out := match o with | some _ => .nx env | none => .err
theorem ev_drop : sDrop fe env = oDrop (fe env) env := (rfl)
theorem ev_odrop : oDrop (some d) env = .nx env := (rfl)
def oRet (o : Option D) : Out := match o with | some d => .rt d | none => .err
theorem ev_ret : sRet fe env = oRet (fe env) := (rfl)
theorem ev_oret : oRet (some d) = .rt d := (rfl)
theorem ev_retN : sRetN env = .rt .none := (rfl)
def oRetL (o : Option C) : Out := match o with | some (.lst ds) => .rt (.list ds) | _ => .err
theorem ev_retL : sRetL i env = oRetL env[i]? := (rfl)
theorem ev_oretL : oRetL (some (.lst ds)) = .rt (.list ds) := (rfl)
def oRun (o : Out) : Option D := match o with | .rt d => some d | _ => none
def oRunN (o : Out) : Option D := match o with | .rt d => some d | .nx _ => some .none | _ => none
theorem ev_run {ks : List RK} {b : List C → Out} : runP ks n b ds = oRun (b (cells ks ds ++ List.replicate (n - ds.length) .und)) := (rfl)
theorem ev_runN {ks : List RK} {b : List C → Out} : runN ks n b ds = oRunN (b (cells ks ds ++ List.replicate (n - ds.length) .und)) := (rfl)
theorem ev_orun : oRun (.rt d) = some d := (rfl)
theorem ev_orunN : oRunN (.rt d) = some d := (rfl)
theorem ev_orunN_nx : oRunN (.nx e) = some .none := (rfl)
def oFz (c : Option C) (i : Nat) (g : List C → Out) (env : List C) : Out := match c with | some (.lst ds) => g (env.set i (.val (.list ds))) | some (.val _) => g env | _ => .err
theorem ev_fz : sFz i g env = oFz env[i]? i g env := (rfl)
theorem ev_fz_l : oFz (some (.lst ds)) i g env = g (env.set i (.val (.list ds))) := (rfl)
theorem ev_fz_v : oFz (some (.val d)) i g env = g env := (rfl)
def oApp (c : Option C) (o : Option D) (i : Nat) (env : List C) : Out := match c with
  | some (.lst ds) => (match o with | some d => if ds.length < 16000000 then .nx (env.set i (.lst (ds ++ [d]))) else .err | none => .err)
  | _ => .err
theorem ev_app : sApp i fe env = oApp env[i]? (fe env) i env := (rfl)
theorem ev_app_s (h : (ds.length : Int) < 16000000) : oApp (some (.lst ds)) (some d) i env = .nx (env.set i (.lst (ds ++ [d]))) := if_pos (by omega)
def oClear (c : Option C) (i : Nat) (env : List C) : Out := match c with | some (.lst _) => .nx (env.set i (.lst [])) | _ => .err
theorem ev_clear : sClear i env = oClear env[i]? i env := (rfl)
theorem ev_clear_s : oClear (some (.lst ds)) i env = .nx (env.set i (.lst [])) := (rfl)
def oNx (o : Option (List C)) : Out := match o with | some e => .nx e | none => .err
theorem ev_oNx : oNx (some e) = .nx e := (rfl)
def oAsg (o : Option D) (h : D → List C → Option (List C)) (env : List C) : Out := match o with | some d => oNx (h d env) | none => .err
theorem ev_asg {h : D → List C → Option (List C)} : sAsg h fe env = oAsg (fe env) h env := by unfold sAsg oAsg oNx; cases fe env <;> rfl
theorem ev_asg_s {h : D → List C → Option (List C)} : oAsg (some d) h env = oNx (h d env) := (rfl)
def oPar (o : Option (List D)) (i j : Nat) (env : List C) : Out := match o with | some [x, y] => .nx ((env.set i (.val x)).set j (.val y)) | _ => .err
theorem ev_par : sPar i j fs env = oPar (fs env) i j env := (rfl)
theorem ev_par_s : oPar (some [x, y]) i j env = .nx ((env.set i (.val x)).set j (.val y)) := (rfl)
def oAug (c : Option C) (o : Option D) (h : D → D → Option D) (i : Nat) (env : List C) : Out := match c with
  | some (.val x) => oSet (o.bind fun y => h x y) i env
  | _ => .err
theorem ev_aug {h : D → D → Option D} : sAug i h fe env = oAug env[i]? (fe env) h i env := by
  unfold sAug oAug
  cases env[i]? with
  | none => rfl
  | some c =>
    cases c <;> try rfl
    rename_i x
    cases fe env with
    | none => rfl
    | some y =>
      show (match h x y with | some z => Out.nx _ | none => Out.err) = oSet (h x y) i env
      cases h x y <;> rfl
theorem ev_aug_s {h : D → D → Option D} : oAug (some (.val x)) (some y) h i env = oSet (h x y) i env := (rfl)
def oSetIx (c : Option C) (oi o : Option D) (i : Nat) (env : List C) : Out := match c with
  | some (.lst ds) => (match o with
    | some d => (match oi with
      | some (.int j) => oSetL ((setAt ds j d).map .list) i env
      | _ => .err)
    | none => .err)
  | _ => .err
theorem ev_setIx {fj : List C → Option D} : sSetIx i fj fe env = oSetIx env[i]? (fj env) (fe env) i env := by
  unfold sSetIx oSetIx
  cases env[i]? with
  | none => rfl
  | some c =>
    cases c <;> try rfl
    rename_i ds
    cases fe env with
    | none => rfl
    | some d =>
      cases fj env with
      | none => rfl
      | some k =>
        cases k <;> try rfl
        rename_i k
        dsimp only
        cases setAt ds k d <;> rfl
theorem ev_setIx_s {k : Int} : oSetIx (some (.lst ds)) (some (.int k)) (some d) i env = oSetL ((setAt ds k d).map .list) i env := (rfl)
def oAugIx (c : Option C) (oi o : Option D) (h : D → D → Option D) (i : Nat) (env : List C) : Out := match c with
  | some (.lst ds) => (match oi with
    | some (.int j) => (match atI ds j with
      | some x => (match o with
        | some y => (match h x y with
          | some z => (match setAt ds j z with | some ds' => .nx (env.set i (.lst ds')) | none => .err)
          | none => .err)
        | none => .err)
      | none => .err)
    | _ => .err)
  | _ => .err
theorem ev_augIx {h : D → D → Option D} {fj : List C → Option D} : sAugIx i h fj fe env = oAugIx env[i]? (fj env) (fe env) h i env := by
  unfold sAugIx oAugIx
  rfl
theorem augIx_s {h : D → D → Option D} {k : Int} {z : D} {ds' : List D} (e1 : atI ds k = some x) (e2 : h x y = some z) (e3 : setAt ds k z = some ds') : oAugIx (some (.lst ds)) (some (.int k)) (some y) h i env = .nx (env.set i (.lst ds')) := by
  unfold oAugIx
  simp only [e1, e2, e3]
def oFor (o : Option (List D)) (h : D → List C → Option (List C)) (b : List C → Out) (env : List C) : Out := match o with | some items => forF h b items env | none => .err
theorem ev_for {h : D → List C → Option (List C)} {b : List C → Out} : sFor fi h b env = oFor (fi env) h b env := (rfl)
theorem ev_ofor {h : D → List C → Option (List C)} {b : List C → Out} : oFor (some ds) h b env = forF h b ds env := (rfl)
/-! ### names -/
def rdV (c : Option C) : Option D := match c with | some (.val d) => some d | _ => none
def rdL (c : Option C) : Option D := match c with | some (.val d) => some d | some (.lst ds) => some (.list ds) | _ => none
def rdB (c : Option C) : Option D := match c with | some (.val d) => some d | some (.brw d) => some d | _ => none
theorem ev_V : eV i env = rdV env[i]? := (rfl)
theorem ev_L : eL i env = rdL env[i]? := (rfl)
theorem ev_B : eB i env = rdB env[i]? := (rfl)
theorem ev_rdV : rdV (some (.val d)) = some d := (rfl)
theorem ev_rdLv : rdL (some (.val d)) = some d := (rfl)
theorem ev_rdLl : rdL (some (.lst ds)) = some (.list ds) := (rfl)
theorem ev_rdBv : rdB (some (.val d)) = some d := (rfl)
theorem ev_rdBb : rdB (some (.brw d)) = some d := (rfl)
theorem ev_C : eC d env = some d := (rfl)
/-! ### expressions -/
def o2 (g : D → D → Option D) (a b : Option D) : Option D := match a, b with | some x, some y => g x y | _, _ => none
theorem ev_e2 {g : D → D → Option D} : e2 g fa fb env = o2 g (fa env) (fb env) := by unfold e2 o2; cases fa env <;> cases fb env <;> rfl
theorem ev_o2 {g : D → D → Option D} : o2 g (some x) (some y) = g x y := (rfl)
theorem ev_e1 {g : List D → Option D} : e1 g fs env = (fs env).bind g := (rfl)
def o3 (g : D → Option Int → Option Int → Option D) (a : Option D) (l u : Option (Option Int)) : Option D := match a, l, u with | some x, some l, some u => g x l u | _, _, _ => none
theorem ev_e3 {g : D → Option Int → Option Int → Option D} {fl fu : List C → Option (Option Int)} : e3 g fa fl fu env = o3 g (fa env) (fl env) (fu env) := by
  unfold e3 o3; cases fa env <;> cases fl env <;> cases fu env <;> rfl
theorem ev_o3 {g : D → Option Int → Option Int → Option D} {l u : Option Int} : o3 g (some x) (some l) (some u) = g x l u := (rfl)
theorem ev_pN : pN env = some none := (rfl)
def oPS (o : Option D) : Option (Option Int) := match o with | some (.int i) => some (some i) | _ => none
theorem ev_pS : pS fe env = oPS (fe env) := (rfl)
theorem ev_oPS {k : Int} : oPS (some (.int k)) = some (some k) := (rfl)
def oCons (o : Option D) (os : Option (List D)) : Option (List D) := match o, os with | some d, some ds => some (d :: ds) | _, _ => none
theorem ev_aNil : aNil env = some [] := (rfl)
theorem ev_aCons : aCons fe fs env = oCons (fe env) (fs env) := by unfold aCons oCons; cases fe env <;> cases fs env <;> rfl
theorem ev_oCons : oCons (some d) (some ds) = some (d :: ds) := (rfl)
theorem ev_tup : eTup fs env = (fs env).map .tuple := (rfl)
def oLst (o : Option (List D)) : Option D := o.map .list
theorem ev_lst : eLst fs env = oLst (fs env) := (rfl)
theorem ev_oLst : oLst (some ds) = some (.list ds) := (rfl)
def oScal (o : Option D) : Option D := match o with | some d => if scalD d then some d else none | none => none
theorem ev_scal : eScal fe env = oScal (fe env) := (rfl)
theorem ev_scal_i {k : Int} : oScal (some (.int k)) = some (.int k) := (rfl)
theorem ev_scal_s {k : Str} : oScal (some (.str k)) = some (.str k) := (rfl)
theorem ev_scal_b {k : Bool} : oScal (some (.bool k)) = some (.bool k) := (rfl)
def oNeg (o : Option D) : Option D := match o with | some (.int i) => some (.int (-i)) | _ => none
theorem ev_neg : eNeg fe env = oNeg (fe env) := (rfl)
theorem ev_oNeg {k : Int} : oNeg (some (.int k)) = some (.int (-k)) := (rfl)
theorem ev_tB : tB fe env = asB (fe env) := (rfl)
theorem ev_asB {b : Bool} : asB (some (.bool b)) = some b := (rfl)
theorem ev_tNot : tNotF ft env = (ft env).map (!·) := (rfl)
def oAnd (c : Option Bool) (g : List C → Option Bool) (env : List C) : Option Bool := match c with | some true => g env | some false => some false | none => none
def oOr (c : Option Bool) (g : List C → Option Bool) (env : List C) : Option Bool := match c with | some true => some true | some false => g env | none => none
theorem ev_tAnd : tAndF f1 f2 env = oAnd (f1 env) f2 env := by
  unfold tAndF oAnd
  cases f1 env with
  | none => rfl
  | some b => cases b <;> rfl
theorem ev_tOr : tOrF f1 f2 env = oOr (f1 env) f2 env := by
  unfold tOrF oOr
  cases f1 env with
  | none => rfl
  | some b => cases b <;> rfl
theorem ev_oAnd_t : oAnd (some true) f1 env = f1 env := (rfl)
theorem ev_oAnd_f : oAnd (some false) f1 env = some false := (rfl)
theorem ev_oOr_t : oOr (some true) f1 env = some true := (rfl)
theorem ev_oOr_f : oOr (some false) f1 env = f1 env := (rfl)
theorem oAnd_b {b c : Bool} (h : f1 env = some c) : oAnd (some b) f1 env = some (b && c) := by cases b <;> simp [oAnd, h]
theorem oOr_b {b c : Bool} (h : f1 env = some c) : oOr (some b) f1 env = some (b || c) := by cases b <;> simp [oOr, h]
def oAndD (c : Option Bool) (g : List C → Option D) (env : List C) : Option D := match c with | some true => g env | some false => some (.bool false) | none => none
def oOrD (c : Option Bool) (g : List C → Option D) (env : List C) : Option D := match c with | some true => some (.bool true) | some false => g env | none => none
theorem ev_eAnd : eAnd fa fb env = oAndD (asB (fa env)) fb env := by
  unfold eAnd oAndD
  cases asB (fa env) with
  | none => rfl
  | some b => cases b <;> rfl
theorem ev_eOr : eOr fa fb env = oOrD (asB (fa env)) fb env := by
  unfold eOr oOrD
  cases asB (fa env) with
  | none => rfl
  | some b => cases b <;> rfl
theorem ev_oAndD_t : oAndD (some true) fb env = fb env := (rfl)
theorem ev_oAndD_f : oAndD (some false) fb env = some (.bool false) := (rfl)
theorem ev_oOrD_t : oOrD (some true) fb env = some (.bool true) := (rfl)
theorem ev_oOrD_f : oOrD (some false) fb env = fb env := (rfl)
def oNot (o : Option Bool) : Option D := o.map fun c => .bool (!c)
theorem ev_eNot : eNot fe env = oNot (asB (fe env)) := (rfl)
theorem ev_oNot {b : Bool} : oNot (some b) = some (.bool (!b)) := (rfl)
def oIsi (T : String) (o : Option D) : Option D := o.bind fun d => (kitB (tyD d) T).map .bool
theorem ev_isi {T : String} : eIsi T fe env = oIsi T (fe env) := (rfl)
theorem ev_isi_ii {k : Int} : oIsi "int" (some (.int k)) = some (.bool true) := by
  show (kitB "int" "int").map PyData.bool = _
  rw [show kitB "int" "int" = some true by decide +kernel]; rfl
theorem ev_isi_ib {k : Int} : oIsi "bool" (some (.int k)) = some (.bool false) := by
  show (kitB "int" "bool").map PyData.bool = _
  rw [show kitB "int" "bool" = some false by decide +kernel]; rfl
theorem ev_isi_il {k : Int} : oIsi "list" (some (.int k)) = some (.bool false) := by
  show (kitB "int" "list").map PyData.bool = _
  rw [show kitB "int" "list" = some false by decide +kernel]; rfl
theorem ev_isi_it {k : Int} : oIsi "tuple" (some (.int k)) = some (.bool false) := by
  show (kitB "int" "tuple").map PyData.bool = _
  rw [show kitB "int" "tuple" = some false by decide +kernel]; rfl
theorem ev_isi_is {k : Int} : oIsi "str" (some (.int k)) = some (.bool false) := by
  show (kitB "int" "str").map PyData.bool = _
  rw [show kitB "int" "str" = some false by decide +kernel]; rfl
theorem ev_isi_ll : oIsi "list" (some (.list ds)) = some (.bool true) := by
  show (kitB "list" "list").map PyData.bool = _
  rw [show kitB "list" "list" = some true by decide +kernel]; rfl
theorem ev_isi_lt : oIsi "tuple" (some (.list ds)) = some (.bool false) := by
  show (kitB "list" "tuple").map PyData.bool = _
  rw [show kitB "list" "tuple" = some false by decide +kernel]; rfl
theorem ev_isi_li : oIsi "int" (some (.list ds)) = some (.bool false) := by
  show (kitB "list" "int").map PyData.bool = _
  rw [show kitB "list" "int" = some false by decide +kernel]; rfl
theorem ev_isi_lb : oIsi "bool" (some (.list ds)) = some (.bool false) := by
  show (kitB "list" "bool").map PyData.bool = _
  rw [show kitB "list" "bool" = some false by decide +kernel]; rfl
theorem ev_isi_tt : oIsi "tuple" (some (.tuple ds)) = some (.bool true) := by
  show (kitB "tuple" "tuple").map PyData.bool = _
  rw [show kitB "tuple" "tuple" = some true by decide +kernel]; rfl
theorem ev_isi_tl : oIsi "list" (some (.tuple ds)) = some (.bool false) := by
  show (kitB "tuple" "list").map PyData.bool = _
  rw [show kitB "tuple" "list" = some false by decide +kernel]; rfl
theorem ev_isi_ss {k : Str} : oIsi "str" (some (.str k)) = some (.bool true) := by
  show (kitB "str" "str").map PyData.bool = _
  rw [show kitB "str" "str" = some true by decide +kernel]; rfl
theorem ev_isi_bb {k : Bool} : oIsi "bool" (some (.bool k)) = some (.bool true) := by
  show (kitB "bool" "bool").map PyData.bool = _
  rw [show kitB "bool" "bool" = some true by decide +kernel]; rfl
theorem ev_isi_bi {k : Bool} : oIsi "int" (some (.bool k)) = some (.bool true) := by
  show (kitB "bool" "int").map PyData.bool = _
  rw [show kitB "bool" "int" = some true by decide +kernel]; rfl
def oIsN (o : Option D) : Option D := o.map fun d => .bool (isNoD d)
def oNotN (o : Option D) : Option D := o.map fun d => .bool (!isNoD d)
theorem ev_isN : eIsN fe env = oIsN (fe env) := (rfl)
theorem ev_notN : eNotN fe env = oNotN (fe env) := (rfl)
theorem ev_oIsN_n : oIsN (some .none) = some (.bool true) := (rfl)
theorem ev_oIsN_i {k : Int} : oIsN (some (.int k)) = some (.bool false) := (rfl)
theorem ev_oIsN_l : oIsN (some (.list ds)) = some (.bool false) := (rfl)
theorem ev_oIsN_t : oIsN (some (.tuple ds)) = some (.bool false) := (rfl)
theorem ev_oNotN_n : oNotN (some .none) = some (.bool false) := (rfl)
theorem ev_oNotN_i {k : Int} : oNotN (some (.int k)) = some (.bool true) := (rfl)
theorem ev_oNotN_l : oNotN (some (.list ds)) = some (.bool true) := (rfl)
theorem ev_oNotN_t : oNotN (some (.tuple ds)) = some (.bool true) := (rfl)
theorem ev_rev : eRev fe env = (fe env).bind gRev := (rfl)
theorem ev_gRev : gRev (.list xs) = some (.list xs.reverse) := (rfl)
/-! ### what is walked, targets -/
def oAny (o : Option D) : Option (List D) := match o with
  | some (.list ds) => some ds
  | some (.tuple ds) => some ds
  | some (.str z) => if z.length ≤ sizeLine then some (z.cps.toList.map fun c => .str ⟨#[c]⟩) else none
  | _ => none
theorem ev_iAny : iAny fe env = oAny (fe env) := (rfl)
theorem ev_oAny_l : oAny (some (.list ds)) = some ds := (rfl)
theorem ev_oAny_t : oAny (some (.tuple ds)) = some ds := (rfl)
def oSeqB (o : Option D) : Option (List D) := match o with | some (.list ds) => if ds.all scalD = true then some ds else none | _ => none
theorem ev_iSeqB : iSeqB fe env = oSeqB (fe env) := (rfl)
theorem scal_ints : ∀ ns : List Int, (ns.map PyData.int).all scalD = true
  | [] => rfl
  | _ :: ns => scal_ints ns
theorem ev_oSeqB {ns : List Int} : oSeqB (some (.list (ns.map .int))) = some (ns.map .int) := if_pos (scal_ints ns)
def oEnum (o : Option D) : Option (List D) := match o with | some (.list ds) => some (enumD ds) | _ => none
theorem ev_iEnum : iEnumF fe env = oEnum (fe env) := (rfl)
theorem ev_oEnum : oEnum (some (.list ds)) = some (enumD ds) := (rfl)
def oZip (a b : Option D) : Option (List D) := (a.bind sqD).bind fun x => (b.bind sqD).bind fun y => some (zipD x.2 y.2)
theorem ev_iZip : iZipG fa fb env = oZip (fa env) (fb env) := (rfl)
theorem ev_oZip_ll : oZip (some (.list xs)) (some (.list ys)) = some (zipD xs ys) := (rfl)
theorem ev_oZip_tt : oZip (some (.tuple xs)) (some (.tuple ys)) = some (zipD xs ys) := (rfl)
theorem ev_oZip_lt : oZip (some (.list xs)) (some (.tuple ys)) = some (zipD xs ys) := (rfl)
theorem ev_oZip_tl : oZip (some (.tuple xs)) (some (.list ys)) = some (zipD xs ys) := (rfl)
def oRng1 (o : Option D) : Option (List D) := match o with | some (.int j) => if -(2 ^ 62) ≤ j ∧ j ≤ 16777216 then some (rng 0 j.toNat) else none | _ => none
theorem ev_iRng1 : iRng1F fe env = oRng1 (fe env) := (rfl)
theorem ev_rng1_s {k : Int} (h1 : -(2 ^ 62) ≤ k) (h2 : k ≤ 16777216) : oRng1 (some (.int k)) = some (rng 0 k.toNat) := if_pos ⟨h1, h2⟩
def oRng2 (a b : Option D) : Option (List D) := match a, b with
  | some (.int i), some (.int j) => if j - i ≤ 16777216 then some (rng i (j - i).toNat) else none
  | _, _ => none
theorem ev_iRng2 : iRng2A fa fb env = oRng2 (fa env) (fb env) := by
  unfold iRng2A oRng2
  cases fa env with
  | none => rfl
  | some a => cases a <;> (cases fb env with
    | none => rfl
    | some b => cases b <;> rfl)
theorem ev_rng2_s {k l : Int} (h5 : l - k ≤ 16777216) : oRng2 (some (.int k)) (some (.int l)) = some (rng k (l - k).toNat) := if_pos h5
theorem ev_tgN : tgN i d env = some (env.set i (.val d)) := (rfl)
theorem ev_tgNil : tgNil [] env = some env := (rfl)
theorem ev_tgCons {h : D → List C → Option (List C)} {k : List D → List C → Option (List C)} : tgCons h k (d :: ds) env = (h d env).bind (k ds) := (rfl)
theorem ev_tgT {k : List D → List C → Option (List C)} : tgT k (.tuple ds) env = k ds env := (rfl)
theorem ev_wipe_nil : wipeE env [] = env := (rfl)
theorem ev_wipe_cons {vs : List Nat} : wipeE env (i :: vs) = (wipeE env vs).set i .und := (rfl)
def oLc (o : Option (List D)) (h : D → List C → Option (List C)) (tt : List C → Option Bool) (fe : List C → Option D) (env : List C) : Option D := match o with | some items => (lcF h tt fe env items).map .list | none => none
theorem ev_lc {vs : List Nat} {h : D → List C → Option (List C)} : eLc vs fi h ft fe env = oLc (fi env) h ft fe (wipeE env vs) := by
  unfold eLc oLc; cases fi env <;> rfl
theorem ev_oLc {h : D → List C → Option (List C)} : oLc (some ds) h ft fe env = (lcF h ft fe env ds).map .list := (rfl)
end

/-! ### values -/
section
variable {i j k : Int} {s t : Str} {xs ys : List D} {b c : Bool}
def Md (i : Int) : Prop := i.natAbs < 2 ^ 400000
theorem Md.of_lt (h1 : -(2 ^ 200) < i) (h2 : i < 2 ^ 200) : Md i := by
  have h3 : i.natAbs < 2 ^ 200 := by omega
  exact Nat.lt_of_lt_of_le h3 (Nat.pow_le_pow_right (by decide) (by decide))
theorem log2_lt {n k : Nat} (hk : 0 < k) (h : n < 2 ^ k) : n.log2 < k := by
  by_cases h0 : n = 0
  · subst h0; exact hk
  · exact (Nat.log2_lt h0).mpr h
theorem ev_add : gAdd (.int i) (.int j) = some (.int (i + j)) := (rfl)
theorem ev_addIS : gAddIS (.int i) (.int j) = some (.int (i + j)) := (rfl)
theorem ev_add_ll (h : (xs.length : Int) + ys.length ≤ 16777216) : gAdd (.list xs) (.list ys) = some (.list (xs ++ ys)) := by
  have : gAddL (.list xs) (.list ys) = some (.list (xs ++ ys)) := if_pos (by rw [sizeLine_eq]; omega)
  unfold gAdd gOr
  rw [this]; rfl
theorem ev_add_tt (h : (xs.length : Int) + ys.length ≤ 16777216) : gAdd (.tuple xs) (.tuple ys) = some (.tuple (xs ++ ys)) := by
  have : gAddT (.tuple xs) (.tuple ys) = some (.tuple (xs ++ ys)) := if_pos (by rw [sizeLine_eq]; omega)
  unfold gAdd gOr
  rw [this]; rfl
theorem ev_addL (h : (xs.length : Int) + ys.length ≤ 16777216) : gAddL (.list xs) (.list ys) = some (.list (xs ++ ys)) := if_pos (by rw [sizeLine_eq]; omega)
theorem flat_rep {α : Type} (x : α) : ∀ n : Nat, (List.replicate n [x]).flatten = List.replicate n x
  | 0 => rfl
  | n + 1 => by rw [List.replicate_succ, List.replicate_succ, List.flatten_cons, flat_rep x n]; rfl
theorem mulL_if {k : Int} : gMulL (.list xs) (.int k) = if k < 2 ^ 63 ∧ -(2 ^ 63) ≤ k ∧ xs.length * k.toNat ≤ sizeLine then some (.list (List.replicate k.toNat xs).flatten) else none := rfl
theorem gOr_s {g1 g2 : D → D → Option D} {x y d : D} (h : g1 x y = some d) : gOr g1 g2 x y = some d := by unfold gOr; rw [h]
theorem gOr_n {g1 g2 : D → D → Option D} {x y d : D} (h : g1 x y = none) (h2 : g2 x y = some d) : gOr g1 g2 x y = some d := by unfold gOr; rw [h]; exact h2
theorem mulI_l {y : D} : gMulI (.list xs) y = none := by cases y <;> rfl
theorem mulS_l {y : D} : gMulS (.list xs) y = none := by cases y <;> rfl
theorem ev_repL {x : D} {n : Nat} (h : ((n : Nat) : Int) ≤ 1000000) : gMulL (.list [x]) (.int (n : Nat)) = some (.list (List.replicate n x)) := by
  have c : ((n : Nat) : Int) < 2 ^ 63 ∧ -(2 ^ 63) ≤ ((n : Nat) : Int) ∧ [x].length * ((n : Nat) : Int).toNat ≤ sizeLine := ⟨by omega, by omega, by rw [sizeLine_eq, Int.toNat_natCast]; show 1 * n ≤ _; omega⟩
  rw [mulL_if, if_pos c, Int.toNat_natCast, flat_rep]
theorem ev_rep {x : D} {n : Nat} (h : ((n : Nat) : Int) ≤ 1000000) : gMul (.list [x]) (.int (n : Nat)) = some (.list (List.replicate n x)) := by
  have e := ev_repL (x := x) h
  show gOr gMulI (gOr gMulS (gOr gMulL gMulT)) (.list [x]) (.int (n : Nat)) = _
  exact gOr_n mulI_l (gOr_n mulS_l (gOr_s e))
theorem ev_sub : gSub (.int i) (.int j) = some (.int (i - j)) := (rfl)
theorem ev_mul (h1 : Md i) (h2 : Md j) : gMul (.int i) (.int j) = some (.int (i * j)) := by
  have a1 := log2_lt (by decide) h1
  have a2 := log2_lt (by decide) h2
  have : gMulI (.int i) (.int j) = some (.int (i * j)) := if_pos (by omega)
  unfold gMul gOr
  rw [this]
theorem ev_mod (h : 0 < j) : gMod (.int i) (.int j) = some (.int (i % j)) := if_pos h
theorem ev_div (h : 0 < j) (h2 : j < 2 ^ 250) : gDiv (.int i) (.int j) = some (.int (i / j)) := if_pos ⟨h, by
  have : j.natAbs < 2 ^ 250 := by omega
  have := log2_lt (by decide) this
  omega⟩
theorem ev_pow (h0 : 0 ≤ j) (h1 : j ≤ 1000000) (h2 : i.natAbs < 2 ^ 64) : gPow (.int i) (.int j) = some (.int (i ^ j.toNat)) := if_pos ⟨h0, h1, h2⟩
theorem ev_lt : gLt (.int i) (.int j) = some (.bool (decide (i < j))) := (rfl)
theorem ev_le : gLe (.int i) (.int j) = some (.bool (decide (i ≤ j))) := (rfl)
theorem ev_gt : gGt (.int i) (.int j) = some (.bool (decide (j < i))) := (rfl)
theorem ev_ge : gGe (.int i) (.int j) = some (.bool (decide (j ≤ i))) := (rfl)
theorem ev_eq : gEq (.int i) (.int j) = some (.bool (decide (i = j))) := (rfl)
theorem ev_ne : gNe (.int i) (.int j) = some (.bool (!decide (i = j))) := (rfl)
theorem ev_eqs : gEq (.str s) (.str t) = some (.bool (decide (s = t))) := (rfl)
theorem ev_nes : gNe (.str s) (.str t) = some (.bool (!decide (s = t))) := (rfl)
theorem ev_eqb : gEq (.bool b) (.bool c) = some (.bool (decide (b = c))) := (rfl)
theorem ev_neb : gNe (.bool b) (.bool c) = some (.bool (!decide (b = c))) := (rfl)
theorem ev_len : gLen [.list xs] = some (.int xs.length) := (rfl)
theorem ev_lenT : gLen [.tuple xs] = some (.int xs.length) := (rfl)
theorem ev_list : gList [.list xs] = some (.list xs) := (rfl)
theorem ev_listT : gList [.tuple xs] = some (.list xs) := (rfl)
theorem ev_tuple : gTuple [.list xs] = some (.tuple xs) := (rfl)
theorem ev_tupleT : gTuple [.tuple xs] = some (.tuple xs) := (rfl)
theorem ev_abs : gAbs [.int i] = some (.int (if i < 0 then -i else i)) := (rfl)
theorem ev_int : gInt [.int i] = some (.int i) := (rfl)
theorem ev_intb : gInt [.bool b] = some (.int (if b then 1 else 0)) := (rfl)
theorem ev_sum {ns : List Int} : gSum [.list (ns.map .int)] = some (.int ns.sum) := by
  unfold gSum; simp only [allInt_map, Option.map_some]
theorem ev_sum0 : gSum [.list []] = some (.int 0) := (rfl)
theorem ev_max2 : gMax2 [.int i, .int j] = some (.int (if j > i then j else i)) := (rfl)
theorem ev_min2 : gMin2 [.int i, .int j] = some (.int (if j < i then j else i)) := (rfl)
theorem ev_sl {l u : Option Int} : gSl (.list xs) l u = some (.list (cutD xs l u)) := (rfl)
theorem ev_slT {l u : Option Int} : gSl (.tuple xs) l u = some (.tuple (cutD xs l u)) := (rfl)
theorem ev_slL {l u : Option Int} : gSlL (.list xs) l u = some (.list (cutD xs l u)) := (rfl)
theorem ev_slB {ns : List Int} {l u : Option Int} : gSlB (.list (ns.map .int)) l u = some (.list ((cutD ns l u).map .int)) := by
  unfold gSlB; simp only [allInt_map, Option.map_some]
theorem ev_ix : gIxS (.list xs) (.int i) = atI xs i := (rfl)
theorem ev_ixT : gIxS (.tuple xs) (.int i) = atI xs i := (rfl)
theorem ev_ixB : gIxB (.list xs) (.int i) = atI xs i := (rfl)
theorem ev_ixBT : gIxB (.tuple xs) (.int i) = atI xs i := (rfl)
theorem ixN_pos {n : Nat} (h0 : 0 ≤ i) (h1 : i < n) : ixN n i = some i.toNat := by
  unfold ixN
  rw [if_pos h0, if_pos (by omega)]
theorem ev_at (h0 : 0 ≤ i) (h1 : i < xs.length) : atI xs i = xs[i.toNat]? := by
  unfold atI
  rw [ixN_pos h0 h1]; rfl
theorem ev_atm {α : Type} {f : α → D} {l : List α} (h0 : 0 ≤ i) (h1 : i < l.length) : atI (l.map f) i = (l[i.toNat]?).map f := by
  rw [ev_at h0 (by rw [List.length_map]; exact h1), List.getElem?_map]
theorem at_map {α : Type} {f : α → D} {l : List α} {m : Nat} (h : m < l.length) : atI (l.map f) (m : Int) = some (f l[m]) := by
  rw [ev_atm (by omega) (by omega), Int.toNat_natCast, List.getElem?_eq_getElem h]; rfl
theorem at_neg1 (h : 0 < xs.length) : atI xs (-1) = xs[xs.length - 1]? := by
  unfold atI ixN
  rw [if_neg (by decide), if_pos (by omega), Option.bind_some]
  have : (-1 + (xs.length : Int)).toNat = xs.length - 1 := by omega
  rw [this]
theorem ev_setAt {d : D} (h0 : 0 ≤ i) (h1 : i < xs.length) : setAt xs i d = some (xs.set i.toNat d) := by
  unfold setAt
  rw [ixN_pos h0 h1]; rfl
theorem cut_take {α : Type} {l : List α} (h : 0 ≤ i) : cutD l none (some i) = l.take i.toNat := by
  unfold cutD
  have e0 : HT.sIx l.length 0 none = 0 := rfl
  rw [e0, List.drop_zero, Nat.sub_zero]
  unfold HT.sIx
  have : ¬ i < 0 := by omega
  simp only [this, if_false]
  by_cases hl : i.toNat ≤ l.length
  · first
      | rw [Nat.min_eq_left hl]
      | (congr 1; omega)
  · rw [List.take_of_length_le (by omega), List.take_of_length_le (by omega)]
end

/-! ### sizes -/
def Sz (k : Nat) (i : Int) : Prop := i.natAbs < 2 ^ k
section
variable {a b k : Nat} {i j : Int}
theorem Sz.mono (h : Sz a i) (hab : a ≤ b) : Sz b i := Nat.lt_of_lt_of_le h (Nat.pow_le_pow_right (by decide) hab)
theorem Sz.mul (h1 : Sz a i) (h2 : Sz b j) : Sz (a + b) (i * j) := by
  unfold Sz at *
  rw [Int.natAbs_mul, Nat.pow_add]
  exact Nat.mul_lt_mul_of_lt_of_le h1 (Nat.le_of_lt h2) (Nat.pow_pos (by decide))
theorem Sz.add (h1 : Sz a i) (h2 : Sz a j) : Sz (a + 1) (i + j) := by
  unfold Sz at *
  rw [Nat.pow_succ]
  omega
theorem Sz.sub (h1 : Sz a i) (h2 : Sz a j) : Sz (a + 1) (i - j) := by
  unfold Sz at *
  rw [Nat.pow_succ]
  omega
theorem Sz.md (h : Sz k i) (hk : k ≤ 400000 := by decide) : Md i := Nat.lt_of_lt_of_le h (Nat.pow_le_pow_right (by decide) hk)
theorem Sz.le (h : Sz k i) (hj : j.natAbs ≤ i.natAbs) : Sz k j := Nat.lt_of_le_of_lt hj h
theorem Sz.of (h1 : -(2 ^ k) < i) (h2 : i < 2 ^ k) : Sz k i := by
  unfold Sz
  have e : ((2 ^ k : Nat) : Int) = (2 : Int) ^ k := by norm_cast
  omega
theorem ev_divZ (h : 0 < j) (h2 : Sz 8000 j) : gDiv (.int i) (.int j) = some (.int (i / j)) := if_pos ⟨h, by
  have := log2_lt (by decide) h2
  omega⟩
end
/-! ### loops -/
theorem forF_run {g : D → List C → Option (List C)} {b : List C → Out} (J : Out → Prop) : ∀ (items : List D) (env : List C) (I : Nat → List C → Prop), I 0 env →
    (∀ i d env, items[i]? = some d → I i env → ∃ e, g d env = some e ∧ (match b e with | .nx e' => I (i + 1) e' | .ct e' => I (i + 1) e' | .bk e' => J (.nx e') | .rt d => J (.rt d) | .err => False)) →
    (∀ e, I items.length e → J (.nx e)) → J (forF g b items env)
  | [], env, I, h0, hs, he => he env h0
  | d :: ds, env, I, h0, hs, he => by
    obtain ⟨e, h1, h2⟩ := hs 0 d env rfl h0
    unfold forF
    rw [h1]
    dsimp only
    have next : ∀ e', I 1 e' → J (forF g b ds e') := fun e' h => forF_run J ds e' (fun i => I (i + 1)) h (fun i d env hd hI => hs (i + 1) d env (by simpa using hd) hI) (fun e h => he e (by simpa using h))
    cases z : b e with
    | nx e' => rw [z] at h2; exact next e' h2
    | ct e' => rw [z] at h2; exact next e' h2
    | bk e' => rw [z] at h2; exact h2
    | rt d => rw [z] at h2; exact h2
    | err => rw [z] at h2; exact h2.elim
def onNx (o : Out) (P : List C → Prop) : Prop := match o with | .nx e => P e | _ => False
theorem ev_onNx {e : List C} {P : List C → Prop} : onNx (.nx e) P = P e := (rfl)
theorem onNx_ok {o : Out} {P : List C → Prop} (h : onNx o P) : ∃ e, o = .nx e ∧ P e := by
  cases o <;> first | exact ⟨_, rfl, h⟩ | exact h.elim
theorem forF_inv {g : D → List C → Option (List C)} {b : List C → Out} {items : List D} {env : List C} (I : Nat → List C → Prop) (h0 : I 0 env)
    (hs : ∀ i d env, items[i]? = some d → I i env → ∃ e, g d env = some e ∧ onNx (b e) (I (i + 1))) : ∃ e, forF g b items env = .nx e ∧ I items.length e :=
  forF_run (fun o => ∃ e, o = .nx e ∧ I items.length e) items env I h0 (fun i d env hd hI => by
    obtain ⟨e, h1, h2⟩ := hs i d env hd hI
    obtain ⟨e', h3, h4⟩ := onNx_ok h2
    exact ⟨e, h1, by rw [h3]; exact h4⟩) fun e h => ⟨e, rfl, h⟩
def natAt (i : Nat) (env : List C) : Nat := match env[i]? with | some (.val (.int k)) => k.toNat | _ => 0
theorem ev_while {env : List C} {fu : List C → Nat} {c : List C → Option Bool} {b : List C → Out} : sWhile fu c b env = whileF c b (fu env) env := (rfl)
theorem whileF_inv {c : List C → Option Bool} {b : List C → Out} (I : List C → Prop) (μ : List C → Nat) (hs : ∀ env, I env → c env = some false ∨ (c env = some true ∧ onNx (b env) fun e => I e ∧ μ e < μ env)) :
    ∀ (n : Nat) (env : List C), I env → μ env < n → ∃ e, whileF c b n env = .nx e ∧ I e ∧ c e = some false
  | 0, _, _, h => absurd h (Nat.not_lt_zero _)
  | n + 1, env, hI, hn => by
    rcases hs env hI with h | ⟨h, h2⟩
    · refine ⟨env, ?_, hI, h⟩
      unfold whileF
      rw [h]
    · obtain ⟨e', h3, h4, h5⟩ := onNx_ok h2
      obtain ⟨e, g1, g2⟩ := whileF_inv I μ hs n e' h4 (by omega)
      refine ⟨e, ?_, g2⟩
      unfold whileF
      rw [h, h3]
      exact g1
theorem rng_get {lo : Int} {n i : Nat} {d : D} (h : (rng lo n)[i]? = some d) : i < n ∧ d = .int (lo + i) := by
  have hi : i < n := by
    have := (List.getElem?_eq_some_iff.mp h).1
    rw [rng_len] at this; exact this
  unfold rng at h
  rw [List.getElem?_map, List.getElem?_range hi] at h
  cases h
  exact ⟨hi, rfl⟩
theorem forF_rng {lo : Int} {n : Nat} {v : Nat} {b : List C → Out} {env : List C} (I : Nat → List C → Prop) (h0 : I 0 env)
    (hs : ∀ i env, i < n → I i env → onNx (b (env.set v (.val (.int (lo + i))))) (I (i + 1))) : ∃ e, forF (tgN v) b (rng lo n) env = .nx e ∧ I n e := by
  have := forF_inv (g := tgN v) (b := b) (items := rng lo n) (env := env) I h0 fun i d env hd hI => by
    obtain ⟨hi, rfl⟩ := rng_get hd
    exact ⟨_, rfl, hs i env hi hI⟩
  rwa [rng_len] at this
/-- a loop that returns r at the first turn where p fails -/
theorem forF_find {g : D → List C → Option (List C)} {b : List C → Out} {items : List D} {env : List C} (p : Nat → Bool) (r : D) (I : Nat → List C → Prop) (h0 : I 0 env)
    (hs : ∀ i d env, items[i]? = some d → I i env → ∃ e, g d env = some e ∧ ((p i = true ∧ onNx (b e) (I (i + 1))) ∨ (p i = false ∧ b e = .rt r))) :
    (∃ e, forF g b items env = .nx e ∧ I items.length e ∧ ∀ i, i < items.length → p i = true) ∨ (forF g b items env = .rt r ∧ ∃ i, i < items.length ∧ p i = false) :=
  forF_run (fun o => (∃ e, o = .nx e ∧ I items.length e ∧ ∀ i, i < items.length → p i = true) ∨ (o = .rt r ∧ ∃ i, i < items.length ∧ p i = false)) items env (fun i env => I i env ∧ ∀ k, k < i → p k = true) ⟨h0, fun k h => absurd h (Nat.not_lt_zero _)⟩ (fun i d env hd hI => by
    obtain ⟨e, h1, h2⟩ := hs i d env hd hI.1
    refine ⟨e, h1, ?_⟩
    rcases h2 with ⟨h2, h3⟩ | ⟨h2, h3⟩
    · obtain ⟨e', h4, h5⟩ := onNx_ok h3
      rw [h4]
      refine ⟨h5, fun k hk => ?_⟩
      by_cases hk' : k = i
      · rw [hk']; exact h2
      · exact hI.2 k (by omega)
    · rw [h3]
      exact .inr ⟨rfl, i, (List.getElem?_eq_some_iff.mp hd).1, h2⟩) fun e h => .inl ⟨e, rfl, h.1, h.2⟩
theorem forF_rngF {lo : Int} {n : Nat} {v : Nat} {b : List C → Out} {env : List C} (p : Nat → Bool) (r : D) (I : Nat → List C → Prop) (h0 : I 0 env)
    (hs : ∀ i env, i < n → I i env → (p i = true ∧ onNx (b (env.set v (.val (.int (lo + i))))) (I (i + 1))) ∨ (p i = false ∧ b (env.set v (.val (.int (lo + i)))) = .rt r)) :
    (∃ e, forF (tgN v) b (rng lo n) env = .nx e ∧ I n e ∧ ∀ i, i < n → p i = true) ∨ (forF (tgN v) b (rng lo n) env = .rt r ∧ ∃ i, i < n ∧ p i = false) := by
  have := forF_find (g := tgN v) (b := b) (items := rng lo n) (env := env) p r I h0 fun i d env hd hI => by
    obtain ⟨hi, rfl⟩ := rng_get hd
    exact ⟨_, rfl, hs i env hi hI⟩
  rwa [rng_len] at this
theorem lcF_map {α : Type} {g : D → List C → Option (List C)} {tt : List C → Option Bool} {fe : List C → Option D} {env : List C} (t : α → D) (h : α → D) : ∀ (l : List α), (∀ a ∈ l, ∃ e, g (t a) env = some e ∧ tt e = some true ∧ fe e = some (h a)) → lcF g tt fe env (l.map t) = some (l.map h)
  | [], _ => rfl
  | a :: l, hl => by
    obtain ⟨e, h1, h2, h3⟩ := hl a List.mem_cons_self
    rw [List.map_cons]
    unfold lcF
    rw [h1, Option.bind_some, h2, Option.bind_some, if_pos rfl, h3, Option.bind_some, lcF_map t h l fun b hb => hl b (List.mem_cons_of_mem _ hb)]
    rfl
theorem lcF_filt {α : Type} {g : D → List C → Option (List C)} {tt : List C → Option Bool} {fe : List C → Option D} {env : List C} (t : α → D) (p : α → Bool) (h : α → D) : ∀ (l : List α), (∀ a ∈ l, ∃ e, g (t a) env = some e ∧ tt e = some (p a) ∧ (p a = true → fe e = some (h a))) → lcF g tt fe env (l.map t) = some ((l.filter p).map h)
  | [], _ => rfl
  | a :: l, hl => by
    obtain ⟨e, h1, h2, h3⟩ := hl a List.mem_cons_self
    rw [List.map_cons]
    unfold lcF
    rw [h1, Option.bind_some, h2, Option.bind_some, lcF_filt t p h l fun b hb => hl b (List.mem_cons_of_mem _ hb), List.filter_cons]
    cases z : p a with
    | true => rw [if_pos rfl, h3 z]; rfl
    | false => rfl
theorem rng_map (lo : Int) (n : Nat) : rng lo n = (List.range n).map fun i => .int (lo + (i : Nat)) := rfl
theorem enum_map {α : Type} (t : α → D) (l : List α) : enumD (l.map t) = l.zipIdx.map fun p => .tuple [.int (p.2 : Nat), t p.1] := by
  apply List.ext_getElem?
  intro i
  unfold enumD
  rw [List.getElem?_zipWith, List.getElem?_map, List.getElem?_map, List.getElem?_zipIdx, List.length_map]
  by_cases h : i < l.length
  · rw [List.getElem?_range h, List.getElem?_eq_getElem h]
    simp
  · rw [List.getElem?_eq_none (by rw [List.length_range]; omega), List.getElem?_eq_none (by omega : l.length ≤ i)]
    rfl
theorem zip_map {α β : Type} (t : α → D) (u : β → D) (l : List α) (m : List β) : zipD (l.map t) (m.map u) = (l.zip m).map fun p => .tuple [t p.1, u p.2] := by
  unfold zipD
  rw [List.zipWith_map]
  rw [List.zip, List.map_zipWith]
/-! ### data of one kind -/
section
variable {α : Type}
theorem layAll_map (t : α → D) (h : ∀ a, (t a).canLay0 = true) : ∀ l : List α, PyData.canLayAll0 (l.map t) = true
  | [] => by simp only [List.map_nil, PyData.canLayAll0]
  | a :: l => by simp only [List.map_cons, PyData.canLayAll0, h a, layAll_map t h l, Bool.and_self]
theorem depthAll_mapD (t : α → D) {k : Nat} (h : ∀ a, (t a).depth ≤ k) : ∀ l : List α, PyData.depthAll (l.map t) ≤ k
  | [] => Nat.zero_le _
  | a :: l => by
    rw [List.map_cons, PyData.depthAll]
    exact Nat.max_le.mpr ⟨h a, depthAll_mapD t h l⟩
theorem shaped_list (t : α → D) (h : ∀ a, (t a).canLay0 = true) {k : Nat} (hk : k < 64) (hd : ∀ a, (t a).depth ≤ k) (l : List α) : SeqAt.shaped (.list (l.map t)) = true := by
  unfold SeqAt.shaped
  have := depthAll_mapD t hd l
  simp only [PyData.canLay0, PyData.depth, layAll_map t h l, Bool.true_and, decide_eq_true_eq]
  exact decide_eq_true (Nat.succ_le_of_lt (Nat.lt_of_le_of_lt this hk))
theorem shaped_tuple (t : α → D) (h : ∀ a, (t a).canLay0 = true) {k : Nat} (hk : k < 64) (hd : ∀ a, (t a).depth ≤ k) (l : List α) : SeqAt.shaped (.tuple (l.map t)) = true := by
  unfold SeqAt.shaped
  have := depthAll_mapD t hd l
  simp only [PyData.canLay0, PyData.depth, layAll_map t h l, Bool.true_and, decide_eq_true_eq]
  exact decide_eq_true (Nat.succ_le_of_lt (Nat.lt_of_le_of_lt this hk))
theorem shaped_ints (ns : List Int) : SeqAt.shaped (.list (ns.map .int)) = true := shaped_list (k := 0) PyData.int (fun _ => rfl) (by decide) (fun _ => Nat.le_refl _) ns
theorem ev_eq_li {ns ms : List Int} : gEq (.list (ns.map .int)) (.list (ms.map .int)) = some (.bool (decide (ns = ms))) := by
  have e : gEqD (.list (ns.map .int)) (.list (ms.map .int)) = some (.bool (decide (ns = ms))) := by
    unfold gEqD
    rw [if_pos ⟨shaped_ints ns, shaped_ints ms⟩]
    have := PySem.W.Datum.eqv ns ms
    rw [show PyData.eqv (.list (ns.map .int)) (.list (ms.map .int)) = decide (ns = ms) from this]
  show (match gEqS (.list (ns.map .int)) (.list (ms.map .int)) with | some d => some d | none => gEqD (.list (ns.map .int)) (.list (ms.map .int))) = _
  exact e
theorem ev_ne_li {ns ms : List Int} : gNe (.list (ns.map .int)) (.list (ms.map .int)) = some (.bool (!decide (ns = ms))) := by
  have e : gNeD (.list (ns.map .int)) (.list (ms.map .int)) = some (.bool (!decide (ns = ms))) := by
    unfold gNeD
    rw [if_pos ⟨shaped_ints ns, shaped_ints ms⟩]
    have := PySem.W.Datum.eqv ns ms
    rw [show PyData.eqv (.list (ns.map .int)) (.list (ms.map .int)) = decide (ns = ms) from this]
  show (match gNeS (.list (ns.map .int)) (.list (ms.map .int)) with | some d => some d | none => gNeD (.list (ns.map .int)) (.list (ms.map .int))) = _
  exact e
theorem eqD_self {x : D} (h : SeqAt.shaped x = true) : gEqD x x = some (.bool true) := by
  unfold gEqD
  rw [if_pos ⟨h, h⟩]
  unfold SeqAt.shaped at h
  rw [Bool.and_eq_true] at h
  rw [PySem.SeqAt.eqv_refl_plain x (PySem.PyData.plain_of_canLay0 x h.1)]
theorem neD_self {x : D} (h : SeqAt.shaped x = true) : gNeD x x = some (.bool false) := by
  unfold gNeD
  rw [if_pos ⟨h, h⟩]
  unfold SeqAt.shaped at h
  rw [Bool.and_eq_true] at h
  rw [PySem.SeqAt.eqv_refl_plain x (PySem.PyData.plain_of_canLay0 x h.1)]; rfl
theorem eqS_l {xs : List D} {y : D} : gEqS (.list xs) y = none := by cases y <;> rfl
theorem neS_l {xs : List D} {y : D} : gNeS (.list xs) y = none := by cases y <;> rfl
theorem eqS_t {xs : List D} {y : D} : gEqS (.tuple xs) y = none := by cases y <;> rfl
theorem neS_t {xs : List D} {y : D} : gNeS (.tuple xs) y = none := by cases y <;> rfl
theorem ev_eq_self {xs : List D} (h : SeqAt.shaped (.list xs) = true) : gEq (.list xs) (.list xs) = some (.bool true) := gOr_n eqS_l (eqD_self h)
theorem ev_ne_self {xs : List D} (h : SeqAt.shaped (.list xs) = true) : gNe (.list xs) (.list xs) = some (.bool false) := gOr_n neS_l (neD_self h)
theorem ev_eq_selfT {xs : List D} (h : SeqAt.shaped (.tuple xs) = true) : gEq (.tuple xs) (.tuple xs) = some (.bool true) := gOr_n eqS_t (eqD_self h)
theorem ev_ne_selfT {xs : List D} (h : SeqAt.shaped (.tuple xs) = true) : gNe (.tuple xs) (.tuple xs) = some (.bool false) := gOr_n neS_t (neD_self h)
theorem ev_ne_nil {ns : List Int} : gNe (.list (ns.map .int)) (.list []) = some (.bool (!decide (ns = []))) := ev_ne_li (ms := [])
theorem ev_eq_nil {ns : List Int} : gEq (.list (ns.map .int)) (.list []) = some (.bool (decide (ns = []))) := ev_eq_li (ms := [])
theorem range_set (f : Nat → Int) (u p : Nat) (v : Int) : ((List.range u).map f).set p v = (List.range u).map fun k => if k = p then v else f k := by
  apply List.ext_getElem?
  intro k
  rw [List.getElem?_map, List.getElem?_set]
  by_cases hk : k < u
  · rw [List.getElem?_range hk]
    by_cases e : p = k
    · subst e
      rw [if_pos rfl, if_pos (by rw [List.length_map, List.length_range]; exact hk)]
      show some v = some (if p = p then v else f p)
      rw [if_pos rfl]
    · rw [if_neg e, List.getElem?_map, List.getElem?_range hk]
      show some (f k) = some (if k = p then v else f k)
      rw [if_neg (Ne.symm e)]
  · rw [List.getElem?_eq_none (by rw [List.length_range]; omega : (List.range u).length ≤ k)]
    split
    · rw [if_neg (by rw [List.length_map, List.length_range]; omega)]; rfl
    · rw [List.getElem?_map, List.getElem?_eq_none (by rw [List.length_range]; omega)]; rfl
/-! sorted -/
theorem sorted_gen {t : α → D} {le : α → α → Bool} {l : List α} (h1 : ∀ a b, W.alike (t a) (t b) = true) (h2 : (∀ a, isTup1 (t a) = true) ∨ (∀ a, notNT (t a) = true)) (h3 : ∀ a, (t a).depth ≤ 60) (hle : ∀ a b, W.dataLe false (fun d : D => d) (t a) (t b) = le a b) :
    gSorted [.list (l.map t)] = some (.list ((l.mergeSort le).map t)) := by
  have a1 : alikeB (l.map t) = true := by
    unfold alikeB
    simp only [List.all_map, List.all_eq_true, Function.comp]
    exact fun a _ b _ => h1 a b
  have a2 : sortableB (l.map t) = true := by
    unfold sortableB
    rw [Bool.or_eq_true]
    rcases h2 with h2 | h2
    · left; simp only [List.all_map, List.all_eq_true, Function.comp]; exact fun a _ => h2 a
    · right; simp only [List.all_map, List.all_eq_true, Function.comp]; exact fun a _ => h2 a
  have a3 : ((l.map t).all fun d => decide (d.depth ≤ 60)) = true := by
    simp only [List.all_map, List.all_eq_true, Function.comp, decide_eq_true_eq]; exact fun a _ => h3 a
  have e : gSorted [.list (l.map t)] = some (.list ((l.map t).mergeSort (W.dataLe false fun d => d))) := if_pos ⟨a1, a2, a3⟩
  rw [e, ← W.sort_maps t (fun a _ b _ => (hle a b).symm)]
theorem ev_sorted_i {ns : List Int} : gSorted [.list (ns.map .int)] = some (.list ((ns.mergeSort fun a b => decide (a ≤ b)).map .int)) :=
  sorted_gen (fun _ _ => by simp [W.alike]) (.inr fun _ => rfl) (fun _ => Nat.zero_le _) fun a b => congrFun (congrFun (W.dataLe_int (fun x : Int => x)) a) b
end
end DL
set_option Elab.async false
set_option linter.all false
set_option maxRecDepth 100000
set_option maxHeartbeats 4000000
namespace DL
open PySem PySem.Spec L2
def topS (i : Nat) : Stmt := PySem.Challenge.pw_apartbook_k15_gains.main.body.getD i (.Pass ⟨0, 0, 0, 0⟩)
abbrev s_value_of : Stmt := topS 1
abbrev N_value_of : List Str := ["form", "values", "many", "value"]
theorem sc_value_of : FnScope N_value_of ["form", "values"] (defScope s_value_of) := ⟨rfl, rfl, rfl, by decide +kernel, rfl, by decide +kernel, by decide +kernel⟩
def b_value_of : List C → Out := (sRet (e2 gAdd (e1 gSum (aCons (eLc [2, 3] (iZipG (e2 gIxS (eV 0) (eC (.int 0))) (eV 1)) (tgT (tgCons (tgN 2) (tgCons (tgN 3) tgNil))) (fun _ => some true) (e2 gMul (eV 2) (eV 3))) aNil)) (e2 gIxS (eV 0) (eC (.int 1)))))
def f_value_of : List D → Option D := runP [.fz, .fz] 4 b_value_of
theorem fe_value_of (x0 x1 : D) : f_value_of [x0, x1] = oRun (b_value_of [.val x0, .val x1, .und, .und]) := (ev_run (ks := [.fz, .fz]) (n := 4) (b := b_value_of) (ds := [x0, x1])).trans (congrArg (fun l => oRun (b_value_of l)) rfl)

abbrev s_spare : Stmt := topS 3
abbrev N_spare : List Str := ["book", "rule", "state"]
theorem sc_spare : FnScope N_spare ["book", "rule", "state"] (defScope s_spare) := ⟨rfl, rfl, rfl, by decide +kernel, rfl, by decide +kernel, by decide +kernel⟩
def b_spare : List C → Out := (sRet (e1 f_value_of (aCons (e3 gSl (e2 gIxS (e2 gIxS (eV 0) (eC (.int 1))) (eV 1)) (pS (eC (.int 1))) pN) (aCons (eV 2) aNil))))
def f_spare : List D → Option D := runP [.fz, .fz, .fz] 3 b_spare
theorem fe_spare (x0 x1 x2 : D) : f_spare [x0, x1, x2] = oRun (b_spare [.val x0, .val x1, .val x2]) := (ev_run (ks := [.fz, .fz, .fz]) (n := 3) (b := b_spare) (ds := [x0, x1, x2])).trans (congrArg (fun l => oRun (b_spare l)) rfl)

abbrev s_gain : Stmt := topS 4
abbrev N_gain : List Str := ["book", "rule", "deed", "slope", "rest", "many", "change"]
theorem sc_gain : FnScope N_gain ["book", "rule", "deed"] (defScope s_gain) := ⟨rfl, rfl, rfl, by decide +kernel, rfl, by decide +kernel, by decide +kernel⟩
def L_gain_0 : List C → Out := (sSeq (sAug 3 gAddIS (e2 gMul (eV 5) (e2 gIxS (eV 6) (eC (.int 0)))))
  (sAug 4 gAddIS (e2 gMul (eV 5) (e2 gIxS (eV 6) (eC (.int 1))))))
def b_gain : List C → Out := (sSeq (sSet 3 (eC (.int 0)))
  (sSeq (sSet 4 (eC (.int 0)))
  (sSeq (sFor (iZipG (e2 gIxS (e2 gIxS (e2 gIxS (eV 0) (eC (.int 1))) (eV 1)) (eC (.int 1))) (e2 gIxS (e2 gIxS (e2 gIxS (eV 0) (eC (.int 2))) (eV 2)) (eC (.int 3)))) (tgT (tgCons (tgN 5) (tgCons (tgN 6) tgNil))) L_gain_0)
  (sRet (eTup (aCons (eV 3) (aCons (eV 4) aNil)))))))
def f_gain : List D → Option D := runP [.fz, .fz, .fz] 7 b_gain
theorem fe_gain (x0 x1 x2 : D) : f_gain [x0, x1, x2] = oRun (b_gain [.val x0, .val x1, .val x2, .und, .und, .und, .und]) := (ev_run (ks := [.fz, .fz, .fz]) (n := 7) (b := b_gain) (ds := [x0, x1, x2])).trans (congrArg (fun l => oRun (b_gain l)) rfl)

abbrev s_least_gain : Stmt := topS 5
abbrev N_least_gain : List Str := ["book", "rule", "deed", "slope", "rest"]
theorem sc_least_gain : FnScope N_least_gain ["book", "rule", "deed"] (defScope s_least_gain) := ⟨rfl, rfl, rfl, by decide +kernel, rfl, by decide +kernel, by decide +kernel⟩
def b_least_gain : List C → Out := (sSeq (sAsg (tgT (tgCons (tgN 3) (tgCons (tgN 4) tgNil))) (e1 f_gain (aCons (eV 0) (aCons (eV 1) (aCons (eV 2) aNil)))))
  (sRet (e2 gAdd (e1 gMin2 (aCons (e2 gMul (eV 3) (e2 gIxS (e2 gIxS (e2 gIxS (eV 0) (eC (.int 2))) (eV 2)) (eC (.int 1)))) (aCons (e2 gMul (eV 3) (e2 gIxS (e2 gIxS (e2 gIxS (eV 0) (eC (.int 2))) (eV 2)) (eC (.int 2)))) aNil))) (eV 4))))
def f_least_gain : List D → Option D := runP [.fz, .fz, .fz] 5 b_least_gain
theorem fe_least_gain (x0 x1 x2 : D) : f_least_gain [x0, x1, x2] = oRun (b_least_gain [.val x0, .val x1, .val x2, .und, .und]) := (ev_run (ks := [.fz, .fz, .fz]) (n := 5) (b := b_least_gain) (ds := [x0, x1, x2])).trans (congrArg (fun l => oRun (b_least_gain l)) rfl)

abbrev s_is_free : Stmt := topS 6
abbrev N_is_free : List Str := ["book", "rule", "deed"]
theorem sc_is_free : FnScope N_is_free ["book", "rule", "deed"] (defScope s_is_free) := ⟨rfl, rfl, rfl, by decide +kernel, rfl, by decide +kernel, by decide +kernel⟩
def b_is_free : List C → Out := (sRet (e2 gGe (e1 f_least_gain (aCons (eV 0) (aCons (eV 1) (aCons (eV 2) aNil)))) (eC (.int 0))))
def f_is_free : List D → Option D := runP [.fz, .fz, .fz] 3 b_is_free
theorem fe_is_free (x0 x1 x2 : D) : f_is_free [x0, x1, x2] = oRun (b_is_free [.val x0, .val x1, .val x2]) := (ev_run (ks := [.fz, .fz, .fz]) (n := 3) (b := b_is_free) (ds := [x0, x1, x2])).trans (congrArg (fun l => oRun (b_is_free l)) rfl)

abbrev s_l_at : Stmt := topS 8
abbrev N_l_at : List Str := ["_law_script", "_law_k"]
theorem sc_l_at : FnScope N_l_at ["_law_script", "_law_k"] (defScope s_l_at) := ⟨rfl, rfl, rfl, by decide +kernel, rfl, by decide +kernel, by decide +kernel⟩
def b_l_at : List C → Out := (sSeq (sIf (tB (e2 gLt (eV 1) (e1 gLen (aCons (eB 0) aNil)))) (sRet (eScal (e2 gIxB (eB 0) (eV 1)))) sNil)
  (sRet (e2 gAdd (e2 gMul (eC (.int 19)) (eV 1)) (eC (.int 8)))))
def f_l_at : List D → Option D := runP [.vw, .fz] 2 b_l_at
theorem fe_l_at (x0 x1 : D) : f_l_at [x0, x1] = oRun (b_l_at [.brw x0, .val x1]) := (ev_run (ks := [.vw, .fz]) (n := 2) (b := b_l_at) (ds := [x0, x1])).trans (congrArg (fun l => oRun (b_l_at l)) rfl)

abbrev s_l_mix : Stmt := topS 9
abbrev N_l_mix : List Str := ["_law_number", "_law_place", "_law_turn", "_law_part"]
theorem sc_l_mix : FnScope N_l_mix ["_law_number", "_law_place"] (defScope s_l_mix) := ⟨rfl, rfl, rfl, by decide +kernel, rfl, by decide +kernel, by decide +kernel⟩
def L_l_mix_0 : List C → Out := (sSet 0 (e2 gDiv (eV 0) (eC (.int 2147483648))))
def b_l_mix : List C → Out := (sSeq (sIf (tB (e2 gGe (eV 0) (e2 gPow (eC (.int 10)) (eC (.int 12))))) (sSeq (sSet 0 (e2 gSub (e2 gDiv (eV 0) (e2 gPow (eC (.int 10)) (eC (.int 12)))) (eC (.int 1))))
  (sSeq (sFor (iRng1F (e2 gMod (eV 1) (eC (.int 61)))) (tgN 2) L_l_mix_0)
  (sRet (e2 gMod (eV 0) (eC (.int 2147483648)))))) sNil)
  (sSeq (sSet 3 (e2 gMod (e2 gMul (e2 gAdd (e2 gAdd (e2 gMod (eV 0) (eC (.int 2147483629))) (eV 1)) (eC (.int 1))) (e2 gAdd (e2 gMul (e2 gMul (eC (.int 8)) (eV 1)) (eV 1)) (eC (.int 48271)))) (eC (.int 2147483647))))
  (sSeq (sSet 3 (e2 gMod (e2 gMul (eV 3) (eV 3)) (eC (.int 2147483587))))
  (sRet (e2 gMod (e2 gMul (eV 3) (e2 gAdd (eV 3) (eC (.int 2)))) (eC (.int 2147483579)))))))
def f_l_mix : List D → Option D := runP [.fz, .fz] 4 b_l_mix
theorem fe_l_mix (x0 x1 : D) : f_l_mix [x0, x1] = oRun (b_l_mix [.val x0, .val x1, .und, .und]) := (ev_run (ks := [.fz, .fz]) (n := 4) (b := b_l_mix) (ds := [x0, x1])).trans (congrArg (fun l => oRun (b_l_mix l)) rfl)

abbrev s_l_whole : Stmt := topS 10
abbrev N_l_whole : List Str := ["_law_found"]
theorem sc_l_whole : FnScope N_l_whole ["_law_found"] (defScope s_l_whole) := ⟨rfl, rfl, rfl, by decide +kernel, rfl, by decide +kernel, by decide +kernel⟩
def b_l_whole : List C → Out := (sRet (eAnd (eIsi "int" (eV 0)) (eNot (eIsi "bool" (eV 0)))))
def f_l_whole : List D → Option D := runP [.fz] 1 b_l_whole
theorem fe_l_whole (x0 : D) : f_l_whole [x0] = oRun (b_l_whole [.val x0]) := (ev_run (ks := [.fz]) (n := 1) (b := b_l_whole) (ds := [x0])).trans (congrArg (fun l => oRun (b_l_whole l)) rfl)

abbrev s_l_draw : Stmt := topS 11
abbrev N_l_draw : List Str := ["_law_script", "_law_k"]
theorem sc_l_draw : FnScope N_l_draw ["_law_script", "_law_k"] (defScope s_l_draw) := ⟨rfl, rfl, rfl, by decide +kernel, rfl, by decide +kernel, by decide +kernel⟩
def b_l_draw : List C → Out := (sRet (e1 f_l_mix (aCons (e1 f_l_at (aCons (eB 0) (aCons (e2 gAdd (eC (.int 1)) (e2 gMod (eV 1) (eC (.int 62)))) aNil))) (aCons (e2 gAdd (eC (.int 100)) (eV 1)) aNil))))
def f_l_draw : List D → Option D := runP [.vw, .fz] 2 b_l_draw
theorem fe_l_draw (x0 x1 : D) : f_l_draw [x0, x1] = oRun (b_l_draw [.brw x0, .val x1]) := (ev_run (ks := [.vw, .fz]) (n := 2) (b := b_l_draw) (ds := [x0, x1])).trans (congrArg (fun l => oRun (b_l_draw l)) rfl)

abbrev s_l_named : Stmt := topS 12
abbrev N_l_named : List Str := ["_law_k", "_law_number", "_law_place"]
theorem sc_l_named : FnScope N_l_named ["_law_k", "_law_number"] (defScope s_l_named) := ⟨rfl, rfl, rfl, by decide +kernel, rfl, by decide +kernel, by decide +kernel⟩
def b_l_named : List C → Out := (sSeq (sIf (tB (e2 gEq (e2 gMod (eV 1) (eC (.int 2))) (eC (.int 0)))) (sRet (e2 gAdd (e2 gMul (e2 gIxS (eC (.str "abcdefg")) (eV 0)) (e2 gAdd (eC (.int 1)) (e2 gMod (e2 gDiv (eV 1) (eC (.int 2))) (eC (.int 9))))) (e2 gIxS (eC (.str "xyz")) (e2 gMod (e2 gDiv (eV 1) (eC (.int 18))) (eC (.int 3)))))) sNil)
  (sSeq (sSet 2 (e2 gMod (e2 gDiv (eV 1) (eC (.int 2))) (eC (.int 10))))
  (sRet (e2 gAdd (e2 gAdd (e2 gMul (eC (.str "m")) (eV 2)) (e2 gIxS (eC (.str "abcdefg")) (eV 0))) (e2 gMul (eC (.str "m")) (e2 gSub (eC (.int 9)) (eV 2)))))))
def f_l_named : List D → Option D := runP [.fz, .fz] 3 b_l_named
theorem fe_l_named (x0 x1 : D) : f_l_named [x0, x1] = oRun (b_l_named [.val x0, .val x1, .und]) := (ev_run (ks := [.fz, .fz]) (n := 3) (b := b_l_named) (ds := [x0, x1])).trans (congrArg (fun l => oRun (b_l_named l)) rfl)

abbrev s_l_wide : Stmt := topS 13
abbrev N_l_wide : List Str := ["_law_script", "_law_k", "_law_most", "_law_number"]
theorem sc_l_wide : FnScope N_l_wide ["_law_script", "_law_k", "_law_most"] (defScope s_l_wide) := ⟨rfl, rfl, rfl, by decide +kernel, rfl, by decide +kernel, by decide +kernel⟩
def b_l_wide : List C → Out := (sSeq (sSet 3 (e1 f_l_draw (aCons (eB 0) (aCons (eV 1) aNil))))
  (sSeq (sIf (tB (e2 gEq (e2 gMod (eV 3) (eC (.int 8))) (eC (.int 0)))) (sRet (e2 gAdd (e2 gSub (e2 gMod (e1 f_l_at (aCons (eB 0) (aCons (e2 gAdd (eC (.int 1)) (e2 gMod (eV 1) (eC (.int 62)))) aNil))) (e2 gSub (e2 gMul (eC (.int 2)) (eV 2)) (eC (.int 1)))) (eV 2)) (eC (.int 1)))) sNil)
  (sRet (e2 gSub (e2 gMod (e2 gDiv (eV 3) (eC (.int 8))) (eC (.int 13))) (eC (.int 6))))))
def f_l_wide : List D → Option D := runP [.vw, .fz, .fz] 4 b_l_wide
theorem fe_l_wide (x0 x1 x2 : D) : f_l_wide [x0, x1, x2] = oRun (b_l_wide [.brw x0, .val x1, .val x2, .und]) := (ev_run (ks := [.vw, .fz, .fz]) (n := 4) (b := b_l_wide) (ds := [x0, x1, x2])).trans (congrArg (fun l => oRun (b_l_wide l)) rfl)

abbrev s_l_items : Stmt := topS 14
abbrev N_l_items : List Str := ["_law_script", "_law_many", "_law_most", "_law_number", "_law_k"]
theorem sc_l_items : FnScope N_l_items ["_law_script", "_law_many", "_law_most"] (defScope s_l_items) := ⟨rfl, rfl, rfl, by decide +kernel, rfl, by decide +kernel, by decide +kernel⟩
def b_l_items : List C → Out := (sSeq (sSet 3 (e1 f_l_draw (aCons (eB 0) (aCons (eC (.int 1)) aNil))))
  (sRet (eLc [4] (iRng1F (eV 1)) (tgN 4) (fun _ => some true) (eTup (aCons (e1 f_l_named (aCons (eV 4) (aCons (eV 3) aNil))) (aCons (e1 f_l_wide (aCons (eB 0) (aCons (e2 gAdd (eC (.int 10)) (eV 4)) (aCons (eV 2) aNil)))) aNil))))))
def f_l_items : List D → Option D := runP [.vw, .fz, .fz] 5 b_l_items
theorem fe_l_items (x0 x1 x2 : D) : f_l_items [x0, x1, x2] = oRun (b_l_items [.brw x0, .val x1, .val x2, .und, .und]) := (ev_run (ks := [.vw, .fz, .fz]) (n := 5) (b := b_l_items) (ds := [x0, x1, x2])).trans (congrArg (fun l => oRun (b_l_items l)) rfl)

abbrev s_l_rules : Stmt := topS 15
abbrev N_l_rules : List Str := ["_law_script", "_law_items_here", "_law_many", "_law_most", "_law_rules_here", "_law_k", "_law_numbers", "_law_rest", "_law_many_times", "_law_item", "_law_j"]
theorem sc_l_rules : FnScope N_l_rules ["_law_script", "_law_items_here", "_law_many", "_law_most"] (defScope s_l_rules) := ⟨rfl, rfl, rfl, by decide +kernel, rfl, by decide +kernel, by decide +kernel⟩
def L_l_rules_0 : List C → Out := (sSet 7 (e2 gSub (eV 7) (e2 gMul (eV 8) (e2 gIxS (eV 9) (eC (.int 1))))))
def L_l_rules_1 : List C → Out := (sSeq (sSet 6 (e1 gTuple (aCons (eLc [10] (iRng1F (e1 gLen (aCons (eV 1) aNil))) (tgN 10) (fun _ => some true) (e1 f_l_wide (aCons (eB 0) (aCons (e2 gAdd (e2 gAdd (eC (.int 20)) (e2 gMul (eC (.int 5)) (eV 5))) (eV 10)) (aCons (eV 3) aNil))))) aNil)))
  (sSeq (sSet 7 (e2 gMul (e2 gMod (e1 f_l_draw (aCons (eB 0) (aCons (e2 gAdd (eC (.int 50)) (eV 5)) aNil))) (eC (.int 30))) (e2 gMod (e1 f_l_draw (aCons (eB 0) (aCons (e2 gAdd (eC (.int 60)) (eV 5)) aNil))) (eC (.int 3)))))
  (sSeq (sFor (iZipG (eV 6) (eV 1)) (tgT (tgCons (tgN 8) (tgCons (tgN 9) tgNil))) L_l_rules_0)
  (sApp 4 (eTup (aCons (e1 f_l_named (aCons (eV 5) (aCons (e1 f_l_draw (aCons (eB 0) (aCons (eC (.int 2)) aNil))) aNil))) (aCons (eV 6) (aCons (eV 7) aNil))))))))
def b_l_rules : List C → Out := (sSeq (sSetL 4 (eLst aNil))
  (sSeq (sFor (iRng1F (eV 2)) (tgN 5) L_l_rules_1)
  (sRetL 4)))
def f_l_rules : List D → Option D := runP [.vw, .fz, .fz, .fz] 11 b_l_rules
theorem fe_l_rules (x0 x1 x2 x3 : D) : f_l_rules [x0, x1, x2, x3] = oRun (b_l_rules [.brw x0, .val x1, .val x2, .val x3, .und, .und, .und, .und, .und, .und, .und]) := (ev_run (ks := [.vw, .fz, .fz, .fz]) (n := 11) (b := b_l_rules) (ds := [x0, x1, x2, x3])).trans (congrArg (fun l => oRun (b_l_rules l)) rfl)

abbrev s_l_deeds : Stmt := topS 16
abbrev N_l_deeds : List Str := ["_law_script", "_law_items_here", "_law_many", "_law_deeds_here", "_law_k", "_law_low", "_law_changes", "_law_j", "_law_some", "_law_one_here", "_law_high"]
theorem sc_l_deeds : FnScope N_l_deeds ["_law_script", "_law_items_here", "_law_many"] (defScope s_l_deeds) := ⟨rfl, rfl, rfl, by decide +kernel, rfl, by decide +kernel, by decide +kernel⟩
def L_l_deeds_0 : List C → Out := (sSeq (sSet 8 (e2 gMod (e1 f_l_draw (aCons (eB 0) (aCons (e2 gAdd (e2 gAdd (eC (.int 80)) (e2 gMul (eC (.int 5)) (eV 4))) (eV 7)) aNil))) (eC (.int 3))))
  (sSeq (sSet 9 (e2 gMul (e1 f_l_wide (aCons (eB 0) (aCons (e2 gAdd (e2 gAdd (eC (.int 120)) (e2 gMul (eC (.int 5)) (eV 4))) (eV 7)) (aCons (e2 gPow (eC (.int 10)) (eC (.int 23))) aNil)))) (e1 gInt (aCons (e2 gNe (eV 8) (eC (.int 1))) aNil))))
  (sApp 6 (eTup (aCons (eV 9) (aCons (e2 gMul (e1 f_l_wide (aCons (eB 0) (aCons (e2 gAdd (e2 gAdd (eC (.int 160)) (e2 gMul (eC (.int 5)) (eV 4))) (eV 7)) (aCons (e2 gPow (eC (.int 10)) (eC (.int 23))) aNil)))) (e1 gInt (aCons (e2 gEq (eV 8) (eC (.int 2))) aNil))) aNil))))))
def L_l_deeds_1 : List C → Out := (sSeq (sSet 5 (e1 f_l_wide (aCons (eB 0) (aCons (e2 gAdd (eC (.int 70)) (eV 4)) (aCons (e2 gPow (eC (.int 10)) (eC (.int 5))) aNil)))))
  (sSeq (sSetL 6 (eLst aNil))
  (sSeq (sFor (iRng1F (e1 gLen (aCons (eV 1) aNil))) (tgN 7) L_l_deeds_0)
  (sSeq (sSet 10 (e2 gAdd (eV 5) (e2 gMod (e1 f_l_draw (aCons (eB 0) (aCons (e2 gAdd (eC (.int 200)) (eV 4)) aNil))) (eC (.int 9)))))
  (sApp 3 (eTup (aCons (e1 f_l_named (aCons (eV 4) (aCons (e1 f_l_draw (aCons (eB 0) (aCons (eC (.int 3)) aNil))) aNil))) (aCons (eV 5) (aCons (eV 10) (aCons (e1 gTuple (aCons (eL 6) aNil)) aNil))))))))))
def b_l_deeds : List C → Out := (sSeq (sSetL 3 (eLst aNil))
  (sSeq (sFor (iRng1F (eV 2)) (tgN 4) L_l_deeds_1)
  (sRetL 3)))
def f_l_deeds : List D → Option D := runP [.vw, .fz, .fz] 11 b_l_deeds
theorem fe_l_deeds (x0 x1 x2 : D) : f_l_deeds [x0, x1, x2] = oRun (b_l_deeds [.brw x0, .val x1, .val x2, .und, .und, .und, .und, .und, .und, .und, .und]) := (ev_run (ks := [.vw, .fz, .fz]) (n := 11) (b := b_l_deeds) (ds := [x0, x1, x2])).trans (congrArg (fun l => oRun (b_l_deeds l)) rfl)

abbrev s_l_book : Stmt := topS 17
abbrev N_l_book : List Str := ["_law_script", "_law_counts_here", "_law_big", "_law_items_here"]
theorem sc_l_book : FnScope N_l_book ["_law_script", "_law_counts_here"] (defScope s_l_book) := ⟨rfl, rfl, rfl, by decide +kernel, rfl, by decide +kernel, by decide +kernel⟩
def b_l_book : List C → Out := (sSeq (sSet 2 (e2 gMod (e1 f_l_mix (aCons (e1 f_l_at (aCons (eB 0) (aCons (eC (.int 0)) aNil))) (aCons (eC (.int 2)) aNil))) (eC (.int 2))))
  (sSeq (sSet 3 (e1 f_l_items (aCons (eB 0) (aCons (e2 gIxS (eV 1) (eC (.int 0))) (aCons (e2 gIxS (eLst (aCons (eC (.int 7)) (aCons (e2 gPow (eC (.int 10)) (eC (.int 23))) aNil))) (eV 2)) aNil)))))
  (sRet (eTup (aCons (eV 3) (aCons (e1 f_l_rules (aCons (eB 0) (aCons (eV 3) (aCons (e2 gIxS (eV 1) (eC (.int 1))) (aCons (e2 gIxS (eLst (aCons (e2 gPow (eC (.int 10)) (eC (.int 23))) (aCons (eC (.int 7)) aNil))) (eV 2)) aNil))))) (aCons (e1 f_l_deeds (aCons (eB 0) (aCons (eV 3) (aCons (e2 gIxS (eV 1) (eC (.int 2))) aNil)))) aNil)))))))
def f_l_book : List D → Option D := runP [.vw, .fz] 4 b_l_book
theorem fe_l_book (x0 x1 : D) : f_l_book [x0, x1] = oRun (b_l_book [.brw x0, .val x1, .und, .und]) := (ev_run (ks := [.vw, .fz]) (n := 4) (b := b_l_book) (ds := [x0, x1])).trans (congrArg (fun l => oRun (b_l_book l)) rfl)

abbrev s_l_counts : Stmt := topS 18
abbrev N_l_counts : List Str := ["_law_script", "_law_number"]
theorem sc_l_counts : FnScope N_l_counts ["_law_script"] (defScope s_l_counts) := ⟨rfl, rfl, rfl, by decide +kernel, rfl, by decide +kernel, by decide +kernel⟩
def b_l_counts : List C → Out := (sSeq (sSet 1 (e1 f_l_mix (aCons (e1 f_l_at (aCons (eB 0) (aCons (eC (.int 0)) aNil))) (aCons (eC (.int 1)) aNil))))
  (sRet (eLst (aCons (e2 gAdd (eC (.int 1)) (e2 gMod (eV 1) (eC (.int 4)))) (aCons (e2 gAdd (eC (.int 1)) (e2 gMod (e2 gDiv (eV 1) (eC (.int 4))) (eC (.int 5)))) (aCons (e2 gAdd (eC (.int 1)) (e2 gMod (e2 gDiv (eV 1) (eC (.int 20))) (eC (.int 6)))) aNil))))))
def f_l_counts : List D → Option D := runP [.vw] 2 b_l_counts
theorem fe_l_counts (x0 : D) : f_l_counts [x0] = oRun (b_l_counts [.brw x0, .und]) := (ev_run (ks := [.vw]) (n := 2) (b := b_l_counts) (ds := [x0])).trans (congrArg (fun l => oRun (b_l_counts l)) rfl)

abbrev s_l_behind : Stmt := topS 19
abbrev N_l_behind : List Str := ["_law_state", "_law_deed", "_law_n", "_law_change", "_law_number"]
theorem sc_l_behind : FnScope N_l_behind ["_law_state", "_law_deed", "_law_n"] (defScope s_l_behind) := ⟨rfl, rfl, rfl, by decide +kernel, rfl, by decide +kernel, by decide +kernel⟩
def b_l_behind : List C → Out := (sRet (e1 gTuple (aCons (eLc [4, 3] (iZipG (eV 0) (e2 gIxS (eV 1) (eC (.int 3)))) (tgT (tgCons (tgN 4) (tgCons (tgN 3) tgNil))) (fun _ => some true) (e2 gAdd (e2 gAdd (eV 4) (e2 gMul (e2 gIxS (eV 3) (eC (.int 0))) (eV 2))) (e2 gIxS (eV 3) (eC (.int 1))))) aNil)))
def f_l_behind : List D → Option D := runP [.fz, .fz, .fz] 5 b_l_behind
theorem fe_l_behind (x0 x1 x2 : D) : f_l_behind [x0, x1, x2] = oRun (b_l_behind [.val x0, .val x1, .val x2, .und, .und]) := (ev_run (ks := [.fz, .fz, .fz]) (n := 5) (b := b_l_behind) (ds := [x0, x1, x2])).trans (congrArg (fun l => oRun (b_l_behind l)) rfl)

abbrev s_l_one : Stmt := topS 20
abbrev N_l_one : List Str := ["_law_book_here", "_law_handed", "_law_k", "_law_j", "_law_states", "_law_deed", "_law_found", "_law_state", "_law_n", "_law_more", "_law_least", "_law_due", "_law_free"]
theorem sc_l_one : FnScope N_l_one ["_law_book_here", "_law_handed", "_law_k", "_law_j", "_law_states"] (defScope s_l_one) := ⟨rfl, rfl, rfl, by decide +kernel, rfl, by decide +kernel, by decide +kernel⟩
def L_l_one_0 : List C → Out := (sSet 11 (e1 gMin2 (aCons (eV 11) (aCons (e2 gAdd (e2 gMul (e2 gIxS (eV 6) (eC (.int 0))) (eV 8)) (e2 gIxS (eV 6) (eC (.int 1)))) aNil))))
def L_l_one_1 : List C → Out := (sSeq (sSet 9 (e2 gSub (e1 f_spare (aCons (eV 1) (aCons (eV 2) (aCons (e1 f_l_behind (aCons (eV 7) (aCons (eV 5) (aCons (eV 8) aNil)))) aNil)))) (e1 f_spare (aCons (eV 1) (aCons (eV 2) (aCons (eV 7) aNil))))))
  (sIf (tB (e2 gNe (eV 9) (e2 gAdd (e2 gMul (e2 gIxS (eV 6) (eC (.int 0))) (eV 8)) (e2 gIxS (eV 6) (eC (.int 1)))))) (sRet (eC (.bool false))) sNil))
def L_l_one_2 : List C → Out := (sFor (iAny (eLst (aCons (e2 gIxS (eV 5) (eC (.int 1))) (aCons (e2 gIxS (eV 5) (eC (.int 2))) aNil)))) (tgN 8) L_l_one_1)
def b_l_one : List C → Out := (sSeq (sSet 5 (e2 gIxS (e2 gIxS (eV 0) (eC (.int 2))) (eV 3)))
  (sSeq (sSet 6 (e1 f_gain (aCons (eV 1) (aCons (eV 2) (aCons (eV 3) aNil)))))
  (sSeq (sIf (tOrF (tNotF (tB (eIsi "tuple" (eV 6)))) (tOrF (tB (e2 gNe (e1 gLen (aCons (eV 6) aNil)) (eC (.int 2)))) (tOrF (tNotF (tB (e1 f_l_whole (aCons (e2 gIxS (eV 6) (eC (.int 0))) aNil)))) (tNotF (tB (e1 f_l_whole (aCons (e2 gIxS (eV 6) (eC (.int 1))) aNil))))))) (sRet (eC (.bool false))) sNil)
  (sSeq (sFor (iAny (eV 4)) (tgN 7) L_l_one_2)
  (sSeq (sSet 10 (e1 f_least_gain (aCons (eV 1) (aCons (eV 2) (aCons (eV 3) aNil)))))
  (sSeq (sSet 11 (e2 gAdd (e1 gMin2 (aCons (e2 gMul (e2 gIxS (eV 6) (eC (.int 0))) (e2 gIxS (eV 5) (eC (.int 1)))) (aCons (e2 gMul (e2 gIxS (eV 6) (eC (.int 0))) (e2 gIxS (eV 5) (eC (.int 2)))) aNil))) (e2 gIxS (eV 6) (eC (.int 1)))))
  (sSeq (sFor (iRng2A (e2 gIxS (eV 5) (eC (.int 1))) (e2 gAdd (e1 gMin2 (aCons (e2 gIxS (eV 5) (eC (.int 2))) (aCons (e2 gAdd (e2 gIxS (eV 5) (eC (.int 1))) (eC (.int 8))) aNil))) (eC (.int 1)))) (tgN 8) L_l_one_0)
  (sSeq (sIf (tOrF (tNotF (tB (e1 f_l_whole (aCons (eV 10) aNil)))) (tB (e2 gNe (eV 10) (eV 11)))) (sRet (eC (.bool false))) sNil)
  (sSeq (sSet 12 (e1 f_is_free (aCons (eV 1) (aCons (eV 2) (aCons (eV 3) aNil)))))
  (sRet (eAnd (eIsi "bool" (eV 12)) (e2 gEq (eV 12) (e2 gGe (eV 11) (eC (.int 0)))))))))))))))
def f_l_one : List D → Option D := runP [.fz, .fz, .fz, .fz, .fz] 13 b_l_one
theorem fe_l_one (x0 x1 x2 x3 x4 : D) : f_l_one [x0, x1, x2, x3, x4] = oRun (b_l_one [.val x0, .val x1, .val x2, .val x3, .val x4, .und, .und, .und, .und, .und, .und, .und, .und]) := (ev_run (ks := [.fz, .fz, .fz, .fz, .fz]) (n := 13) (b := b_l_one) (ds := [x0, x1, x2, x3, x4])).trans (congrArg (fun l => oRun (b_l_one l)) rfl)

abbrev s_l_stretched : Stmt := topS 21
abbrev N_l_stretched : List Str := ["_law_script", "_law_book_here", "_law_deeds_here", "_law_k", "_law_deed", "_law_number", "_law_low", "_law_high", "_law_one_here", "_law_other"]
theorem sc_l_stretched : FnScope N_l_stretched ["_law_script", "_law_book_here"] (defScope s_l_stretched) := ⟨rfl, rfl, rfl, by decide +kernel, rfl, by decide +kernel, by decide +kernel⟩
def L_l_stretched_0 : List C → Out := (sSeq (sSet 5 (e1 f_l_draw (aCons (eB 0) (aCons (e2 gAdd (eC (.int 400)) (eV 3)) aNil))))
  (sSeq (sIf (tB (e2 gEq (e2 gMod (eV 5) (eC (.int 2))) (eC (.int 0)))) (sSeq (sSet 6 (e2 gSub (e2 gMod (e1 f_l_at (aCons (eB 0) (aCons (e2 gAdd (eC (.int 5)) (eV 3)) aNil))) (e2 gMul (eC (.int 2)) (e2 gPow (eC (.int 10)) (eC (.int 28))))) (e2 gPow (eC (.int 10)) (eC (.int 28)))))
  (sSeq (sSet 7 (e2 gAdd (eV 6) (e2 gMod (e1 f_l_at (aCons (eB 0) (aCons (e2 gAdd (eC (.int 6)) (eV 3)) aNil))) (e2 gIxS (eLst (aCons (e2 gPow (eC (.int 10)) (eC (.int 28))) (aCons (eC (.int 1000)) aNil))) (e2 gDiv (e2 gMod (e2 gDiv (eV 5) (eC (.int 2))) (eC (.int 4))) (eC (.int 3)))))))
  (sSet 4 (eTup (aCons (e2 gIxS (eV 4) (eC (.int 0))) (aCons (eV 6) (aCons (eV 7) (aCons (e1 gTuple (aCons (eLc [8, 9] (iAny (e2 gIxS (eV 4) (eC (.int 3)))) (tgT (tgCons (tgN 8) (tgCons (tgN 9) tgNil))) (fun _ => some true) (eTup (aCons (e2 gSub (e2 gMod (eV 8) (eC (.int 13))) (eC (.int 6))) (aCons (e2 gSub (e2 gMod (eV 9) (eC (.int 13))) (eC (.int 6))) aNil)))) aNil)) aNil)))))))) sNil)
  (sApp 2 (eV 4))))
def b_l_stretched : List C → Out := (sSeq (sSetL 2 (eLst aNil))
  (sSeq (sFor (iEnumF (e2 gIxS (eV 1) (eC (.int 2)))) (tgT (tgCons (tgN 3) (tgCons (tgN 4) tgNil))) L_l_stretched_0)
  (sFz 2 (sRet (eTup (aCons (e2 gIxS (eV 1) (eC (.int 0))) (aCons (e2 gIxS (eV 1) (eC (.int 1))) (aCons (eV 2) aNil))))))))
def f_l_stretched : List D → Option D := runP [.vw, .fz] 10 b_l_stretched
theorem fe_l_stretched (x0 x1 : D) : f_l_stretched [x0, x1] = oRun (b_l_stretched [.brw x0, .val x1, .und, .und, .und, .und, .und, .und, .und, .und]) := (ev_run (ks := [.vw, .fz]) (n := 10) (b := b_l_stretched) (ds := [x0, x1])).trans (congrArg (fun l => oRun (b_l_stretched l)) rfl)

abbrev s_law : Stmt := topS 22
abbrev N_law : List Str := ["_law_script", "_law_book_here", "_law_handed", "_law_starts", "_law_states", "_law_k", "_law_j", "_law_item"]
theorem sc_law : FnScope N_law ["_law_script"] (defScope s_law) := ⟨rfl, rfl, rfl, by decide +kernel, rfl, by decide +kernel, by decide +kernel⟩
def L_law_0 : List C → Out := (sIf (tNotF (tB (e1 f_l_one (aCons (eV 1) (aCons (eV 2) (aCons (eV 5) (aCons (eV 6) (aCons (eV 4) aNil)))))))) (sRet (eC (.bool false))) sNil)
def L_law_1 : List C → Out := (sFor (iRng1F (e1 gLen (aCons (e2 gIxS (eV 1) (eC (.int 2))) aNil))) (tgN 6) L_law_0)
def b_law : List C → Out := (sSeq (sSet 1 (e1 f_l_stretched (aCons (eB 0) (aCons (e1 f_l_book (aCons (eB 0) (aCons (e1 f_l_counts (aCons (eB 0) aNil)) aNil))) aNil))))
  (sSeq (sSet 2 (eTup (aCons (e1 gList (aCons (e2 gIxS (eV 1) (eC (.int 0))) aNil)) (aCons (e1 gList (aCons (e2 gIxS (eV 1) (eC (.int 1))) aNil)) (aCons (e1 gList (aCons (e2 gIxS (eV 1) (eC (.int 2))) aNil)) aNil)))))
  (sSeq (sSet 3 (e1 gTuple (aCons (eLc [7] (iAny (e2 gIxS (eV 1) (eC (.int 0)))) (tgN 7) (fun _ => some true) (e2 gIxS (eV 7) (eC (.int 1)))) aNil)))
  (sSeq (sSet 4 (eLst (aCons (eV 3) (aCons (e1 gTuple (aCons (eLc [5] (iRng1F (e1 gLen (aCons (eV 3) aNil))) (tgN 5) (fun _ => some true) (e1 f_l_wide (aCons (eB 0) (aCons (e2 gAdd (eC (.int 300)) (eV 5)) (aCons (e2 gPow (eC (.int 10)) (eC (.int 23))) aNil))))) aNil)) aNil))))
  (sSeq (sFor (iRng1F (e1 gLen (aCons (e2 gIxS (eV 1) (eC (.int 1))) aNil))) (tgN 5) L_law_1)
  (sRet (e2 gEq (eV 2) (eV 1))))))))
def f_law : List D → Option D := runP [.vw] 8 b_law
theorem fe_law (x0 : D) : f_law [x0] = oRun (b_law [.brw x0, .und, .und, .und, .und, .und, .und, .und]) := (ev_run (ks := [.vw]) (n := 8) (b := b_law) (ds := [x0])).trans (congrArg (fun l => oRun (b_law l)) rfl)
end DL
set_option Elab.async false
set_option linter.all false
/-! K15L: books, gains, in plain Lean -/
namespace DL.Bk
open PySem
structure Rule where
  nm : Str
  co : List Int
  rest : Int
structure Deed where
  nm : Str
  lo : Int
  hi : Int
  ch : List (Int × Int)
structure Book where
  its : List (Str × Int)
  rus : List Rule
  des : List Deed
/-- the sum of products -/
def dot (co st : List Int) : Int := ((co.zip st).map fun p => p.1 * p.2).sum
def slope (co : List Int) (ch : List (Int × Int)) : Int := ((co.zip ch).map fun p => p.1 * p.2.1).sum
def beside (co : List Int) (ch : List (Int × Int)) : Int := ((co.zip ch).map fun p => p.1 * p.2.2).sum
def behind (st : List Int) (ch : List (Int × Int)) (n : Int) : List Int := (st.zip ch).map fun p => p.1 + p.2.1 * n + p.2.2
theorem dot_behind (n : Int) : ∀ (co st : List Int) (ch : List (Int × Int)), co.length = st.length → st.length = ch.length → dot co (behind st ch n) - dot co st = slope co ch * n + beside co ch
  | [], [], [], _, _ => by simp [dot, slope, beside, behind]
  | c :: co, s :: st, (a, b) :: ch, h1, h2 => by
    have ih := dot_behind n co st ch (by simpa using h1) (by simpa using h2)
    unfold dot slope beside behind at *
    simp only [List.zip_cons_cons, List.map_cons, List.sum_cons]
    have e1 : c * (s + a * n + b) = c * s + c * a * n + c * b := by
      rw [Int.mul_add, Int.mul_add, Int.mul_assoc]
    rw [e1, Int.add_mul]
    omega
  | [], _ :: _, _, h, _ => by simp at h
  | _ :: _, [], _, h, _ => by simp at h
  | [], [], _ :: _, _, h => by simp at h
  | _ :: _, _ :: _, [], _, h => by simp at h
/-- a line's least value between two ends lies at an end -/
theorem line_min {s lo hi n : Int} (h1 : lo ≤ n) (h2 : n ≤ hi) : (if s * hi < s * lo then s * hi else s * lo) ≤ s * n := by
  rcases Int.le_total 0 s with h | h
  · have a := Int.mul_le_mul_of_nonneg_left h1 h
    split <;> omega
  · have a := Int.mul_le_mul_of_nonpos_left h h2
    split <;> omega
theorem sum_snoc (l : List Int) (x : Int) : (l ++ [x]).sum = l.sum + x := by rw [List.sum_append]; simp
/-! names -/
def okS (b : Nat) (x : Str) : Prop := x.length ≤ b ∧ PyData.strOk x = true
theorem okS_add {a b : Nat} {x y : Str} (hx : okS a x) (hy : okS b y) : okS (a + b) (x ++ y) := by
  obtain ⟨l1, o1⟩ := hx
  obtain ⟨l2, o2⟩ := hy
  refine ⟨?_, ?_⟩
  · show (x.cps ++ y.cps).size ≤ a + b
    rw [Array.size_append]
    exact Nat.add_le_add l1 l2
  · show (x.cps ++ y.cps).all (· < 0x110000) = true
    rw [Array.all_append, Bool.and_eq_true]
    exact ⟨o1, o2⟩
theorem okS_rep {b : Nat} {x : Str} (hx : okS b x) : ∀ k : Nat, okS (k * b) (strRep x k) := fun k => by
  obtain ⟨l1, o1⟩ := hx
  refine ⟨?_, ?_⟩
  · show ((List.replicate k x.cps.toList).flatten.toArray).size ≤ k * b
    rw [List.size_toArray, PyProof.Rows.lm_len_rep_flat, Array.length_toList]
    exact Nat.mul_le_mul_left k l1
  · show ((List.replicate k x.cps.toList).flatten.toArray).all (· < 0x110000) = true
    have o2 : x.cps.toList.all (· < 0x110000) = true := by rw [Array.all_toList]; exact o1
    rw [List.all_toArray]
    rw [List.all_eq_true] at o2 ⊢
    intro c hc
    obtain ⟨l, hl, hc⟩ := List.mem_flatten.mp hc
    rw [List.eq_of_mem_replicate hl] at hc
    exact o2 c hc
theorem okS_one {c : Nat} (h : c < 128) : okS 1 ⟨#[c]⟩ := ⟨Nat.le_refl _, by
  show (#[c] : Array Nat).all (· < 0x110000) = true
  rw [List.all_toArray]
  simp; omega⟩
end DL.Bk
set_option Elab.async false
set_option linter.all false
set_option maxRecDepth 100000
set_option maxHeartbeats 4000000
set_option exponentiation.threshold 10000
namespace DL
open PySem PySem.Spec L2
open Bk (okS)
/-! K15M: what k15's defs give -/
def atZ (ns : List Int) (k : Int) : Int := if k < ns.length then ns.getD k.toNat 0 else 19 * k + 8
theorem md_small {i : Int} (h0 : -(2 ^ 200) < i) (h1 : i < 2 ^ 200) : Md i := Md.of_lt h0 h1
theorem at_ok {ns : List Int} {k : Int} (h0 : 0 ≤ k) (h1 : k < 1000) : f_l_at [.list (ns.map .int), .int k] = some (.int (atZ ns k)) := by
  rw [fe_l_at]
  unfold b_l_at
  have m1 : Md 19 := md_small (by decide) (by decide)
  have m2 : Md k := md_small (by omega) (by omega)
  simp only [ev_bs, ev_bn, ev_ms, ev_mn, ev_g0, ev_gs, ev_s0, ev_ss, ev_bn1, ev_bn2, ev_seq, ev_seq_nx, ev_seq_rt, ev_seq_bk, ev_seq_ct, ev_nil, ev_brk, ev_cnt, ev_if, ev_if_t, ev_if_f, ev_set, ev_oset, ev_setL, ev_osetL, ev_drop, ev_odrop, ev_ret, ev_oret, ev_retN, ev_retL, ev_oretL, ev_orun, ev_orunN, ev_orunN_nx, ev_fz, ev_fz_l, ev_fz_v, ev_app, ev_app_s, ev_clear, ev_clear_s, ev_oNx, ev_asg, ev_asg_s, ev_par, ev_par_s, ev_aug, ev_aug_s, ev_setIx, ev_setIx_s, ev_augIx, ev_for, ev_ofor, ev_V, ev_L, ev_B, ev_rdV, ev_rdLv, ev_rdLl, ev_rdBv, ev_rdBb, ev_C, ev_e2, ev_o2, ev_e1, ev_e3, ev_o3, ev_pN, ev_pS, ev_oPS, ev_aNil, ev_aCons, ev_oCons, ev_tup, ev_lst, ev_oLst, ev_scal, ev_scal_i, ev_scal_s, ev_scal_b, ev_neg, ev_oNeg, ev_tB, ev_asB, ev_tNot, ev_tAnd, ev_tOr, ev_oAnd_t, ev_oAnd_f, ev_oOr_t, ev_oOr_f, ev_eAnd, ev_eOr, ev_oAndD_t, ev_oAndD_f, ev_oOrD_t, ev_oOrD_f, ev_eNot, ev_oNot, ev_isi, ev_isi_ii, ev_isi_ib, ev_isi_il, ev_isi_it, ev_isi_is, ev_isi_ll, ev_isi_lt, ev_isi_li, ev_isi_lb, ev_isi_tt, ev_isi_tl, ev_isi_ss, ev_isi_bb, ev_isi_bi, ev_isN, ev_notN, ev_oIsN_n, ev_oIsN_i, ev_oIsN_l, ev_oIsN_t, ev_oNotN_n, ev_oNotN_i, ev_oNotN_l, ev_oNotN_t, ev_rev, ev_gRev, ev_iAny, ev_oAny_l, ev_oAny_t, ev_iSeqB, ev_oSeqB, ev_iEnum, ev_oEnum, ev_iZip, ev_oZip_ll, ev_oZip_tt, ev_oZip_lt, ev_oZip_tl, ev_iRng1, ev_rng1_s, ev_iRng2, ev_rng2_s, ev_tgN, ev_tgNil, ev_tgCons, ev_tgT, ev_wipe_nil, ev_wipe_cons, ev_lc, ev_oLc, ev_add, ev_addIS, ev_add_ll, ev_add_tt, ev_addL, ev_repL, ev_rep, ev_sub, ev_mul, ev_mod, ev_div, ev_pow, ev_lt, ev_le, ev_gt, ev_ge, ev_eq, ev_ne, ev_eqs, ev_nes, ev_eqb, ev_neb, ev_len, ev_lenT, ev_list, ev_listT, ev_tuple, ev_tupleT, ev_int, ev_intb, ev_sum, ev_sum0, ev_max2, ev_min2, ev_sl, ev_slT, ev_slL, ev_slB, ev_divZ, ev_onNx, ev_while, ev_eq_li, ev_ne_li, ev_eq_self, ev_ne_self, ev_eq_selfT, ev_ne_selfT, ev_ne_nil, ev_eq_nil, ev_sorted_i, decide_true, decide_false, List.nil_append, List.cons_append, ev_ix, ev_ixT, ev_ixB, ev_ixBT, m1, m2, List.length_map]
  unfold atZ
  by_cases h : k < ns.length
  · have e : atI (ns.map PyData.int) k = some (.int (ns.getD k.toNat 0)) := by
      rw [ev_atm h0 h, List.getD_eq_getElem?_getD, List.getElem?_eq_getElem (by omega)]; rfl
    simp only [ev_bs, ev_bn, ev_ms, ev_mn, ev_g0, ev_gs, ev_s0, ev_ss, ev_bn1, ev_bn2, ev_seq, ev_seq_nx, ev_seq_rt, ev_seq_bk, ev_seq_ct, ev_nil, ev_brk, ev_cnt, ev_if, ev_if_t, ev_if_f, ev_set, ev_oset, ev_setL, ev_osetL, ev_drop, ev_odrop, ev_ret, ev_oret, ev_retN, ev_retL, ev_oretL, ev_orun, ev_orunN, ev_orunN_nx, ev_fz, ev_fz_l, ev_fz_v, ev_app, ev_app_s, ev_clear, ev_clear_s, ev_oNx, ev_asg, ev_asg_s, ev_par, ev_par_s, ev_aug, ev_aug_s, ev_setIx, ev_setIx_s, ev_augIx, ev_for, ev_ofor, ev_V, ev_L, ev_B, ev_rdV, ev_rdLv, ev_rdLl, ev_rdBv, ev_rdBb, ev_C, ev_e2, ev_o2, ev_e1, ev_e3, ev_o3, ev_pN, ev_pS, ev_oPS, ev_aNil, ev_aCons, ev_oCons, ev_tup, ev_lst, ev_oLst, ev_scal, ev_scal_i, ev_scal_s, ev_scal_b, ev_neg, ev_oNeg, ev_tB, ev_asB, ev_tNot, ev_tAnd, ev_tOr, ev_oAnd_t, ev_oAnd_f, ev_oOr_t, ev_oOr_f, ev_eAnd, ev_eOr, ev_oAndD_t, ev_oAndD_f, ev_oOrD_t, ev_oOrD_f, ev_eNot, ev_oNot, ev_isi, ev_isi_ii, ev_isi_ib, ev_isi_il, ev_isi_it, ev_isi_is, ev_isi_ll, ev_isi_lt, ev_isi_li, ev_isi_lb, ev_isi_tt, ev_isi_tl, ev_isi_ss, ev_isi_bb, ev_isi_bi, ev_isN, ev_notN, ev_oIsN_n, ev_oIsN_i, ev_oIsN_l, ev_oIsN_t, ev_oNotN_n, ev_oNotN_i, ev_oNotN_l, ev_oNotN_t, ev_rev, ev_gRev, ev_iAny, ev_oAny_l, ev_oAny_t, ev_iSeqB, ev_oSeqB, ev_iEnum, ev_oEnum, ev_iZip, ev_oZip_ll, ev_oZip_tt, ev_oZip_lt, ev_oZip_tl, ev_iRng1, ev_rng1_s, ev_iRng2, ev_rng2_s, ev_tgN, ev_tgNil, ev_tgCons, ev_tgT, ev_wipe_nil, ev_wipe_cons, ev_lc, ev_oLc, ev_add, ev_addIS, ev_add_ll, ev_add_tt, ev_addL, ev_repL, ev_rep, ev_sub, ev_mul, ev_mod, ev_div, ev_pow, ev_lt, ev_le, ev_gt, ev_ge, ev_eq, ev_ne, ev_eqs, ev_nes, ev_eqb, ev_neb, ev_len, ev_lenT, ev_list, ev_listT, ev_tuple, ev_tupleT, ev_int, ev_intb, ev_sum, ev_sum0, ev_max2, ev_min2, ev_sl, ev_slT, ev_slL, ev_slB, ev_divZ, ev_onNx, ev_while, ev_eq_li, ev_ne_li, ev_eq_self, ev_ne_self, ev_eq_selfT, ev_ne_selfT, ev_ne_nil, ev_eq_nil, ev_sorted_i, decide_true, decide_false, List.nil_append, List.cons_append, ev_ix, ev_ixT, ev_ixB, ev_ixBT, h, e, if_true]
  · simp only [ev_bs, ev_bn, ev_ms, ev_mn, ev_g0, ev_gs, ev_s0, ev_ss, ev_bn1, ev_bn2, ev_seq, ev_seq_nx, ev_seq_rt, ev_seq_bk, ev_seq_ct, ev_nil, ev_brk, ev_cnt, ev_if, ev_if_t, ev_if_f, ev_set, ev_oset, ev_setL, ev_osetL, ev_drop, ev_odrop, ev_ret, ev_oret, ev_retN, ev_retL, ev_oretL, ev_orun, ev_orunN, ev_orunN_nx, ev_fz, ev_fz_l, ev_fz_v, ev_app, ev_app_s, ev_clear, ev_clear_s, ev_oNx, ev_asg, ev_asg_s, ev_par, ev_par_s, ev_aug, ev_aug_s, ev_setIx, ev_setIx_s, ev_augIx, ev_for, ev_ofor, ev_V, ev_L, ev_B, ev_rdV, ev_rdLv, ev_rdLl, ev_rdBv, ev_rdBb, ev_C, ev_e2, ev_o2, ev_e1, ev_e3, ev_o3, ev_pN, ev_pS, ev_oPS, ev_aNil, ev_aCons, ev_oCons, ev_tup, ev_lst, ev_oLst, ev_scal, ev_scal_i, ev_scal_s, ev_scal_b, ev_neg, ev_oNeg, ev_tB, ev_asB, ev_tNot, ev_tAnd, ev_tOr, ev_oAnd_t, ev_oAnd_f, ev_oOr_t, ev_oOr_f, ev_eAnd, ev_eOr, ev_oAndD_t, ev_oAndD_f, ev_oOrD_t, ev_oOrD_f, ev_eNot, ev_oNot, ev_isi, ev_isi_ii, ev_isi_ib, ev_isi_il, ev_isi_it, ev_isi_is, ev_isi_ll, ev_isi_lt, ev_isi_li, ev_isi_lb, ev_isi_tt, ev_isi_tl, ev_isi_ss, ev_isi_bb, ev_isi_bi, ev_isN, ev_notN, ev_oIsN_n, ev_oIsN_i, ev_oIsN_l, ev_oIsN_t, ev_oNotN_n, ev_oNotN_i, ev_oNotN_l, ev_oNotN_t, ev_rev, ev_gRev, ev_iAny, ev_oAny_l, ev_oAny_t, ev_iSeqB, ev_oSeqB, ev_iEnum, ev_oEnum, ev_iZip, ev_oZip_ll, ev_oZip_tt, ev_oZip_lt, ev_oZip_tl, ev_iRng1, ev_rng1_s, ev_iRng2, ev_rng2_s, ev_tgN, ev_tgNil, ev_tgCons, ev_tgT, ev_wipe_nil, ev_wipe_cons, ev_lc, ev_oLc, ev_add, ev_addIS, ev_add_ll, ev_add_tt, ev_addL, ev_repL, ev_rep, ev_sub, ev_mul, ev_mod, ev_div, ev_pow, ev_lt, ev_le, ev_gt, ev_ge, ev_eq, ev_ne, ev_eqs, ev_nes, ev_eqb, ev_neb, ev_len, ev_lenT, ev_list, ev_listT, ev_tuple, ev_tupleT, ev_int, ev_intb, ev_sum, ev_sum0, ev_max2, ev_min2, ev_sl, ev_slT, ev_slL, ev_slB, ev_divZ, ev_onNx, ev_while, ev_eq_li, ev_ne_li, ev_eq_self, ev_ne_self, ev_eq_selfT, ev_ne_selfT, ev_ne_nil, ev_eq_nil, ev_sorted_i, decide_true, decide_false, List.nil_append, List.cons_append, ev_ix, ev_ixT, ev_ixB, ev_ixBT, h, if_false, m1, m2]
theorem mix_ok {n p : Int} (h0 : 0 ≤ p) (h1 : p < 1000) : ∃ m, f_l_mix [.int n, .int p] = some (.int m) ∧ 0 ≤ m ∧ m < 2147483648 := by
  rw [fe_l_mix]
  unfold b_l_mix
  have z1 : (0 : Int) < 61 := by decide
  have z2 : (0 : Int) < 2147483648 := by decide
  have z3 : (0 : Int) < 2147483629 := by decide
  have z4 : (0 : Int) < 2147483647 := by decide
  have z5 : (0 : Int) < 2147483587 := by decide
  have z6 : (0 : Int) < 2147483579 := by decide
  have z7 : (2147483648 : Int) < 2 ^ 250 := by decide
  have p1 : (0 : Int) ≤ 12 := by decide
  have p2 : (12 : Int) ≤ 1000000 := by decide
  have p3 : (10 : Int).natAbs < 2 ^ 64 := by decide
  have p4 : (10 : Int) ^ (12 : Int).toNat = 1000000000000 := by decide
  have p5 : (0 : Int) < 1000000000000 := by decide
  have p6 : (1000000000000 : Int) < 2 ^ 250 := by decide
  simp only [ev_bs, ev_bn, ev_ms, ev_mn, ev_g0, ev_gs, ev_s0, ev_ss, ev_bn1, ev_bn2, ev_seq, ev_seq_nx, ev_seq_rt, ev_seq_bk, ev_seq_ct, ev_nil, ev_brk, ev_cnt, ev_if, ev_if_t, ev_if_f, ev_set, ev_oset, ev_setL, ev_osetL, ev_drop, ev_odrop, ev_ret, ev_oret, ev_retN, ev_retL, ev_oretL, ev_orun, ev_orunN, ev_orunN_nx, ev_fz, ev_fz_l, ev_fz_v, ev_app, ev_app_s, ev_clear, ev_clear_s, ev_oNx, ev_asg, ev_asg_s, ev_par, ev_par_s, ev_aug, ev_aug_s, ev_setIx, ev_setIx_s, ev_augIx, ev_for, ev_ofor, ev_V, ev_L, ev_B, ev_rdV, ev_rdLv, ev_rdLl, ev_rdBv, ev_rdBb, ev_C, ev_e2, ev_o2, ev_e1, ev_e3, ev_o3, ev_pN, ev_pS, ev_oPS, ev_aNil, ev_aCons, ev_oCons, ev_tup, ev_lst, ev_oLst, ev_scal, ev_scal_i, ev_scal_s, ev_scal_b, ev_neg, ev_oNeg, ev_tB, ev_asB, ev_tNot, ev_tAnd, ev_tOr, ev_oAnd_t, ev_oAnd_f, ev_oOr_t, ev_oOr_f, ev_eAnd, ev_eOr, ev_oAndD_t, ev_oAndD_f, ev_oOrD_t, ev_oOrD_f, ev_eNot, ev_oNot, ev_isi, ev_isi_ii, ev_isi_ib, ev_isi_il, ev_isi_it, ev_isi_is, ev_isi_ll, ev_isi_lt, ev_isi_li, ev_isi_lb, ev_isi_tt, ev_isi_tl, ev_isi_ss, ev_isi_bb, ev_isi_bi, ev_isN, ev_notN, ev_oIsN_n, ev_oIsN_i, ev_oIsN_l, ev_oIsN_t, ev_oNotN_n, ev_oNotN_i, ev_oNotN_l, ev_oNotN_t, ev_rev, ev_gRev, ev_iAny, ev_oAny_l, ev_oAny_t, ev_iSeqB, ev_oSeqB, ev_iEnum, ev_oEnum, ev_iZip, ev_oZip_ll, ev_oZip_tt, ev_oZip_lt, ev_oZip_tl, ev_iRng1, ev_rng1_s, ev_iRng2, ev_rng2_s, ev_tgN, ev_tgNil, ev_tgCons, ev_tgT, ev_wipe_nil, ev_wipe_cons, ev_lc, ev_oLc, ev_add, ev_addIS, ev_add_ll, ev_add_tt, ev_addL, ev_repL, ev_rep, ev_sub, ev_mul, ev_mod, ev_div, ev_pow, ev_lt, ev_le, ev_gt, ev_ge, ev_eq, ev_ne, ev_eqs, ev_nes, ev_eqb, ev_neb, ev_len, ev_lenT, ev_list, ev_listT, ev_tuple, ev_tupleT, ev_int, ev_intb, ev_sum, ev_sum0, ev_max2, ev_min2, ev_sl, ev_slT, ev_slL, ev_slB, ev_divZ, ev_onNx, ev_while, ev_eq_li, ev_ne_li, ev_eq_self, ev_ne_self, ev_eq_selfT, ev_ne_selfT, ev_ne_nil, ev_eq_nil, ev_sorted_i, decide_true, decide_false, List.nil_append, List.cons_append, ev_ix, ev_ixT, ev_ixB, ev_ixBT, z1, z2, z3, z4, z5, z6, z7, p1, p2, p3, p4, p5, p6]
  by_cases h : 1000000000000 ≤ n
  · have r1 : -(2 ^ 62) ≤ p % 61 := by omega
    have r2 : p % 61 ≤ 16777216 := by omega
    simp only [ev_bs, ev_bn, ev_ms, ev_mn, ev_g0, ev_gs, ev_s0, ev_ss, ev_bn1, ev_bn2, ev_seq, ev_seq_nx, ev_seq_rt, ev_seq_bk, ev_seq_ct, ev_nil, ev_brk, ev_cnt, ev_if, ev_if_t, ev_if_f, ev_set, ev_oset, ev_setL, ev_osetL, ev_drop, ev_odrop, ev_ret, ev_oret, ev_retN, ev_retL, ev_oretL, ev_orun, ev_orunN, ev_orunN_nx, ev_fz, ev_fz_l, ev_fz_v, ev_app, ev_app_s, ev_clear, ev_clear_s, ev_oNx, ev_asg, ev_asg_s, ev_par, ev_par_s, ev_aug, ev_aug_s, ev_setIx, ev_setIx_s, ev_augIx, ev_for, ev_ofor, ev_V, ev_L, ev_B, ev_rdV, ev_rdLv, ev_rdLl, ev_rdBv, ev_rdBb, ev_C, ev_e2, ev_o2, ev_e1, ev_e3, ev_o3, ev_pN, ev_pS, ev_oPS, ev_aNil, ev_aCons, ev_oCons, ev_tup, ev_lst, ev_oLst, ev_scal, ev_scal_i, ev_scal_s, ev_scal_b, ev_neg, ev_oNeg, ev_tB, ev_asB, ev_tNot, ev_tAnd, ev_tOr, ev_oAnd_t, ev_oAnd_f, ev_oOr_t, ev_oOr_f, ev_eAnd, ev_eOr, ev_oAndD_t, ev_oAndD_f, ev_oOrD_t, ev_oOrD_f, ev_eNot, ev_oNot, ev_isi, ev_isi_ii, ev_isi_ib, ev_isi_il, ev_isi_it, ev_isi_is, ev_isi_ll, ev_isi_lt, ev_isi_li, ev_isi_lb, ev_isi_tt, ev_isi_tl, ev_isi_ss, ev_isi_bb, ev_isi_bi, ev_isN, ev_notN, ev_oIsN_n, ev_oIsN_i, ev_oIsN_l, ev_oIsN_t, ev_oNotN_n, ev_oNotN_i, ev_oNotN_l, ev_oNotN_t, ev_rev, ev_gRev, ev_iAny, ev_oAny_l, ev_oAny_t, ev_iSeqB, ev_oSeqB, ev_iEnum, ev_oEnum, ev_iZip, ev_oZip_ll, ev_oZip_tt, ev_oZip_lt, ev_oZip_tl, ev_iRng1, ev_rng1_s, ev_iRng2, ev_rng2_s, ev_tgN, ev_tgNil, ev_tgCons, ev_tgT, ev_wipe_nil, ev_wipe_cons, ev_lc, ev_oLc, ev_add, ev_addIS, ev_add_ll, ev_add_tt, ev_addL, ev_repL, ev_rep, ev_sub, ev_mul, ev_mod, ev_div, ev_pow, ev_lt, ev_le, ev_gt, ev_ge, ev_eq, ev_ne, ev_eqs, ev_nes, ev_eqb, ev_neb, ev_len, ev_lenT, ev_list, ev_listT, ev_tuple, ev_tupleT, ev_int, ev_intb, ev_sum, ev_sum0, ev_max2, ev_min2, ev_sl, ev_slT, ev_slL, ev_slB, ev_divZ, ev_onNx, ev_while, ev_eq_li, ev_ne_li, ev_eq_self, ev_ne_self, ev_eq_selfT, ev_ne_selfT, ev_ne_nil, ev_eq_nil, ev_sorted_i, decide_true, decide_false, List.nil_append, List.cons_append, ev_ix, ev_ixT, ev_ixB, ev_ixBT, h, z1, p1, p2, p3, p4, p5, p6, r1, r2]
    obtain ⟨e, he, v, t, rfl⟩ := forF_rng (lo := 0) (n := (p % 61).toNat) (v := 2) (b := L_l_mix_0) (env := [.val (.int (n / 1000000000000 - 1)), .val (.int p), .und, .und])
      (fun i env => ∃ v t, env = [.val (.int v), .val (.int p), t, .und]) ⟨_, _, rfl⟩ (fun i env hi hI => by
        obtain ⟨v, t, rfl⟩ := hI
        unfold L_l_mix_0
        simp only [ev_bs, ev_bn, ev_ms, ev_mn, ev_g0, ev_gs, ev_s0, ev_ss, ev_bn1, ev_bn2, ev_seq, ev_seq_nx, ev_seq_rt, ev_seq_bk, ev_seq_ct, ev_nil, ev_brk, ev_cnt, ev_if, ev_if_t, ev_if_f, ev_set, ev_oset, ev_setL, ev_osetL, ev_drop, ev_odrop, ev_ret, ev_oret, ev_retN, ev_retL, ev_oretL, ev_orun, ev_orunN, ev_orunN_nx, ev_fz, ev_fz_l, ev_fz_v, ev_app, ev_app_s, ev_clear, ev_clear_s, ev_oNx, ev_asg, ev_asg_s, ev_par, ev_par_s, ev_aug, ev_aug_s, ev_setIx, ev_setIx_s, ev_augIx, ev_for, ev_ofor, ev_V, ev_L, ev_B, ev_rdV, ev_rdLv, ev_rdLl, ev_rdBv, ev_rdBb, ev_C, ev_e2, ev_o2, ev_e1, ev_e3, ev_o3, ev_pN, ev_pS, ev_oPS, ev_aNil, ev_aCons, ev_oCons, ev_tup, ev_lst, ev_oLst, ev_scal, ev_scal_i, ev_scal_s, ev_scal_b, ev_neg, ev_oNeg, ev_tB, ev_asB, ev_tNot, ev_tAnd, ev_tOr, ev_oAnd_t, ev_oAnd_f, ev_oOr_t, ev_oOr_f, ev_eAnd, ev_eOr, ev_oAndD_t, ev_oAndD_f, ev_oOrD_t, ev_oOrD_f, ev_eNot, ev_oNot, ev_isi, ev_isi_ii, ev_isi_ib, ev_isi_il, ev_isi_it, ev_isi_is, ev_isi_ll, ev_isi_lt, ev_isi_li, ev_isi_lb, ev_isi_tt, ev_isi_tl, ev_isi_ss, ev_isi_bb, ev_isi_bi, ev_isN, ev_notN, ev_oIsN_n, ev_oIsN_i, ev_oIsN_l, ev_oIsN_t, ev_oNotN_n, ev_oNotN_i, ev_oNotN_l, ev_oNotN_t, ev_rev, ev_gRev, ev_iAny, ev_oAny_l, ev_oAny_t, ev_iSeqB, ev_oSeqB, ev_iEnum, ev_oEnum, ev_iZip, ev_oZip_ll, ev_oZip_tt, ev_oZip_lt, ev_oZip_tl, ev_iRng1, ev_rng1_s, ev_iRng2, ev_rng2_s, ev_tgN, ev_tgNil, ev_tgCons, ev_tgT, ev_wipe_nil, ev_wipe_cons, ev_lc, ev_oLc, ev_add, ev_addIS, ev_add_ll, ev_add_tt, ev_addL, ev_repL, ev_rep, ev_sub, ev_mul, ev_mod, ev_div, ev_pow, ev_lt, ev_le, ev_gt, ev_ge, ev_eq, ev_ne, ev_eqs, ev_nes, ev_eqb, ev_neb, ev_len, ev_lenT, ev_list, ev_listT, ev_tuple, ev_tupleT, ev_int, ev_intb, ev_sum, ev_sum0, ev_max2, ev_min2, ev_sl, ev_slT, ev_slL, ev_slB, ev_divZ, ev_onNx, ev_while, ev_eq_li, ev_ne_li, ev_eq_self, ev_ne_self, ev_eq_selfT, ev_ne_selfT, ev_ne_nil, ev_eq_nil, ev_sorted_i, decide_true, decide_false, List.nil_append, List.cons_append, ev_ix, ev_ixT, ev_ixB, ev_ixBT, z2, z7]
        exact ⟨_, _, rfl⟩)
    rw [he]
    simp only [ev_bs, ev_bn, ev_ms, ev_mn, ev_g0, ev_gs, ev_s0, ev_ss, ev_bn1, ev_bn2, ev_seq, ev_seq_nx, ev_seq_rt, ev_seq_bk, ev_seq_ct, ev_nil, ev_brk, ev_cnt, ev_if, ev_if_t, ev_if_f, ev_set, ev_oset, ev_setL, ev_osetL, ev_drop, ev_odrop, ev_ret, ev_oret, ev_retN, ev_retL, ev_oretL, ev_orun, ev_orunN, ev_orunN_nx, ev_fz, ev_fz_l, ev_fz_v, ev_app, ev_app_s, ev_clear, ev_clear_s, ev_oNx, ev_asg, ev_asg_s, ev_par, ev_par_s, ev_aug, ev_aug_s, ev_setIx, ev_setIx_s, ev_augIx, ev_for, ev_ofor, ev_V, ev_L, ev_B, ev_rdV, ev_rdLv, ev_rdLl, ev_rdBv, ev_rdBb, ev_C, ev_e2, ev_o2, ev_e1, ev_e3, ev_o3, ev_pN, ev_pS, ev_oPS, ev_aNil, ev_aCons, ev_oCons, ev_tup, ev_lst, ev_oLst, ev_scal, ev_scal_i, ev_scal_s, ev_scal_b, ev_neg, ev_oNeg, ev_tB, ev_asB, ev_tNot, ev_tAnd, ev_tOr, ev_oAnd_t, ev_oAnd_f, ev_oOr_t, ev_oOr_f, ev_eAnd, ev_eOr, ev_oAndD_t, ev_oAndD_f, ev_oOrD_t, ev_oOrD_f, ev_eNot, ev_oNot, ev_isi, ev_isi_ii, ev_isi_ib, ev_isi_il, ev_isi_it, ev_isi_is, ev_isi_ll, ev_isi_lt, ev_isi_li, ev_isi_lb, ev_isi_tt, ev_isi_tl, ev_isi_ss, ev_isi_bb, ev_isi_bi, ev_isN, ev_notN, ev_oIsN_n, ev_oIsN_i, ev_oIsN_l, ev_oIsN_t, ev_oNotN_n, ev_oNotN_i, ev_oNotN_l, ev_oNotN_t, ev_rev, ev_gRev, ev_iAny, ev_oAny_l, ev_oAny_t, ev_iSeqB, ev_oSeqB, ev_iEnum, ev_oEnum, ev_iZip, ev_oZip_ll, ev_oZip_tt, ev_oZip_lt, ev_oZip_tl, ev_iRng1, ev_rng1_s, ev_iRng2, ev_rng2_s, ev_tgN, ev_tgNil, ev_tgCons, ev_tgT, ev_wipe_nil, ev_wipe_cons, ev_lc, ev_oLc, ev_add, ev_addIS, ev_add_ll, ev_add_tt, ev_addL, ev_repL, ev_rep, ev_sub, ev_mul, ev_mod, ev_div, ev_pow, ev_lt, ev_le, ev_gt, ev_ge, ev_eq, ev_ne, ev_eqs, ev_nes, ev_eqb, ev_neb, ev_len, ev_lenT, ev_list, ev_listT, ev_tuple, ev_tupleT, ev_int, ev_intb, ev_sum, ev_sum0, ev_max2, ev_min2, ev_sl, ev_slT, ev_slL, ev_slB, ev_divZ, ev_onNx, ev_while, ev_eq_li, ev_ne_li, ev_eq_self, ev_ne_self, ev_eq_selfT, ev_ne_selfT, ev_ne_nil, ev_eq_nil, ev_sorted_i, decide_true, decide_false, List.nil_append, List.cons_append, ev_ix, ev_ixT, ev_ixB, ev_ixBT, z2, Option.some.injEq, PyData.int.injEq]
    exact ⟨_, rfl, Int.emod_nonneg _ (by decide), Int.emod_lt_of_pos _ (by decide)⟩
  · have e1 := Int.emod_nonneg n (b := 2147483629) (by decide)
    have e2 := Int.emod_lt_of_pos n (b := 2147483629) (by decide)
    have m1 : Md 8 := md_small (by decide) (by decide)
    have m2 : Md p := md_small (by omega) (by omega)
    have m3 : Md (8 * p) := md_small (by omega) (by omega)
    have s1 : 8 * p * p ≤ 8000 * 1000 := by
      have a1 : 8 * p * p ≤ 8000 * p := Int.mul_le_mul_of_nonneg_right (by omega) h0
      omega
    have s0 : 0 ≤ 8 * p * p := Int.mul_nonneg (by omega) h0
    have m4 : Md (n % 2147483629 + p + 1) := md_small (by omega) (by omega)
    have m5 : Md (8 * p * p + 48271) := md_small (by omega) (by omega)
    simp only [ev_bs, ev_bn, ev_ms, ev_mn, ev_g0, ev_gs, ev_s0, ev_ss, ev_bn1, ev_bn2, ev_seq, ev_seq_nx, ev_seq_rt, ev_seq_bk, ev_seq_ct, ev_nil, ev_brk, ev_cnt, ev_if, ev_if_t, ev_if_f, ev_set, ev_oset, ev_setL, ev_osetL, ev_drop, ev_odrop, ev_ret, ev_oret, ev_retN, ev_retL, ev_oretL, ev_orun, ev_orunN, ev_orunN_nx, ev_fz, ev_fz_l, ev_fz_v, ev_app, ev_app_s, ev_clear, ev_clear_s, ev_oNx, ev_asg, ev_asg_s, ev_par, ev_par_s, ev_aug, ev_aug_s, ev_setIx, ev_setIx_s, ev_augIx, ev_for, ev_ofor, ev_V, ev_L, ev_B, ev_rdV, ev_rdLv, ev_rdLl, ev_rdBv, ev_rdBb, ev_C, ev_e2, ev_o2, ev_e1, ev_e3, ev_o3, ev_pN, ev_pS, ev_oPS, ev_aNil, ev_aCons, ev_oCons, ev_tup, ev_lst, ev_oLst, ev_scal, ev_scal_i, ev_scal_s, ev_scal_b, ev_neg, ev_oNeg, ev_tB, ev_asB, ev_tNot, ev_tAnd, ev_tOr, ev_oAnd_t, ev_oAnd_f, ev_oOr_t, ev_oOr_f, ev_eAnd, ev_eOr, ev_oAndD_t, ev_oAndD_f, ev_oOrD_t, ev_oOrD_f, ev_eNot, ev_oNot, ev_isi, ev_isi_ii, ev_isi_ib, ev_isi_il, ev_isi_it, ev_isi_is, ev_isi_ll, ev_isi_lt, ev_isi_li, ev_isi_lb, ev_isi_tt, ev_isi_tl, ev_isi_ss, ev_isi_bb, ev_isi_bi, ev_isN, ev_notN, ev_oIsN_n, ev_oIsN_i, ev_oIsN_l, ev_oIsN_t, ev_oNotN_n, ev_oNotN_i, ev_oNotN_l, ev_oNotN_t, ev_rev, ev_gRev, ev_iAny, ev_oAny_l, ev_oAny_t, ev_iSeqB, ev_oSeqB, ev_iEnum, ev_oEnum, ev_iZip, ev_oZip_ll, ev_oZip_tt, ev_oZip_lt, ev_oZip_tl, ev_iRng1, ev_rng1_s, ev_iRng2, ev_rng2_s, ev_tgN, ev_tgNil, ev_tgCons, ev_tgT, ev_wipe_nil, ev_wipe_cons, ev_lc, ev_oLc, ev_add, ev_addIS, ev_add_ll, ev_add_tt, ev_addL, ev_repL, ev_rep, ev_sub, ev_mul, ev_mod, ev_div, ev_pow, ev_lt, ev_le, ev_gt, ev_ge, ev_eq, ev_ne, ev_eqs, ev_nes, ev_eqb, ev_neb, ev_len, ev_lenT, ev_list, ev_listT, ev_tuple, ev_tupleT, ev_int, ev_intb, ev_sum, ev_sum0, ev_max2, ev_min2, ev_sl, ev_slT, ev_slL, ev_slB, ev_divZ, ev_onNx, ev_while, ev_eq_li, ev_ne_li, ev_eq_self, ev_ne_self, ev_eq_selfT, ev_ne_selfT, ev_ne_nil, ev_eq_nil, ev_sorted_i, decide_true, decide_false, List.nil_append, List.cons_append, ev_ix, ev_ixT, ev_ixB, ev_ixBT, h, m1, m2, m3, m4, m5, z3, z4]
    have g1 : ∀ x : Int, 0 ≤ x % 2147483647 ∧ x % 2147483647 < 2147483647 := fun x => ⟨Int.emod_nonneg _ (by decide), Int.emod_lt_of_pos _ (by decide)⟩
    generalize hx : (n % 2147483629 + p + 1) * (8 * p * p + 48271) % 2147483647 = x
    have b1 := g1 ((n % 2147483629 + p + 1) * (8 * p * p + 48271))
    rw [hx] at b1
    have m6 : Md x := md_small (by omega) (by omega)
    simp only [ev_bs, ev_bn, ev_ms, ev_mn, ev_g0, ev_gs, ev_s0, ev_ss, ev_bn1, ev_bn2, ev_seq, ev_seq_nx, ev_seq_rt, ev_seq_bk, ev_seq_ct, ev_nil, ev_brk, ev_cnt, ev_if, ev_if_t, ev_if_f, ev_set, ev_oset, ev_setL, ev_osetL, ev_drop, ev_odrop, ev_ret, ev_oret, ev_retN, ev_retL, ev_oretL, ev_orun, ev_orunN, ev_orunN_nx, ev_fz, ev_fz_l, ev_fz_v, ev_app, ev_app_s, ev_clear, ev_clear_s, ev_oNx, ev_asg, ev_asg_s, ev_par, ev_par_s, ev_aug, ev_aug_s, ev_setIx, ev_setIx_s, ev_augIx, ev_for, ev_ofor, ev_V, ev_L, ev_B, ev_rdV, ev_rdLv, ev_rdLl, ev_rdBv, ev_rdBb, ev_C, ev_e2, ev_o2, ev_e1, ev_e3, ev_o3, ev_pN, ev_pS, ev_oPS, ev_aNil, ev_aCons, ev_oCons, ev_tup, ev_lst, ev_oLst, ev_scal, ev_scal_i, ev_scal_s, ev_scal_b, ev_neg, ev_oNeg, ev_tB, ev_asB, ev_tNot, ev_tAnd, ev_tOr, ev_oAnd_t, ev_oAnd_f, ev_oOr_t, ev_oOr_f, ev_eAnd, ev_eOr, ev_oAndD_t, ev_oAndD_f, ev_oOrD_t, ev_oOrD_f, ev_eNot, ev_oNot, ev_isi, ev_isi_ii, ev_isi_ib, ev_isi_il, ev_isi_it, ev_isi_is, ev_isi_ll, ev_isi_lt, ev_isi_li, ev_isi_lb, ev_isi_tt, ev_isi_tl, ev_isi_ss, ev_isi_bb, ev_isi_bi, ev_isN, ev_notN, ev_oIsN_n, ev_oIsN_i, ev_oIsN_l, ev_oIsN_t, ev_oNotN_n, ev_oNotN_i, ev_oNotN_l, ev_oNotN_t, ev_rev, ev_gRev, ev_iAny, ev_oAny_l, ev_oAny_t, ev_iSeqB, ev_oSeqB, ev_iEnum, ev_oEnum, ev_iZip, ev_oZip_ll, ev_oZip_tt, ev_oZip_lt, ev_oZip_tl, ev_iRng1, ev_rng1_s, ev_iRng2, ev_rng2_s, ev_tgN, ev_tgNil, ev_tgCons, ev_tgT, ev_wipe_nil, ev_wipe_cons, ev_lc, ev_oLc, ev_add, ev_addIS, ev_add_ll, ev_add_tt, ev_addL, ev_repL, ev_rep, ev_sub, ev_mul, ev_mod, ev_div, ev_pow, ev_lt, ev_le, ev_gt, ev_ge, ev_eq, ev_ne, ev_eqs, ev_nes, ev_eqb, ev_neb, ev_len, ev_lenT, ev_list, ev_listT, ev_tuple, ev_tupleT, ev_int, ev_intb, ev_sum, ev_sum0, ev_max2, ev_min2, ev_sl, ev_slT, ev_slL, ev_slB, ev_divZ, ev_onNx, ev_while, ev_eq_li, ev_ne_li, ev_eq_self, ev_ne_self, ev_eq_selfT, ev_ne_selfT, ev_ne_nil, ev_eq_nil, ev_sorted_i, decide_true, decide_false, List.nil_append, List.cons_append, ev_ix, ev_ixT, ev_ixB, ev_ixBT, m6, z5]
    have g2 : ∀ x : Int, 0 ≤ x % 2147483587 ∧ x % 2147483587 < 2147483587 := fun x => ⟨Int.emod_nonneg _ (by decide), Int.emod_lt_of_pos _ (by decide)⟩
    generalize hy : x * x % 2147483587 = y
    have b2 := g2 (x * x)
    rw [hy] at b2
    have m7 : Md y := md_small (by omega) (by omega)
    have m8 : Md (y + 2) := md_small (by omega) (by omega)
    simp only [ev_bs, ev_bn, ev_ms, ev_mn, ev_g0, ev_gs, ev_s0, ev_ss, ev_bn1, ev_bn2, ev_seq, ev_seq_nx, ev_seq_rt, ev_seq_bk, ev_seq_ct, ev_nil, ev_brk, ev_cnt, ev_if, ev_if_t, ev_if_f, ev_set, ev_oset, ev_setL, ev_osetL, ev_drop, ev_odrop, ev_ret, ev_oret, ev_retN, ev_retL, ev_oretL, ev_orun, ev_orunN, ev_orunN_nx, ev_fz, ev_fz_l, ev_fz_v, ev_app, ev_app_s, ev_clear, ev_clear_s, ev_oNx, ev_asg, ev_asg_s, ev_par, ev_par_s, ev_aug, ev_aug_s, ev_setIx, ev_setIx_s, ev_augIx, ev_for, ev_ofor, ev_V, ev_L, ev_B, ev_rdV, ev_rdLv, ev_rdLl, ev_rdBv, ev_rdBb, ev_C, ev_e2, ev_o2, ev_e1, ev_e3, ev_o3, ev_pN, ev_pS, ev_oPS, ev_aNil, ev_aCons, ev_oCons, ev_tup, ev_lst, ev_oLst, ev_scal, ev_scal_i, ev_scal_s, ev_scal_b, ev_neg, ev_oNeg, ev_tB, ev_asB, ev_tNot, ev_tAnd, ev_tOr, ev_oAnd_t, ev_oAnd_f, ev_oOr_t, ev_oOr_f, ev_eAnd, ev_eOr, ev_oAndD_t, ev_oAndD_f, ev_oOrD_t, ev_oOrD_f, ev_eNot, ev_oNot, ev_isi, ev_isi_ii, ev_isi_ib, ev_isi_il, ev_isi_it, ev_isi_is, ev_isi_ll, ev_isi_lt, ev_isi_li, ev_isi_lb, ev_isi_tt, ev_isi_tl, ev_isi_ss, ev_isi_bb, ev_isi_bi, ev_isN, ev_notN, ev_oIsN_n, ev_oIsN_i, ev_oIsN_l, ev_oIsN_t, ev_oNotN_n, ev_oNotN_i, ev_oNotN_l, ev_oNotN_t, ev_rev, ev_gRev, ev_iAny, ev_oAny_l, ev_oAny_t, ev_iSeqB, ev_oSeqB, ev_iEnum, ev_oEnum, ev_iZip, ev_oZip_ll, ev_oZip_tt, ev_oZip_lt, ev_oZip_tl, ev_iRng1, ev_rng1_s, ev_iRng2, ev_rng2_s, ev_tgN, ev_tgNil, ev_tgCons, ev_tgT, ev_wipe_nil, ev_wipe_cons, ev_lc, ev_oLc, ev_add, ev_addIS, ev_add_ll, ev_add_tt, ev_addL, ev_repL, ev_rep, ev_sub, ev_mul, ev_mod, ev_div, ev_pow, ev_lt, ev_le, ev_gt, ev_ge, ev_eq, ev_ne, ev_eqs, ev_nes, ev_eqb, ev_neb, ev_len, ev_lenT, ev_list, ev_listT, ev_tuple, ev_tupleT, ev_int, ev_intb, ev_sum, ev_sum0, ev_max2, ev_min2, ev_sl, ev_slT, ev_slL, ev_slB, ev_divZ, ev_onNx, ev_while, ev_eq_li, ev_ne_li, ev_eq_self, ev_ne_self, ev_eq_selfT, ev_ne_selfT, ev_ne_nil, ev_eq_nil, ev_sorted_i, decide_true, decide_false, List.nil_append, List.cons_append, ev_ix, ev_ixT, ev_ixB, ev_ixBT, m7, m8, z6, Option.some.injEq, PyData.int.injEq]
    have := Int.emod_lt_of_pos (y * (y + 2)) (b := 2147483579) (by decide)
    exact ⟨_, rfl, Int.emod_nonneg _ (by decide), by omega⟩
noncomputable def mixZ (n p : Int) : Int := if h : 0 ≤ p ∧ p < 1000 then (mix_ok (n := n) h.1 h.2).choose else 0
theorem mixZ_ok {n p : Int} (h0 : 0 ≤ p) (h1 : p < 1000) : f_l_mix [.int n, .int p] = some (.int (mixZ n p)) ∧ 0 ≤ mixZ n p ∧ mixZ n p < 2147483648 := by
  unfold mixZ
  rw [dif_pos ⟨h0, h1⟩]
  exact (mix_ok (n := n) h0 h1).choose_spec
theorem p10 : ((10 : Int).natAbs < 2 ^ 64) := by decide
abbrev T23 : Int := 100000000000000000000000
abbrev T28 : Int := 10000000000000000000000000000
theorem q23 : (10 : Int) ^ (23 : Int).toNat = T23 := by decide
theorem q28 : (10 : Int) ^ (28 : Int).toNat = T28 := by decide
theorem q5 : (10 : Int) ^ (5 : Int).toNat = 100000 := by decide
theorem b23 : (0 : Int) ≤ 23 ∧ (23 : Int) ≤ 1000000 := by decide
theorem b28 : (0 : Int) ≤ 28 ∧ (28 : Int) ≤ 1000000 := by decide
theorem b5 : (0 : Int) ≤ 5 ∧ (5 : Int) ≤ 1000000 := by decide
theorem ev_mul_s {x : Str} {k : Int} (h0 : 0 ≤ k) (h1 : k ≤ 1000) (h2 : (x.length : Int) ≤ 1000) : gMul (.str x) (.int k) = some (.str (strRep x k.toNat)) := by
  refine gOr_n (show gMulI (.str x) (.int k) = none from rfl) (gOr_s ?_)
  unfold gMulS
  exact if_pos ⟨h0, h1, by omega⟩
theorem ev_add_s {x y : Str} (h : (x.length : Int) + y.length ≤ 1000000) : gAdd (.str x) (.str y) = some (.str (x ++ y)) := by
  refine gOr_n (show gAddI (.str x) (.str y) = none from rfl) (gOr_s ?_)
  unfold gAddS
  exact if_pos (by rw [sizeLine_eq]; omega)
theorem abc_ok {k : Int} (h0 : 0 ≤ k) (h1 : k < 7) : ∃ c : Nat, gIxS (.str "abcdefg") (.int k) = some (.str ⟨#[c]⟩) ∧ c < 128 := by
  have : k = 0 ∨ k = 1 ∨ k = 2 ∨ k = 3 ∨ k = 4 ∨ k = 5 ∨ k = 6 := by omega
  rcases this with rfl | rfl | rfl | rfl | rfl | rfl | rfl
  · exact ⟨97, by kernel_rfl, by decide⟩
  · exact ⟨98, by kernel_rfl, by decide⟩
  · exact ⟨99, by kernel_rfl, by decide⟩
  · exact ⟨100, by kernel_rfl, by decide⟩
  · exact ⟨101, by kernel_rfl, by decide⟩
  · exact ⟨102, by kernel_rfl, by decide⟩
  · exact ⟨103, by kernel_rfl, by decide⟩
theorem xyz_ok {k : Int} (h0 : 0 ≤ k) (h1 : k < 3) : ∃ c : Nat, gIxS (.str "xyz") (.int k) = some (.str ⟨#[c]⟩) ∧ c < 128 := by
  have : k = 0 ∨ k = 1 ∨ k = 2 := by omega
  rcases this with rfl | rfl | rfl
  · exact ⟨120, by kernel_rfl, by decide⟩
  · exact ⟨121, by kernel_rfl, by decide⟩
  · exact ⟨122, by kernel_rfl, by decide⟩
theorem m_ok : ("m" : Str) = ⟨#[109]⟩ := by kernel_rfl
theorem named_ok {k n : Int} (h0 : 0 ≤ k) (h1 : k < 7) (hn : 0 ≤ n) : ∃ s : Str, f_l_named [.int k, .int n] = some (.str s) ∧ PyData.strOk s = true := by
  rw [fe_l_named]
  unfold b_l_named
  have z2 : (0 : Int) < 2 := by decide
  have z2' : (2 : Int) < 2 ^ 250 := by decide
  have z9 : (0 : Int) < 9 := by decide
  have z10 : (0 : Int) < 10 := by decide
  have z18 : (0 : Int) < 18 := by decide
  have z18' : (18 : Int) < 2 ^ 250 := by decide
  have z3 : (0 : Int) < 3 := by decide
  obtain ⟨c, hc, c1⟩ := abc_ok h0 h1
  obtain ⟨d, hd, d1⟩ := xyz_ok (k := n / 18 % 3) (by omega) (by omega)
  have oc := Bk.okS_one c1
  have od := Bk.okS_one d1
  have om := Bk.okS_one (c := 109) (by decide)
  have lc : (((⟨#[c]⟩ : Str).length : Nat) : Int) ≤ 1000 := by have := oc.1; omega
  have lm : (((⟨#[109]⟩ : Str).length : Nat) : Int) ≤ 1000 := by have := om.1; omega
  rw [m_ok]
  by_cases h : n % 2 = 0
  · have e0 : 0 ≤ 1 + n / 2 % 9 := by omega
    have e1 : 1 + n / 2 % 9 ≤ 1000 := by omega
    have o1 := Bk.okS_rep oc (1 + n / 2 % 9).toNat
    have l1 : ((strRep ⟨#[c]⟩ (1 + n / 2 % 9).toNat).length : Int) + ((⟨#[d]⟩ : Str).length : Nat) ≤ 1000000 := by
      have := o1.1
      have := od.1
      omega
    simp only [ev_bs, ev_bn, ev_ms, ev_mn, ev_g0, ev_gs, ev_s0, ev_ss, ev_bn1, ev_bn2, ev_seq, ev_seq_nx, ev_seq_rt, ev_seq_bk, ev_seq_ct, ev_nil, ev_brk, ev_cnt, ev_if, ev_if_t, ev_if_f, ev_set, ev_oset, ev_setL, ev_osetL, ev_drop, ev_odrop, ev_ret, ev_oret, ev_retN, ev_retL, ev_oretL, ev_orun, ev_orunN, ev_orunN_nx, ev_fz, ev_fz_l, ev_fz_v, ev_app, ev_app_s, ev_clear, ev_clear_s, ev_oNx, ev_asg, ev_asg_s, ev_par, ev_par_s, ev_aug, ev_aug_s, ev_setIx, ev_setIx_s, ev_augIx, ev_for, ev_ofor, ev_V, ev_L, ev_B, ev_rdV, ev_rdLv, ev_rdLl, ev_rdBv, ev_rdBb, ev_C, ev_e2, ev_o2, ev_e1, ev_e3, ev_o3, ev_pN, ev_pS, ev_oPS, ev_aNil, ev_aCons, ev_oCons, ev_tup, ev_lst, ev_oLst, ev_scal, ev_scal_i, ev_scal_s, ev_scal_b, ev_neg, ev_oNeg, ev_tB, ev_asB, ev_tNot, ev_tAnd, ev_tOr, ev_oAnd_t, ev_oAnd_f, ev_oOr_t, ev_oOr_f, ev_eAnd, ev_eOr, ev_oAndD_t, ev_oAndD_f, ev_oOrD_t, ev_oOrD_f, ev_eNot, ev_oNot, ev_isi, ev_isi_ii, ev_isi_ib, ev_isi_il, ev_isi_it, ev_isi_is, ev_isi_ll, ev_isi_lt, ev_isi_li, ev_isi_lb, ev_isi_tt, ev_isi_tl, ev_isi_ss, ev_isi_bb, ev_isi_bi, ev_isN, ev_notN, ev_oIsN_n, ev_oIsN_i, ev_oIsN_l, ev_oIsN_t, ev_oNotN_n, ev_oNotN_i, ev_oNotN_l, ev_oNotN_t, ev_rev, ev_gRev, ev_iAny, ev_oAny_l, ev_oAny_t, ev_iSeqB, ev_oSeqB, ev_iEnum, ev_oEnum, ev_iZip, ev_oZip_ll, ev_oZip_tt, ev_oZip_lt, ev_oZip_tl, ev_iRng1, ev_rng1_s, ev_iRng2, ev_rng2_s, ev_tgN, ev_tgNil, ev_tgCons, ev_tgT, ev_wipe_nil, ev_wipe_cons, ev_lc, ev_oLc, ev_add, ev_addIS, ev_add_ll, ev_add_tt, ev_addL, ev_repL, ev_rep, ev_sub, ev_mul, ev_mod, ev_div, ev_pow, ev_lt, ev_le, ev_gt, ev_ge, ev_eq, ev_ne, ev_eqs, ev_nes, ev_eqb, ev_neb, ev_len, ev_lenT, ev_list, ev_listT, ev_tuple, ev_tupleT, ev_int, ev_intb, ev_sum, ev_sum0, ev_max2, ev_min2, ev_sl, ev_slT, ev_slL, ev_slB, ev_divZ, ev_onNx, ev_while, ev_eq_li, ev_ne_li, ev_eq_self, ev_ne_self, ev_eq_selfT, ev_ne_selfT, ev_ne_nil, ev_eq_nil, ev_sorted_i, decide_true, decide_false, List.nil_append, List.cons_append, ev_ix, ev_ixT, ev_ixB, ev_ixBT, z2, z2', h, hc, z9, z18, z18', z3, hd, e0, e1, lc, ev_mul_s, ev_add_s, l1]
    exact ⟨_, rfl, (Bk.okS_add o1 od).2⟩
  · have e0 : 0 ≤ n / 2 % 10 := by omega
    have e1 : n / 2 % 10 ≤ 1000 := by omega
    have e2 : 0 ≤ 9 - n / 2 % 10 := by omega
    have e3 : 9 - n / 2 % 10 ≤ 1000 := by omega
    have o1 := Bk.okS_rep om (n / 2 % 10).toNat
    have o2 := Bk.okS_rep om (9 - n / 2 % 10).toNat
    have l1 : ((strRep ⟨#[109]⟩ (n / 2 % 10).toNat).length : Int) + ((⟨#[c]⟩ : Str).length : Nat) ≤ 1000000 := by
      have := o1.1
      have := oc.1
      omega
    have o3 := Bk.okS_add o1 oc
    have l2 : ((strRep ⟨#[109]⟩ (n / 2 % 10).toNat ++ (⟨#[c]⟩ : Str)).length : Int) + ((strRep ⟨#[109]⟩ (9 - n / 2 % 10).toNat).length : Nat) ≤ 1000000 := by
      have := o3.1
      have := o2.1
      omega
    simp only [ev_bs, ev_bn, ev_ms, ev_mn, ev_g0, ev_gs, ev_s0, ev_ss, ev_bn1, ev_bn2, ev_seq, ev_seq_nx, ev_seq_rt, ev_seq_bk, ev_seq_ct, ev_nil, ev_brk, ev_cnt, ev_if, ev_if_t, ev_if_f, ev_set, ev_oset, ev_setL, ev_osetL, ev_drop, ev_odrop, ev_ret, ev_oret, ev_retN, ev_retL, ev_oretL, ev_orun, ev_orunN, ev_orunN_nx, ev_fz, ev_fz_l, ev_fz_v, ev_app, ev_app_s, ev_clear, ev_clear_s, ev_oNx, ev_asg, ev_asg_s, ev_par, ev_par_s, ev_aug, ev_aug_s, ev_setIx, ev_setIx_s, ev_augIx, ev_for, ev_ofor, ev_V, ev_L, ev_B, ev_rdV, ev_rdLv, ev_rdLl, ev_rdBv, ev_rdBb, ev_C, ev_e2, ev_o2, ev_e1, ev_e3, ev_o3, ev_pN, ev_pS, ev_oPS, ev_aNil, ev_aCons, ev_oCons, ev_tup, ev_lst, ev_oLst, ev_scal, ev_scal_i, ev_scal_s, ev_scal_b, ev_neg, ev_oNeg, ev_tB, ev_asB, ev_tNot, ev_tAnd, ev_tOr, ev_oAnd_t, ev_oAnd_f, ev_oOr_t, ev_oOr_f, ev_eAnd, ev_eOr, ev_oAndD_t, ev_oAndD_f, ev_oOrD_t, ev_oOrD_f, ev_eNot, ev_oNot, ev_isi, ev_isi_ii, ev_isi_ib, ev_isi_il, ev_isi_it, ev_isi_is, ev_isi_ll, ev_isi_lt, ev_isi_li, ev_isi_lb, ev_isi_tt, ev_isi_tl, ev_isi_ss, ev_isi_bb, ev_isi_bi, ev_isN, ev_notN, ev_oIsN_n, ev_oIsN_i, ev_oIsN_l, ev_oIsN_t, ev_oNotN_n, ev_oNotN_i, ev_oNotN_l, ev_oNotN_t, ev_rev, ev_gRev, ev_iAny, ev_oAny_l, ev_oAny_t, ev_iSeqB, ev_oSeqB, ev_iEnum, ev_oEnum, ev_iZip, ev_oZip_ll, ev_oZip_tt, ev_oZip_lt, ev_oZip_tl, ev_iRng1, ev_rng1_s, ev_iRng2, ev_rng2_s, ev_tgN, ev_tgNil, ev_tgCons, ev_tgT, ev_wipe_nil, ev_wipe_cons, ev_lc, ev_oLc, ev_add, ev_addIS, ev_add_ll, ev_add_tt, ev_addL, ev_repL, ev_rep, ev_sub, ev_mul, ev_mod, ev_div, ev_pow, ev_lt, ev_le, ev_gt, ev_ge, ev_eq, ev_ne, ev_eqs, ev_nes, ev_eqb, ev_neb, ev_len, ev_lenT, ev_list, ev_listT, ev_tuple, ev_tupleT, ev_int, ev_intb, ev_sum, ev_sum0, ev_max2, ev_min2, ev_sl, ev_slT, ev_slL, ev_slB, ev_divZ, ev_onNx, ev_while, ev_eq_li, ev_ne_li, ev_eq_self, ev_ne_self, ev_eq_selfT, ev_ne_selfT, ev_ne_nil, ev_eq_nil, ev_sorted_i, decide_true, decide_false, List.nil_append, List.cons_append, ev_ix, ev_ixT, ev_ixB, ev_ixBT, z2, z2', z10, h, hc, e0, e1, e2, e3, lm, ev_mul_s, ev_add_s, l1, l2]
    exact ⟨_, rfl, (Bk.okS_add o3 o2).2⟩
noncomputable def nameS (k n : Int) : Str := if h : 0 ≤ k ∧ k < 7 ∧ 0 ≤ n then (named_ok h.1 h.2.1 h.2.2).choose else Str.empty
theorem nameS_ok {k n : Int} (h0 : 0 ≤ k) (h1 : k < 7) (hn : 0 ≤ n) : f_l_named [.int k, .int n] = some (.str (nameS k n)) ∧ PyData.strOk (nameS k n) = true := by
  unfold nameS
  rw [dif_pos ⟨h0, h1, hn⟩]
  exact (named_ok h0 h1 hn).choose_spec
noncomputable def drawZ (ns : List Int) (k : Int) : Int := mixZ (atZ ns (1 + k % 62)) (100 + k)
theorem draw_ok (ns : List Int) {k : Int} (h0 : 0 ≤ k) (h1 : k < 800) : f_l_draw [.list (ns.map .int), .int k] = some (.int (drawZ ns k)) ∧ 0 ≤ drawZ ns k ∧ drawZ ns k < 2147483648 := by
  rw [fe_l_draw]
  unfold b_l_draw
  have z62 : (0 : Int) < 62 := by decide
  have e1 : f_l_at [.list (ns.map .int), .int (1 + k % 62)] = some (.int (atZ ns (1 + k % 62))) := at_ok (by omega) (by omega)
  obtain ⟨e2, x0, x1⟩ := mixZ_ok (n := atZ ns (1 + k % 62)) (p := 100 + k) (by omega) (by omega)
  simp only [ev_bs, ev_bn, ev_ms, ev_mn, ev_g0, ev_gs, ev_s0, ev_ss, ev_bn1, ev_bn2, ev_seq, ev_seq_nx, ev_seq_rt, ev_seq_bk, ev_seq_ct, ev_nil, ev_brk, ev_cnt, ev_if, ev_if_t, ev_if_f, ev_set, ev_oset, ev_setL, ev_osetL, ev_drop, ev_odrop, ev_ret, ev_oret, ev_retN, ev_retL, ev_oretL, ev_orun, ev_orunN, ev_orunN_nx, ev_fz, ev_fz_l, ev_fz_v, ev_app, ev_app_s, ev_clear, ev_clear_s, ev_oNx, ev_asg, ev_asg_s, ev_par, ev_par_s, ev_aug, ev_aug_s, ev_setIx, ev_setIx_s, ev_augIx, ev_for, ev_ofor, ev_V, ev_L, ev_B, ev_rdV, ev_rdLv, ev_rdLl, ev_rdBv, ev_rdBb, ev_C, ev_e2, ev_o2, ev_e1, ev_e3, ev_o3, ev_pN, ev_pS, ev_oPS, ev_aNil, ev_aCons, ev_oCons, ev_tup, ev_lst, ev_oLst, ev_scal, ev_scal_i, ev_scal_s, ev_scal_b, ev_neg, ev_oNeg, ev_tB, ev_asB, ev_tNot, ev_tAnd, ev_tOr, ev_oAnd_t, ev_oAnd_f, ev_oOr_t, ev_oOr_f, ev_eAnd, ev_eOr, ev_oAndD_t, ev_oAndD_f, ev_oOrD_t, ev_oOrD_f, ev_eNot, ev_oNot, ev_isi, ev_isi_ii, ev_isi_ib, ev_isi_il, ev_isi_it, ev_isi_is, ev_isi_ll, ev_isi_lt, ev_isi_li, ev_isi_lb, ev_isi_tt, ev_isi_tl, ev_isi_ss, ev_isi_bb, ev_isi_bi, ev_isN, ev_notN, ev_oIsN_n, ev_oIsN_i, ev_oIsN_l, ev_oIsN_t, ev_oNotN_n, ev_oNotN_i, ev_oNotN_l, ev_oNotN_t, ev_rev, ev_gRev, ev_iAny, ev_oAny_l, ev_oAny_t, ev_iSeqB, ev_oSeqB, ev_iEnum, ev_oEnum, ev_iZip, ev_oZip_ll, ev_oZip_tt, ev_oZip_lt, ev_oZip_tl, ev_iRng1, ev_rng1_s, ev_iRng2, ev_rng2_s, ev_tgN, ev_tgNil, ev_tgCons, ev_tgT, ev_wipe_nil, ev_wipe_cons, ev_lc, ev_oLc, ev_add, ev_addIS, ev_add_ll, ev_add_tt, ev_addL, ev_repL, ev_rep, ev_sub, ev_mul, ev_mod, ev_div, ev_pow, ev_lt, ev_le, ev_gt, ev_ge, ev_eq, ev_ne, ev_eqs, ev_nes, ev_eqb, ev_neb, ev_len, ev_lenT, ev_list, ev_listT, ev_tuple, ev_tupleT, ev_int, ev_intb, ev_sum, ev_sum0, ev_max2, ev_min2, ev_sl, ev_slT, ev_slL, ev_slB, ev_divZ, ev_onNx, ev_while, ev_eq_li, ev_ne_li, ev_eq_self, ev_ne_self, ev_eq_selfT, ev_ne_selfT, ev_ne_nil, ev_eq_nil, ev_sorted_i, decide_true, decide_false, List.nil_append, List.cons_append, ev_ix, ev_ixT, ev_ixB, ev_ixBT, z62, e1, e2]
  exact ⟨rfl, x0, x1⟩
theorem wide_ok (ns : List Int) {k m : Int} (h0 : 0 ≤ k) (h1 : k < 700) (m0 : 0 < m) (m1 : m ≤ T23) : ∃ x : Int, f_l_wide [.list (ns.map .int), .int k, .int m] = some (.int x) ∧ Sz 80 x := by
  rw [fe_l_wide]
  unfold b_l_wide
  obtain ⟨e1, x0, x1⟩ := draw_ok ns (k := k) h0 (by omega)
  generalize drawZ ns k = d at e1 x0 x1
  have e2 : f_l_at [.list (ns.map .int), .int (1 + k % 62)] = some (.int (atZ ns (1 + k % 62))) := at_ok (by omega) (by omega)
  have z62 : (0 : Int) < 62 := by decide
  have z8 : (0 : Int) < 8 := by decide
  have z8' : (8 : Int) < 2 ^ 250 := by decide
  have z13 : (0 : Int) < 13 := by decide
  have t23 : T23 = 100000000000000000000000 := rfl
  by_cases h : d % 8 = 0
  · have m2 : Md 2 := Sz.md (k := 10) (Sz.of (by decide) (by decide))
    have mm : Md m := Sz.md (k := 100) (Sz.of (by omega) (by omega))
    have zz : 0 < 2 * m - 1 := by omega
    have g1 := Int.emod_nonneg (atZ ns (1 + k % 62)) (b := 2 * m - 1) (by omega)
    have g2 := Int.emod_lt_of_pos (atZ ns (1 + k % 62)) zz
    simp only [ev_bs, ev_bn, ev_ms, ev_mn, ev_g0, ev_gs, ev_s0, ev_ss, ev_bn1, ev_bn2, ev_seq, ev_seq_nx, ev_seq_rt, ev_seq_bk, ev_seq_ct, ev_nil, ev_brk, ev_cnt, ev_if, ev_if_t, ev_if_f, ev_set, ev_oset, ev_setL, ev_osetL, ev_drop, ev_odrop, ev_ret, ev_oret, ev_retN, ev_retL, ev_oretL, ev_orun, ev_orunN, ev_orunN_nx, ev_fz, ev_fz_l, ev_fz_v, ev_app, ev_app_s, ev_clear, ev_clear_s, ev_oNx, ev_asg, ev_asg_s, ev_par, ev_par_s, ev_aug, ev_aug_s, ev_setIx, ev_setIx_s, ev_augIx, ev_for, ev_ofor, ev_V, ev_L, ev_B, ev_rdV, ev_rdLv, ev_rdLl, ev_rdBv, ev_rdBb, ev_C, ev_e2, ev_o2, ev_e1, ev_e3, ev_o3, ev_pN, ev_pS, ev_oPS, ev_aNil, ev_aCons, ev_oCons, ev_tup, ev_lst, ev_oLst, ev_scal, ev_scal_i, ev_scal_s, ev_scal_b, ev_neg, ev_oNeg, ev_tB, ev_asB, ev_tNot, ev_tAnd, ev_tOr, ev_oAnd_t, ev_oAnd_f, ev_oOr_t, ev_oOr_f, ev_eAnd, ev_eOr, ev_oAndD_t, ev_oAndD_f, ev_oOrD_t, ev_oOrD_f, ev_eNot, ev_oNot, ev_isi, ev_isi_ii, ev_isi_ib, ev_isi_il, ev_isi_it, ev_isi_is, ev_isi_ll, ev_isi_lt, ev_isi_li, ev_isi_lb, ev_isi_tt, ev_isi_tl, ev_isi_ss, ev_isi_bb, ev_isi_bi, ev_isN, ev_notN, ev_oIsN_n, ev_oIsN_i, ev_oIsN_l, ev_oIsN_t, ev_oNotN_n, ev_oNotN_i, ev_oNotN_l, ev_oNotN_t, ev_rev, ev_gRev, ev_iAny, ev_oAny_l, ev_oAny_t, ev_iSeqB, ev_oSeqB, ev_iEnum, ev_oEnum, ev_iZip, ev_oZip_ll, ev_oZip_tt, ev_oZip_lt, ev_oZip_tl, ev_iRng1, ev_rng1_s, ev_iRng2, ev_rng2_s, ev_tgN, ev_tgNil, ev_tgCons, ev_tgT, ev_wipe_nil, ev_wipe_cons, ev_lc, ev_oLc, ev_add, ev_addIS, ev_add_ll, ev_add_tt, ev_addL, ev_repL, ev_rep, ev_sub, ev_mul, ev_mod, ev_div, ev_pow, ev_lt, ev_le, ev_gt, ev_ge, ev_eq, ev_ne, ev_eqs, ev_nes, ev_eqb, ev_neb, ev_len, ev_lenT, ev_list, ev_listT, ev_tuple, ev_tupleT, ev_int, ev_intb, ev_sum, ev_sum0, ev_max2, ev_min2, ev_sl, ev_slT, ev_slL, ev_slB, ev_divZ, ev_onNx, ev_while, ev_eq_li, ev_ne_li, ev_eq_self, ev_ne_self, ev_eq_selfT, ev_ne_selfT, ev_ne_nil, ev_eq_nil, ev_sorted_i, decide_true, decide_false, List.nil_append, List.cons_append, ev_ix, ev_ixT, ev_ixB, ev_ixBT, e1, e2, z62, z8, h, m2, mm, zz]
    exact ⟨_, rfl, Sz.of (by omega) (by omega)⟩
  · simp only [ev_bs, ev_bn, ev_ms, ev_mn, ev_g0, ev_gs, ev_s0, ev_ss, ev_bn1, ev_bn2, ev_seq, ev_seq_nx, ev_seq_rt, ev_seq_bk, ev_seq_ct, ev_nil, ev_brk, ev_cnt, ev_if, ev_if_t, ev_if_f, ev_set, ev_oset, ev_setL, ev_osetL, ev_drop, ev_odrop, ev_ret, ev_oret, ev_retN, ev_retL, ev_oretL, ev_orun, ev_orunN, ev_orunN_nx, ev_fz, ev_fz_l, ev_fz_v, ev_app, ev_app_s, ev_clear, ev_clear_s, ev_oNx, ev_asg, ev_asg_s, ev_par, ev_par_s, ev_aug, ev_aug_s, ev_setIx, ev_setIx_s, ev_augIx, ev_for, ev_ofor, ev_V, ev_L, ev_B, ev_rdV, ev_rdLv, ev_rdLl, ev_rdBv, ev_rdBb, ev_C, ev_e2, ev_o2, ev_e1, ev_e3, ev_o3, ev_pN, ev_pS, ev_oPS, ev_aNil, ev_aCons, ev_oCons, ev_tup, ev_lst, ev_oLst, ev_scal, ev_scal_i, ev_scal_s, ev_scal_b, ev_neg, ev_oNeg, ev_tB, ev_asB, ev_tNot, ev_tAnd, ev_tOr, ev_oAnd_t, ev_oAnd_f, ev_oOr_t, ev_oOr_f, ev_eAnd, ev_eOr, ev_oAndD_t, ev_oAndD_f, ev_oOrD_t, ev_oOrD_f, ev_eNot, ev_oNot, ev_isi, ev_isi_ii, ev_isi_ib, ev_isi_il, ev_isi_it, ev_isi_is, ev_isi_ll, ev_isi_lt, ev_isi_li, ev_isi_lb, ev_isi_tt, ev_isi_tl, ev_isi_ss, ev_isi_bb, ev_isi_bi, ev_isN, ev_notN, ev_oIsN_n, ev_oIsN_i, ev_oIsN_l, ev_oIsN_t, ev_oNotN_n, ev_oNotN_i, ev_oNotN_l, ev_oNotN_t, ev_rev, ev_gRev, ev_iAny, ev_oAny_l, ev_oAny_t, ev_iSeqB, ev_oSeqB, ev_iEnum, ev_oEnum, ev_iZip, ev_oZip_ll, ev_oZip_tt, ev_oZip_lt, ev_oZip_tl, ev_iRng1, ev_rng1_s, ev_iRng2, ev_rng2_s, ev_tgN, ev_tgNil, ev_tgCons, ev_tgT, ev_wipe_nil, ev_wipe_cons, ev_lc, ev_oLc, ev_add, ev_addIS, ev_add_ll, ev_add_tt, ev_addL, ev_repL, ev_rep, ev_sub, ev_mul, ev_mod, ev_div, ev_pow, ev_lt, ev_le, ev_gt, ev_ge, ev_eq, ev_ne, ev_eqs, ev_nes, ev_eqb, ev_neb, ev_len, ev_lenT, ev_list, ev_listT, ev_tuple, ev_tupleT, ev_int, ev_intb, ev_sum, ev_sum0, ev_max2, ev_min2, ev_sl, ev_slT, ev_slL, ev_slB, ev_divZ, ev_onNx, ev_while, ev_eq_li, ev_ne_li, ev_eq_self, ev_ne_self, ev_eq_selfT, ev_ne_selfT, ev_ne_nil, ev_eq_nil, ev_sorted_i, decide_true, decide_false, List.nil_append, List.cons_append, ev_ix, ev_ixT, ev_ixB, ev_ixBT, e1, z8, z8', z13, h]
    exact ⟨_, rfl, Sz.of (by omega) (by omega)⟩
noncomputable def wideZ (ns : List Int) (k m : Int) : Int := if h : 0 ≤ k ∧ k < 700 ∧ 0 < m ∧ m ≤ T23 then (wide_ok ns h.1 h.2.1 h.2.2.1 h.2.2.2).choose else 0
theorem wideZ_ok (ns : List Int) {k m : Int} (h0 : 0 ≤ k) (h1 : k < 700) (m0 : 0 < m) (m1 : m ≤ T23) : f_l_wide [.list (ns.map .int), .int k, .int m] = some (.int (wideZ ns k m)) ∧ Sz 80 (wideZ ns k m) := by
  unfold wideZ
  rw [dif_pos ⟨h0, h1, m0, m1⟩]
  exact (wide_ok ns h0 h1 m0 m1).choose_spec
/-! the book as data -/
def itD (i : Str × Int) : D := .tuple [.str i.1, .int i.2]
def ruD (r : Bk.Rule) : D := .tuple [.str r.nm, .tuple (r.co.map .int), .int r.rest]
def chD (c : Int × Int) : D := .tuple [.int c.1, .int c.2]
def deD (d : Bk.Deed) : D := .tuple [.str d.nm, .int d.lo, .int d.hi, .tuple (d.ch.map chD)]
def bkD (b : Bk.Book) : D := .tuple [.list (b.its.map itD), .list (b.rus.map ruD), .list (b.des.map deD)]
def GI (its : List (Str × Int)) : Prop := ∀ i ∈ its, PyData.strOk i.1 = true ∧ Sz 80 i.2
def GR (n : Nat) (rus : List Bk.Rule) : Prop := ∀ r ∈ rus, PyData.strOk r.nm = true ∧ r.co.length = n ∧ (∀ c ∈ r.co, Sz 80 c) ∧ Sz 300 r.rest
def GD (n : Nat) (des : List Bk.Deed) : Prop := ∀ d ∈ des, PyData.strOk d.nm = true ∧ d.ch.length = n ∧ (∀ c ∈ d.ch, Sz 90 c.1 ∧ Sz 90 c.2) ∧ d.lo ≤ d.hi ∧ Sz 120 d.lo ∧ Sz 120 d.hi
def GB (b : Bk.Book) : Prop := GI b.its ∧ GR b.its.length b.rus ∧ GD b.its.length b.des ∧ b.its.length ≤ 4 ∧ b.rus.length ≤ 5 ∧ b.des.length ≤ 6
end DL
set_option Elab.async false
set_option linter.all false
set_option maxRecDepth 100000
set_option maxHeartbeats 4000000
set_option exponentiation.threshold 10000
namespace DL
open PySem PySem.Spec L2
open Bk (okS)
/-! K15M: what k15's defs give -/
theorem items_ok (ns : List Int) {n : Nat} {m : Int} (hn : n ≤ 4) (m0 : 0 < m) (m1 : m ≤ T23) : ∃ its : List (Str × Int), f_l_items [.list (ns.map .int), .int (n : Nat), .int m] = some (.list (its.map itD)) ∧ its.length = n ∧ GI its := by
  rw [fe_l_items]
  unfold b_l_items
  obtain ⟨f1, x0, x1⟩ := draw_ok ns (k := 1) (by decide) (by decide)
  generalize drawZ ns 1 = d at f1 x0 x1
  have v1 : -(2 ^ 62) ≤ (n : Int) := by omega
  have v2 : (n : Int) ≤ 16777216 := by omega
  have el : lcF (tgN 4) (fun _ => some true) (eTup (aCons (e1 f_l_named (aCons (eV 4) (aCons (eV 3) aNil))) (aCons (e1 f_l_wide (aCons (eB 0) (aCons (e2 gAdd (eC (.int 10)) (eV 4)) (aCons (eV 2) aNil)))) aNil))) [.brw (.list (ns.map .int)), .val (.int (n : Nat)), .val (.int m), .val (.int d), .und] (rng 0 (n : Int).toNat) =
      some (((List.range n).map fun i : Nat => (nameS (0 + (i : Int)) d, wideZ ns (10 + (0 + (i : Int))) m)).map itD) := by
    rw [rng_map, List.map_map, Int.toNat_natCast]
    refine lcF_map (fun i : Nat => PyData.int (0 + (i : Int))) (fun i : Nat => itD (nameS (0 + (i : Int)) d, wideZ ns (10 + (0 + (i : Int))) m)) _ ?_
    intro i hm
    have hi := List.mem_range.mp hm
    have g1 := (nameS_ok (k := 0 + (i : Int)) (n := d) (by omega) (by omega) x0).1
    have g2 := (wideZ_ok ns (k := 10 + (0 + (i : Int))) (by omega) (by omega) m0 m1).1
    refine ⟨_, rfl, rfl, ?_⟩
    simp only [ev_bs, ev_bn, ev_ms, ev_mn, ev_g0, ev_gs, ev_s0, ev_ss, ev_bn1, ev_bn2, ev_seq, ev_seq_nx, ev_seq_rt, ev_seq_bk, ev_seq_ct, ev_nil, ev_brk, ev_cnt, ev_if, ev_if_t, ev_if_f, ev_set, ev_oset, ev_setL, ev_osetL, ev_drop, ev_odrop, ev_ret, ev_oret, ev_retN, ev_retL, ev_oretL, ev_orun, ev_orunN, ev_orunN_nx, ev_fz, ev_fz_l, ev_fz_v, ev_app, ev_app_s, ev_clear, ev_clear_s, ev_oNx, ev_asg, ev_asg_s, ev_par, ev_par_s, ev_aug, ev_aug_s, ev_setIx, ev_setIx_s, ev_augIx, ev_for, ev_ofor, ev_V, ev_L, ev_B, ev_rdV, ev_rdLv, ev_rdLl, ev_rdBv, ev_rdBb, ev_C, ev_e2, ev_o2, ev_e1, ev_e3, ev_o3, ev_pN, ev_pS, ev_oPS, ev_aNil, ev_aCons, ev_oCons, ev_tup, ev_lst, ev_oLst, ev_scal, ev_scal_i, ev_scal_s, ev_scal_b, ev_neg, ev_oNeg, ev_tB, ev_asB, ev_tNot, ev_tAnd, ev_tOr, ev_oAnd_t, ev_oAnd_f, ev_oOr_t, ev_oOr_f, ev_eAnd, ev_eOr, ev_oAndD_t, ev_oAndD_f, ev_oOrD_t, ev_oOrD_f, ev_eNot, ev_oNot, ev_isi, ev_isi_ii, ev_isi_ib, ev_isi_il, ev_isi_it, ev_isi_is, ev_isi_ll, ev_isi_lt, ev_isi_li, ev_isi_lb, ev_isi_tt, ev_isi_tl, ev_isi_ss, ev_isi_bb, ev_isi_bi, ev_isN, ev_notN, ev_oIsN_n, ev_oIsN_i, ev_oIsN_l, ev_oIsN_t, ev_oNotN_n, ev_oNotN_i, ev_oNotN_l, ev_oNotN_t, ev_rev, ev_gRev, ev_iAny, ev_oAny_l, ev_oAny_t, ev_iSeqB, ev_oSeqB, ev_iEnum, ev_oEnum, ev_iZip, ev_oZip_ll, ev_oZip_tt, ev_oZip_lt, ev_oZip_tl, ev_iRng1, ev_rng1_s, ev_iRng2, ev_rng2_s, ev_tgN, ev_tgNil, ev_tgCons, ev_tgT, ev_wipe_nil, ev_wipe_cons, ev_lc, ev_oLc, ev_add, ev_addIS, ev_add_ll, ev_add_tt, ev_addL, ev_repL, ev_rep, ev_sub, ev_mul, ev_mod, ev_div, ev_pow, ev_lt, ev_le, ev_gt, ev_ge, ev_eq, ev_ne, ev_eqs, ev_nes, ev_eqb, ev_neb, ev_len, ev_lenT, ev_list, ev_listT, ev_tuple, ev_tupleT, ev_int, ev_intb, ev_sum, ev_sum0, ev_max2, ev_min2, ev_sl, ev_slT, ev_slL, ev_slB, ev_divZ, ev_onNx, ev_while, ev_eq_li, ev_ne_li, ev_eq_self, ev_ne_self, ev_eq_selfT, ev_ne_selfT, ev_ne_nil, ev_eq_nil, ev_sorted_i, decide_true, decide_false, List.nil_append, List.cons_append, ev_ix, ev_ixT, ev_ixB, ev_ixBT, g1, g2]
    rfl
  simp only [ev_bs, ev_bn, ev_ms, ev_mn, ev_g0, ev_gs, ev_s0, ev_ss, ev_bn1, ev_bn2, ev_seq, ev_seq_nx, ev_seq_rt, ev_seq_bk, ev_seq_ct, ev_nil, ev_brk, ev_cnt, ev_if, ev_if_t, ev_if_f, ev_set, ev_oset, ev_setL, ev_osetL, ev_drop, ev_odrop, ev_ret, ev_oret, ev_retN, ev_retL, ev_oretL, ev_orun, ev_orunN, ev_orunN_nx, ev_fz, ev_fz_l, ev_fz_v, ev_app, ev_app_s, ev_clear, ev_clear_s, ev_oNx, ev_asg, ev_asg_s, ev_par, ev_par_s, ev_aug, ev_aug_s, ev_setIx, ev_setIx_s, ev_augIx, ev_for, ev_ofor, ev_V, ev_L, ev_B, ev_rdV, ev_rdLv, ev_rdLl, ev_rdBv, ev_rdBb, ev_C, ev_e2, ev_o2, ev_e1, ev_e3, ev_o3, ev_pN, ev_pS, ev_oPS, ev_aNil, ev_aCons, ev_oCons, ev_tup, ev_lst, ev_oLst, ev_scal, ev_scal_i, ev_scal_s, ev_scal_b, ev_neg, ev_oNeg, ev_tB, ev_asB, ev_tNot, ev_tAnd, ev_tOr, ev_oAnd_t, ev_oAnd_f, ev_oOr_t, ev_oOr_f, ev_eAnd, ev_eOr, ev_oAndD_t, ev_oAndD_f, ev_oOrD_t, ev_oOrD_f, ev_eNot, ev_oNot, ev_isi, ev_isi_ii, ev_isi_ib, ev_isi_il, ev_isi_it, ev_isi_is, ev_isi_ll, ev_isi_lt, ev_isi_li, ev_isi_lb, ev_isi_tt, ev_isi_tl, ev_isi_ss, ev_isi_bb, ev_isi_bi, ev_isN, ev_notN, ev_oIsN_n, ev_oIsN_i, ev_oIsN_l, ev_oIsN_t, ev_oNotN_n, ev_oNotN_i, ev_oNotN_l, ev_oNotN_t, ev_rev, ev_gRev, ev_iAny, ev_oAny_l, ev_oAny_t, ev_iSeqB, ev_oSeqB, ev_iEnum, ev_oEnum, ev_iZip, ev_oZip_ll, ev_oZip_tt, ev_oZip_lt, ev_oZip_tl, ev_iRng1, ev_rng1_s, ev_iRng2, ev_rng2_s, ev_tgN, ev_tgNil, ev_tgCons, ev_tgT, ev_wipe_nil, ev_wipe_cons, ev_lc, ev_oLc, ev_add, ev_addIS, ev_add_ll, ev_add_tt, ev_addL, ev_repL, ev_rep, ev_sub, ev_mul, ev_mod, ev_div, ev_pow, ev_lt, ev_le, ev_gt, ev_ge, ev_eq, ev_ne, ev_eqs, ev_nes, ev_eqb, ev_neb, ev_len, ev_lenT, ev_list, ev_listT, ev_tuple, ev_tupleT, ev_int, ev_intb, ev_sum, ev_sum0, ev_max2, ev_min2, ev_sl, ev_slT, ev_slL, ev_slB, ev_divZ, ev_onNx, ev_while, ev_eq_li, ev_ne_li, ev_eq_self, ev_ne_self, ev_eq_selfT, ev_ne_selfT, ev_ne_nil, ev_eq_nil, ev_sorted_i, decide_true, decide_false, List.nil_append, List.cons_append, ev_ix, ev_ixT, ev_ixB, ev_ixBT, f1, v1, v2, el]
  refine ⟨_, rfl, by rw [List.length_map, List.length_range], fun p hm => ?_⟩
  obtain ⟨i, hi, rfl⟩ := List.mem_map.mp hm
  have hi := List.mem_range.mp hi
  exact ⟨(nameS_ok (by omega) (by omega) x0).2, (wideZ_ok ns (by omega) (by omega) m0 m1).2⟩
theorem len_itD (its : List (Str × Int)) : ((its.map itD).length : Int) = its.length := by rw [List.length_map]
theorem rules_ok (ns : List Int) {its : List (Str × Int)} {n : Nat} {m : Int} (hl : its.length ≤ 4) (hg : GI its) (hn : n ≤ 5) (m0 : 0 < m) (m1 : m ≤ T23) :
    ∃ rus : List Bk.Rule, f_l_rules [.list (ns.map .int), .list (its.map itD), .int (n : Nat), .int m] = some (.list (rus.map ruD)) ∧ rus.length = n ∧ GR its.length rus := by
  rw [fe_l_rules]
  unfold b_l_rules
  have v1 : -(2 ^ 62) ≤ (n : Int) := by omega
  have v2 : (n : Int) ≤ 16777216 := by omega
  have w1 : -(2 ^ 62) ≤ (its.length : Int) := by omega
  have w2 : (its.length : Int) ≤ 16777216 := by omega
  obtain ⟨f2, y0, y1⟩ := draw_ok ns (k := 2) (by decide) (by decide)
  generalize drawZ ns 2 = d2 at f2 y0 y1
  simp only [ev_bs, ev_bn, ev_ms, ev_mn, ev_g0, ev_gs, ev_s0, ev_ss, ev_bn1, ev_bn2, ev_seq, ev_seq_nx, ev_seq_rt, ev_seq_bk, ev_seq_ct, ev_nil, ev_brk, ev_cnt, ev_if, ev_if_t, ev_if_f, ev_set, ev_oset, ev_setL, ev_osetL, ev_drop, ev_odrop, ev_ret, ev_oret, ev_retN, ev_retL, ev_oretL, ev_orun, ev_orunN, ev_orunN_nx, ev_fz, ev_fz_l, ev_fz_v, ev_app, ev_app_s, ev_clear, ev_clear_s, ev_oNx, ev_asg, ev_asg_s, ev_par, ev_par_s, ev_aug, ev_aug_s, ev_setIx, ev_setIx_s, ev_augIx, ev_for, ev_ofor, ev_V, ev_L, ev_B, ev_rdV, ev_rdLv, ev_rdLl, ev_rdBv, ev_rdBb, ev_C, ev_e2, ev_o2, ev_e1, ev_e3, ev_o3, ev_pN, ev_pS, ev_oPS, ev_aNil, ev_aCons, ev_oCons, ev_tup, ev_lst, ev_oLst, ev_scal, ev_scal_i, ev_scal_s, ev_scal_b, ev_neg, ev_oNeg, ev_tB, ev_asB, ev_tNot, ev_tAnd, ev_tOr, ev_oAnd_t, ev_oAnd_f, ev_oOr_t, ev_oOr_f, ev_eAnd, ev_eOr, ev_oAndD_t, ev_oAndD_f, ev_oOrD_t, ev_oOrD_f, ev_eNot, ev_oNot, ev_isi, ev_isi_ii, ev_isi_ib, ev_isi_il, ev_isi_it, ev_isi_is, ev_isi_ll, ev_isi_lt, ev_isi_li, ev_isi_lb, ev_isi_tt, ev_isi_tl, ev_isi_ss, ev_isi_bb, ev_isi_bi, ev_isN, ev_notN, ev_oIsN_n, ev_oIsN_i, ev_oIsN_l, ev_oIsN_t, ev_oNotN_n, ev_oNotN_i, ev_oNotN_l, ev_oNotN_t, ev_rev, ev_gRev, ev_iAny, ev_oAny_l, ev_oAny_t, ev_iSeqB, ev_oSeqB, ev_iEnum, ev_oEnum, ev_iZip, ev_oZip_ll, ev_oZip_tt, ev_oZip_lt, ev_oZip_tl, ev_iRng1, ev_rng1_s, ev_iRng2, ev_rng2_s, ev_tgN, ev_tgNil, ev_tgCons, ev_tgT, ev_wipe_nil, ev_wipe_cons, ev_lc, ev_oLc, ev_add, ev_addIS, ev_add_ll, ev_add_tt, ev_addL, ev_repL, ev_rep, ev_sub, ev_mul, ev_mod, ev_div, ev_pow, ev_lt, ev_le, ev_gt, ev_ge, ev_eq, ev_ne, ev_eqs, ev_nes, ev_eqb, ev_neb, ev_len, ev_lenT, ev_list, ev_listT, ev_tuple, ev_tupleT, ev_int, ev_intb, ev_sum, ev_sum0, ev_max2, ev_min2, ev_sl, ev_slT, ev_slL, ev_slB, ev_divZ, ev_onNx, ev_while, ev_eq_li, ev_ne_li, ev_eq_self, ev_ne_self, ev_eq_selfT, ev_ne_selfT, ev_ne_nil, ev_eq_nil, ev_sorted_i, decide_true, decide_false, List.nil_append, List.cons_append, ev_ix, ev_ixT, ev_ixB, ev_ixBT, v1, v2]
  obtain ⟨e, he, rus, t5, t6, t7, t8, t9, t10, rfl, hr, hg2⟩ := forF_rng (lo := 0) (n := (n : Int).toNat) (v := 5) (b := L_l_rules_1) (env := [.brw (.list (ns.map .int)), .val (.list (its.map itD)), .val (.int (n : Nat)), .val (.int m), .lst [], .und, .und, .und, .und, .und, .und])
    (fun i env => ∃ (rus : List Bk.Rule) (t5 t6 t7 t8 t9 t10 : C), env = [.brw (.list (ns.map .int)), .val (.list (its.map itD)), .val (.int (n : Nat)), .val (.int m), .lst (rus.map ruD), t5, t6, t7, t8, t9, t10] ∧ rus.length = i ∧ GR its.length rus)
    ⟨[], _, _, _, _, _, _, rfl, rfl, fun _ h => nomatch h⟩ (fun i env hi hI => by
      obtain ⟨rus, t5, t6, t7, t8, t9, t10, rfl, hr, hg2⟩ := hI
      have hi' : i < 5 := by omega
      obtain ⟨f3, a0, a1⟩ := draw_ok ns (k := 50 + (0 + (i : Int))) (by omega) (by omega)
      obtain ⟨f4, b0, b1⟩ := draw_ok ns (k := 60 + (0 + (i : Int))) (by omega) (by omega)
      generalize drawZ ns (50 + (0 + (i : Int))) = r1 at f3 a0 a1
      generalize drawZ ns (60 + (0 + (i : Int))) = r2 at f4 b0 b1
      have z30 : (0 : Int) < 30 := by decide
      have z3 : (0 : Int) < 3 := by decide
      have s1 : Sz 10 (r1 % 30) := Sz.of (by omega) (by omega)
      have s2 : Sz 10 (r2 % 3) := Sz.of (by omega) (by omega)
      have k1 := s1.md
      have k2 := s2.md
      have m5 : Md 5 := Sz.md (k := 10) (Sz.of (by decide) (by decide))
      have mi : Md (0 + (i : Int)) := Sz.md (k := 10) (Sz.of (by omega) (by omega))
      obtain ⟨g1, g2⟩ := nameS_ok (k := 0 + (i : Int)) (n := d2) (by omega) (by omega) y0
      have ln : (((rus.map ruD).length : Nat) : Int) < 16000000 := by rw [List.length_map]; omega
      have el : ∀ t4 t6 t7 t8 t9, lcF (tgN 10) (fun _ => some true) (e1 f_l_wide (aCons (eB 0) (aCons (e2 gAdd (e2 gAdd (eC (.int 20)) (e2 gMul (eC (.int 5)) (eV 5))) (eV 10)) (aCons (eV 3) aNil)))) [.brw (.list (ns.map .int)), .val (.list (its.map itD)), .val (.int (n : Nat)), .val (.int m), t4, .val (.int (0 + (i : Int))), t6, t7, t8, t9, .und] (rng 0 (its.length : Int).toNat) =
          some (((List.range its.length).map fun j : Nat => wideZ ns (20 + 5 * (0 + (i : Int)) + (0 + (j : Int))) m).map .int) := fun t4 t6 t7 t8 t9 => by
        rw [rng_map, List.map_map, Int.toNat_natCast]
        refine lcF_map (fun j : Nat => PyData.int (0 + (j : Int))) (fun j : Nat => .int (wideZ ns (20 + 5 * (0 + (i : Int)) + (0 + (j : Int))) m)) _ ?_
        intro j hm
        have hj := List.mem_range.mp hm
        have g2 := (wideZ_ok ns (k := 20 + 5 * (0 + (i : Int)) + (0 + (j : Int))) (by omega) (by omega) m0 m1).1
        refine ⟨_, rfl, rfl, ?_⟩
        simp only [ev_bs, ev_bn, ev_ms, ev_mn, ev_g0, ev_gs, ev_s0, ev_ss, ev_bn1, ev_bn2, ev_seq, ev_seq_nx, ev_seq_rt, ev_seq_bk, ev_seq_ct, ev_nil, ev_brk, ev_cnt, ev_if, ev_if_t, ev_if_f, ev_set, ev_oset, ev_setL, ev_osetL, ev_drop, ev_odrop, ev_ret, ev_oret, ev_retN, ev_retL, ev_oretL, ev_orun, ev_orunN, ev_orunN_nx, ev_fz, ev_fz_l, ev_fz_v, ev_app, ev_app_s, ev_clear, ev_clear_s, ev_oNx, ev_asg, ev_asg_s, ev_par, ev_par_s, ev_aug, ev_aug_s, ev_setIx, ev_setIx_s, ev_augIx, ev_for, ev_ofor, ev_V, ev_L, ev_B, ev_rdV, ev_rdLv, ev_rdLl, ev_rdBv, ev_rdBb, ev_C, ev_e2, ev_o2, ev_e1, ev_e3, ev_o3, ev_pN, ev_pS, ev_oPS, ev_aNil, ev_aCons, ev_oCons, ev_tup, ev_lst, ev_oLst, ev_scal, ev_scal_i, ev_scal_s, ev_scal_b, ev_neg, ev_oNeg, ev_tB, ev_asB, ev_tNot, ev_tAnd, ev_tOr, ev_oAnd_t, ev_oAnd_f, ev_oOr_t, ev_oOr_f, ev_eAnd, ev_eOr, ev_oAndD_t, ev_oAndD_f, ev_oOrD_t, ev_oOrD_f, ev_eNot, ev_oNot, ev_isi, ev_isi_ii, ev_isi_ib, ev_isi_il, ev_isi_it, ev_isi_is, ev_isi_ll, ev_isi_lt, ev_isi_li, ev_isi_lb, ev_isi_tt, ev_isi_tl, ev_isi_ss, ev_isi_bb, ev_isi_bi, ev_isN, ev_notN, ev_oIsN_n, ev_oIsN_i, ev_oIsN_l, ev_oIsN_t, ev_oNotN_n, ev_oNotN_i, ev_oNotN_l, ev_oNotN_t, ev_rev, ev_gRev, ev_iAny, ev_oAny_l, ev_oAny_t, ev_iSeqB, ev_oSeqB, ev_iEnum, ev_oEnum, ev_iZip, ev_oZip_ll, ev_oZip_tt, ev_oZip_lt, ev_oZip_tl, ev_iRng1, ev_rng1_s, ev_iRng2, ev_rng2_s, ev_tgN, ev_tgNil, ev_tgCons, ev_tgT, ev_wipe_nil, ev_wipe_cons, ev_lc, ev_oLc, ev_add, ev_addIS, ev_add_ll, ev_add_tt, ev_addL, ev_repL, ev_rep, ev_sub, ev_mul, ev_mod, ev_div, ev_pow, ev_lt, ev_le, ev_gt, ev_ge, ev_eq, ev_ne, ev_eqs, ev_nes, ev_eqb, ev_neb, ev_len, ev_lenT, ev_list, ev_listT, ev_tuple, ev_tupleT, ev_int, ev_intb, ev_sum, ev_sum0, ev_max2, ev_min2, ev_sl, ev_slT, ev_slL, ev_slB, ev_divZ, ev_onNx, ev_while, ev_eq_li, ev_ne_li, ev_eq_self, ev_ne_self, ev_eq_selfT, ev_ne_selfT, ev_ne_nil, ev_eq_nil, ev_sorted_i, decide_true, decide_false, List.nil_append, List.cons_append, ev_ix, ev_ixT, ev_ixB, ev_ixBT, m5, mi, g2]
      have hco : ∀ c ∈ (List.range its.length).map fun j : Nat => wideZ ns (20 + 5 * (0 + (i : Int)) + (0 + (j : Int))) m, Sz 80 c := fun c hm => by
        obtain ⟨j, hj, rfl⟩ := List.mem_map.mp hm
        have hj := List.mem_range.mp hj
        exact (wideZ_ok ns (by omega) (by omega) m0 m1).2
      have lco : ((List.range its.length).map fun j : Nat => wideZ ns (20 + 5 * (0 + (i : Int)) + (0 + (j : Int))) m).length = its.length := by rw [List.length_map, List.length_range]
      unfold L_l_rules_1
      simp only [ev_bs, ev_bn, ev_ms, ev_mn, ev_g0, ev_gs, ev_s0, ev_ss, ev_bn1, ev_bn2, ev_seq, ev_seq_nx, ev_seq_rt, ev_seq_bk, ev_seq_ct, ev_nil, ev_brk, ev_cnt, ev_if, ev_if_t, ev_if_f, ev_set, ev_oset, ev_setL, ev_osetL, ev_drop, ev_odrop, ev_ret, ev_oret, ev_retN, ev_retL, ev_oretL, ev_orun, ev_orunN, ev_orunN_nx, ev_fz, ev_fz_l, ev_fz_v, ev_app, ev_app_s, ev_clear, ev_clear_s, ev_oNx, ev_asg, ev_asg_s, ev_par, ev_par_s, ev_aug, ev_aug_s, ev_setIx, ev_setIx_s, ev_augIx, ev_for, ev_ofor, ev_V, ev_L, ev_B, ev_rdV, ev_rdLv, ev_rdLl, ev_rdBv, ev_rdBb, ev_C, ev_e2, ev_o2, ev_e1, ev_e3, ev_o3, ev_pN, ev_pS, ev_oPS, ev_aNil, ev_aCons, ev_oCons, ev_tup, ev_lst, ev_oLst, ev_scal, ev_scal_i, ev_scal_s, ev_scal_b, ev_neg, ev_oNeg, ev_tB, ev_asB, ev_tNot, ev_tAnd, ev_tOr, ev_oAnd_t, ev_oAnd_f, ev_oOr_t, ev_oOr_f, ev_eAnd, ev_eOr, ev_oAndD_t, ev_oAndD_f, ev_oOrD_t, ev_oOrD_f, ev_eNot, ev_oNot, ev_isi, ev_isi_ii, ev_isi_ib, ev_isi_il, ev_isi_it, ev_isi_is, ev_isi_ll, ev_isi_lt, ev_isi_li, ev_isi_lb, ev_isi_tt, ev_isi_tl, ev_isi_ss, ev_isi_bb, ev_isi_bi, ev_isN, ev_notN, ev_oIsN_n, ev_oIsN_i, ev_oIsN_l, ev_oIsN_t, ev_oNotN_n, ev_oNotN_i, ev_oNotN_l, ev_oNotN_t, ev_rev, ev_gRev, ev_iAny, ev_oAny_l, ev_oAny_t, ev_iSeqB, ev_oSeqB, ev_iEnum, ev_oEnum, ev_iZip, ev_oZip_ll, ev_oZip_tt, ev_oZip_lt, ev_oZip_tl, ev_iRng1, ev_rng1_s, ev_iRng2, ev_rng2_s, ev_tgN, ev_tgNil, ev_tgCons, ev_tgT, ev_wipe_nil, ev_wipe_cons, ev_lc, ev_oLc, ev_add, ev_addIS, ev_add_ll, ev_add_tt, ev_addL, ev_repL, ev_rep, ev_sub, ev_mul, ev_mod, ev_div, ev_pow, ev_lt, ev_le, ev_gt, ev_ge, ev_eq, ev_ne, ev_eqs, ev_nes, ev_eqb, ev_neb, ev_len, ev_lenT, ev_list, ev_listT, ev_tuple, ev_tupleT, ev_int, ev_intb, ev_sum, ev_sum0, ev_max2, ev_min2, ev_sl, ev_slT, ev_slL, ev_slB, ev_divZ, ev_onNx, ev_while, ev_eq_li, ev_ne_li, ev_eq_self, ev_ne_self, ev_eq_selfT, ev_ne_selfT, ev_ne_nil, ev_eq_nil, ev_sorted_i, decide_true, decide_false, List.nil_append, List.cons_append, ev_ix, ev_ixT, ev_ixB, ev_ixBT, len_itD, w1, w2, el, f3, f4, z30, z3, k1, k2]
      generalize ((List.range its.length).map fun j : Nat => wideZ ns (20 + 5 * (0 + (i : Int)) + (0 + (j : Int))) m) = co at hco lco ⊢
      rw [zip_map]
      obtain ⟨e, he, r, t8, t9, rfl, hsr⟩ := forF_inv (g := tgT (tgCons (tgN 8) (tgCons (tgN 9) tgNil))) (b := L_l_rules_0) (items := (co.zip its).map fun p => PyData.tuple [.int p.1, itD p.2])
        (env := [.brw (.list (ns.map .int)), .val (.list (its.map itD)), .val (.int (n : Nat)), .val (.int m), .lst (rus.map ruD), .val (.int (0 + (i : Int))), .val (.tuple (co.map .int)), .val (.int (r1 % 30 * (r2 % 3))), t8, t9, t10])
        (fun j env => ∃ (r : Int) (t8 t9 : C), env = [.brw (.list (ns.map .int)), .val (.list (its.map itD)), .val (.int (n : Nat)), .val (.int m), .lst (rus.map ruD), .val (.int (0 + (i : Int))), .val (.tuple (co.map .int)), .val (.int r), t8, t9, t10] ∧ Sz (170 + j) r)
        ⟨_, _, _, rfl, (s1.mul s2).mono (by decide)⟩ (fun j d env hd hI => by
          obtain ⟨r, t8, t9, rfl, hsr⟩ := hI
          rw [List.getElem?_map] at hd
          cases ez : (co.zip its)[j]? with
          | none => rw [ez] at hd; cases hd
          | some p =>
            rw [ez] at hd; cases hd
            have mm := List.of_mem_zip (List.mem_of_getElem? ez)
            obtain ⟨c, s, v⟩ := p
            have c1 := hco c mm.1
            have c2 := (hg _ mm.2).2
            have n1 := c1.md
            have n2 := c2.md
            have i1 : gIxS (itD (s, v)) (.int 1) = some (.int v) := rfl
            refine ⟨_, rfl, ?_⟩
            unfold L_l_rules_0
            dsimp only at n2 ⊢
            simp only [ev_bs, ev_bn, ev_ms, ev_mn, ev_g0, ev_gs, ev_s0, ev_ss, ev_bn1, ev_bn2, ev_seq, ev_seq_nx, ev_seq_rt, ev_seq_bk, ev_seq_ct, ev_nil, ev_brk, ev_cnt, ev_if, ev_if_t, ev_if_f, ev_set, ev_oset, ev_setL, ev_osetL, ev_drop, ev_odrop, ev_ret, ev_oret, ev_retN, ev_retL, ev_oretL, ev_orun, ev_orunN, ev_orunN_nx, ev_fz, ev_fz_l, ev_fz_v, ev_app, ev_app_s, ev_clear, ev_clear_s, ev_oNx, ev_asg, ev_asg_s, ev_par, ev_par_s, ev_aug, ev_aug_s, ev_setIx, ev_setIx_s, ev_augIx, ev_for, ev_ofor, ev_V, ev_L, ev_B, ev_rdV, ev_rdLv, ev_rdLl, ev_rdBv, ev_rdBb, ev_C, ev_e2, ev_o2, ev_e1, ev_e3, ev_o3, ev_pN, ev_pS, ev_oPS, ev_aNil, ev_aCons, ev_oCons, ev_tup, ev_lst, ev_oLst, ev_scal, ev_scal_i, ev_scal_s, ev_scal_b, ev_neg, ev_oNeg, ev_tB, ev_asB, ev_tNot, ev_tAnd, ev_tOr, ev_oAnd_t, ev_oAnd_f, ev_oOr_t, ev_oOr_f, ev_eAnd, ev_eOr, ev_oAndD_t, ev_oAndD_f, ev_oOrD_t, ev_oOrD_f, ev_eNot, ev_oNot, ev_isi, ev_isi_ii, ev_isi_ib, ev_isi_il, ev_isi_it, ev_isi_is, ev_isi_ll, ev_isi_lt, ev_isi_li, ev_isi_lb, ev_isi_tt, ev_isi_tl, ev_isi_ss, ev_isi_bb, ev_isi_bi, ev_isN, ev_notN, ev_oIsN_n, ev_oIsN_i, ev_oIsN_l, ev_oIsN_t, ev_oNotN_n, ev_oNotN_i, ev_oNotN_l, ev_oNotN_t, ev_rev, ev_gRev, ev_iAny, ev_oAny_l, ev_oAny_t, ev_iSeqB, ev_oSeqB, ev_iEnum, ev_oEnum, ev_iZip, ev_oZip_ll, ev_oZip_tt, ev_oZip_lt, ev_oZip_tl, ev_iRng1, ev_rng1_s, ev_iRng2, ev_rng2_s, ev_tgN, ev_tgNil, ev_tgCons, ev_tgT, ev_wipe_nil, ev_wipe_cons, ev_lc, ev_oLc, ev_add, ev_addIS, ev_add_ll, ev_add_tt, ev_addL, ev_repL, ev_rep, ev_sub, ev_mul, ev_mod, ev_div, ev_pow, ev_lt, ev_le, ev_gt, ev_ge, ev_eq, ev_ne, ev_eqs, ev_nes, ev_eqb, ev_neb, ev_len, ev_lenT, ev_list, ev_listT, ev_tuple, ev_tupleT, ev_int, ev_intb, ev_sum, ev_sum0, ev_max2, ev_min2, ev_sl, ev_slT, ev_slL, ev_slB, ev_divZ, ev_onNx, ev_while, ev_eq_li, ev_ne_li, ev_eq_self, ev_ne_self, ev_eq_selfT, ev_ne_selfT, ev_ne_nil, ev_eq_nil, ev_sorted_i, decide_true, decide_false, List.nil_append, List.cons_append, ev_ix, ev_ixT, ev_ixB, ev_ixBT, i1, n1, n2]
            exact ⟨_, _, _, rfl, hsr.sub ((c1.mul c2).mono (by omega))⟩)
      have lz : ((co.zip its).map fun p => PyData.tuple [.int p.1, itD p.2]).length ≤ 4 := by rw [List.length_map, List.length_zip]; omega
      rw [he]
      simp only [ev_bs, ev_bn, ev_ms, ev_mn, ev_g0, ev_gs, ev_s0, ev_ss, ev_bn1, ev_bn2, ev_seq, ev_seq_nx, ev_seq_rt, ev_seq_bk, ev_seq_ct, ev_nil, ev_brk, ev_cnt, ev_if, ev_if_t, ev_if_f, ev_set, ev_oset, ev_setL, ev_osetL, ev_drop, ev_odrop, ev_ret, ev_oret, ev_retN, ev_retL, ev_oretL, ev_orun, ev_orunN, ev_orunN_nx, ev_fz, ev_fz_l, ev_fz_v, ev_app, ev_app_s, ev_clear, ev_clear_s, ev_oNx, ev_asg, ev_asg_s, ev_par, ev_par_s, ev_aug, ev_aug_s, ev_setIx, ev_setIx_s, ev_augIx, ev_for, ev_ofor, ev_V, ev_L, ev_B, ev_rdV, ev_rdLv, ev_rdLl, ev_rdBv, ev_rdBb, ev_C, ev_e2, ev_o2, ev_e1, ev_e3, ev_o3, ev_pN, ev_pS, ev_oPS, ev_aNil, ev_aCons, ev_oCons, ev_tup, ev_lst, ev_oLst, ev_scal, ev_scal_i, ev_scal_s, ev_scal_b, ev_neg, ev_oNeg, ev_tB, ev_asB, ev_tNot, ev_tAnd, ev_tOr, ev_oAnd_t, ev_oAnd_f, ev_oOr_t, ev_oOr_f, ev_eAnd, ev_eOr, ev_oAndD_t, ev_oAndD_f, ev_oOrD_t, ev_oOrD_f, ev_eNot, ev_oNot, ev_isi, ev_isi_ii, ev_isi_ib, ev_isi_il, ev_isi_it, ev_isi_is, ev_isi_ll, ev_isi_lt, ev_isi_li, ev_isi_lb, ev_isi_tt, ev_isi_tl, ev_isi_ss, ev_isi_bb, ev_isi_bi, ev_isN, ev_notN, ev_oIsN_n, ev_oIsN_i, ev_oIsN_l, ev_oIsN_t, ev_oNotN_n, ev_oNotN_i, ev_oNotN_l, ev_oNotN_t, ev_rev, ev_gRev, ev_iAny, ev_oAny_l, ev_oAny_t, ev_iSeqB, ev_oSeqB, ev_iEnum, ev_oEnum, ev_iZip, ev_oZip_ll, ev_oZip_tt, ev_oZip_lt, ev_oZip_tl, ev_iRng1, ev_rng1_s, ev_iRng2, ev_rng2_s, ev_tgN, ev_tgNil, ev_tgCons, ev_tgT, ev_wipe_nil, ev_wipe_cons, ev_lc, ev_oLc, ev_add, ev_addIS, ev_add_ll, ev_add_tt, ev_addL, ev_repL, ev_rep, ev_sub, ev_mul, ev_mod, ev_div, ev_pow, ev_lt, ev_le, ev_gt, ev_ge, ev_eq, ev_ne, ev_eqs, ev_nes, ev_eqb, ev_neb, ev_len, ev_lenT, ev_list, ev_listT, ev_tuple, ev_tupleT, ev_int, ev_intb, ev_sum, ev_sum0, ev_max2, ev_min2, ev_sl, ev_slT, ev_slL, ev_slB, ev_divZ, ev_onNx, ev_while, ev_eq_li, ev_ne_li, ev_eq_self, ev_ne_self, ev_eq_selfT, ev_ne_selfT, ev_ne_nil, ev_eq_nil, ev_sorted_i, decide_true, decide_false, List.nil_append, List.cons_append, ev_ix, ev_ixT, ev_ixB, ev_ixBT, f2, g1, ln]
      refine ⟨rus ++ [⟨nameS (0 + (i : Int)) d2, co, r⟩], _, _, _, _, _, _, by rw [List.map_append]; rfl, by rw [List.length_append, hr]; rfl, fun q hm => ?_⟩
      rcases List.mem_append.mp hm with h | h
      · exact hg2 q h
      · rw [List.mem_singleton.mp h]
        exact ⟨g2, lco, hco, hsr.mono (by omega)⟩)
  rw [he]
  simp only [ev_bs, ev_bn, ev_ms, ev_mn, ev_g0, ev_gs, ev_s0, ev_ss, ev_bn1, ev_bn2, ev_seq, ev_seq_nx, ev_seq_rt, ev_seq_bk, ev_seq_ct, ev_nil, ev_brk, ev_cnt, ev_if, ev_if_t, ev_if_f, ev_set, ev_oset, ev_setL, ev_osetL, ev_drop, ev_odrop, ev_ret, ev_oret, ev_retN, ev_retL, ev_oretL, ev_orun, ev_orunN, ev_orunN_nx, ev_fz, ev_fz_l, ev_fz_v, ev_app, ev_app_s, ev_clear, ev_clear_s, ev_oNx, ev_asg, ev_asg_s, ev_par, ev_par_s, ev_aug, ev_aug_s, ev_setIx, ev_setIx_s, ev_augIx, ev_for, ev_ofor, ev_V, ev_L, ev_B, ev_rdV, ev_rdLv, ev_rdLl, ev_rdBv, ev_rdBb, ev_C, ev_e2, ev_o2, ev_e1, ev_e3, ev_o3, ev_pN, ev_pS, ev_oPS, ev_aNil, ev_aCons, ev_oCons, ev_tup, ev_lst, ev_oLst, ev_scal, ev_scal_i, ev_scal_s, ev_scal_b, ev_neg, ev_oNeg, ev_tB, ev_asB, ev_tNot, ev_tAnd, ev_tOr, ev_oAnd_t, ev_oAnd_f, ev_oOr_t, ev_oOr_f, ev_eAnd, ev_eOr, ev_oAndD_t, ev_oAndD_f, ev_oOrD_t, ev_oOrD_f, ev_eNot, ev_oNot, ev_isi, ev_isi_ii, ev_isi_ib, ev_isi_il, ev_isi_it, ev_isi_is, ev_isi_ll, ev_isi_lt, ev_isi_li, ev_isi_lb, ev_isi_tt, ev_isi_tl, ev_isi_ss, ev_isi_bb, ev_isi_bi, ev_isN, ev_notN, ev_oIsN_n, ev_oIsN_i, ev_oIsN_l, ev_oIsN_t, ev_oNotN_n, ev_oNotN_i, ev_oNotN_l, ev_oNotN_t, ev_rev, ev_gRev, ev_iAny, ev_oAny_l, ev_oAny_t, ev_iSeqB, ev_oSeqB, ev_iEnum, ev_oEnum, ev_iZip, ev_oZip_ll, ev_oZip_tt, ev_oZip_lt, ev_oZip_tl, ev_iRng1, ev_rng1_s, ev_iRng2, ev_rng2_s, ev_tgN, ev_tgNil, ev_tgCons, ev_tgT, ev_wipe_nil, ev_wipe_cons, ev_lc, ev_oLc, ev_add, ev_addIS, ev_add_ll, ev_add_tt, ev_addL, ev_repL, ev_rep, ev_sub, ev_mul, ev_mod, ev_div, ev_pow, ev_lt, ev_le, ev_gt, ev_ge, ev_eq, ev_ne, ev_eqs, ev_nes, ev_eqb, ev_neb, ev_len, ev_lenT, ev_list, ev_listT, ev_tuple, ev_tupleT, ev_int, ev_intb, ev_sum, ev_sum0, ev_max2, ev_min2, ev_sl, ev_slT, ev_slL, ev_slB, ev_divZ, ev_onNx, ev_while, ev_eq_li, ev_ne_li, ev_eq_self, ev_ne_self, ev_eq_selfT, ev_ne_selfT, ev_ne_nil, ev_eq_nil, ev_sorted_i, decide_true, decide_false, List.nil_append, List.cons_append, ev_ix, ev_ixT, ev_ixB, ev_ixBT, ev_retL]
  exact ⟨rus, rfl, by omega, hg2⟩
theorem b01 (b : Bool) : Sz 1 (if b = true then (1 : Int) else 0) := by cases b <;> exact Sz.of (by decide) (by decide)
theorem deeds_ok (ns : List Int) {its : List (Str × Int)} {n : Nat} (hl : its.length ≤ 4) (hn : n ≤ 6) :
    ∃ des : List Bk.Deed, f_l_deeds [.list (ns.map .int), .list (its.map itD), .int (n : Nat)] = some (.list (des.map deD)) ∧ des.length = n ∧ GD its.length des := by
  rw [fe_l_deeds]
  unfold b_l_deeds
  have v1 : -(2 ^ 62) ≤ (n : Int) := by omega
  have v2 : (n : Int) ≤ 16777216 := by omega
  have w1 : -(2 ^ 62) ≤ (its.length : Int) := by omega
  have w2 : (its.length : Int) ≤ 16777216 := by omega
  have t23 : T23 = 100000000000000000000000 := rfl
  obtain ⟨f2, y0, y1⟩ := draw_ok ns (k := 3) (by decide) (by decide)
  generalize drawZ ns 3 = d2 at f2 y0 y1
  simp only [ev_bs, ev_bn, ev_ms, ev_mn, ev_g0, ev_gs, ev_s0, ev_ss, ev_bn1, ev_bn2, ev_seq, ev_seq_nx, ev_seq_rt, ev_seq_bk, ev_seq_ct, ev_nil, ev_brk, ev_cnt, ev_if, ev_if_t, ev_if_f, ev_set, ev_oset, ev_setL, ev_osetL, ev_drop, ev_odrop, ev_ret, ev_oret, ev_retN, ev_retL, ev_oretL, ev_orun, ev_orunN, ev_orunN_nx, ev_fz, ev_fz_l, ev_fz_v, ev_app, ev_app_s, ev_clear, ev_clear_s, ev_oNx, ev_asg, ev_asg_s, ev_par, ev_par_s, ev_aug, ev_aug_s, ev_setIx, ev_setIx_s, ev_augIx, ev_for, ev_ofor, ev_V, ev_L, ev_B, ev_rdV, ev_rdLv, ev_rdLl, ev_rdBv, ev_rdBb, ev_C, ev_e2, ev_o2, ev_e1, ev_e3, ev_o3, ev_pN, ev_pS, ev_oPS, ev_aNil, ev_aCons, ev_oCons, ev_tup, ev_lst, ev_oLst, ev_scal, ev_scal_i, ev_scal_s, ev_scal_b, ev_neg, ev_oNeg, ev_tB, ev_asB, ev_tNot, ev_tAnd, ev_tOr, ev_oAnd_t, ev_oAnd_f, ev_oOr_t, ev_oOr_f, ev_eAnd, ev_eOr, ev_oAndD_t, ev_oAndD_f, ev_oOrD_t, ev_oOrD_f, ev_eNot, ev_oNot, ev_isi, ev_isi_ii, ev_isi_ib, ev_isi_il, ev_isi_it, ev_isi_is, ev_isi_ll, ev_isi_lt, ev_isi_li, ev_isi_lb, ev_isi_tt, ev_isi_tl, ev_isi_ss, ev_isi_bb, ev_isi_bi, ev_isN, ev_notN, ev_oIsN_n, ev_oIsN_i, ev_oIsN_l, ev_oIsN_t, ev_oNotN_n, ev_oNotN_i, ev_oNotN_l, ev_oNotN_t, ev_rev, ev_gRev, ev_iAny, ev_oAny_l, ev_oAny_t, ev_iSeqB, ev_oSeqB, ev_iEnum, ev_oEnum, ev_iZip, ev_oZip_ll, ev_oZip_tt, ev_oZip_lt, ev_oZip_tl, ev_iRng1, ev_rng1_s, ev_iRng2, ev_rng2_s, ev_tgN, ev_tgNil, ev_tgCons, ev_tgT, ev_wipe_nil, ev_wipe_cons, ev_lc, ev_oLc, ev_add, ev_addIS, ev_add_ll, ev_add_tt, ev_addL, ev_repL, ev_rep, ev_sub, ev_mul, ev_mod, ev_div, ev_pow, ev_lt, ev_le, ev_gt, ev_ge, ev_eq, ev_ne, ev_eqs, ev_nes, ev_eqb, ev_neb, ev_len, ev_lenT, ev_list, ev_listT, ev_tuple, ev_tupleT, ev_int, ev_intb, ev_sum, ev_sum0, ev_max2, ev_min2, ev_sl, ev_slT, ev_slL, ev_slB, ev_divZ, ev_onNx, ev_while, ev_eq_li, ev_ne_li, ev_eq_self, ev_ne_self, ev_eq_selfT, ev_ne_selfT, ev_ne_nil, ev_eq_nil, ev_sorted_i, decide_true, decide_false, List.nil_append, List.cons_append, ev_ix, ev_ixT, ev_ixB, ev_ixBT, v1, v2]
  obtain ⟨e, he, des, t4, t5, t6, t7, t8, t9, t10, rfl, hr, hg2⟩ := forF_rng (lo := 0) (n := (n : Int).toNat) (v := 4) (b := L_l_deeds_1) (env := [.brw (.list (ns.map .int)), .val (.list (its.map itD)), .val (.int (n : Nat)), .lst [], .und, .und, .und, .und, .und, .und, .und])
    (fun i env => ∃ (des : List Bk.Deed) (t4 t5 t6 t7 t8 t9 t10 : C), env = [.brw (.list (ns.map .int)), .val (.list (its.map itD)), .val (.int (n : Nat)), .lst (des.map deD), t4, t5, t6, t7, t8, t9, t10] ∧ des.length = i ∧ GD its.length des)
    ⟨[], _, _, _, _, _, _, _, rfl, rfl, fun _ h => nomatch h⟩ (fun i env hi hI => by
      obtain ⟨des, t4, t5, t6, t7, t8, t9, t10, rfl, hr, hg2⟩ := hI
      have hi' : i < 6 := by omega
      obtain ⟨f1, s1⟩ := wideZ_ok ns (k := 70 + (0 + (i : Int))) (m := 100000) (by omega) (by omega) (by decide) (by decide)
      obtain ⟨f3, a0, a1⟩ := draw_ok ns (k := 200 + (0 + (i : Int))) (by omega) (by omega)
      generalize drawZ ns (200 + (0 + (i : Int))) = r1 at f3 a0 a1
      generalize wideZ ns (70 + (0 + (i : Int))) 100000 = lo at f1 s1
      have z9 : (0 : Int) < 9 := by decide
      have m5 : Md 5 := Sz.md (k := 10) (Sz.of (by decide) (by decide))
      have mi : Md (0 + (i : Int)) := Sz.md (k := 10) (Sz.of (by omega) (by omega))
      have z3 : (0 : Int) < 3 := by decide
      obtain ⟨g1, g2⟩ := nameS_ok (k := 0 + (i : Int)) (n := d2) (by omega) (by omega) y0
      have ln : (((des.map deD).length : Nat) : Int) < 16000000 := by rw [List.length_map]; omega
      unfold L_l_deeds_1
      simp only [ev_bs, ev_bn, ev_ms, ev_mn, ev_g0, ev_gs, ev_s0, ev_ss, ev_bn1, ev_bn2, ev_seq, ev_seq_nx, ev_seq_rt, ev_seq_bk, ev_seq_ct, ev_nil, ev_brk, ev_cnt, ev_if, ev_if_t, ev_if_f, ev_set, ev_oset, ev_setL, ev_osetL, ev_drop, ev_odrop, ev_ret, ev_oret, ev_retN, ev_retL, ev_oretL, ev_orun, ev_orunN, ev_orunN_nx, ev_fz, ev_fz_l, ev_fz_v, ev_app, ev_app_s, ev_clear, ev_clear_s, ev_oNx, ev_asg, ev_asg_s, ev_par, ev_par_s, ev_aug, ev_aug_s, ev_setIx, ev_setIx_s, ev_augIx, ev_for, ev_ofor, ev_V, ev_L, ev_B, ev_rdV, ev_rdLv, ev_rdLl, ev_rdBv, ev_rdBb, ev_C, ev_e2, ev_o2, ev_e1, ev_e3, ev_o3, ev_pN, ev_pS, ev_oPS, ev_aNil, ev_aCons, ev_oCons, ev_tup, ev_lst, ev_oLst, ev_scal, ev_scal_i, ev_scal_s, ev_scal_b, ev_neg, ev_oNeg, ev_tB, ev_asB, ev_tNot, ev_tAnd, ev_tOr, ev_oAnd_t, ev_oAnd_f, ev_oOr_t, ev_oOr_f, ev_eAnd, ev_eOr, ev_oAndD_t, ev_oAndD_f, ev_oOrD_t, ev_oOrD_f, ev_eNot, ev_oNot, ev_isi, ev_isi_ii, ev_isi_ib, ev_isi_il, ev_isi_it, ev_isi_is, ev_isi_ll, ev_isi_lt, ev_isi_li, ev_isi_lb, ev_isi_tt, ev_isi_tl, ev_isi_ss, ev_isi_bb, ev_isi_bi, ev_isN, ev_notN, ev_oIsN_n, ev_oIsN_i, ev_oIsN_l, ev_oIsN_t, ev_oNotN_n, ev_oNotN_i, ev_oNotN_l, ev_oNotN_t, ev_rev, ev_gRev, ev_iAny, ev_oAny_l, ev_oAny_t, ev_iSeqB, ev_oSeqB, ev_iEnum, ev_oEnum, ev_iZip, ev_oZip_ll, ev_oZip_tt, ev_oZip_lt, ev_oZip_tl, ev_iRng1, ev_rng1_s, ev_iRng2, ev_rng2_s, ev_tgN, ev_tgNil, ev_tgCons, ev_tgT, ev_wipe_nil, ev_wipe_cons, ev_lc, ev_oLc, ev_add, ev_addIS, ev_add_ll, ev_add_tt, ev_addL, ev_repL, ev_rep, ev_sub, ev_mul, ev_mod, ev_div, ev_pow, ev_lt, ev_le, ev_gt, ev_ge, ev_eq, ev_ne, ev_eqs, ev_nes, ev_eqb, ev_neb, ev_len, ev_lenT, ev_list, ev_listT, ev_tuple, ev_tupleT, ev_int, ev_intb, ev_sum, ev_sum0, ev_max2, ev_min2, ev_sl, ev_slT, ev_slL, ev_slB, ev_divZ, ev_onNx, ev_while, ev_eq_li, ev_ne_li, ev_eq_self, ev_ne_self, ev_eq_selfT, ev_ne_selfT, ev_ne_nil, ev_eq_nil, ev_sorted_i, decide_true, decide_false, List.nil_append, List.cons_append, ev_ix, ev_ixT, ev_ixB, ev_ixBT, p10, q5, b5, f1, len_itD, w1, w2]
      obtain ⟨e, he, ch, t7, t8, t9, rfl, hcl, hch⟩ := forF_rng (lo := 0) (n := (its.length : Int).toNat) (v := 7) (b := L_l_deeds_0)
        (env := [.brw (.list (ns.map .int)), .val (.list (its.map itD)), .val (.int (n : Nat)), .lst (des.map deD), .val (.int (0 + (i : Int))), .val (.int lo), .lst [], t7, t8, t9, t10])
        (fun j env => ∃ (ch : List (Int × Int)) (t7 t8 t9 : C), env = [.brw (.list (ns.map .int)), .val (.list (its.map itD)), .val (.int (n : Nat)), .lst (des.map deD), .val (.int (0 + (i : Int))), .val (.int lo), .lst (ch.map chD), t7, t8, t9, t10] ∧ ch.length = j ∧ ∀ c ∈ ch, Sz 90 c.1 ∧ Sz 90 c.2)
        ⟨[], _, _, _, rfl, rfl, fun _ h => nomatch h⟩ (fun j env hj hI => by
          obtain ⟨ch, t7, t8, t9, rfl, hcl, hch⟩ := hI
          have hj' : j < 4 := by omega
          obtain ⟨h1, k0, k1⟩ := draw_ok ns (k := 80 + 5 * (0 + (i : Int)) + (0 + (j : Int))) (by omega) (by omega)
          obtain ⟨h2, u1⟩ := wideZ_ok ns (k := 120 + 5 * (0 + (i : Int)) + (0 + (j : Int))) (m := T23) (by omega) (by omega) (by decide) (by decide)
          obtain ⟨h3, u2⟩ := wideZ_ok ns (k := 160 + 5 * (0 + (i : Int)) + (0 + (j : Int))) (m := T23) (by omega) (by omega) (by decide) (by decide)
          generalize drawZ ns (80 + 5 * (0 + (i : Int)) + (0 + (j : Int))) = so at h1 k0 k1
          generalize wideZ ns (120 + 5 * (0 + (i : Int)) + (0 + (j : Int))) T23 = x at h2 u1
          generalize wideZ ns (160 + 5 * (0 + (i : Int)) + (0 + (j : Int))) T23 = y at h3 u2
          have ln : (((ch.map chD).length : Nat) : Int) < 16000000 := by rw [List.length_map]; omega
          have n1 := u1.md
          have n2 := u2.md
          have n3 := (b01 (!decide (so % 3 = 1))).md
          have n4 := (b01 (decide (so % 3 = 2))).md
          unfold L_l_deeds_0
          simp only [ev_bs, ev_bn, ev_ms, ev_mn, ev_g0, ev_gs, ev_s0, ev_ss, ev_bn1, ev_bn2, ev_seq, ev_seq_nx, ev_seq_rt, ev_seq_bk, ev_seq_ct, ev_nil, ev_brk, ev_cnt, ev_if, ev_if_t, ev_if_f, ev_set, ev_oset, ev_setL, ev_osetL, ev_drop, ev_odrop, ev_ret, ev_oret, ev_retN, ev_retL, ev_oretL, ev_orun, ev_orunN, ev_orunN_nx, ev_fz, ev_fz_l, ev_fz_v, ev_app, ev_app_s, ev_clear, ev_clear_s, ev_oNx, ev_asg, ev_asg_s, ev_par, ev_par_s, ev_aug, ev_aug_s, ev_setIx, ev_setIx_s, ev_augIx, ev_for, ev_ofor, ev_V, ev_L, ev_B, ev_rdV, ev_rdLv, ev_rdLl, ev_rdBv, ev_rdBb, ev_C, ev_e2, ev_o2, ev_e1, ev_e3, ev_o3, ev_pN, ev_pS, ev_oPS, ev_aNil, ev_aCons, ev_oCons, ev_tup, ev_lst, ev_oLst, ev_scal, ev_scal_i, ev_scal_s, ev_scal_b, ev_neg, ev_oNeg, ev_tB, ev_asB, ev_tNot, ev_tAnd, ev_tOr, ev_oAnd_t, ev_oAnd_f, ev_oOr_t, ev_oOr_f, ev_eAnd, ev_eOr, ev_oAndD_t, ev_oAndD_f, ev_oOrD_t, ev_oOrD_f, ev_eNot, ev_oNot, ev_isi, ev_isi_ii, ev_isi_ib, ev_isi_il, ev_isi_it, ev_isi_is, ev_isi_ll, ev_isi_lt, ev_isi_li, ev_isi_lb, ev_isi_tt, ev_isi_tl, ev_isi_ss, ev_isi_bb, ev_isi_bi, ev_isN, ev_notN, ev_oIsN_n, ev_oIsN_i, ev_oIsN_l, ev_oIsN_t, ev_oNotN_n, ev_oNotN_i, ev_oNotN_l, ev_oNotN_t, ev_rev, ev_gRev, ev_iAny, ev_oAny_l, ev_oAny_t, ev_iSeqB, ev_oSeqB, ev_iEnum, ev_oEnum, ev_iZip, ev_oZip_ll, ev_oZip_tt, ev_oZip_lt, ev_oZip_tl, ev_iRng1, ev_rng1_s, ev_iRng2, ev_rng2_s, ev_tgN, ev_tgNil, ev_tgCons, ev_tgT, ev_wipe_nil, ev_wipe_cons, ev_lc, ev_oLc, ev_add, ev_addIS, ev_add_ll, ev_add_tt, ev_addL, ev_repL, ev_rep, ev_sub, ev_mul, ev_mod, ev_div, ev_pow, ev_lt, ev_le, ev_gt, ev_ge, ev_eq, ev_ne, ev_eqs, ev_nes, ev_eqb, ev_neb, ev_len, ev_lenT, ev_list, ev_listT, ev_tuple, ev_tupleT, ev_int, ev_intb, ev_sum, ev_sum0, ev_max2, ev_min2, ev_sl, ev_slT, ev_slL, ev_slB, ev_divZ, ev_onNx, ev_while, ev_eq_li, ev_ne_li, ev_eq_self, ev_ne_self, ev_eq_selfT, ev_ne_selfT, ev_ne_nil, ev_eq_nil, ev_sorted_i, decide_true, decide_false, List.nil_append, List.cons_append, ev_ix, ev_ixT, ev_ixB, ev_ixBT, m5, mi, h1, h2, h3, z3, p10, q23, b23, n1, n2, n3, n4, ln]
          refine ⟨ch ++ [(x * (if (!decide (so % 3 = 1)) = true then 1 else 0), y * (if decide (so % 3 = 2) = true then 1 else 0))], _, _, _, by rw [List.map_append]; rfl, by rw [List.length_append, hcl]; rfl, fun c hm => ?_⟩
          rcases List.mem_append.mp hm with h | h
          · exact hch c h
          · rw [List.mem_singleton.mp h]
            exact ⟨(u1.mul (b01 _)).mono (by decide), (u2.mul (b01 _)).mono (by decide)⟩)
      rw [he]
      simp only [ev_bs, ev_bn, ev_ms, ev_mn, ev_g0, ev_gs, ev_s0, ev_ss, ev_bn1, ev_bn2, ev_seq, ev_seq_nx, ev_seq_rt, ev_seq_bk, ev_seq_ct, ev_nil, ev_brk, ev_cnt, ev_if, ev_if_t, ev_if_f, ev_set, ev_oset, ev_setL, ev_osetL, ev_drop, ev_odrop, ev_ret, ev_oret, ev_retN, ev_retL, ev_oretL, ev_orun, ev_orunN, ev_orunN_nx, ev_fz, ev_fz_l, ev_fz_v, ev_app, ev_app_s, ev_clear, ev_clear_s, ev_oNx, ev_asg, ev_asg_s, ev_par, ev_par_s, ev_aug, ev_aug_s, ev_setIx, ev_setIx_s, ev_augIx, ev_for, ev_ofor, ev_V, ev_L, ev_B, ev_rdV, ev_rdLv, ev_rdLl, ev_rdBv, ev_rdBb, ev_C, ev_e2, ev_o2, ev_e1, ev_e3, ev_o3, ev_pN, ev_pS, ev_oPS, ev_aNil, ev_aCons, ev_oCons, ev_tup, ev_lst, ev_oLst, ev_scal, ev_scal_i, ev_scal_s, ev_scal_b, ev_neg, ev_oNeg, ev_tB, ev_asB, ev_tNot, ev_tAnd, ev_tOr, ev_oAnd_t, ev_oAnd_f, ev_oOr_t, ev_oOr_f, ev_eAnd, ev_eOr, ev_oAndD_t, ev_oAndD_f, ev_oOrD_t, ev_oOrD_f, ev_eNot, ev_oNot, ev_isi, ev_isi_ii, ev_isi_ib, ev_isi_il, ev_isi_it, ev_isi_is, ev_isi_ll, ev_isi_lt, ev_isi_li, ev_isi_lb, ev_isi_tt, ev_isi_tl, ev_isi_ss, ev_isi_bb, ev_isi_bi, ev_isN, ev_notN, ev_oIsN_n, ev_oIsN_i, ev_oIsN_l, ev_oIsN_t, ev_oNotN_n, ev_oNotN_i, ev_oNotN_l, ev_oNotN_t, ev_rev, ev_gRev, ev_iAny, ev_oAny_l, ev_oAny_t, ev_iSeqB, ev_oSeqB, ev_iEnum, ev_oEnum, ev_iZip, ev_oZip_ll, ev_oZip_tt, ev_oZip_lt, ev_oZip_tl, ev_iRng1, ev_rng1_s, ev_iRng2, ev_rng2_s, ev_tgN, ev_tgNil, ev_tgCons, ev_tgT, ev_wipe_nil, ev_wipe_cons, ev_lc, ev_oLc, ev_add, ev_addIS, ev_add_ll, ev_add_tt, ev_addL, ev_repL, ev_rep, ev_sub, ev_mul, ev_mod, ev_div, ev_pow, ev_lt, ev_le, ev_gt, ev_ge, ev_eq, ev_ne, ev_eqs, ev_nes, ev_eqb, ev_neb, ev_len, ev_lenT, ev_list, ev_listT, ev_tuple, ev_tupleT, ev_int, ev_intb, ev_sum, ev_sum0, ev_max2, ev_min2, ev_sl, ev_slT, ev_slL, ev_slB, ev_divZ, ev_onNx, ev_while, ev_eq_li, ev_ne_li, ev_eq_self, ev_ne_self, ev_eq_selfT, ev_ne_selfT, ev_ne_nil, ev_eq_nil, ev_sorted_i, decide_true, decide_false, List.nil_append, List.cons_append, ev_ix, ev_ixT, ev_ixB, ev_ixBT, f2, f3, z9, g1, ln]
      refine ⟨des ++ [⟨nameS (0 + (i : Int)) d2, lo, lo + r1 % 9, ch⟩], _, _, _, _, _, _, _, by rw [List.map_append]; rfl, by rw [List.length_append, hr]; rfl, fun q hm => ?_⟩
      rcases List.mem_append.mp hm with h | h
      · exact hg2 q h
      · rw [List.mem_singleton.mp h]
        refine ⟨g2, (show ch.length = its.length by omega), hch, ?_, s1.mono (by decide), ?_⟩
        · show lo ≤ lo + r1 % 9
          omega
        · exact ((s1.mono (by decide : 80 ≤ 90)).add (Sz.of (by omega) (by omega))).mono (by decide))
  rw [he]
  simp only [ev_bs, ev_bn, ev_ms, ev_mn, ev_g0, ev_gs, ev_s0, ev_ss, ev_bn1, ev_bn2, ev_seq, ev_seq_nx, ev_seq_rt, ev_seq_bk, ev_seq_ct, ev_nil, ev_brk, ev_cnt, ev_if, ev_if_t, ev_if_f, ev_set, ev_oset, ev_setL, ev_osetL, ev_drop, ev_odrop, ev_ret, ev_oret, ev_retN, ev_retL, ev_oretL, ev_orun, ev_orunN, ev_orunN_nx, ev_fz, ev_fz_l, ev_fz_v, ev_app, ev_app_s, ev_clear, ev_clear_s, ev_oNx, ev_asg, ev_asg_s, ev_par, ev_par_s, ev_aug, ev_aug_s, ev_setIx, ev_setIx_s, ev_augIx, ev_for, ev_ofor, ev_V, ev_L, ev_B, ev_rdV, ev_rdLv, ev_rdLl, ev_rdBv, ev_rdBb, ev_C, ev_e2, ev_o2, ev_e1, ev_e3, ev_o3, ev_pN, ev_pS, ev_oPS, ev_aNil, ev_aCons, ev_oCons, ev_tup, ev_lst, ev_oLst, ev_scal, ev_scal_i, ev_scal_s, ev_scal_b, ev_neg, ev_oNeg, ev_tB, ev_asB, ev_tNot, ev_tAnd, ev_tOr, ev_oAnd_t, ev_oAnd_f, ev_oOr_t, ev_oOr_f, ev_eAnd, ev_eOr, ev_oAndD_t, ev_oAndD_f, ev_oOrD_t, ev_oOrD_f, ev_eNot, ev_oNot, ev_isi, ev_isi_ii, ev_isi_ib, ev_isi_il, ev_isi_it, ev_isi_is, ev_isi_ll, ev_isi_lt, ev_isi_li, ev_isi_lb, ev_isi_tt, ev_isi_tl, ev_isi_ss, ev_isi_bb, ev_isi_bi, ev_isN, ev_notN, ev_oIsN_n, ev_oIsN_i, ev_oIsN_l, ev_oIsN_t, ev_oNotN_n, ev_oNotN_i, ev_oNotN_l, ev_oNotN_t, ev_rev, ev_gRev, ev_iAny, ev_oAny_l, ev_oAny_t, ev_iSeqB, ev_oSeqB, ev_iEnum, ev_oEnum, ev_iZip, ev_oZip_ll, ev_oZip_tt, ev_oZip_lt, ev_oZip_tl, ev_iRng1, ev_rng1_s, ev_iRng2, ev_rng2_s, ev_tgN, ev_tgNil, ev_tgCons, ev_tgT, ev_wipe_nil, ev_wipe_cons, ev_lc, ev_oLc, ev_add, ev_addIS, ev_add_ll, ev_add_tt, ev_addL, ev_repL, ev_rep, ev_sub, ev_mul, ev_mod, ev_div, ev_pow, ev_lt, ev_le, ev_gt, ev_ge, ev_eq, ev_ne, ev_eqs, ev_nes, ev_eqb, ev_neb, ev_len, ev_lenT, ev_list, ev_listT, ev_tuple, ev_tupleT, ev_int, ev_intb, ev_sum, ev_sum0, ev_max2, ev_min2, ev_sl, ev_slT, ev_slL, ev_slB, ev_divZ, ev_onNx, ev_while, ev_eq_li, ev_ne_li, ev_eq_self, ev_ne_self, ev_eq_selfT, ev_ne_selfT, ev_ne_nil, ev_eq_nil, ev_sorted_i, decide_true, decide_false, List.nil_append, List.cons_append, ev_ix, ev_ixT, ev_ixB, ev_ixBT, ev_retL]
  exact ⟨des, rfl, by omega, hg2⟩
theorem counts_ok (ns : List Int) : ∃ a b c : Nat, f_l_counts [.list (ns.map .int)] = some (.list [.int (a : Nat), .int (b : Nat), .int (c : Nat)]) ∧ a ≤ 4 ∧ b ≤ 5 ∧ c ≤ 6 := by
  rw [fe_l_counts]
  unfold b_l_counts
  have c0 : f_l_at [.list (ns.map .int), .int 0] = some (.int (atZ ns 0)) := at_ok (by decide) (by decide)
  obtain ⟨x0, a0, a1⟩ := mixZ_ok (n := atZ ns 0) (p := 1) (by decide) (by decide)
  generalize mixZ (atZ ns 0) 1 = d at x0 a0 a1
  have z4 : (0 : Int) < 4 := by decide
  have z4' : (4 : Int) < 2 ^ 250 := by decide
  have z5 : (0 : Int) < 5 := by decide
  have z20 : (0 : Int) < 20 := by decide
  have z20' : (20 : Int) < 2 ^ 250 := by decide
  have z6 : (0 : Int) < 6 := by decide
  simp only [ev_bs, ev_bn, ev_ms, ev_mn, ev_g0, ev_gs, ev_s0, ev_ss, ev_bn1, ev_bn2, ev_seq, ev_seq_nx, ev_seq_rt, ev_seq_bk, ev_seq_ct, ev_nil, ev_brk, ev_cnt, ev_if, ev_if_t, ev_if_f, ev_set, ev_oset, ev_setL, ev_osetL, ev_drop, ev_odrop, ev_ret, ev_oret, ev_retN, ev_retL, ev_oretL, ev_orun, ev_orunN, ev_orunN_nx, ev_fz, ev_fz_l, ev_fz_v, ev_app, ev_app_s, ev_clear, ev_clear_s, ev_oNx, ev_asg, ev_asg_s, ev_par, ev_par_s, ev_aug, ev_aug_s, ev_setIx, ev_setIx_s, ev_augIx, ev_for, ev_ofor, ev_V, ev_L, ev_B, ev_rdV, ev_rdLv, ev_rdLl, ev_rdBv, ev_rdBb, ev_C, ev_e2, ev_o2, ev_e1, ev_e3, ev_o3, ev_pN, ev_pS, ev_oPS, ev_aNil, ev_aCons, ev_oCons, ev_tup, ev_lst, ev_oLst, ev_scal, ev_scal_i, ev_scal_s, ev_scal_b, ev_neg, ev_oNeg, ev_tB, ev_asB, ev_tNot, ev_tAnd, ev_tOr, ev_oAnd_t, ev_oAnd_f, ev_oOr_t, ev_oOr_f, ev_eAnd, ev_eOr, ev_oAndD_t, ev_oAndD_f, ev_oOrD_t, ev_oOrD_f, ev_eNot, ev_oNot, ev_isi, ev_isi_ii, ev_isi_ib, ev_isi_il, ev_isi_it, ev_isi_is, ev_isi_ll, ev_isi_lt, ev_isi_li, ev_isi_lb, ev_isi_tt, ev_isi_tl, ev_isi_ss, ev_isi_bb, ev_isi_bi, ev_isN, ev_notN, ev_oIsN_n, ev_oIsN_i, ev_oIsN_l, ev_oIsN_t, ev_oNotN_n, ev_oNotN_i, ev_oNotN_l, ev_oNotN_t, ev_rev, ev_gRev, ev_iAny, ev_oAny_l, ev_oAny_t, ev_iSeqB, ev_oSeqB, ev_iEnum, ev_oEnum, ev_iZip, ev_oZip_ll, ev_oZip_tt, ev_oZip_lt, ev_oZip_tl, ev_iRng1, ev_rng1_s, ev_iRng2, ev_rng2_s, ev_tgN, ev_tgNil, ev_tgCons, ev_tgT, ev_wipe_nil, ev_wipe_cons, ev_lc, ev_oLc, ev_add, ev_addIS, ev_add_ll, ev_add_tt, ev_addL, ev_repL, ev_rep, ev_sub, ev_mul, ev_mod, ev_div, ev_pow, ev_lt, ev_le, ev_gt, ev_ge, ev_eq, ev_ne, ev_eqs, ev_nes, ev_eqb, ev_neb, ev_len, ev_lenT, ev_list, ev_listT, ev_tuple, ev_tupleT, ev_int, ev_intb, ev_sum, ev_sum0, ev_max2, ev_min2, ev_sl, ev_slT, ev_slL, ev_slB, ev_divZ, ev_onNx, ev_while, ev_eq_li, ev_ne_li, ev_eq_self, ev_ne_self, ev_eq_selfT, ev_ne_selfT, ev_ne_nil, ev_eq_nil, ev_sorted_i, decide_true, decide_false, List.nil_append, List.cons_append, ev_ix, ev_ixT, ev_ixB, ev_ixBT, c0, x0, z4, z4', z5, z20, z20', z6]
  refine ⟨(1 + d % 4).toNat, (1 + d / 4 % 5).toNat, (1 + d / 20 % 6).toNat, ?_, by omega, by omega, by omega⟩
  rw [show (((1 + d % 4).toNat : Nat) : Int) = 1 + d % 4 by omega, show (((1 + d / 4 % 5).toNat : Nat) : Int) = 1 + d / 4 % 5 by omega, show (((1 + d / 20 % 6).toNat : Nat) : Int) = 1 + d / 20 % 6 by omega]
theorem book_ok (ns : List Int) {a b c : Nat} (ha : a ≤ 4) (hb : b ≤ 5) (hc : c ≤ 6) : ∃ bk : Bk.Book, f_l_book [.list (ns.map .int), .list [.int (a : Nat), .int (b : Nat), .int (c : Nat)]] = some (bkD bk) ∧ GB bk := by
  rw [fe_l_book]
  unfold b_l_book
  have c0 : f_l_at [.list (ns.map .int), .int 0] = some (.int (atZ ns 0)) := at_ok (by decide) (by decide)
  obtain ⟨x0, a0, a1⟩ := mixZ_ok (n := atZ ns 0) (p := 2) (by decide) (by decide)
  generalize mixZ (atZ ns 0) 2 = d at x0 a0 a1
  have z2 : (0 : Int) < 2 := by decide
  have i0 : atI [PyData.int (a : Nat), PyData.int (b : Nat), PyData.int (c : Nat)] 0 = some (.int (a : Nat)) := rfl
  have i1 : atI [PyData.int (a : Nat), PyData.int (b : Nat), PyData.int (c : Nat)] 1 = some (.int (b : Nat)) := rfl
  have i2 : atI [PyData.int (a : Nat), PyData.int (b : Nat), PyData.int (c : Nat)] 2 = some (.int (c : Nat)) := rfl
  obtain ⟨m, h1, m0, m1⟩ : ∃ m : Int, atI [PyData.int 7, PyData.int T23] (d % 2) = some (.int m) ∧ 0 < m ∧ m ≤ T23 := by
    have : d % 2 = 0 ∨ d % 2 = 1 := by omega
    rcases this with h | h <;> rw [h]
    · exact ⟨7, rfl, by decide, by decide⟩
    · exact ⟨T23, rfl, by decide, by decide⟩
  obtain ⟨m', h2, k0, k1⟩ : ∃ m : Int, atI [PyData.int T23, PyData.int 7] (d % 2) = some (.int m) ∧ 0 < m ∧ m ≤ T23 := by
    have : d % 2 = 0 ∨ d % 2 = 1 := by omega
    rcases this with h | h <;> rw [h]
    · exact ⟨T23, rfl, by decide, by decide⟩
    · exact ⟨7, rfl, by decide, by decide⟩
  obtain ⟨its, f1, l1, g1⟩ := items_ok ns (n := a) (m := m) ha m0 m1
  obtain ⟨rus, f2, l2, g2⟩ := rules_ok ns (its := its) (n := b) (m := m') (by omega) g1 hb k0 k1
  obtain ⟨des, f3, l3, g3⟩ := deeds_ok ns (its := its) (n := c) (by omega) hc
  simp only [ev_bs, ev_bn, ev_ms, ev_mn, ev_g0, ev_gs, ev_s0, ev_ss, ev_bn1, ev_bn2, ev_seq, ev_seq_nx, ev_seq_rt, ev_seq_bk, ev_seq_ct, ev_nil, ev_brk, ev_cnt, ev_if, ev_if_t, ev_if_f, ev_set, ev_oset, ev_setL, ev_osetL, ev_drop, ev_odrop, ev_ret, ev_oret, ev_retN, ev_retL, ev_oretL, ev_orun, ev_orunN, ev_orunN_nx, ev_fz, ev_fz_l, ev_fz_v, ev_app, ev_app_s, ev_clear, ev_clear_s, ev_oNx, ev_asg, ev_asg_s, ev_par, ev_par_s, ev_aug, ev_aug_s, ev_setIx, ev_setIx_s, ev_augIx, ev_for, ev_ofor, ev_V, ev_L, ev_B, ev_rdV, ev_rdLv, ev_rdLl, ev_rdBv, ev_rdBb, ev_C, ev_e2, ev_o2, ev_e1, ev_e3, ev_o3, ev_pN, ev_pS, ev_oPS, ev_aNil, ev_aCons, ev_oCons, ev_tup, ev_lst, ev_oLst, ev_scal, ev_scal_i, ev_scal_s, ev_scal_b, ev_neg, ev_oNeg, ev_tB, ev_asB, ev_tNot, ev_tAnd, ev_tOr, ev_oAnd_t, ev_oAnd_f, ev_oOr_t, ev_oOr_f, ev_eAnd, ev_eOr, ev_oAndD_t, ev_oAndD_f, ev_oOrD_t, ev_oOrD_f, ev_eNot, ev_oNot, ev_isi, ev_isi_ii, ev_isi_ib, ev_isi_il, ev_isi_it, ev_isi_is, ev_isi_ll, ev_isi_lt, ev_isi_li, ev_isi_lb, ev_isi_tt, ev_isi_tl, ev_isi_ss, ev_isi_bb, ev_isi_bi, ev_isN, ev_notN, ev_oIsN_n, ev_oIsN_i, ev_oIsN_l, ev_oIsN_t, ev_oNotN_n, ev_oNotN_i, ev_oNotN_l, ev_oNotN_t, ev_rev, ev_gRev, ev_iAny, ev_oAny_l, ev_oAny_t, ev_iSeqB, ev_oSeqB, ev_iEnum, ev_oEnum, ev_iZip, ev_oZip_ll, ev_oZip_tt, ev_oZip_lt, ev_oZip_tl, ev_iRng1, ev_rng1_s, ev_iRng2, ev_rng2_s, ev_tgN, ev_tgNil, ev_tgCons, ev_tgT, ev_wipe_nil, ev_wipe_cons, ev_lc, ev_oLc, ev_add, ev_addIS, ev_add_ll, ev_add_tt, ev_addL, ev_repL, ev_rep, ev_sub, ev_mul, ev_mod, ev_div, ev_pow, ev_lt, ev_le, ev_gt, ev_ge, ev_eq, ev_ne, ev_eqs, ev_nes, ev_eqb, ev_neb, ev_len, ev_lenT, ev_list, ev_listT, ev_tuple, ev_tupleT, ev_int, ev_intb, ev_sum, ev_sum0, ev_max2, ev_min2, ev_sl, ev_slT, ev_slL, ev_slB, ev_divZ, ev_onNx, ev_while, ev_eq_li, ev_ne_li, ev_eq_self, ev_ne_self, ev_eq_selfT, ev_ne_selfT, ev_ne_nil, ev_eq_nil, ev_sorted_i, decide_true, decide_false, List.nil_append, List.cons_append, ev_ix, ev_ixT, ev_ixB, ev_ixBT, c0, x0, z2, i0, i1, i2, p10, q23, b23, h1, h2, f1, f2, f3]
  exact ⟨⟨its, rus, des⟩, rfl, g1, g2, g3, by dsimp only; omega, by dsimp only; omega, by dsimp only; omega⟩
end DL
set_option Elab.async false
set_option linter.all false
set_option maxRecDepth 100000
set_option maxHeartbeats 4000000
set_option exponentiation.threshold 10000
namespace DL
open PySem PySem.Spec L2
open Bk (okS)
/-! K15M: what k15's defs give -/
theorem at0 {α : Type} {f : α → D} {l : List α} {k : Nat} {a : α} (h : l[k]? = some a) : atI (l.map f) (0 + (k : Int)) = some (f a) := by
  have hk := (List.getElem?_eq_some_iff.mp h).1
  rw [ev_atm (by omega) (by omega), Int.zero_add, Int.toNat_natCast, h]; rfl
theorem Sz.sum {a : Nat} : ∀ (l : List Int), (∀ x ∈ l, Sz a x) → Sz (a + l.length) l.sum
  | [], _ => by
    show (0 : Int).natAbs < _
    exact Nat.pow_pos (by decide)
  | x :: l, h => by
    have h1 := h x List.mem_cons_self
    have h2 := Sz.sum l fun y hy => h y (List.mem_cons_of_mem _ hy)
    rw [List.sum_cons, List.length_cons]
    exact (h1.mono (Nat.le_add_right _ _)).add h2
theorem i_bk0 (bk : Bk.Book) : gIxS (bkD bk) (.int 0) = some (.list (bk.its.map itD)) := rfl
theorem i_bk1 (bk : Bk.Book) : gIxS (bkD bk) (.int 1) = some (.list (bk.rus.map ruD)) := rfl
theorem i_bk2 (bk : Bk.Book) : gIxS (bkD bk) (.int 2) = some (.list (bk.des.map deD)) := rfl
theorem i_ru1 (r : Bk.Rule) : gIxS (ruD r) (.int 1) = some (.tuple (r.co.map .int)) := rfl
theorem i_de0 (d : Bk.Deed) : gIxS (deD d) (.int 0) = some (.str d.nm) := rfl
theorem i_de1 (d : Bk.Deed) : gIxS (deD d) (.int 1) = some (.int d.lo) := rfl
theorem i_de2 (d : Bk.Deed) : gIxS (deD d) (.int 2) = some (.int d.hi) := rfl
theorem i_de3 (d : Bk.Deed) : gIxS (deD d) (.int 3) = some (.tuple (d.ch.map chD)) := rfl
theorem i_ch0 (c : Int × Int) : gIxS (chD c) (.int 0) = some (.int c.1) := rfl
theorem i_ch1 (c : Int × Int) : gIxS (chD c) (.int 1) = some (.int c.2) := rfl
theorem cut_ru (r : Bk.Rule) : gSl (ruD r) (some 1) none = some (.tuple [.tuple (r.co.map .int), .int r.rest]) := rfl
theorem stretched_ok (ns : List Int) {bk : Bk.Book} (hb : GB bk) : ∃ bk' : Bk.Book, f_l_stretched [.list (ns.map .int), bkD bk] = some (bkD bk') ∧ GB bk' := by
  rw [fe_l_stretched]
  unfold b_l_stretched
  obtain ⟨g1, g2, g3, l1, l2, l3⟩ := hb
  have t28 : T28 = 10000000000000000000000000000 := rfl
  simp only [ev_bs, ev_bn, ev_ms, ev_mn, ev_g0, ev_gs, ev_s0, ev_ss, ev_bn1, ev_bn2, ev_seq, ev_seq_nx, ev_seq_rt, ev_seq_bk, ev_seq_ct, ev_nil, ev_brk, ev_cnt, ev_if, ev_if_t, ev_if_f, ev_set, ev_oset, ev_setL, ev_osetL, ev_drop, ev_odrop, ev_ret, ev_oret, ev_retN, ev_retL, ev_oretL, ev_orun, ev_orunN, ev_orunN_nx, ev_fz, ev_fz_l, ev_fz_v, ev_app, ev_app_s, ev_clear, ev_clear_s, ev_oNx, ev_asg, ev_asg_s, ev_par, ev_par_s, ev_aug, ev_aug_s, ev_setIx, ev_setIx_s, ev_augIx, ev_for, ev_ofor, ev_V, ev_L, ev_B, ev_rdV, ev_rdLv, ev_rdLl, ev_rdBv, ev_rdBb, ev_C, ev_e2, ev_o2, ev_e1, ev_e3, ev_o3, ev_pN, ev_pS, ev_oPS, ev_aNil, ev_aCons, ev_oCons, ev_tup, ev_lst, ev_oLst, ev_scal, ev_scal_i, ev_scal_s, ev_scal_b, ev_neg, ev_oNeg, ev_tB, ev_asB, ev_tNot, ev_tAnd, ev_tOr, ev_oAnd_t, ev_oAnd_f, ev_oOr_t, ev_oOr_f, ev_eAnd, ev_eOr, ev_oAndD_t, ev_oAndD_f, ev_oOrD_t, ev_oOrD_f, ev_eNot, ev_oNot, ev_isi, ev_isi_ii, ev_isi_ib, ev_isi_il, ev_isi_it, ev_isi_is, ev_isi_ll, ev_isi_lt, ev_isi_li, ev_isi_lb, ev_isi_tt, ev_isi_tl, ev_isi_ss, ev_isi_bb, ev_isi_bi, ev_isN, ev_notN, ev_oIsN_n, ev_oIsN_i, ev_oIsN_l, ev_oIsN_t, ev_oNotN_n, ev_oNotN_i, ev_oNotN_l, ev_oNotN_t, ev_rev, ev_gRev, ev_iAny, ev_oAny_l, ev_oAny_t, ev_iSeqB, ev_oSeqB, ev_iEnum, ev_oEnum, ev_iZip, ev_oZip_ll, ev_oZip_tt, ev_oZip_lt, ev_oZip_tl, ev_iRng1, ev_rng1_s, ev_iRng2, ev_rng2_s, ev_tgN, ev_tgNil, ev_tgCons, ev_tgT, ev_wipe_nil, ev_wipe_cons, ev_lc, ev_oLc, ev_add, ev_addIS, ev_add_ll, ev_add_tt, ev_addL, ev_repL, ev_rep, ev_sub, ev_mul, ev_mod, ev_div, ev_pow, ev_lt, ev_le, ev_gt, ev_ge, ev_eq, ev_ne, ev_eqs, ev_nes, ev_eqb, ev_neb, ev_len, ev_lenT, ev_list, ev_listT, ev_tuple, ev_tupleT, ev_int, ev_intb, ev_sum, ev_sum0, ev_max2, ev_min2, ev_sl, ev_slT, ev_slL, ev_slB, ev_divZ, ev_onNx, ev_while, ev_eq_li, ev_ne_li, ev_eq_self, ev_ne_self, ev_eq_selfT, ev_ne_selfT, ev_ne_nil, ev_eq_nil, ev_sorted_i, decide_true, decide_false, List.nil_append, List.cons_append, ev_ix, ev_ixT, ev_ixB, ev_ixBT, i_bk2, enum_map]
  obtain ⟨e, he, out, t3, t4, t5, t6, t7, t8, t9, rfl, hl, hg⟩ := forF_inv (g := tgT (tgCons (tgN 3) (tgCons (tgN 4) tgNil))) (b := L_l_stretched_0) (items := bk.des.zipIdx.map fun p => PyData.tuple [.int (p.2 : Nat), deD p.1])
    (env := [.brw (.list (ns.map .int)), .val (bkD bk), .lst [], .und, .und, .und, .und, .und, .und, .und])
    (fun i env => ∃ (out : List Bk.Deed) (t3 t4 t5 t6 t7 t8 t9 : C), env = [.brw (.list (ns.map .int)), .val (bkD bk), .lst (out.map deD), t3, t4, t5, t6, t7, t8, t9] ∧ out.length = i ∧ GD bk.its.length out)
    ⟨[], _, _, _, _, _, _, _, rfl, rfl, fun _ h => nomatch h⟩ (fun i x env hd hI => by
      obtain ⟨out, t3, t4, t5, t6, t7, t8, t9, rfl, hl, hg⟩ := hI
      rw [List.getElem?_map, List.getElem?_zipIdx] at hd
      cases ed : bk.des[i]? with
      | none => rw [ed] at hd; cases hd
      | some d =>
        rw [ed] at hd; cases hd
        have hi : i < 6 := by
          have := (List.getElem?_eq_some_iff.mp ed).1
          omega
        obtain ⟨q1, q2, q3, q4, q5, q6⟩ := g3 d (List.mem_of_getElem? ed)
        refine ⟨_, rfl, ?_⟩
        obtain ⟨f1, x0, x1⟩ := draw_ok ns (k := 400 + ((0 + i : Nat) : Int)) (by omega) (by omega)
        generalize drawZ ns (400 + ((0 + i : Nat) : Int)) = n at f1 x0 x1
        have ln : (((out.map deD).length : Nat) : Int) < 16000000 := by rw [List.length_map]; omega
        have z2 : (0 : Int) < 2 := by decide
        have z2' : (2 : Int) < 2 ^ 250 := by decide
        have z4 : (0 : Int) < 4 := by decide
        have z3 : (0 : Int) < 3 := by decide
        have z3' : (3 : Int) < 2 ^ 250 := by decide
        unfold L_l_stretched_0
        by_cases h : n % 2 = 0
        · have h1 : f_l_at [.list (ns.map .int), .int (5 + ((0 + i : Nat) : Int))] = some (.int (atZ ns (5 + ((0 + i : Nat) : Int)))) := at_ok (by omega) (by omega)
          have h2 : f_l_at [.list (ns.map .int), .int (6 + ((0 + i : Nat) : Int))] = some (.int (atZ ns (6 + ((0 + i : Nat) : Int)))) := at_ok (by omega) (by omega)
          generalize atZ ns (5 + ((0 + i : Nat) : Int)) = x at h1
          generalize atZ ns (6 + ((0 + i : Nat) : Int)) = y at h2
          have m2 : Md 2 := Sz.md (k := 10) (Sz.of (by decide) (by decide))
          have m28 : Md T28 := Sz.md (k := 110) (Sz.of (by decide) (by decide))
          have zz : 0 < 2 * T28 := by decide
          have a0 := Int.emod_nonneg x (b := 2 * T28) (by decide)
          have a1 := Int.emod_lt_of_pos x zz
          obtain ⟨m, hm, m0, m1⟩ : ∃ m : Int, atI [PyData.int T28, PyData.int 1000] (n / 2 % 4 / 3) = some (.int m) ∧ 0 < m ∧ m ≤ T28 := by
            have : n / 2 % 4 / 3 = 0 ∨ n / 2 % 4 / 3 = 1 := by omega
            rcases this with h | h <;> rw [h]
            · exact ⟨T28, rfl, by decide, by decide⟩
            · exact ⟨1000, rfl, by decide, by decide⟩
          have b0 := Int.emod_nonneg y (b := m) (by omega)
          have b1 := Int.emod_lt_of_pos y m0
          have z13 : (0 : Int) < 13 := by decide
          have el : ∀ t0 t1 t2 t3 t4 t5 t6 t7, lcF (tgT (tgCons (tgN 8) (tgCons (tgN 9) tgNil))) (fun _ => some true) (eTup (aCons (e2 gSub (e2 gMod (eV 8) (eC (.int 13))) (eC (.int 6))) (aCons (e2 gSub (e2 gMod (eV 9) (eC (.int 13))) (eC (.int 6))) aNil))) [t0, t1, t2, t3, t4, t5, t6, t7, .und, .und] (d.ch.map chD) =
              some ((d.ch.map fun c => (c.1 % 13 - 6, c.2 % 13 - 6)).map chD) := fun t0 t1 t2 t3 t4 t5 t6 t7 => by
            rw [List.map_map]
            refine lcF_map chD (fun c => chD (c.1 % 13 - 6, c.2 % 13 - 6)) _ ?_
            intro c hm
            refine ⟨_, rfl, rfl, ?_⟩
            simp only [ev_bs, ev_bn, ev_ms, ev_mn, ev_g0, ev_gs, ev_s0, ev_ss, ev_bn1, ev_bn2, ev_seq, ev_seq_nx, ev_seq_rt, ev_seq_bk, ev_seq_ct, ev_nil, ev_brk, ev_cnt, ev_if, ev_if_t, ev_if_f, ev_set, ev_oset, ev_setL, ev_osetL, ev_drop, ev_odrop, ev_ret, ev_oret, ev_retN, ev_retL, ev_oretL, ev_orun, ev_orunN, ev_orunN_nx, ev_fz, ev_fz_l, ev_fz_v, ev_app, ev_app_s, ev_clear, ev_clear_s, ev_oNx, ev_asg, ev_asg_s, ev_par, ev_par_s, ev_aug, ev_aug_s, ev_setIx, ev_setIx_s, ev_augIx, ev_for, ev_ofor, ev_V, ev_L, ev_B, ev_rdV, ev_rdLv, ev_rdLl, ev_rdBv, ev_rdBb, ev_C, ev_e2, ev_o2, ev_e1, ev_e3, ev_o3, ev_pN, ev_pS, ev_oPS, ev_aNil, ev_aCons, ev_oCons, ev_tup, ev_lst, ev_oLst, ev_scal, ev_scal_i, ev_scal_s, ev_scal_b, ev_neg, ev_oNeg, ev_tB, ev_asB, ev_tNot, ev_tAnd, ev_tOr, ev_oAnd_t, ev_oAnd_f, ev_oOr_t, ev_oOr_f, ev_eAnd, ev_eOr, ev_oAndD_t, ev_oAndD_f, ev_oOrD_t, ev_oOrD_f, ev_eNot, ev_oNot, ev_isi, ev_isi_ii, ev_isi_ib, ev_isi_il, ev_isi_it, ev_isi_is, ev_isi_ll, ev_isi_lt, ev_isi_li, ev_isi_lb, ev_isi_tt, ev_isi_tl, ev_isi_ss, ev_isi_bb, ev_isi_bi, ev_isN, ev_notN, ev_oIsN_n, ev_oIsN_i, ev_oIsN_l, ev_oIsN_t, ev_oNotN_n, ev_oNotN_i, ev_oNotN_l, ev_oNotN_t, ev_rev, ev_gRev, ev_iAny, ev_oAny_l, ev_oAny_t, ev_iSeqB, ev_oSeqB, ev_iEnum, ev_oEnum, ev_iZip, ev_oZip_ll, ev_oZip_tt, ev_oZip_lt, ev_oZip_tl, ev_iRng1, ev_rng1_s, ev_iRng2, ev_rng2_s, ev_tgN, ev_tgNil, ev_tgCons, ev_tgT, ev_wipe_nil, ev_wipe_cons, ev_lc, ev_oLc, ev_add, ev_addIS, ev_add_ll, ev_add_tt, ev_addL, ev_repL, ev_rep, ev_sub, ev_mul, ev_mod, ev_div, ev_pow, ev_lt, ev_le, ev_gt, ev_ge, ev_eq, ev_ne, ev_eqs, ev_nes, ev_eqb, ev_neb, ev_len, ev_lenT, ev_list, ev_listT, ev_tuple, ev_tupleT, ev_int, ev_intb, ev_sum, ev_sum0, ev_max2, ev_min2, ev_sl, ev_slT, ev_slL, ev_slB, ev_divZ, ev_onNx, ev_while, ev_eq_li, ev_ne_li, ev_eq_self, ev_ne_self, ev_eq_selfT, ev_ne_selfT, ev_ne_nil, ev_eq_nil, ev_sorted_i, decide_true, decide_false, List.nil_append, List.cons_append, ev_ix, ev_ixT, ev_ixB, ev_ixBT, z13]
            rfl
          simp only [ev_bs, ev_bn, ev_ms, ev_mn, ev_g0, ev_gs, ev_s0, ev_ss, ev_bn1, ev_bn2, ev_seq, ev_seq_nx, ev_seq_rt, ev_seq_bk, ev_seq_ct, ev_nil, ev_brk, ev_cnt, ev_if, ev_if_t, ev_if_f, ev_set, ev_oset, ev_setL, ev_osetL, ev_drop, ev_odrop, ev_ret, ev_oret, ev_retN, ev_retL, ev_oretL, ev_orun, ev_orunN, ev_orunN_nx, ev_fz, ev_fz_l, ev_fz_v, ev_app, ev_app_s, ev_clear, ev_clear_s, ev_oNx, ev_asg, ev_asg_s, ev_par, ev_par_s, ev_aug, ev_aug_s, ev_setIx, ev_setIx_s, ev_augIx, ev_for, ev_ofor, ev_V, ev_L, ev_B, ev_rdV, ev_rdLv, ev_rdLl, ev_rdBv, ev_rdBb, ev_C, ev_e2, ev_o2, ev_e1, ev_e3, ev_o3, ev_pN, ev_pS, ev_oPS, ev_aNil, ev_aCons, ev_oCons, ev_tup, ev_lst, ev_oLst, ev_scal, ev_scal_i, ev_scal_s, ev_scal_b, ev_neg, ev_oNeg, ev_tB, ev_asB, ev_tNot, ev_tAnd, ev_tOr, ev_oAnd_t, ev_oAnd_f, ev_oOr_t, ev_oOr_f, ev_eAnd, ev_eOr, ev_oAndD_t, ev_oAndD_f, ev_oOrD_t, ev_oOrD_f, ev_eNot, ev_oNot, ev_isi, ev_isi_ii, ev_isi_ib, ev_isi_il, ev_isi_it, ev_isi_is, ev_isi_ll, ev_isi_lt, ev_isi_li, ev_isi_lb, ev_isi_tt, ev_isi_tl, ev_isi_ss, ev_isi_bb, ev_isi_bi, ev_isN, ev_notN, ev_oIsN_n, ev_oIsN_i, ev_oIsN_l, ev_oIsN_t, ev_oNotN_n, ev_oNotN_i, ev_oNotN_l, ev_oNotN_t, ev_rev, ev_gRev, ev_iAny, ev_oAny_l, ev_oAny_t, ev_iSeqB, ev_oSeqB, ev_iEnum, ev_oEnum, ev_iZip, ev_oZip_ll, ev_oZip_tt, ev_oZip_lt, ev_oZip_tl, ev_iRng1, ev_rng1_s, ev_iRng2, ev_rng2_s, ev_tgN, ev_tgNil, ev_tgCons, ev_tgT, ev_wipe_nil, ev_wipe_cons, ev_lc, ev_oLc, ev_add, ev_addIS, ev_add_ll, ev_add_tt, ev_addL, ev_repL, ev_rep, ev_sub, ev_mul, ev_mod, ev_div, ev_pow, ev_lt, ev_le, ev_gt, ev_ge, ev_eq, ev_ne, ev_eqs, ev_nes, ev_eqb, ev_neb, ev_len, ev_lenT, ev_list, ev_listT, ev_tuple, ev_tupleT, ev_int, ev_intb, ev_sum, ev_sum0, ev_max2, ev_min2, ev_sl, ev_slT, ev_slL, ev_slB, ev_divZ, ev_onNx, ev_while, ev_eq_li, ev_ne_li, ev_eq_self, ev_ne_self, ev_eq_selfT, ev_ne_selfT, ev_ne_nil, ev_eq_nil, ev_sorted_i, decide_true, decide_false, List.nil_append, List.cons_append, ev_ix, ev_ixT, ev_ixB, ev_ixBT, f1, z2, z2', z3, z3', z4, h, h1, h2, p10, q28, b28, m2, m28, zz, hm, m0, i_de0, i_de3, el, ln]
          refine ⟨out ++ [⟨d.nm, x % (2 * T28) - T28, x % (2 * T28) - T28 + y % m, d.ch.map fun c => (c.1 % 13 - 6, c.2 % 13 - 6)⟩], _, _, _, _, _, _, _, by rw [List.map_append]; rfl, by rw [List.length_append, hl]; rfl, fun q hm => ?_⟩
          rcases List.mem_append.mp hm with h | h
          · exact hg q h
          · rw [List.mem_singleton.mp h]
            refine ⟨q1, (show (d.ch.map _).length = _ by rw [List.length_map]; exact q2), fun c hc => ?_, ?_, ?_, ?_⟩
            · obtain ⟨c', _, rfl⟩ := List.mem_map.mp hc
              exact ⟨Sz.of (by dsimp only; omega) (by dsimp only; omega), Sz.of (by dsimp only; omega) (by dsimp only; omega)⟩
            · dsimp only; omega
            · exact Sz.of (by dsimp only; omega) (by dsimp only; omega)
            · exact Sz.of (by dsimp only; omega) (by dsimp only; omega)
        · simp only [ev_bs, ev_bn, ev_ms, ev_mn, ev_g0, ev_gs, ev_s0, ev_ss, ev_bn1, ev_bn2, ev_seq, ev_seq_nx, ev_seq_rt, ev_seq_bk, ev_seq_ct, ev_nil, ev_brk, ev_cnt, ev_if, ev_if_t, ev_if_f, ev_set, ev_oset, ev_setL, ev_osetL, ev_drop, ev_odrop, ev_ret, ev_oret, ev_retN, ev_retL, ev_oretL, ev_orun, ev_orunN, ev_orunN_nx, ev_fz, ev_fz_l, ev_fz_v, ev_app, ev_app_s, ev_clear, ev_clear_s, ev_oNx, ev_asg, ev_asg_s, ev_par, ev_par_s, ev_aug, ev_aug_s, ev_setIx, ev_setIx_s, ev_augIx, ev_for, ev_ofor, ev_V, ev_L, ev_B, ev_rdV, ev_rdLv, ev_rdLl, ev_rdBv, ev_rdBb, ev_C, ev_e2, ev_o2, ev_e1, ev_e3, ev_o3, ev_pN, ev_pS, ev_oPS, ev_aNil, ev_aCons, ev_oCons, ev_tup, ev_lst, ev_oLst, ev_scal, ev_scal_i, ev_scal_s, ev_scal_b, ev_neg, ev_oNeg, ev_tB, ev_asB, ev_tNot, ev_tAnd, ev_tOr, ev_oAnd_t, ev_oAnd_f, ev_oOr_t, ev_oOr_f, ev_eAnd, ev_eOr, ev_oAndD_t, ev_oAndD_f, ev_oOrD_t, ev_oOrD_f, ev_eNot, ev_oNot, ev_isi, ev_isi_ii, ev_isi_ib, ev_isi_il, ev_isi_it, ev_isi_is, ev_isi_ll, ev_isi_lt, ev_isi_li, ev_isi_lb, ev_isi_tt, ev_isi_tl, ev_isi_ss, ev_isi_bb, ev_isi_bi, ev_isN, ev_notN, ev_oIsN_n, ev_oIsN_i, ev_oIsN_l, ev_oIsN_t, ev_oNotN_n, ev_oNotN_i, ev_oNotN_l, ev_oNotN_t, ev_rev, ev_gRev, ev_iAny, ev_oAny_l, ev_oAny_t, ev_iSeqB, ev_oSeqB, ev_iEnum, ev_oEnum, ev_iZip, ev_oZip_ll, ev_oZip_tt, ev_oZip_lt, ev_oZip_tl, ev_iRng1, ev_rng1_s, ev_iRng2, ev_rng2_s, ev_tgN, ev_tgNil, ev_tgCons, ev_tgT, ev_wipe_nil, ev_wipe_cons, ev_lc, ev_oLc, ev_add, ev_addIS, ev_add_ll, ev_add_tt, ev_addL, ev_repL, ev_rep, ev_sub, ev_mul, ev_mod, ev_div, ev_pow, ev_lt, ev_le, ev_gt, ev_ge, ev_eq, ev_ne, ev_eqs, ev_nes, ev_eqb, ev_neb, ev_len, ev_lenT, ev_list, ev_listT, ev_tuple, ev_tupleT, ev_int, ev_intb, ev_sum, ev_sum0, ev_max2, ev_min2, ev_sl, ev_slT, ev_slL, ev_slB, ev_divZ, ev_onNx, ev_while, ev_eq_li, ev_ne_li, ev_eq_self, ev_ne_self, ev_eq_selfT, ev_ne_selfT, ev_ne_nil, ev_eq_nil, ev_sorted_i, decide_true, decide_false, List.nil_append, List.cons_append, ev_ix, ev_ixT, ev_ixB, ev_ixBT, f1, z2, h, ln]
          refine ⟨out ++ [d], _, _, _, _, _, _, _, by rw [List.map_append]; rfl, by rw [List.length_append, hl]; rfl, fun q hm => ?_⟩
          rcases List.mem_append.mp hm with h | h
          · exact hg q h
          · rw [List.mem_singleton.mp h]
            exact ⟨q1, q2, q3, q4, q5, q6⟩)
  have lz : (bk.des.zipIdx.map fun p => PyData.tuple [.int (p.2 : Nat), deD p.1]).length ≤ 6 := by rw [List.length_map, List.length_zipIdx]; omega
  rw [he]
  simp only [ev_bs, ev_bn, ev_ms, ev_mn, ev_g0, ev_gs, ev_s0, ev_ss, ev_bn1, ev_bn2, ev_seq, ev_seq_nx, ev_seq_rt, ev_seq_bk, ev_seq_ct, ev_nil, ev_brk, ev_cnt, ev_if, ev_if_t, ev_if_f, ev_set, ev_oset, ev_setL, ev_osetL, ev_drop, ev_odrop, ev_ret, ev_oret, ev_retN, ev_retL, ev_oretL, ev_orun, ev_orunN, ev_orunN_nx, ev_fz, ev_fz_l, ev_fz_v, ev_app, ev_app_s, ev_clear, ev_clear_s, ev_oNx, ev_asg, ev_asg_s, ev_par, ev_par_s, ev_aug, ev_aug_s, ev_setIx, ev_setIx_s, ev_augIx, ev_for, ev_ofor, ev_V, ev_L, ev_B, ev_rdV, ev_rdLv, ev_rdLl, ev_rdBv, ev_rdBb, ev_C, ev_e2, ev_o2, ev_e1, ev_e3, ev_o3, ev_pN, ev_pS, ev_oPS, ev_aNil, ev_aCons, ev_oCons, ev_tup, ev_lst, ev_oLst, ev_scal, ev_scal_i, ev_scal_s, ev_scal_b, ev_neg, ev_oNeg, ev_tB, ev_asB, ev_tNot, ev_tAnd, ev_tOr, ev_oAnd_t, ev_oAnd_f, ev_oOr_t, ev_oOr_f, ev_eAnd, ev_eOr, ev_oAndD_t, ev_oAndD_f, ev_oOrD_t, ev_oOrD_f, ev_eNot, ev_oNot, ev_isi, ev_isi_ii, ev_isi_ib, ev_isi_il, ev_isi_it, ev_isi_is, ev_isi_ll, ev_isi_lt, ev_isi_li, ev_isi_lb, ev_isi_tt, ev_isi_tl, ev_isi_ss, ev_isi_bb, ev_isi_bi, ev_isN, ev_notN, ev_oIsN_n, ev_oIsN_i, ev_oIsN_l, ev_oIsN_t, ev_oNotN_n, ev_oNotN_i, ev_oNotN_l, ev_oNotN_t, ev_rev, ev_gRev, ev_iAny, ev_oAny_l, ev_oAny_t, ev_iSeqB, ev_oSeqB, ev_iEnum, ev_oEnum, ev_iZip, ev_oZip_ll, ev_oZip_tt, ev_oZip_lt, ev_oZip_tl, ev_iRng1, ev_rng1_s, ev_iRng2, ev_rng2_s, ev_tgN, ev_tgNil, ev_tgCons, ev_tgT, ev_wipe_nil, ev_wipe_cons, ev_lc, ev_oLc, ev_add, ev_addIS, ev_add_ll, ev_add_tt, ev_addL, ev_repL, ev_rep, ev_sub, ev_mul, ev_mod, ev_div, ev_pow, ev_lt, ev_le, ev_gt, ev_ge, ev_eq, ev_ne, ev_eqs, ev_nes, ev_eqb, ev_neb, ev_len, ev_lenT, ev_list, ev_listT, ev_tuple, ev_tupleT, ev_int, ev_intb, ev_sum, ev_sum0, ev_max2, ev_min2, ev_sl, ev_slT, ev_slL, ev_slB, ev_divZ, ev_onNx, ev_while, ev_eq_li, ev_ne_li, ev_eq_self, ev_ne_self, ev_eq_selfT, ev_ne_selfT, ev_ne_nil, ev_eq_nil, ev_sorted_i, decide_true, decide_false, List.nil_append, List.cons_append, ev_ix, ev_ixT, ev_ixB, ev_ixBT, i_bk0, i_bk1]
  exact ⟨⟨bk.its, bk.rus, out⟩, rfl, g1, g2, hg, l1, l2, by dsimp only; omega⟩
section
variable {bk : Bk.Book} {k j : Nat} {r : Bk.Rule} {d : Bk.Deed} (hb : GB bk) (hr : bk.rus[k]? = some r) (hd : bk.des[j]? = some d)
theorem value_ok {co st : List Int} {rest : Int} (h1 : ∀ c ∈ co, Sz 80 c) (h2 : ∀ s ∈ st, Sz 400 s) : f_value_of [.tuple [.tuple (co.map .int), .int rest], .tuple (st.map .int)] = some (.int (Bk.dot co st + rest)) := by
  rw [fe_value_of]
  unfold b_value_of
  have i0 : atI [PyData.tuple (co.map .int), PyData.int rest] 0 = some (.tuple (co.map .int)) := rfl
  have i1 : atI [PyData.tuple (co.map .int), PyData.int rest] 1 = some (.int rest) := rfl
  have el : lcF (tgT (tgCons (tgN 2) (tgCons (tgN 3) tgNil))) (fun _ => some true) (e2 gMul (eV 2) (eV 3)) [.val (.tuple [.tuple (co.map .int), .int rest]), .val (.tuple (st.map .int)), .und, .und] (zipD (co.map .int) (st.map .int)) = some (((co.zip st).map fun p => p.1 * p.2).map .int) := by
    rw [zip_map, List.map_map]
    refine lcF_map (fun p : Int × Int => PyData.tuple [.int p.1, .int p.2]) (fun p => .int (p.1 * p.2)) _ ?_
    intro p hm
    have mm := List.of_mem_zip hm
    have n1 := (h1 _ mm.1).md
    have n2 := (h2 _ mm.2).md
    refine ⟨_, rfl, rfl, ?_⟩
    simp only [ev_bs, ev_bn, ev_ms, ev_mn, ev_g0, ev_gs, ev_s0, ev_ss, ev_bn1, ev_bn2, ev_seq, ev_seq_nx, ev_seq_rt, ev_seq_bk, ev_seq_ct, ev_nil, ev_brk, ev_cnt, ev_if, ev_if_t, ev_if_f, ev_set, ev_oset, ev_setL, ev_osetL, ev_drop, ev_odrop, ev_ret, ev_oret, ev_retN, ev_retL, ev_oretL, ev_orun, ev_orunN, ev_orunN_nx, ev_fz, ev_fz_l, ev_fz_v, ev_app, ev_app_s, ev_clear, ev_clear_s, ev_oNx, ev_asg, ev_asg_s, ev_par, ev_par_s, ev_aug, ev_aug_s, ev_setIx, ev_setIx_s, ev_augIx, ev_for, ev_ofor, ev_V, ev_L, ev_B, ev_rdV, ev_rdLv, ev_rdLl, ev_rdBv, ev_rdBb, ev_C, ev_e2, ev_o2, ev_e1, ev_e3, ev_o3, ev_pN, ev_pS, ev_oPS, ev_aNil, ev_aCons, ev_oCons, ev_tup, ev_lst, ev_oLst, ev_scal, ev_scal_i, ev_scal_s, ev_scal_b, ev_neg, ev_oNeg, ev_tB, ev_asB, ev_tNot, ev_tAnd, ev_tOr, ev_oAnd_t, ev_oAnd_f, ev_oOr_t, ev_oOr_f, ev_eAnd, ev_eOr, ev_oAndD_t, ev_oAndD_f, ev_oOrD_t, ev_oOrD_f, ev_eNot, ev_oNot, ev_isi, ev_isi_ii, ev_isi_ib, ev_isi_il, ev_isi_it, ev_isi_is, ev_isi_ll, ev_isi_lt, ev_isi_li, ev_isi_lb, ev_isi_tt, ev_isi_tl, ev_isi_ss, ev_isi_bb, ev_isi_bi, ev_isN, ev_notN, ev_oIsN_n, ev_oIsN_i, ev_oIsN_l, ev_oIsN_t, ev_oNotN_n, ev_oNotN_i, ev_oNotN_l, ev_oNotN_t, ev_rev, ev_gRev, ev_iAny, ev_oAny_l, ev_oAny_t, ev_iSeqB, ev_oSeqB, ev_iEnum, ev_oEnum, ev_iZip, ev_oZip_ll, ev_oZip_tt, ev_oZip_lt, ev_oZip_tl, ev_iRng1, ev_rng1_s, ev_iRng2, ev_rng2_s, ev_tgN, ev_tgNil, ev_tgCons, ev_tgT, ev_wipe_nil, ev_wipe_cons, ev_lc, ev_oLc, ev_add, ev_addIS, ev_add_ll, ev_add_tt, ev_addL, ev_repL, ev_rep, ev_sub, ev_mul, ev_mod, ev_div, ev_pow, ev_lt, ev_le, ev_gt, ev_ge, ev_eq, ev_ne, ev_eqs, ev_nes, ev_eqb, ev_neb, ev_len, ev_lenT, ev_list, ev_listT, ev_tuple, ev_tupleT, ev_int, ev_intb, ev_sum, ev_sum0, ev_max2, ev_min2, ev_sl, ev_slT, ev_slL, ev_slB, ev_divZ, ev_onNx, ev_while, ev_eq_li, ev_ne_li, ev_eq_self, ev_ne_self, ev_eq_selfT, ev_ne_selfT, ev_ne_nil, ev_eq_nil, ev_sorted_i, decide_true, decide_false, List.nil_append, List.cons_append, ev_ix, ev_ixT, ev_ixB, ev_ixBT, n1, n2]
  simp only [ev_bs, ev_bn, ev_ms, ev_mn, ev_g0, ev_gs, ev_s0, ev_ss, ev_bn1, ev_bn2, ev_seq, ev_seq_nx, ev_seq_rt, ev_seq_bk, ev_seq_ct, ev_nil, ev_brk, ev_cnt, ev_if, ev_if_t, ev_if_f, ev_set, ev_oset, ev_setL, ev_osetL, ev_drop, ev_odrop, ev_ret, ev_oret, ev_retN, ev_retL, ev_oretL, ev_orun, ev_orunN, ev_orunN_nx, ev_fz, ev_fz_l, ev_fz_v, ev_app, ev_app_s, ev_clear, ev_clear_s, ev_oNx, ev_asg, ev_asg_s, ev_par, ev_par_s, ev_aug, ev_aug_s, ev_setIx, ev_setIx_s, ev_augIx, ev_for, ev_ofor, ev_V, ev_L, ev_B, ev_rdV, ev_rdLv, ev_rdLl, ev_rdBv, ev_rdBb, ev_C, ev_e2, ev_o2, ev_e1, ev_e3, ev_o3, ev_pN, ev_pS, ev_oPS, ev_aNil, ev_aCons, ev_oCons, ev_tup, ev_lst, ev_oLst, ev_scal, ev_scal_i, ev_scal_s, ev_scal_b, ev_neg, ev_oNeg, ev_tB, ev_asB, ev_tNot, ev_tAnd, ev_tOr, ev_oAnd_t, ev_oAnd_f, ev_oOr_t, ev_oOr_f, ev_eAnd, ev_eOr, ev_oAndD_t, ev_oAndD_f, ev_oOrD_t, ev_oOrD_f, ev_eNot, ev_oNot, ev_isi, ev_isi_ii, ev_isi_ib, ev_isi_il, ev_isi_it, ev_isi_is, ev_isi_ll, ev_isi_lt, ev_isi_li, ev_isi_lb, ev_isi_tt, ev_isi_tl, ev_isi_ss, ev_isi_bb, ev_isi_bi, ev_isN, ev_notN, ev_oIsN_n, ev_oIsN_i, ev_oIsN_l, ev_oIsN_t, ev_oNotN_n, ev_oNotN_i, ev_oNotN_l, ev_oNotN_t, ev_rev, ev_gRev, ev_iAny, ev_oAny_l, ev_oAny_t, ev_iSeqB, ev_oSeqB, ev_iEnum, ev_oEnum, ev_iZip, ev_oZip_ll, ev_oZip_tt, ev_oZip_lt, ev_oZip_tl, ev_iRng1, ev_rng1_s, ev_iRng2, ev_rng2_s, ev_tgN, ev_tgNil, ev_tgCons, ev_tgT, ev_wipe_nil, ev_wipe_cons, ev_lc, ev_oLc, ev_add, ev_addIS, ev_add_ll, ev_add_tt, ev_addL, ev_repL, ev_rep, ev_sub, ev_mul, ev_mod, ev_div, ev_pow, ev_lt, ev_le, ev_gt, ev_ge, ev_eq, ev_ne, ev_eqs, ev_nes, ev_eqb, ev_neb, ev_len, ev_lenT, ev_list, ev_listT, ev_tuple, ev_tupleT, ev_int, ev_intb, ev_sum, ev_sum0, ev_max2, ev_min2, ev_sl, ev_slT, ev_slL, ev_slB, ev_divZ, ev_onNx, ev_while, ev_eq_li, ev_ne_li, ev_eq_self, ev_ne_self, ev_eq_selfT, ev_ne_selfT, ev_ne_nil, ev_eq_nil, ev_sorted_i, decide_true, decide_false, List.nil_append, List.cons_append, ev_ix, ev_ixT, ev_ixB, ev_ixBT, i0, i1, el]
  rfl
include hb hr in
theorem spare_ok {st : List Int} (h2 : ∀ s ∈ st, Sz 400 s) : f_spare [bkD bk, .int (0 + (k : Int)), .tuple (st.map .int)] = some (.int (Bk.dot r.co st + r.rest)) := by
  rw [fe_spare]
  unfold b_spare
  have a1 : atI (bk.rus.map ruD) (0 + (k : Int)) = some (ruD r) := at0 hr
  have v1 := value_ok (co := r.co) (st := st) (rest := r.rest) (hb.2.1 r (List.mem_of_getElem? hr)).2.2.1 h2
  simp only [ev_bs, ev_bn, ev_ms, ev_mn, ev_g0, ev_gs, ev_s0, ev_ss, ev_bn1, ev_bn2, ev_seq, ev_seq_nx, ev_seq_rt, ev_seq_bk, ev_seq_ct, ev_nil, ev_brk, ev_cnt, ev_if, ev_if_t, ev_if_f, ev_set, ev_oset, ev_setL, ev_osetL, ev_drop, ev_odrop, ev_ret, ev_oret, ev_retN, ev_retL, ev_oretL, ev_orun, ev_orunN, ev_orunN_nx, ev_fz, ev_fz_l, ev_fz_v, ev_app, ev_app_s, ev_clear, ev_clear_s, ev_oNx, ev_asg, ev_asg_s, ev_par, ev_par_s, ev_aug, ev_aug_s, ev_setIx, ev_setIx_s, ev_augIx, ev_for, ev_ofor, ev_V, ev_L, ev_B, ev_rdV, ev_rdLv, ev_rdLl, ev_rdBv, ev_rdBb, ev_C, ev_e2, ev_o2, ev_e1, ev_e3, ev_o3, ev_pN, ev_pS, ev_oPS, ev_aNil, ev_aCons, ev_oCons, ev_tup, ev_lst, ev_oLst, ev_scal, ev_scal_i, ev_scal_s, ev_scal_b, ev_neg, ev_oNeg, ev_tB, ev_asB, ev_tNot, ev_tAnd, ev_tOr, ev_oAnd_t, ev_oAnd_f, ev_oOr_t, ev_oOr_f, ev_eAnd, ev_eOr, ev_oAndD_t, ev_oAndD_f, ev_oOrD_t, ev_oOrD_f, ev_eNot, ev_oNot, ev_isi, ev_isi_ii, ev_isi_ib, ev_isi_il, ev_isi_it, ev_isi_is, ev_isi_ll, ev_isi_lt, ev_isi_li, ev_isi_lb, ev_isi_tt, ev_isi_tl, ev_isi_ss, ev_isi_bb, ev_isi_bi, ev_isN, ev_notN, ev_oIsN_n, ev_oIsN_i, ev_oIsN_l, ev_oIsN_t, ev_oNotN_n, ev_oNotN_i, ev_oNotN_l, ev_oNotN_t, ev_rev, ev_gRev, ev_iAny, ev_oAny_l, ev_oAny_t, ev_iSeqB, ev_oSeqB, ev_iEnum, ev_oEnum, ev_iZip, ev_oZip_ll, ev_oZip_tt, ev_oZip_lt, ev_oZip_tl, ev_iRng1, ev_rng1_s, ev_iRng2, ev_rng2_s, ev_tgN, ev_tgNil, ev_tgCons, ev_tgT, ev_wipe_nil, ev_wipe_cons, ev_lc, ev_oLc, ev_add, ev_addIS, ev_add_ll, ev_add_tt, ev_addL, ev_repL, ev_rep, ev_sub, ev_mul, ev_mod, ev_div, ev_pow, ev_lt, ev_le, ev_gt, ev_ge, ev_eq, ev_ne, ev_eqs, ev_nes, ev_eqb, ev_neb, ev_len, ev_lenT, ev_list, ev_listT, ev_tuple, ev_tupleT, ev_int, ev_intb, ev_sum, ev_sum0, ev_max2, ev_min2, ev_sl, ev_slT, ev_slL, ev_slB, ev_divZ, ev_onNx, ev_while, ev_eq_li, ev_ne_li, ev_eq_self, ev_ne_self, ev_eq_selfT, ev_ne_selfT, ev_ne_nil, ev_eq_nil, ev_sorted_i, decide_true, decide_false, List.nil_append, List.cons_append, ev_ix, ev_ixT, ev_ixB, ev_ixBT, i_bk1, a1, cut_ru, v1]
include hb hr hd in
theorem gain_ok : f_gain [bkD bk, .int (0 + (k : Int)), .int (0 + (j : Int))] = some (.tuple [.int (Bk.slope r.co d.ch), .int (Bk.beside r.co d.ch)]) := by
  rw [fe_gain]
  unfold b_gain
  have a1 : atI (bk.rus.map ruD) (0 + (k : Int)) = some (ruD r) := at0 hr
  have a2 : atI (bk.des.map deD) (0 + (j : Int)) = some (deD d) := at0 hd
  have hco := (hb.2.1 r (List.mem_of_getElem? hr)).2.2.1
  have hch := (hb.2.2.1 d (List.mem_of_getElem? hd)).2.2.1
  have ez : zipD (r.co.map .int) (d.ch.map chD) = (r.co.zip d.ch).map fun p => PyData.tuple [.int p.1, chD p.2] := zip_map _ _ _ _
  simp only [ev_bs, ev_bn, ev_ms, ev_mn, ev_g0, ev_gs, ev_s0, ev_ss, ev_bn1, ev_bn2, ev_seq, ev_seq_nx, ev_seq_rt, ev_seq_bk, ev_seq_ct, ev_nil, ev_brk, ev_cnt, ev_if, ev_if_t, ev_if_f, ev_set, ev_oset, ev_setL, ev_osetL, ev_drop, ev_odrop, ev_ret, ev_oret, ev_retN, ev_retL, ev_oretL, ev_orun, ev_orunN, ev_orunN_nx, ev_fz, ev_fz_l, ev_fz_v, ev_app, ev_app_s, ev_clear, ev_clear_s, ev_oNx, ev_asg, ev_asg_s, ev_par, ev_par_s, ev_aug, ev_aug_s, ev_setIx, ev_setIx_s, ev_augIx, ev_for, ev_ofor, ev_V, ev_L, ev_B, ev_rdV, ev_rdLv, ev_rdLl, ev_rdBv, ev_rdBb, ev_C, ev_e2, ev_o2, ev_e1, ev_e3, ev_o3, ev_pN, ev_pS, ev_oPS, ev_aNil, ev_aCons, ev_oCons, ev_tup, ev_lst, ev_oLst, ev_scal, ev_scal_i, ev_scal_s, ev_scal_b, ev_neg, ev_oNeg, ev_tB, ev_asB, ev_tNot, ev_tAnd, ev_tOr, ev_oAnd_t, ev_oAnd_f, ev_oOr_t, ev_oOr_f, ev_eAnd, ev_eOr, ev_oAndD_t, ev_oAndD_f, ev_oOrD_t, ev_oOrD_f, ev_eNot, ev_oNot, ev_isi, ev_isi_ii, ev_isi_ib, ev_isi_il, ev_isi_it, ev_isi_is, ev_isi_ll, ev_isi_lt, ev_isi_li, ev_isi_lb, ev_isi_tt, ev_isi_tl, ev_isi_ss, ev_isi_bb, ev_isi_bi, ev_isN, ev_notN, ev_oIsN_n, ev_oIsN_i, ev_oIsN_l, ev_oIsN_t, ev_oNotN_n, ev_oNotN_i, ev_oNotN_l, ev_oNotN_t, ev_rev, ev_gRev, ev_iAny, ev_oAny_l, ev_oAny_t, ev_iSeqB, ev_oSeqB, ev_iEnum, ev_oEnum, ev_iZip, ev_oZip_ll, ev_oZip_tt, ev_oZip_lt, ev_oZip_tl, ev_iRng1, ev_rng1_s, ev_iRng2, ev_rng2_s, ev_tgN, ev_tgNil, ev_tgCons, ev_tgT, ev_wipe_nil, ev_wipe_cons, ev_lc, ev_oLc, ev_add, ev_addIS, ev_add_ll, ev_add_tt, ev_addL, ev_repL, ev_rep, ev_sub, ev_mul, ev_mod, ev_div, ev_pow, ev_lt, ev_le, ev_gt, ev_ge, ev_eq, ev_ne, ev_eqs, ev_nes, ev_eqb, ev_neb, ev_len, ev_lenT, ev_list, ev_listT, ev_tuple, ev_tupleT, ev_int, ev_intb, ev_sum, ev_sum0, ev_max2, ev_min2, ev_sl, ev_slT, ev_slL, ev_slB, ev_divZ, ev_onNx, ev_while, ev_eq_li, ev_ne_li, ev_eq_self, ev_ne_self, ev_eq_selfT, ev_ne_selfT, ev_ne_nil, ev_eq_nil, ev_sorted_i, decide_true, decide_false, List.nil_append, List.cons_append, ev_ix, ev_ixT, ev_ixB, ev_ixBT, i_bk1, i_bk2, a1, a2, i_ru1, i_de3, ez]
  obtain ⟨e, he, t5, t6, rfl⟩ := forF_inv (g := tgT (tgCons (tgN 5) (tgCons (tgN 6) tgNil))) (b := L_gain_0) (items := (r.co.zip d.ch).map fun p => PyData.tuple [.int p.1, chD p.2])
    (env := [.val (bkD bk), .val (.int (0 + (k : Int))), .val (.int (0 + (j : Int))), .val (.int 0), .val (.int 0), .und, .und])
    (fun i env => ∃ t5 t6, env = [.val (bkD bk), .val (.int (0 + (k : Int))), .val (.int (0 + (j : Int))), .val (.int ((((r.co.zip d.ch).take i).map fun p => p.1 * p.2.1).sum)), .val (.int ((((r.co.zip d.ch).take i).map fun p => p.1 * p.2.2).sum)), t5, t6])
    ⟨_, _, rfl⟩ (fun i x env hx hI => by
      obtain ⟨t5, t6, rfl⟩ := hI
      rw [List.getElem?_map] at hx
      cases ep : (r.co.zip d.ch)[i]? with
      | none => rw [ep] at hx; cases hx
      | some p =>
        rw [ep] at hx; cases hx
        have mm := List.of_mem_zip (List.mem_of_getElem? ep)
        have n1 := (hco _ mm.1).md
        have n2 := (hch _ mm.2).1.md
        have n3 := (hch _ mm.2).2.md
        have et : (r.co.zip d.ch).take (i + 1) = (r.co.zip d.ch).take i ++ [p] := by
          rw [List.take_add_one, ep]; rfl
        refine ⟨_, rfl, ?_⟩
        simp only [et, List.map_append, List.map_cons, List.map_nil, Bk.sum_snoc]
        unfold L_gain_0
        simp only [ev_bs, ev_bn, ev_ms, ev_mn, ev_g0, ev_gs, ev_s0, ev_ss, ev_bn1, ev_bn2, ev_seq, ev_seq_nx, ev_seq_rt, ev_seq_bk, ev_seq_ct, ev_nil, ev_brk, ev_cnt, ev_if, ev_if_t, ev_if_f, ev_set, ev_oset, ev_setL, ev_osetL, ev_drop, ev_odrop, ev_ret, ev_oret, ev_retN, ev_retL, ev_oretL, ev_orun, ev_orunN, ev_orunN_nx, ev_fz, ev_fz_l, ev_fz_v, ev_app, ev_app_s, ev_clear, ev_clear_s, ev_oNx, ev_asg, ev_asg_s, ev_par, ev_par_s, ev_aug, ev_aug_s, ev_setIx, ev_setIx_s, ev_augIx, ev_for, ev_ofor, ev_V, ev_L, ev_B, ev_rdV, ev_rdLv, ev_rdLl, ev_rdBv, ev_rdBb, ev_C, ev_e2, ev_o2, ev_e1, ev_e3, ev_o3, ev_pN, ev_pS, ev_oPS, ev_aNil, ev_aCons, ev_oCons, ev_tup, ev_lst, ev_oLst, ev_scal, ev_scal_i, ev_scal_s, ev_scal_b, ev_neg, ev_oNeg, ev_tB, ev_asB, ev_tNot, ev_tAnd, ev_tOr, ev_oAnd_t, ev_oAnd_f, ev_oOr_t, ev_oOr_f, ev_eAnd, ev_eOr, ev_oAndD_t, ev_oAndD_f, ev_oOrD_t, ev_oOrD_f, ev_eNot, ev_oNot, ev_isi, ev_isi_ii, ev_isi_ib, ev_isi_il, ev_isi_it, ev_isi_is, ev_isi_ll, ev_isi_lt, ev_isi_li, ev_isi_lb, ev_isi_tt, ev_isi_tl, ev_isi_ss, ev_isi_bb, ev_isi_bi, ev_isN, ev_notN, ev_oIsN_n, ev_oIsN_i, ev_oIsN_l, ev_oIsN_t, ev_oNotN_n, ev_oNotN_i, ev_oNotN_l, ev_oNotN_t, ev_rev, ev_gRev, ev_iAny, ev_oAny_l, ev_oAny_t, ev_iSeqB, ev_oSeqB, ev_iEnum, ev_oEnum, ev_iZip, ev_oZip_ll, ev_oZip_tt, ev_oZip_lt, ev_oZip_tl, ev_iRng1, ev_rng1_s, ev_iRng2, ev_rng2_s, ev_tgN, ev_tgNil, ev_tgCons, ev_tgT, ev_wipe_nil, ev_wipe_cons, ev_lc, ev_oLc, ev_add, ev_addIS, ev_add_ll, ev_add_tt, ev_addL, ev_repL, ev_rep, ev_sub, ev_mul, ev_mod, ev_div, ev_pow, ev_lt, ev_le, ev_gt, ev_ge, ev_eq, ev_ne, ev_eqs, ev_nes, ev_eqb, ev_neb, ev_len, ev_lenT, ev_list, ev_listT, ev_tuple, ev_tupleT, ev_int, ev_intb, ev_sum, ev_sum0, ev_max2, ev_min2, ev_sl, ev_slT, ev_slL, ev_slB, ev_divZ, ev_onNx, ev_while, ev_eq_li, ev_ne_li, ev_eq_self, ev_ne_self, ev_eq_selfT, ev_ne_selfT, ev_ne_nil, ev_eq_nil, ev_sorted_i, decide_true, decide_false, List.nil_append, List.cons_append, ev_ix, ev_ixT, ev_ixB, ev_ixBT, i_ch0, i_ch1, n1, n2, n3]
        exact ⟨_, _, rfl⟩)
  rw [he]
  have et : (r.co.zip d.ch).take ((r.co.zip d.ch).map fun p => PyData.tuple [.int p.1, chD p.2]).length = r.co.zip d.ch := List.take_of_length_le (by rw [List.length_map]; exact Nat.le_refl _)
  rw [et]
  simp only [ev_bs, ev_bn, ev_ms, ev_mn, ev_g0, ev_gs, ev_s0, ev_ss, ev_bn1, ev_bn2, ev_seq, ev_seq_nx, ev_seq_rt, ev_seq_bk, ev_seq_ct, ev_nil, ev_brk, ev_cnt, ev_if, ev_if_t, ev_if_f, ev_set, ev_oset, ev_setL, ev_osetL, ev_drop, ev_odrop, ev_ret, ev_oret, ev_retN, ev_retL, ev_oretL, ev_orun, ev_orunN, ev_orunN_nx, ev_fz, ev_fz_l, ev_fz_v, ev_app, ev_app_s, ev_clear, ev_clear_s, ev_oNx, ev_asg, ev_asg_s, ev_par, ev_par_s, ev_aug, ev_aug_s, ev_setIx, ev_setIx_s, ev_augIx, ev_for, ev_ofor, ev_V, ev_L, ev_B, ev_rdV, ev_rdLv, ev_rdLl, ev_rdBv, ev_rdBb, ev_C, ev_e2, ev_o2, ev_e1, ev_e3, ev_o3, ev_pN, ev_pS, ev_oPS, ev_aNil, ev_aCons, ev_oCons, ev_tup, ev_lst, ev_oLst, ev_scal, ev_scal_i, ev_scal_s, ev_scal_b, ev_neg, ev_oNeg, ev_tB, ev_asB, ev_tNot, ev_tAnd, ev_tOr, ev_oAnd_t, ev_oAnd_f, ev_oOr_t, ev_oOr_f, ev_eAnd, ev_eOr, ev_oAndD_t, ev_oAndD_f, ev_oOrD_t, ev_oOrD_f, ev_eNot, ev_oNot, ev_isi, ev_isi_ii, ev_isi_ib, ev_isi_il, ev_isi_it, ev_isi_is, ev_isi_ll, ev_isi_lt, ev_isi_li, ev_isi_lb, ev_isi_tt, ev_isi_tl, ev_isi_ss, ev_isi_bb, ev_isi_bi, ev_isN, ev_notN, ev_oIsN_n, ev_oIsN_i, ev_oIsN_l, ev_oIsN_t, ev_oNotN_n, ev_oNotN_i, ev_oNotN_l, ev_oNotN_t, ev_rev, ev_gRev, ev_iAny, ev_oAny_l, ev_oAny_t, ev_iSeqB, ev_oSeqB, ev_iEnum, ev_oEnum, ev_iZip, ev_oZip_ll, ev_oZip_tt, ev_oZip_lt, ev_oZip_tl, ev_iRng1, ev_rng1_s, ev_iRng2, ev_rng2_s, ev_tgN, ev_tgNil, ev_tgCons, ev_tgT, ev_wipe_nil, ev_wipe_cons, ev_lc, ev_oLc, ev_add, ev_addIS, ev_add_ll, ev_add_tt, ev_addL, ev_repL, ev_rep, ev_sub, ev_mul, ev_mod, ev_div, ev_pow, ev_lt, ev_le, ev_gt, ev_ge, ev_eq, ev_ne, ev_eqs, ev_nes, ev_eqb, ev_neb, ev_len, ev_lenT, ev_list, ev_listT, ev_tuple, ev_tupleT, ev_int, ev_intb, ev_sum, ev_sum0, ev_max2, ev_min2, ev_sl, ev_slT, ev_slL, ev_slB, ev_divZ, ev_onNx, ev_while, ev_eq_li, ev_ne_li, ev_eq_self, ev_ne_self, ev_eq_selfT, ev_ne_selfT, ev_ne_nil, ev_eq_nil, ev_sorted_i, decide_true, decide_false, List.nil_append, List.cons_append, ev_ix, ev_ixT, ev_ixB, ev_ixBT]
  rfl
include hb hr hd in
theorem slope_sz : Sz 200 (Bk.slope r.co d.ch) ∧ Sz 200 (Bk.beside r.co d.ch) := by
  have hco := (hb.2.1 r (List.mem_of_getElem? hr)).2.2.1
  have hch := (hb.2.2.1 d (List.mem_of_getElem? hd)).2.2.1
  have hl := (hb.2.2.1 d (List.mem_of_getElem? hd)).2.1
  have h4 := hb.2.2.2.1
  have ll : (r.co.zip d.ch).length ≤ 4 := by rw [List.length_zip]; omega
  refine ⟨?_, ?_⟩
  · have := Sz.sum (a := 180) ((r.co.zip d.ch).map fun p => p.1 * p.2.1) fun x hx => by
      obtain ⟨p, hp, rfl⟩ := List.mem_map.mp hx
      have mm := List.of_mem_zip hp
      exact ((hco _ mm.1).mul (hch _ mm.2).1).mono (by decide)
    exact this.mono (by rw [List.length_map]; omega)
  · have := Sz.sum (a := 180) ((r.co.zip d.ch).map fun p => p.1 * p.2.2) fun x hx => by
      obtain ⟨p, hp, rfl⟩ := List.mem_map.mp hx
      have mm := List.of_mem_zip hp
      exact ((hco _ mm.1).mul (hch _ mm.2).2).mono (by decide)
    exact this.mono (by rw [List.length_map]; omega)
include hb hr hd in
theorem least_ok : f_least_gain [bkD bk, .int (0 + (k : Int)), .int (0 + (j : Int))] = some (.int ((if Bk.slope r.co d.ch * d.hi < Bk.slope r.co d.ch * d.lo then Bk.slope r.co d.ch * d.hi else Bk.slope r.co d.ch * d.lo) + Bk.beside r.co d.ch)) := by
  rw [fe_least_gain]
  unfold b_least_gain
  have g1 := gain_ok hb hr hd
  have a2 : atI (bk.des.map deD) (0 + (j : Int)) = some (deD d) := at0 hd
  have sm := (slope_sz hb hr hd).1.md
  have hdd := (hb.2.2.1 d (List.mem_of_getElem? hd)).2.2.2.2
  have n1 := hdd.1.md
  have n2 := hdd.2.md
  simp only [ev_bs, ev_bn, ev_ms, ev_mn, ev_g0, ev_gs, ev_s0, ev_ss, ev_bn1, ev_bn2, ev_seq, ev_seq_nx, ev_seq_rt, ev_seq_bk, ev_seq_ct, ev_nil, ev_brk, ev_cnt, ev_if, ev_if_t, ev_if_f, ev_set, ev_oset, ev_setL, ev_osetL, ev_drop, ev_odrop, ev_ret, ev_oret, ev_retN, ev_retL, ev_oretL, ev_orun, ev_orunN, ev_orunN_nx, ev_fz, ev_fz_l, ev_fz_v, ev_app, ev_app_s, ev_clear, ev_clear_s, ev_oNx, ev_asg, ev_asg_s, ev_par, ev_par_s, ev_aug, ev_aug_s, ev_setIx, ev_setIx_s, ev_augIx, ev_for, ev_ofor, ev_V, ev_L, ev_B, ev_rdV, ev_rdLv, ev_rdLl, ev_rdBv, ev_rdBb, ev_C, ev_e2, ev_o2, ev_e1, ev_e3, ev_o3, ev_pN, ev_pS, ev_oPS, ev_aNil, ev_aCons, ev_oCons, ev_tup, ev_lst, ev_oLst, ev_scal, ev_scal_i, ev_scal_s, ev_scal_b, ev_neg, ev_oNeg, ev_tB, ev_asB, ev_tNot, ev_tAnd, ev_tOr, ev_oAnd_t, ev_oAnd_f, ev_oOr_t, ev_oOr_f, ev_eAnd, ev_eOr, ev_oAndD_t, ev_oAndD_f, ev_oOrD_t, ev_oOrD_f, ev_eNot, ev_oNot, ev_isi, ev_isi_ii, ev_isi_ib, ev_isi_il, ev_isi_it, ev_isi_is, ev_isi_ll, ev_isi_lt, ev_isi_li, ev_isi_lb, ev_isi_tt, ev_isi_tl, ev_isi_ss, ev_isi_bb, ev_isi_bi, ev_isN, ev_notN, ev_oIsN_n, ev_oIsN_i, ev_oIsN_l, ev_oIsN_t, ev_oNotN_n, ev_oNotN_i, ev_oNotN_l, ev_oNotN_t, ev_rev, ev_gRev, ev_iAny, ev_oAny_l, ev_oAny_t, ev_iSeqB, ev_oSeqB, ev_iEnum, ev_oEnum, ev_iZip, ev_oZip_ll, ev_oZip_tt, ev_oZip_lt, ev_oZip_tl, ev_iRng1, ev_rng1_s, ev_iRng2, ev_rng2_s, ev_tgN, ev_tgNil, ev_tgCons, ev_tgT, ev_wipe_nil, ev_wipe_cons, ev_lc, ev_oLc, ev_add, ev_addIS, ev_add_ll, ev_add_tt, ev_addL, ev_repL, ev_rep, ev_sub, ev_mul, ev_mod, ev_div, ev_pow, ev_lt, ev_le, ev_gt, ev_ge, ev_eq, ev_ne, ev_eqs, ev_nes, ev_eqb, ev_neb, ev_len, ev_lenT, ev_list, ev_listT, ev_tuple, ev_tupleT, ev_int, ev_intb, ev_sum, ev_sum0, ev_max2, ev_min2, ev_sl, ev_slT, ev_slL, ev_slB, ev_divZ, ev_onNx, ev_while, ev_eq_li, ev_ne_li, ev_eq_self, ev_ne_self, ev_eq_selfT, ev_ne_selfT, ev_ne_nil, ev_eq_nil, ev_sorted_i, decide_true, decide_false, List.nil_append, List.cons_append, ev_ix, ev_ixT, ev_ixB, ev_ixBT, g1, i_bk2, a2, i_de1, i_de2, sm, n1, n2]
include hb hr hd in
theorem free_ok : f_is_free [bkD bk, .int (0 + (k : Int)), .int (0 + (j : Int))] = some (.bool (decide (0 ≤ (if Bk.slope r.co d.ch * d.hi < Bk.slope r.co d.ch * d.lo then Bk.slope r.co d.ch * d.hi else Bk.slope r.co d.ch * d.lo) + Bk.beside r.co d.ch))) := by
  rw [fe_is_free]
  unfold b_is_free
  have g1 := least_ok hb hr hd
  simp only [ev_bs, ev_bn, ev_ms, ev_mn, ev_g0, ev_gs, ev_s0, ev_ss, ev_bn1, ev_bn2, ev_seq, ev_seq_nx, ev_seq_rt, ev_seq_bk, ev_seq_ct, ev_nil, ev_brk, ev_cnt, ev_if, ev_if_t, ev_if_f, ev_set, ev_oset, ev_setL, ev_osetL, ev_drop, ev_odrop, ev_ret, ev_oret, ev_retN, ev_retL, ev_oretL, ev_orun, ev_orunN, ev_orunN_nx, ev_fz, ev_fz_l, ev_fz_v, ev_app, ev_app_s, ev_clear, ev_clear_s, ev_oNx, ev_asg, ev_asg_s, ev_par, ev_par_s, ev_aug, ev_aug_s, ev_setIx, ev_setIx_s, ev_augIx, ev_for, ev_ofor, ev_V, ev_L, ev_B, ev_rdV, ev_rdLv, ev_rdLl, ev_rdBv, ev_rdBb, ev_C, ev_e2, ev_o2, ev_e1, ev_e3, ev_o3, ev_pN, ev_pS, ev_oPS, ev_aNil, ev_aCons, ev_oCons, ev_tup, ev_lst, ev_oLst, ev_scal, ev_scal_i, ev_scal_s, ev_scal_b, ev_neg, ev_oNeg, ev_tB, ev_asB, ev_tNot, ev_tAnd, ev_tOr, ev_oAnd_t, ev_oAnd_f, ev_oOr_t, ev_oOr_f, ev_eAnd, ev_eOr, ev_oAndD_t, ev_oAndD_f, ev_oOrD_t, ev_oOrD_f, ev_eNot, ev_oNot, ev_isi, ev_isi_ii, ev_isi_ib, ev_isi_il, ev_isi_it, ev_isi_is, ev_isi_ll, ev_isi_lt, ev_isi_li, ev_isi_lb, ev_isi_tt, ev_isi_tl, ev_isi_ss, ev_isi_bb, ev_isi_bi, ev_isN, ev_notN, ev_oIsN_n, ev_oIsN_i, ev_oIsN_l, ev_oIsN_t, ev_oNotN_n, ev_oNotN_i, ev_oNotN_l, ev_oNotN_t, ev_rev, ev_gRev, ev_iAny, ev_oAny_l, ev_oAny_t, ev_iSeqB, ev_oSeqB, ev_iEnum, ev_oEnum, ev_iZip, ev_oZip_ll, ev_oZip_tt, ev_oZip_lt, ev_oZip_tl, ev_iRng1, ev_rng1_s, ev_iRng2, ev_rng2_s, ev_tgN, ev_tgNil, ev_tgCons, ev_tgT, ev_wipe_nil, ev_wipe_cons, ev_lc, ev_oLc, ev_add, ev_addIS, ev_add_ll, ev_add_tt, ev_addL, ev_repL, ev_rep, ev_sub, ev_mul, ev_mod, ev_div, ev_pow, ev_lt, ev_le, ev_gt, ev_ge, ev_eq, ev_ne, ev_eqs, ev_nes, ev_eqb, ev_neb, ev_len, ev_lenT, ev_list, ev_listT, ev_tuple, ev_tupleT, ev_int, ev_intb, ev_sum, ev_sum0, ev_max2, ev_min2, ev_sl, ev_slT, ev_slL, ev_slB, ev_divZ, ev_onNx, ev_while, ev_eq_li, ev_ne_li, ev_eq_self, ev_ne_self, ev_eq_selfT, ev_ne_selfT, ev_ne_nil, ev_eq_nil, ev_sorted_i, decide_true, decide_false, List.nil_append, List.cons_append, ev_ix, ev_ixT, ev_ixB, ev_ixBT, g1]
theorem behind_ok {st : List Int} {n : Int} (hch : ∀ c ∈ d.ch, Sz 90 c.1 ∧ Sz 90 c.2) (hn : Sz 120 n) : f_l_behind [.tuple (st.map .int), deD d, .int n] = some (.tuple ((Bk.behind st d.ch n).map .int)) := by
  rw [fe_l_behind]
  unfold b_l_behind
  have nm := hn.md
  have el : lcF (tgT (tgCons (tgN 4) (tgCons (tgN 3) tgNil))) (fun _ => some true) (e2 gAdd (e2 gAdd (eV 4) (e2 gMul (e2 gIxS (eV 3) (eC (.int 0))) (eV 2))) (e2 gIxS (eV 3) (eC (.int 1)))) [.val (.tuple (st.map .int)), .val (deD d), .val (.int n), .und, .und] (zipD (st.map .int) (d.ch.map chD)) = some ((Bk.behind st d.ch n).map .int) := by
    unfold Bk.behind
    rw [zip_map, List.map_map]
    refine lcF_map (fun p : Int × (Int × Int) => PyData.tuple [.int p.1, chD p.2]) (fun p => .int (p.1 + p.2.1 * n + p.2.2)) _ ?_
    intro p hm
    have mm := List.of_mem_zip hm
    have n1 := (hch _ mm.2).1.md
    refine ⟨_, rfl, rfl, ?_⟩
    simp only [ev_bs, ev_bn, ev_ms, ev_mn, ev_g0, ev_gs, ev_s0, ev_ss, ev_bn1, ev_bn2, ev_seq, ev_seq_nx, ev_seq_rt, ev_seq_bk, ev_seq_ct, ev_nil, ev_brk, ev_cnt, ev_if, ev_if_t, ev_if_f, ev_set, ev_oset, ev_setL, ev_osetL, ev_drop, ev_odrop, ev_ret, ev_oret, ev_retN, ev_retL, ev_oretL, ev_orun, ev_orunN, ev_orunN_nx, ev_fz, ev_fz_l, ev_fz_v, ev_app, ev_app_s, ev_clear, ev_clear_s, ev_oNx, ev_asg, ev_asg_s, ev_par, ev_par_s, ev_aug, ev_aug_s, ev_setIx, ev_setIx_s, ev_augIx, ev_for, ev_ofor, ev_V, ev_L, ev_B, ev_rdV, ev_rdLv, ev_rdLl, ev_rdBv, ev_rdBb, ev_C, ev_e2, ev_o2, ev_e1, ev_e3, ev_o3, ev_pN, ev_pS, ev_oPS, ev_aNil, ev_aCons, ev_oCons, ev_tup, ev_lst, ev_oLst, ev_scal, ev_scal_i, ev_scal_s, ev_scal_b, ev_neg, ev_oNeg, ev_tB, ev_asB, ev_tNot, ev_tAnd, ev_tOr, ev_oAnd_t, ev_oAnd_f, ev_oOr_t, ev_oOr_f, ev_eAnd, ev_eOr, ev_oAndD_t, ev_oAndD_f, ev_oOrD_t, ev_oOrD_f, ev_eNot, ev_oNot, ev_isi, ev_isi_ii, ev_isi_ib, ev_isi_il, ev_isi_it, ev_isi_is, ev_isi_ll, ev_isi_lt, ev_isi_li, ev_isi_lb, ev_isi_tt, ev_isi_tl, ev_isi_ss, ev_isi_bb, ev_isi_bi, ev_isN, ev_notN, ev_oIsN_n, ev_oIsN_i, ev_oIsN_l, ev_oIsN_t, ev_oNotN_n, ev_oNotN_i, ev_oNotN_l, ev_oNotN_t, ev_rev, ev_gRev, ev_iAny, ev_oAny_l, ev_oAny_t, ev_iSeqB, ev_oSeqB, ev_iEnum, ev_oEnum, ev_iZip, ev_oZip_ll, ev_oZip_tt, ev_oZip_lt, ev_oZip_tl, ev_iRng1, ev_rng1_s, ev_iRng2, ev_rng2_s, ev_tgN, ev_tgNil, ev_tgCons, ev_tgT, ev_wipe_nil, ev_wipe_cons, ev_lc, ev_oLc, ev_add, ev_addIS, ev_add_ll, ev_add_tt, ev_addL, ev_repL, ev_rep, ev_sub, ev_mul, ev_mod, ev_div, ev_pow, ev_lt, ev_le, ev_gt, ev_ge, ev_eq, ev_ne, ev_eqs, ev_nes, ev_eqb, ev_neb, ev_len, ev_lenT, ev_list, ev_listT, ev_tuple, ev_tupleT, ev_int, ev_intb, ev_sum, ev_sum0, ev_max2, ev_min2, ev_sl, ev_slT, ev_slL, ev_slB, ev_divZ, ev_onNx, ev_while, ev_eq_li, ev_ne_li, ev_eq_self, ev_ne_self, ev_eq_selfT, ev_ne_selfT, ev_ne_nil, ev_eq_nil, ev_sorted_i, decide_true, decide_false, List.nil_append, List.cons_append, ev_ix, ev_ixT, ev_ixB, ev_ixBT, i_ch0, i_ch1, n1, nm]
  simp only [ev_bs, ev_bn, ev_ms, ev_mn, ev_g0, ev_gs, ev_s0, ev_ss, ev_bn1, ev_bn2, ev_seq, ev_seq_nx, ev_seq_rt, ev_seq_bk, ev_seq_ct, ev_nil, ev_brk, ev_cnt, ev_if, ev_if_t, ev_if_f, ev_set, ev_oset, ev_setL, ev_osetL, ev_drop, ev_odrop, ev_ret, ev_oret, ev_retN, ev_retL, ev_oretL, ev_orun, ev_orunN, ev_orunN_nx, ev_fz, ev_fz_l, ev_fz_v, ev_app, ev_app_s, ev_clear, ev_clear_s, ev_oNx, ev_asg, ev_asg_s, ev_par, ev_par_s, ev_aug, ev_aug_s, ev_setIx, ev_setIx_s, ev_augIx, ev_for, ev_ofor, ev_V, ev_L, ev_B, ev_rdV, ev_rdLv, ev_rdLl, ev_rdBv, ev_rdBb, ev_C, ev_e2, ev_o2, ev_e1, ev_e3, ev_o3, ev_pN, ev_pS, ev_oPS, ev_aNil, ev_aCons, ev_oCons, ev_tup, ev_lst, ev_oLst, ev_scal, ev_scal_i, ev_scal_s, ev_scal_b, ev_neg, ev_oNeg, ev_tB, ev_asB, ev_tNot, ev_tAnd, ev_tOr, ev_oAnd_t, ev_oAnd_f, ev_oOr_t, ev_oOr_f, ev_eAnd, ev_eOr, ev_oAndD_t, ev_oAndD_f, ev_oOrD_t, ev_oOrD_f, ev_eNot, ev_oNot, ev_isi, ev_isi_ii, ev_isi_ib, ev_isi_il, ev_isi_it, ev_isi_is, ev_isi_ll, ev_isi_lt, ev_isi_li, ev_isi_lb, ev_isi_tt, ev_isi_tl, ev_isi_ss, ev_isi_bb, ev_isi_bi, ev_isN, ev_notN, ev_oIsN_n, ev_oIsN_i, ev_oIsN_l, ev_oIsN_t, ev_oNotN_n, ev_oNotN_i, ev_oNotN_l, ev_oNotN_t, ev_rev, ev_gRev, ev_iAny, ev_oAny_l, ev_oAny_t, ev_iSeqB, ev_oSeqB, ev_iEnum, ev_oEnum, ev_iZip, ev_oZip_ll, ev_oZip_tt, ev_oZip_lt, ev_oZip_tl, ev_iRng1, ev_rng1_s, ev_iRng2, ev_rng2_s, ev_tgN, ev_tgNil, ev_tgCons, ev_tgT, ev_wipe_nil, ev_wipe_cons, ev_lc, ev_oLc, ev_add, ev_addIS, ev_add_ll, ev_add_tt, ev_addL, ev_repL, ev_rep, ev_sub, ev_mul, ev_mod, ev_div, ev_pow, ev_lt, ev_le, ev_gt, ev_ge, ev_eq, ev_ne, ev_eqs, ev_nes, ev_eqb, ev_neb, ev_len, ev_lenT, ev_list, ev_listT, ev_tuple, ev_tupleT, ev_int, ev_intb, ev_sum, ev_sum0, ev_max2, ev_min2, ev_sl, ev_slT, ev_slL, ev_slB, ev_divZ, ev_onNx, ev_while, ev_eq_li, ev_ne_li, ev_eq_self, ev_ne_self, ev_eq_selfT, ev_ne_selfT, ev_ne_nil, ev_eq_nil, ev_sorted_i, decide_true, decide_false, List.nil_append, List.cons_append, ev_ix, ev_ixT, ev_ixB, ev_ixBT, i_de3, el]
end
def stD (st : List Int) : D := .tuple (st.map .int)
theorem behind_sz {st : List Int} {ch : List (Int × Int)} {n : Int} (h1 : ∀ s ∈ st, Sz 90 s) (h2 : ∀ c ∈ ch, Sz 90 c.1 ∧ Sz 90 c.2) (hn : Sz 120 n) : ∀ s ∈ Bk.behind st ch n, Sz 400 s := fun s hs => by
  unfold Bk.behind at hs
  obtain ⟨p, hp, rfl⟩ := List.mem_map.mp hs
  have mm := List.of_mem_zip hp
  have c := h2 _ mm.2
  exact ((((h1 _ mm.1).mono (by decide : 90 ≤ 210)).add (c.1.mul hn)).add (c.2.mono (by decide))).mono (by decide)
theorem whole_ok {x : Int} : f_l_whole [.int x] = some (.bool true) := by
  rw [fe_l_whole]
  unfold b_l_whole
  simp only [ev_bs, ev_bn, ev_ms, ev_mn, ev_g0, ev_gs, ev_s0, ev_ss, ev_bn1, ev_bn2, ev_seq, ev_seq_nx, ev_seq_rt, ev_seq_bk, ev_seq_ct, ev_nil, ev_brk, ev_cnt, ev_if, ev_if_t, ev_if_f, ev_set, ev_oset, ev_setL, ev_osetL, ev_drop, ev_odrop, ev_ret, ev_oret, ev_retN, ev_retL, ev_oretL, ev_orun, ev_orunN, ev_orunN_nx, ev_fz, ev_fz_l, ev_fz_v, ev_app, ev_app_s, ev_clear, ev_clear_s, ev_oNx, ev_asg, ev_asg_s, ev_par, ev_par_s, ev_aug, ev_aug_s, ev_setIx, ev_setIx_s, ev_augIx, ev_for, ev_ofor, ev_V, ev_L, ev_B, ev_rdV, ev_rdLv, ev_rdLl, ev_rdBv, ev_rdBb, ev_C, ev_e2, ev_o2, ev_e1, ev_e3, ev_o3, ev_pN, ev_pS, ev_oPS, ev_aNil, ev_aCons, ev_oCons, ev_tup, ev_lst, ev_oLst, ev_scal, ev_scal_i, ev_scal_s, ev_scal_b, ev_neg, ev_oNeg, ev_tB, ev_asB, ev_tNot, ev_tAnd, ev_tOr, ev_oAnd_t, ev_oAnd_f, ev_oOr_t, ev_oOr_f, ev_eAnd, ev_eOr, ev_oAndD_t, ev_oAndD_f, ev_oOrD_t, ev_oOrD_f, ev_eNot, ev_oNot, ev_isi, ev_isi_ii, ev_isi_ib, ev_isi_il, ev_isi_it, ev_isi_is, ev_isi_ll, ev_isi_lt, ev_isi_li, ev_isi_lb, ev_isi_tt, ev_isi_tl, ev_isi_ss, ev_isi_bb, ev_isi_bi, ev_isN, ev_notN, ev_oIsN_n, ev_oIsN_i, ev_oIsN_l, ev_oIsN_t, ev_oNotN_n, ev_oNotN_i, ev_oNotN_l, ev_oNotN_t, ev_rev, ev_gRev, ev_iAny, ev_oAny_l, ev_oAny_t, ev_iSeqB, ev_oSeqB, ev_iEnum, ev_oEnum, ev_iZip, ev_oZip_ll, ev_oZip_tt, ev_oZip_lt, ev_oZip_tl, ev_iRng1, ev_rng1_s, ev_iRng2, ev_rng2_s, ev_tgN, ev_tgNil, ev_tgCons, ev_tgT, ev_wipe_nil, ev_wipe_cons, ev_lc, ev_oLc, ev_add, ev_addIS, ev_add_ll, ev_add_tt, ev_addL, ev_repL, ev_rep, ev_sub, ev_mul, ev_mod, ev_div, ev_pow, ev_lt, ev_le, ev_gt, ev_ge, ev_eq, ev_ne, ev_eqs, ev_nes, ev_eqb, ev_neb, ev_len, ev_lenT, ev_list, ev_listT, ev_tuple, ev_tupleT, ev_int, ev_intb, ev_sum, ev_sum0, ev_max2, ev_min2, ev_sl, ev_slT, ev_slL, ev_slB, ev_divZ, ev_onNx, ev_while, ev_eq_li, ev_ne_li, ev_eq_self, ev_ne_self, ev_eq_selfT, ev_ne_selfT, ev_ne_nil, ev_eq_nil, ev_sorted_i, decide_true, decide_false, List.nil_append, List.cons_append, ev_ix, ev_ixT, ev_ixB, ev_ixBT]
theorem one_ok {bk : Bk.Book} {k j : Nat} {r : Bk.Rule} {d : Bk.Deed} (hb : GB bk) (hr : bk.rus[k]? = some r) (hd : bk.des[j]? = some d) {sts : List (List Int)} (hs : ∀ st ∈ sts, st.length = bk.its.length ∧ ∀ s ∈ st, Sz 90 s) :
    f_l_one [bkD bk, bkD bk, .int (0 + (k : Int)), .int (0 + (j : Int)), .list (sts.map stD)] = some (.bool true) := by
  rw [fe_l_one]
  unfold b_l_one
  have a2 : atI (bk.des.map deD) (0 + (j : Int)) = some (deD d) := at0 hd
  have g1 := gain_ok hb hr hd
  have g2 := least_ok hb hr hd
  have g3 := free_ok hb hr hd
  obtain ⟨s1, s2⟩ := slope_sz hb hr hd
  obtain ⟨q1, q2, q3, q4, q5, q6⟩ := hb.2.2.1 d (List.mem_of_getElem? hd)
  obtain ⟨u1, u2, u3, u4⟩ := hb.2.1 r (List.mem_of_getElem? hr)
  have sm := s1.md
  have n1 := q5.md
  have n2 := q6.md
  have df := fun (st : List Int) (hl : st.length = bk.its.length) (n : Int) => Bk.dot_behind n r.co st d.ch (by omega) (by omega)
  generalize hS : Bk.slope r.co d.ch = S at g1 g2 g3 s1 sm df
  generalize hB : Bk.beside r.co d.ch = B at g1 g2 g3 s2 df
  have i0 : atI [PyData.int S, PyData.int B] 0 = some (.int S) := rfl
  have i1 : atI [PyData.int S, PyData.int B] 1 = some (.int B) := rfl
  have lt2 : (([PyData.int S, PyData.int B].length : Nat) : Int) = 2 := rfl
  simp only [ev_bs, ev_bn, ev_ms, ev_mn, ev_g0, ev_gs, ev_s0, ev_ss, ev_bn1, ev_bn2, ev_seq, ev_seq_nx, ev_seq_rt, ev_seq_bk, ev_seq_ct, ev_nil, ev_brk, ev_cnt, ev_if, ev_if_t, ev_if_f, ev_set, ev_oset, ev_setL, ev_osetL, ev_drop, ev_odrop, ev_ret, ev_oret, ev_retN, ev_retL, ev_oretL, ev_orun, ev_orunN, ev_orunN_nx, ev_fz, ev_fz_l, ev_fz_v, ev_app, ev_app_s, ev_clear, ev_clear_s, ev_oNx, ev_asg, ev_asg_s, ev_par, ev_par_s, ev_aug, ev_aug_s, ev_setIx, ev_setIx_s, ev_augIx, ev_for, ev_ofor, ev_V, ev_L, ev_B, ev_rdV, ev_rdLv, ev_rdLl, ev_rdBv, ev_rdBb, ev_C, ev_e2, ev_o2, ev_e1, ev_e3, ev_o3, ev_pN, ev_pS, ev_oPS, ev_aNil, ev_aCons, ev_oCons, ev_tup, ev_lst, ev_oLst, ev_scal, ev_scal_i, ev_scal_s, ev_scal_b, ev_neg, ev_oNeg, ev_tB, ev_asB, ev_tNot, ev_tAnd, ev_tOr, ev_oAnd_t, ev_oAnd_f, ev_oOr_t, ev_oOr_f, ev_eAnd, ev_eOr, ev_oAndD_t, ev_oAndD_f, ev_oOrD_t, ev_oOrD_f, ev_eNot, ev_oNot, ev_isi, ev_isi_ii, ev_isi_ib, ev_isi_il, ev_isi_it, ev_isi_is, ev_isi_ll, ev_isi_lt, ev_isi_li, ev_isi_lb, ev_isi_tt, ev_isi_tl, ev_isi_ss, ev_isi_bb, ev_isi_bi, ev_isN, ev_notN, ev_oIsN_n, ev_oIsN_i, ev_oIsN_l, ev_oIsN_t, ev_oNotN_n, ev_oNotN_i, ev_oNotN_l, ev_oNotN_t, ev_rev, ev_gRev, ev_iAny, ev_oAny_l, ev_oAny_t, ev_iSeqB, ev_oSeqB, ev_iEnum, ev_oEnum, ev_iZip, ev_oZip_ll, ev_oZip_tt, ev_oZip_lt, ev_oZip_tl, ev_iRng1, ev_rng1_s, ev_iRng2, ev_rng2_s, ev_tgN, ev_tgNil, ev_tgCons, ev_tgT, ev_wipe_nil, ev_wipe_cons, ev_lc, ev_oLc, ev_add, ev_addIS, ev_add_ll, ev_add_tt, ev_addL, ev_repL, ev_rep, ev_sub, ev_mul, ev_mod, ev_div, ev_pow, ev_lt, ev_le, ev_gt, ev_ge, ev_eq, ev_ne, ev_eqs, ev_nes, ev_eqb, ev_neb, ev_len, ev_lenT, ev_list, ev_listT, ev_tuple, ev_tupleT, ev_int, ev_intb, ev_sum, ev_sum0, ev_max2, ev_min2, ev_sl, ev_slT, ev_slL, ev_slB, ev_divZ, ev_onNx, ev_while, ev_eq_li, ev_ne_li, ev_eq_self, ev_ne_self, ev_eq_selfT, ev_ne_selfT, ev_ne_nil, ev_eq_nil, ev_sorted_i, decide_true, decide_false, List.nil_append, List.cons_append, ev_ix, ev_ixT, ev_ixB, ev_ixBT, i_bk2, a2, g1, lt2, i0, i1, whole_ok]
  obtain ⟨e, he, t7, t8, t9, rfl⟩ := forF_inv (g := tgN 7) (b := L_l_one_2) (items := sts.map stD)
    (env := [.val (bkD bk), .val (bkD bk), .val (.int (0 + (k : Int))), .val (.int (0 + (j : Int))), .val (.list (sts.map stD)), .val (deD d), .val (.tuple [.int S, .int B]), .und, .und, .und, .und, .und, .und])
    (fun i env => ∃ t7 t8 t9, env = [.val (bkD bk), .val (bkD bk), .val (.int (0 + (k : Int))), .val (.int (0 + (j : Int))), .val (.list (sts.map stD)), .val (deD d), .val (.tuple [.int S, .int B]), t7, t8, t9, .und, .und, .und])
    ⟨_, _, _, rfl⟩ (fun i x env hx hI => by
      obtain ⟨t7, t8, t9, rfl⟩ := hI
      rw [List.getElem?_map] at hx
      cases est : sts[i]? with
      | none => rw [est] at hx; cases hx
      | some st =>
        rw [est] at hx; cases hx
        obtain ⟨hsl, hss⟩ := hs st (List.mem_of_getElem? est)
        refine ⟨_, rfl, ?_⟩
        unfold L_l_one_2
        simp only [ev_bs, ev_bn, ev_ms, ev_mn, ev_g0, ev_gs, ev_s0, ev_ss, ev_bn1, ev_bn2, ev_seq, ev_seq_nx, ev_seq_rt, ev_seq_bk, ev_seq_ct, ev_nil, ev_brk, ev_cnt, ev_if, ev_if_t, ev_if_f, ev_set, ev_oset, ev_setL, ev_osetL, ev_drop, ev_odrop, ev_ret, ev_oret, ev_retN, ev_retL, ev_oretL, ev_orun, ev_orunN, ev_orunN_nx, ev_fz, ev_fz_l, ev_fz_v, ev_app, ev_app_s, ev_clear, ev_clear_s, ev_oNx, ev_asg, ev_asg_s, ev_par, ev_par_s, ev_aug, ev_aug_s, ev_setIx, ev_setIx_s, ev_augIx, ev_for, ev_ofor, ev_V, ev_L, ev_B, ev_rdV, ev_rdLv, ev_rdLl, ev_rdBv, ev_rdBb, ev_C, ev_e2, ev_o2, ev_e1, ev_e3, ev_o3, ev_pN, ev_pS, ev_oPS, ev_aNil, ev_aCons, ev_oCons, ev_tup, ev_lst, ev_oLst, ev_scal, ev_scal_i, ev_scal_s, ev_scal_b, ev_neg, ev_oNeg, ev_tB, ev_asB, ev_tNot, ev_tAnd, ev_tOr, ev_oAnd_t, ev_oAnd_f, ev_oOr_t, ev_oOr_f, ev_eAnd, ev_eOr, ev_oAndD_t, ev_oAndD_f, ev_oOrD_t, ev_oOrD_f, ev_eNot, ev_oNot, ev_isi, ev_isi_ii, ev_isi_ib, ev_isi_il, ev_isi_it, ev_isi_is, ev_isi_ll, ev_isi_lt, ev_isi_li, ev_isi_lb, ev_isi_tt, ev_isi_tl, ev_isi_ss, ev_isi_bb, ev_isi_bi, ev_isN, ev_notN, ev_oIsN_n, ev_oIsN_i, ev_oIsN_l, ev_oIsN_t, ev_oNotN_n, ev_oNotN_i, ev_oNotN_l, ev_oNotN_t, ev_rev, ev_gRev, ev_iAny, ev_oAny_l, ev_oAny_t, ev_iSeqB, ev_oSeqB, ev_iEnum, ev_oEnum, ev_iZip, ev_oZip_ll, ev_oZip_tt, ev_oZip_lt, ev_oZip_tl, ev_iRng1, ev_rng1_s, ev_iRng2, ev_rng2_s, ev_tgN, ev_tgNil, ev_tgCons, ev_tgT, ev_wipe_nil, ev_wipe_cons, ev_lc, ev_oLc, ev_add, ev_addIS, ev_add_ll, ev_add_tt, ev_addL, ev_repL, ev_rep, ev_sub, ev_mul, ev_mod, ev_div, ev_pow, ev_lt, ev_le, ev_gt, ev_ge, ev_eq, ev_ne, ev_eqs, ev_nes, ev_eqb, ev_neb, ev_len, ev_lenT, ev_list, ev_listT, ev_tuple, ev_tupleT, ev_int, ev_intb, ev_sum, ev_sum0, ev_max2, ev_min2, ev_sl, ev_slT, ev_slL, ev_slB, ev_divZ, ev_onNx, ev_while, ev_eq_li, ev_ne_li, ev_eq_self, ev_ne_self, ev_eq_selfT, ev_ne_selfT, ev_ne_nil, ev_eq_nil, ev_sorted_i, decide_true, decide_false, List.nil_append, List.cons_append, ev_ix, ev_ixT, ev_ixB, ev_ixBT, i_de1, i_de2]
        obtain ⟨e, he, t8, t9, rfl⟩ := forF_inv (g := tgN 8) (b := L_l_one_1) (items := [PyData.int d.lo, PyData.int d.hi])
          (env := [.val (bkD bk), .val (bkD bk), .val (.int (0 + (k : Int))), .val (.int (0 + (j : Int))), .val (.list (sts.map stD)), .val (deD d), .val (.tuple [.int S, .int B]), .val (stD st), t8, t9, .und, .und, .und])
          (fun i env => ∃ t8 t9, env = [.val (bkD bk), .val (bkD bk), .val (.int (0 + (k : Int))), .val (.int (0 + (j : Int))), .val (.list (sts.map stD)), .val (deD d), .val (.tuple [.int S, .int B]), .val (stD st), t8, t9, .und, .und, .und])
          ⟨_, _, rfl⟩ (fun i x env hx hI => by
            obtain ⟨t8, t9, rfl⟩ := hI
            obtain ⟨n, rfl, hn⟩ : ∃ n : Int, x = .int n ∧ Sz 120 n := by
              have := List.mem_of_getElem? hx
              simp only [List.mem_cons, List.not_mem_nil, or_false] at this
              rcases this with rfl | rfl
              · exact ⟨_, rfl, q5⟩
              · exact ⟨_, rfl, q6⟩
            have h1 := behind_ok (d := d) (st := st) q3 hn
            have h2 := spare_ok hb hr (st := Bk.behind st d.ch n) (behind_sz hss q3 hn)
            have h3 := spare_ok hb hr (st := st) fun s hs => (hss s hs).mono (by decide)
            have h4 : Bk.dot r.co (Bk.behind st d.ch n) + r.rest - (Bk.dot r.co st + r.rest) = S * n + B := by
              have := df st hsl n
              omega
            have nm := hn.md
            refine ⟨_, rfl, ?_⟩
            unfold L_l_one_1 stD
            simp only [ev_bs, ev_bn, ev_ms, ev_mn, ev_g0, ev_gs, ev_s0, ev_ss, ev_bn1, ev_bn2, ev_seq, ev_seq_nx, ev_seq_rt, ev_seq_bk, ev_seq_ct, ev_nil, ev_brk, ev_cnt, ev_if, ev_if_t, ev_if_f, ev_set, ev_oset, ev_setL, ev_osetL, ev_drop, ev_odrop, ev_ret, ev_oret, ev_retN, ev_retL, ev_oretL, ev_orun, ev_orunN, ev_orunN_nx, ev_fz, ev_fz_l, ev_fz_v, ev_app, ev_app_s, ev_clear, ev_clear_s, ev_oNx, ev_asg, ev_asg_s, ev_par, ev_par_s, ev_aug, ev_aug_s, ev_setIx, ev_setIx_s, ev_augIx, ev_for, ev_ofor, ev_V, ev_L, ev_B, ev_rdV, ev_rdLv, ev_rdLl, ev_rdBv, ev_rdBb, ev_C, ev_e2, ev_o2, ev_e1, ev_e3, ev_o3, ev_pN, ev_pS, ev_oPS, ev_aNil, ev_aCons, ev_oCons, ev_tup, ev_lst, ev_oLst, ev_scal, ev_scal_i, ev_scal_s, ev_scal_b, ev_neg, ev_oNeg, ev_tB, ev_asB, ev_tNot, ev_tAnd, ev_tOr, ev_oAnd_t, ev_oAnd_f, ev_oOr_t, ev_oOr_f, ev_eAnd, ev_eOr, ev_oAndD_t, ev_oAndD_f, ev_oOrD_t, ev_oOrD_f, ev_eNot, ev_oNot, ev_isi, ev_isi_ii, ev_isi_ib, ev_isi_il, ev_isi_it, ev_isi_is, ev_isi_ll, ev_isi_lt, ev_isi_li, ev_isi_lb, ev_isi_tt, ev_isi_tl, ev_isi_ss, ev_isi_bb, ev_isi_bi, ev_isN, ev_notN, ev_oIsN_n, ev_oIsN_i, ev_oIsN_l, ev_oIsN_t, ev_oNotN_n, ev_oNotN_i, ev_oNotN_l, ev_oNotN_t, ev_rev, ev_gRev, ev_iAny, ev_oAny_l, ev_oAny_t, ev_iSeqB, ev_oSeqB, ev_iEnum, ev_oEnum, ev_iZip, ev_oZip_ll, ev_oZip_tt, ev_oZip_lt, ev_oZip_tl, ev_iRng1, ev_rng1_s, ev_iRng2, ev_rng2_s, ev_tgN, ev_tgNil, ev_tgCons, ev_tgT, ev_wipe_nil, ev_wipe_cons, ev_lc, ev_oLc, ev_add, ev_addIS, ev_add_ll, ev_add_tt, ev_addL, ev_repL, ev_rep, ev_sub, ev_mul, ev_mod, ev_div, ev_pow, ev_lt, ev_le, ev_gt, ev_ge, ev_eq, ev_ne, ev_eqs, ev_nes, ev_eqb, ev_neb, ev_len, ev_lenT, ev_list, ev_listT, ev_tuple, ev_tupleT, ev_int, ev_intb, ev_sum, ev_sum0, ev_max2, ev_min2, ev_sl, ev_slT, ev_slL, ev_slB, ev_divZ, ev_onNx, ev_while, ev_eq_li, ev_ne_li, ev_eq_self, ev_ne_self, ev_eq_selfT, ev_ne_selfT, ev_ne_nil, ev_eq_nil, ev_sorted_i, decide_true, decide_false, List.nil_append, List.cons_append, ev_ix, ev_ixT, ev_ixB, ev_ixBT, h1, h2, h3, h4, i0, i1, sm, nm]
            exact ⟨_, _, rfl⟩)
        rw [he]
        exact ⟨_, _, _, rfl⟩)
  rw [he]
  have rl : (if d.lo + 8 < d.hi then d.lo + 8 else d.hi) + 1 - d.lo ≤ 16777216 := by split <;> omega
  simp only [ev_bs, ev_bn, ev_ms, ev_mn, ev_g0, ev_gs, ev_s0, ev_ss, ev_bn1, ev_bn2, ev_seq, ev_seq_nx, ev_seq_rt, ev_seq_bk, ev_seq_ct, ev_nil, ev_brk, ev_cnt, ev_if, ev_if_t, ev_if_f, ev_set, ev_oset, ev_setL, ev_osetL, ev_drop, ev_odrop, ev_ret, ev_oret, ev_retN, ev_retL, ev_oretL, ev_orun, ev_orunN, ev_orunN_nx, ev_fz, ev_fz_l, ev_fz_v, ev_app, ev_app_s, ev_clear, ev_clear_s, ev_oNx, ev_asg, ev_asg_s, ev_par, ev_par_s, ev_aug, ev_aug_s, ev_setIx, ev_setIx_s, ev_augIx, ev_for, ev_ofor, ev_V, ev_L, ev_B, ev_rdV, ev_rdLv, ev_rdLl, ev_rdBv, ev_rdBb, ev_C, ev_e2, ev_o2, ev_e1, ev_e3, ev_o3, ev_pN, ev_pS, ev_oPS, ev_aNil, ev_aCons, ev_oCons, ev_tup, ev_lst, ev_oLst, ev_scal, ev_scal_i, ev_scal_s, ev_scal_b, ev_neg, ev_oNeg, ev_tB, ev_asB, ev_tNot, ev_tAnd, ev_tOr, ev_oAnd_t, ev_oAnd_f, ev_oOr_t, ev_oOr_f, ev_eAnd, ev_eOr, ev_oAndD_t, ev_oAndD_f, ev_oOrD_t, ev_oOrD_f, ev_eNot, ev_oNot, ev_isi, ev_isi_ii, ev_isi_ib, ev_isi_il, ev_isi_it, ev_isi_is, ev_isi_ll, ev_isi_lt, ev_isi_li, ev_isi_lb, ev_isi_tt, ev_isi_tl, ev_isi_ss, ev_isi_bb, ev_isi_bi, ev_isN, ev_notN, ev_oIsN_n, ev_oIsN_i, ev_oIsN_l, ev_oIsN_t, ev_oNotN_n, ev_oNotN_i, ev_oNotN_l, ev_oNotN_t, ev_rev, ev_gRev, ev_iAny, ev_oAny_l, ev_oAny_t, ev_iSeqB, ev_oSeqB, ev_iEnum, ev_oEnum, ev_iZip, ev_oZip_ll, ev_oZip_tt, ev_oZip_lt, ev_oZip_tl, ev_iRng1, ev_rng1_s, ev_iRng2, ev_rng2_s, ev_tgN, ev_tgNil, ev_tgCons, ev_tgT, ev_wipe_nil, ev_wipe_cons, ev_lc, ev_oLc, ev_add, ev_addIS, ev_add_ll, ev_add_tt, ev_addL, ev_repL, ev_rep, ev_sub, ev_mul, ev_mod, ev_div, ev_pow, ev_lt, ev_le, ev_gt, ev_ge, ev_eq, ev_ne, ev_eqs, ev_nes, ev_eqb, ev_neb, ev_len, ev_lenT, ev_list, ev_listT, ev_tuple, ev_tupleT, ev_int, ev_intb, ev_sum, ev_sum0, ev_max2, ev_min2, ev_sl, ev_slT, ev_slL, ev_slB, ev_divZ, ev_onNx, ev_while, ev_eq_li, ev_ne_li, ev_eq_self, ev_ne_self, ev_eq_selfT, ev_ne_selfT, ev_ne_nil, ev_eq_nil, ev_sorted_i, decide_true, decide_false, List.nil_append, List.cons_append, ev_ix, ev_ixT, ev_ixB, ev_ixBT, g2, i_de1, i_de2, i0, i1, sm, n1, n2, rl]
  obtain ⟨e, he, t8, rfl⟩ := forF_rng (lo := d.lo) (n := ((if d.lo + 8 < d.hi then d.lo + 8 else d.hi) + 1 - d.lo).toNat) (v := 8) (b := L_l_one_0)
    (env := [.val (bkD bk), .val (bkD bk), .val (.int (0 + (k : Int))), .val (.int (0 + (j : Int))), .val (.list (sts.map stD)), .val (deD d), .val (.tuple [.int S, .int B]), t7, t8, t9, .val (.int ((if S * d.hi < S * d.lo then S * d.hi else S * d.lo) + B)), .val (.int ((if S * d.hi < S * d.lo then S * d.hi else S * d.lo) + B)), .und])
    (fun i env => ∃ t8, env = [.val (bkD bk), .val (bkD bk), .val (.int (0 + (k : Int))), .val (.int (0 + (j : Int))), .val (.list (sts.map stD)), .val (deD d), .val (.tuple [.int S, .int B]), t7, t8, t9, .val (.int ((if S * d.hi < S * d.lo then S * d.hi else S * d.lo) + B)), .val (.int ((if S * d.hi < S * d.lo then S * d.hi else S * d.lo) + B)), .und])
    ⟨_, rfl⟩ (fun i env hi hI => by
      obtain ⟨t8, rfl⟩ := hI
      have hle : d.lo + (i : Int) ≤ d.hi := by
        have hi' : (i : Int) < (if d.lo + 8 < d.hi then d.lo + 8 else d.hi) + 1 - d.lo := by omega
        split at hi' <;> omega
      have key := Bk.line_min (s := S) (lo := d.lo) (hi := d.hi) (n := d.lo + (i : Int)) (by omega) hle
      have nm : Md (d.lo + (i : Int)) := by
        have : Sz 121 (d.lo + (i : Int)) := q5.add (Sz.of (by
          have hi' : (i : Int) < (if d.lo + 8 < d.hi then d.lo + 8 else d.hi) + 1 - d.lo := by omega
          split at hi' <;> omega) (by
          have hi' : (i : Int) < (if d.lo + 8 < d.hi then d.lo + 8 else d.hi) + 1 - d.lo := by omega
          split at hi' <;> omega))
        exact this.md
      have nl : ¬ (S * (d.lo + (i : Int)) + B < (if S * d.hi < S * d.lo then S * d.hi else S * d.lo) + B) := by omega
      unfold L_l_one_0
      simp only [ev_bs, ev_bn, ev_ms, ev_mn, ev_g0, ev_gs, ev_s0, ev_ss, ev_bn1, ev_bn2, ev_seq, ev_seq_nx, ev_seq_rt, ev_seq_bk, ev_seq_ct, ev_nil, ev_brk, ev_cnt, ev_if, ev_if_t, ev_if_f, ev_set, ev_oset, ev_setL, ev_osetL, ev_drop, ev_odrop, ev_ret, ev_oret, ev_retN, ev_retL, ev_oretL, ev_orun, ev_orunN, ev_orunN_nx, ev_fz, ev_fz_l, ev_fz_v, ev_app, ev_app_s, ev_clear, ev_clear_s, ev_oNx, ev_asg, ev_asg_s, ev_par, ev_par_s, ev_aug, ev_aug_s, ev_setIx, ev_setIx_s, ev_augIx, ev_for, ev_ofor, ev_V, ev_L, ev_B, ev_rdV, ev_rdLv, ev_rdLl, ev_rdBv, ev_rdBb, ev_C, ev_e2, ev_o2, ev_e1, ev_e3, ev_o3, ev_pN, ev_pS, ev_oPS, ev_aNil, ev_aCons, ev_oCons, ev_tup, ev_lst, ev_oLst, ev_scal, ev_scal_i, ev_scal_s, ev_scal_b, ev_neg, ev_oNeg, ev_tB, ev_asB, ev_tNot, ev_tAnd, ev_tOr, ev_oAnd_t, ev_oAnd_f, ev_oOr_t, ev_oOr_f, ev_eAnd, ev_eOr, ev_oAndD_t, ev_oAndD_f, ev_oOrD_t, ev_oOrD_f, ev_eNot, ev_oNot, ev_isi, ev_isi_ii, ev_isi_ib, ev_isi_il, ev_isi_it, ev_isi_is, ev_isi_ll, ev_isi_lt, ev_isi_li, ev_isi_lb, ev_isi_tt, ev_isi_tl, ev_isi_ss, ev_isi_bb, ev_isi_bi, ev_isN, ev_notN, ev_oIsN_n, ev_oIsN_i, ev_oIsN_l, ev_oIsN_t, ev_oNotN_n, ev_oNotN_i, ev_oNotN_l, ev_oNotN_t, ev_rev, ev_gRev, ev_iAny, ev_oAny_l, ev_oAny_t, ev_iSeqB, ev_oSeqB, ev_iEnum, ev_oEnum, ev_iZip, ev_oZip_ll, ev_oZip_tt, ev_oZip_lt, ev_oZip_tl, ev_iRng1, ev_rng1_s, ev_iRng2, ev_rng2_s, ev_tgN, ev_tgNil, ev_tgCons, ev_tgT, ev_wipe_nil, ev_wipe_cons, ev_lc, ev_oLc, ev_add, ev_addIS, ev_add_ll, ev_add_tt, ev_addL, ev_repL, ev_rep, ev_sub, ev_mul, ev_mod, ev_div, ev_pow, ev_lt, ev_le, ev_gt, ev_ge, ev_eq, ev_ne, ev_eqs, ev_nes, ev_eqb, ev_neb, ev_len, ev_lenT, ev_list, ev_listT, ev_tuple, ev_tupleT, ev_int, ev_intb, ev_sum, ev_sum0, ev_max2, ev_min2, ev_sl, ev_slT, ev_slL, ev_slB, ev_divZ, ev_onNx, ev_while, ev_eq_li, ev_ne_li, ev_eq_self, ev_ne_self, ev_eq_selfT, ev_ne_selfT, ev_ne_nil, ev_eq_nil, ev_sorted_i, decide_true, decide_false, List.nil_append, List.cons_append, ev_ix, ev_ixT, ev_ixB, ev_ixBT, i0, i1, sm, nm, nl, if_false]
      exact ⟨_, rfl⟩)
  rw [he]
  simp only [ev_bs, ev_bn, ev_ms, ev_mn, ev_g0, ev_gs, ev_s0, ev_ss, ev_bn1, ev_bn2, ev_seq, ev_seq_nx, ev_seq_rt, ev_seq_bk, ev_seq_ct, ev_nil, ev_brk, ev_cnt, ev_if, ev_if_t, ev_if_f, ev_set, ev_oset, ev_setL, ev_osetL, ev_drop, ev_odrop, ev_ret, ev_oret, ev_retN, ev_retL, ev_oretL, ev_orun, ev_orunN, ev_orunN_nx, ev_fz, ev_fz_l, ev_fz_v, ev_app, ev_app_s, ev_clear, ev_clear_s, ev_oNx, ev_asg, ev_asg_s, ev_par, ev_par_s, ev_aug, ev_aug_s, ev_setIx, ev_setIx_s, ev_augIx, ev_for, ev_ofor, ev_V, ev_L, ev_B, ev_rdV, ev_rdLv, ev_rdLl, ev_rdBv, ev_rdBb, ev_C, ev_e2, ev_o2, ev_e1, ev_e3, ev_o3, ev_pN, ev_pS, ev_oPS, ev_aNil, ev_aCons, ev_oCons, ev_tup, ev_lst, ev_oLst, ev_scal, ev_scal_i, ev_scal_s, ev_scal_b, ev_neg, ev_oNeg, ev_tB, ev_asB, ev_tNot, ev_tAnd, ev_tOr, ev_oAnd_t, ev_oAnd_f, ev_oOr_t, ev_oOr_f, ev_eAnd, ev_eOr, ev_oAndD_t, ev_oAndD_f, ev_oOrD_t, ev_oOrD_f, ev_eNot, ev_oNot, ev_isi, ev_isi_ii, ev_isi_ib, ev_isi_il, ev_isi_it, ev_isi_is, ev_isi_ll, ev_isi_lt, ev_isi_li, ev_isi_lb, ev_isi_tt, ev_isi_tl, ev_isi_ss, ev_isi_bb, ev_isi_bi, ev_isN, ev_notN, ev_oIsN_n, ev_oIsN_i, ev_oIsN_l, ev_oIsN_t, ev_oNotN_n, ev_oNotN_i, ev_oNotN_l, ev_oNotN_t, ev_rev, ev_gRev, ev_iAny, ev_oAny_l, ev_oAny_t, ev_iSeqB, ev_oSeqB, ev_iEnum, ev_oEnum, ev_iZip, ev_oZip_ll, ev_oZip_tt, ev_oZip_lt, ev_oZip_tl, ev_iRng1, ev_rng1_s, ev_iRng2, ev_rng2_s, ev_tgN, ev_tgNil, ev_tgCons, ev_tgT, ev_wipe_nil, ev_wipe_cons, ev_lc, ev_oLc, ev_add, ev_addIS, ev_add_ll, ev_add_tt, ev_addL, ev_repL, ev_rep, ev_sub, ev_mul, ev_mod, ev_div, ev_pow, ev_lt, ev_le, ev_gt, ev_ge, ev_eq, ev_ne, ev_eqs, ev_nes, ev_eqb, ev_neb, ev_len, ev_lenT, ev_list, ev_listT, ev_tuple, ev_tupleT, ev_int, ev_intb, ev_sum, ev_sum0, ev_max2, ev_min2, ev_sl, ev_slT, ev_slL, ev_slB, ev_divZ, ev_onNx, ev_while, ev_eq_li, ev_ne_li, ev_eq_self, ev_ne_self, ev_eq_selfT, ev_ne_selfT, ev_ne_nil, ev_eq_nil, ev_sorted_i, decide_true, decide_false, List.nil_append, List.cons_append, ev_ix, ev_ixT, ev_ixB, ev_ixBT, whole_ok, g3]
end DL
set_option Elab.async false
set_option linter.all false
set_option maxRecDepth 100000
set_option maxHeartbeats 4000000
set_option exponentiation.threshold 10000
namespace DL
open PySem PySem.Spec L2
theorem lay_allD {α : Type} (t : α → D) : ∀ l : List α, (∀ a ∈ l, (t a).canLay0 = true) → PyData.canLayAll0 (l.map t) = true
  | [], _ => by simp only [List.map_nil, PyData.canLayAll0]
  | a :: l, h => by
    simp only [List.map_cons, PyData.canLayAll0, h a List.mem_cons_self, lay_allD t l fun b hb => h b (List.mem_cons_of_mem _ hb), Bool.and_self]
theorem lay_ints (ns : List Int) : PyData.canLayAll0 (ns.map PyData.int) = true := layAll_map PyData.int (fun _ => rfl) ns
theorem dep_ints (ns : List Int) : PyData.depthAll (ns.map PyData.int) ≤ 0 := depthAll_mapD PyData.int (fun _ => Nat.le_refl _) ns
theorem lay_chD (c : Int × Int) : (chD c).canLay0 = true := by
  unfold chD
  simp only [PyData.canLay0, PyData.canLayAll0, Bool.and_self]
theorem dep_chD (c : Int × Int) : (chD c).depth ≤ 1 := by
  unfold chD
  simp only [PyData.depth, PyData.depthAll]
  omega
theorem dep_itD (i : Str × Int) : (itD i).depth ≤ 1 := by
  unfold itD
  simp only [PyData.depth, PyData.depthAll]
  omega
theorem dep_ruD (r : Bk.Rule) : (ruD r).depth ≤ 2 := by
  unfold ruD
  have := dep_ints r.co
  simp only [PyData.depth, PyData.depthAll]
  omega
theorem dep_deD (d : Bk.Deed) : (deD d).depth ≤ 3 := by
  unfold deD
  have := depthAll_mapD chD dep_chD d.ch
  simp only [PyData.depth, PyData.depthAll]
  omega
theorem shaped_bk {b : Bk.Book} (h : GB b) : SeqAt.shaped (bkD b) = true := by
  obtain ⟨g1, g2, g3, _⟩ := h
  have a1 : PyData.canLayAll0 (b.its.map itD) = true := lay_allD itD _ fun i hi => by
    unfold itD
    simp only [PyData.canLay0, PyData.canLayAll0, (g1 i hi).1, Bool.and_self]
  have a2 : PyData.canLayAll0 (b.rus.map ruD) = true := lay_allD ruD _ fun i hi => by
    unfold ruD
    simp only [PyData.canLay0, PyData.canLayAll0, (g2 i hi).1, lay_ints, Bool.and_self]
  have a3 : PyData.canLayAll0 (b.des.map deD) = true := lay_allD deD _ fun i hi => by
    unfold deD
    simp only [PyData.canLay0, PyData.canLayAll0, (g3 i hi).1, layAll_map chD lay_chD, Bool.and_self]
  have d1 := depthAll_mapD itD dep_itD b.its
  have d2 := depthAll_mapD ruD dep_ruD b.rus
  have d3 := depthAll_mapD deD dep_deD b.des
  unfold SeqAt.shaped bkD
  simp only [PyData.canLay0, PyData.canLayAll0, PyData.depth, PyData.depthAll, a1, a2, a3, Bool.and_self, Bool.true_and]
  refine decide_eq_true ?_
  show max (PyData.depthAll (b.its.map itD) + 1) (max (PyData.depthAll (b.rus.map ruD) + 1) (max (PyData.depthAll (b.des.map deD) + 1) 0)) + 1 ≤ 64
  omega
theorem law_true (ns : List Int) (h : ns.length ≤ 63) : f_law [.list (ns.map .int)] = some (.bool true) := by
  rw [fe_law]
  unfold b_law
  obtain ⟨a, b, c, f1, ha, hb, hc⟩ := counts_ok ns
  obtain ⟨bk0, f2, hg0⟩ := book_ok ns ha hb hc
  obtain ⟨bk, f3, hg⟩ := stretched_ok ns hg0
  obtain ⟨g1, g2, g3, l1, l2, l3⟩ := id hg
  have sh := shaped_bk hg
  have fold : PyData.tuple [.list (bk.its.map itD), .list (bk.rus.map ruD), .list (bk.des.map deD)] = bkD bk := rfl
  have e1' : ∀ t1 t2 t3 t4 t5 t6, lcF (tgN 7) (fun _ => some true) (e2 gIxS (eV 7) (eC (.int 1))) [t1, t2, t3, t4, t5, t6, .und, .und] (bk.its.map itD) = some ((bk.its.map fun i => i.2).map .int) := fun t1 t2 t3 t4 t5 t6 => by
    rw [List.map_map]
    refine lcF_map itD (fun i => .int i.2) _ ?_
    intro i hm
    refine ⟨_, rfl, rfl, ?_⟩
    have : gIxS (itD i) (.int 1) = some (.int i.2) := rfl
    simp only [ev_bs, ev_bn, ev_ms, ev_mn, ev_g0, ev_gs, ev_s0, ev_ss, ev_bn1, ev_bn2, ev_seq, ev_seq_nx, ev_seq_rt, ev_seq_bk, ev_seq_ct, ev_nil, ev_brk, ev_cnt, ev_if, ev_if_t, ev_if_f, ev_set, ev_oset, ev_setL, ev_osetL, ev_drop, ev_odrop, ev_ret, ev_oret, ev_retN, ev_retL, ev_oretL, ev_orun, ev_orunN, ev_orunN_nx, ev_fz, ev_fz_l, ev_fz_v, ev_app, ev_app_s, ev_clear, ev_clear_s, ev_oNx, ev_asg, ev_asg_s, ev_par, ev_par_s, ev_aug, ev_aug_s, ev_setIx, ev_setIx_s, ev_augIx, ev_for, ev_ofor, ev_V, ev_L, ev_B, ev_rdV, ev_rdLv, ev_rdLl, ev_rdBv, ev_rdBb, ev_C, ev_e2, ev_o2, ev_e1, ev_e3, ev_o3, ev_pN, ev_pS, ev_oPS, ev_aNil, ev_aCons, ev_oCons, ev_tup, ev_lst, ev_oLst, ev_scal, ev_scal_i, ev_scal_s, ev_scal_b, ev_neg, ev_oNeg, ev_tB, ev_asB, ev_tNot, ev_tAnd, ev_tOr, ev_oAnd_t, ev_oAnd_f, ev_oOr_t, ev_oOr_f, ev_eAnd, ev_eOr, ev_oAndD_t, ev_oAndD_f, ev_oOrD_t, ev_oOrD_f, ev_eNot, ev_oNot, ev_isi, ev_isi_ii, ev_isi_ib, ev_isi_il, ev_isi_it, ev_isi_is, ev_isi_ll, ev_isi_lt, ev_isi_li, ev_isi_lb, ev_isi_tt, ev_isi_tl, ev_isi_ss, ev_isi_bb, ev_isi_bi, ev_isN, ev_notN, ev_oIsN_n, ev_oIsN_i, ev_oIsN_l, ev_oIsN_t, ev_oNotN_n, ev_oNotN_i, ev_oNotN_l, ev_oNotN_t, ev_rev, ev_gRev, ev_iAny, ev_oAny_l, ev_oAny_t, ev_iSeqB, ev_oSeqB, ev_iEnum, ev_oEnum, ev_iZip, ev_oZip_ll, ev_oZip_tt, ev_oZip_lt, ev_oZip_tl, ev_iRng1, ev_rng1_s, ev_iRng2, ev_rng2_s, ev_tgN, ev_tgNil, ev_tgCons, ev_tgT, ev_wipe_nil, ev_wipe_cons, ev_lc, ev_oLc, ev_add, ev_addIS, ev_add_ll, ev_add_tt, ev_addL, ev_repL, ev_rep, ev_sub, ev_mul, ev_mod, ev_div, ev_pow, ev_lt, ev_le, ev_gt, ev_ge, ev_eq, ev_ne, ev_eqs, ev_nes, ev_eqb, ev_neb, ev_len, ev_lenT, ev_list, ev_listT, ev_tuple, ev_tupleT, ev_int, ev_intb, ev_sum, ev_sum0, ev_max2, ev_min2, ev_sl, ev_slT, ev_slL, ev_slB, ev_divZ, ev_onNx, ev_while, ev_eq_li, ev_ne_li, ev_eq_self, ev_ne_self, ev_eq_selfT, ev_ne_selfT, ev_ne_nil, ev_eq_nil, ev_sorted_i, decide_true, decide_false, List.nil_append, List.cons_append, ev_ix, ev_ixT, ev_ixB, ev_ixBT, this]
  have v1 : -(2 ^ 62) ≤ (bk.its.length : Int) := by omega
  have v2 : (bk.its.length : Int) ≤ 16777216 := by omega
  have w1 : -(2 ^ 62) ≤ (bk.rus.length : Int) := by omega
  have w2 : (bk.rus.length : Int) ≤ 16777216 := by omega
  have y1 : -(2 ^ 62) ≤ (bk.des.length : Int) := by omega
  have y2 : (bk.des.length : Int) ≤ 16777216 := by omega
  have e2' : ∀ t1 t2 t3 t4 t6 t7, lcF (tgN 5) (fun _ => some true) (e1 f_l_wide (aCons (eB 0) (aCons (e2 gAdd (eC (.int 300)) (eV 5)) (aCons (e2 gPow (eC (.int 10)) (eC (.int 23))) aNil)))) [.brw (.list (ns.map .int)), t1, t2, t3, t4, .und, t6, t7] (rng 0 (bk.its.length : Int).toNat) =
      some (((List.range bk.its.length).map fun i : Nat => wideZ ns (300 + (0 + (i : Int))) T23).map .int) := fun t1 t2 t3 t4 t6 t7 => by
    rw [rng_map, List.map_map, Int.toNat_natCast]
    refine lcF_map (fun i : Nat => PyData.int (0 + (i : Int))) (fun i : Nat => .int (wideZ ns (300 + (0 + (i : Int))) T23)) _ ?_
    intro i hm
    have hi := List.mem_range.mp hm
    have g := (wideZ_ok ns (k := 300 + (0 + (i : Int))) (m := T23) (by omega) (by omega) (by decide) (by decide)).1
    refine ⟨_, rfl, rfl, ?_⟩
    simp only [ev_bs, ev_bn, ev_ms, ev_mn, ev_g0, ev_gs, ev_s0, ev_ss, ev_bn1, ev_bn2, ev_seq, ev_seq_nx, ev_seq_rt, ev_seq_bk, ev_seq_ct, ev_nil, ev_brk, ev_cnt, ev_if, ev_if_t, ev_if_f, ev_set, ev_oset, ev_setL, ev_osetL, ev_drop, ev_odrop, ev_ret, ev_oret, ev_retN, ev_retL, ev_oretL, ev_orun, ev_orunN, ev_orunN_nx, ev_fz, ev_fz_l, ev_fz_v, ev_app, ev_app_s, ev_clear, ev_clear_s, ev_oNx, ev_asg, ev_asg_s, ev_par, ev_par_s, ev_aug, ev_aug_s, ev_setIx, ev_setIx_s, ev_augIx, ev_for, ev_ofor, ev_V, ev_L, ev_B, ev_rdV, ev_rdLv, ev_rdLl, ev_rdBv, ev_rdBb, ev_C, ev_e2, ev_o2, ev_e1, ev_e3, ev_o3, ev_pN, ev_pS, ev_oPS, ev_aNil, ev_aCons, ev_oCons, ev_tup, ev_lst, ev_oLst, ev_scal, ev_scal_i, ev_scal_s, ev_scal_b, ev_neg, ev_oNeg, ev_tB, ev_asB, ev_tNot, ev_tAnd, ev_tOr, ev_oAnd_t, ev_oAnd_f, ev_oOr_t, ev_oOr_f, ev_eAnd, ev_eOr, ev_oAndD_t, ev_oAndD_f, ev_oOrD_t, ev_oOrD_f, ev_eNot, ev_oNot, ev_isi, ev_isi_ii, ev_isi_ib, ev_isi_il, ev_isi_it, ev_isi_is, ev_isi_ll, ev_isi_lt, ev_isi_li, ev_isi_lb, ev_isi_tt, ev_isi_tl, ev_isi_ss, ev_isi_bb, ev_isi_bi, ev_isN, ev_notN, ev_oIsN_n, ev_oIsN_i, ev_oIsN_l, ev_oIsN_t, ev_oNotN_n, ev_oNotN_i, ev_oNotN_l, ev_oNotN_t, ev_rev, ev_gRev, ev_iAny, ev_oAny_l, ev_oAny_t, ev_iSeqB, ev_oSeqB, ev_iEnum, ev_oEnum, ev_iZip, ev_oZip_ll, ev_oZip_tt, ev_oZip_lt, ev_oZip_tl, ev_iRng1, ev_rng1_s, ev_iRng2, ev_rng2_s, ev_tgN, ev_tgNil, ev_tgCons, ev_tgT, ev_wipe_nil, ev_wipe_cons, ev_lc, ev_oLc, ev_add, ev_addIS, ev_add_ll, ev_add_tt, ev_addL, ev_repL, ev_rep, ev_sub, ev_mul, ev_mod, ev_div, ev_pow, ev_lt, ev_le, ev_gt, ev_ge, ev_eq, ev_ne, ev_eqs, ev_nes, ev_eqb, ev_neb, ev_len, ev_lenT, ev_list, ev_listT, ev_tuple, ev_tupleT, ev_int, ev_intb, ev_sum, ev_sum0, ev_max2, ev_min2, ev_sl, ev_slT, ev_slL, ev_slB, ev_divZ, ev_onNx, ev_while, ev_eq_li, ev_ne_li, ev_eq_self, ev_ne_self, ev_eq_selfT, ev_ne_selfT, ev_ne_nil, ev_eq_nil, ev_sorted_i, decide_true, decide_false, List.nil_append, List.cons_append, ev_ix, ev_ixT, ev_ixB, ev_ixBT, p10, q23, b23, g]
  have hst : ∀ st ∈ [bk.its.map fun i => i.2, (List.range bk.its.length).map fun i : Nat => wideZ ns (300 + (0 + (i : Int))) T23], st.length = bk.its.length ∧ ∀ s ∈ st, Sz 90 s := fun st hm => by
    simp only [List.mem_cons, List.not_mem_nil, or_false] at hm
    rcases hm with rfl | rfl
    · refine ⟨List.length_map _, fun s hs => ?_⟩
      obtain ⟨i, hi, rfl⟩ := List.mem_map.mp hs
      exact (g1 i hi).2.mono (by decide)
    · refine ⟨by rw [List.length_map, List.length_range], fun s hs => ?_⟩
      obtain ⟨i, hi, rfl⟩ := List.mem_map.mp hs
      have hi := List.mem_range.mp hi
      exact (wideZ_ok ns (by omega) (by omega) (by decide) (by decide)).2.mono (by decide)
  have one : ∀ (k j : Nat), k < bk.rus.length → j < bk.des.length → f_l_one [bkD bk, bkD bk, .int (0 + (k : Int)), .int (0 + (j : Int)), .list [.tuple ((bk.its.map fun i => i.2).map .int), .tuple (((List.range bk.its.length).map fun i : Nat => wideZ ns (300 + (0 + (i : Int))) T23).map .int)]] = some (.bool true) := fun k j hk hj =>
    one_ok hg (List.getElem?_eq_getElem hk) (List.getElem?_eq_getElem hj) hst
  simp only [ev_bs, ev_bn, ev_ms, ev_mn, ev_g0, ev_gs, ev_s0, ev_ss, ev_bn1, ev_bn2, ev_seq, ev_seq_nx, ev_seq_rt, ev_seq_bk, ev_seq_ct, ev_nil, ev_brk, ev_cnt, ev_if, ev_if_t, ev_if_f, ev_set, ev_oset, ev_setL, ev_osetL, ev_drop, ev_odrop, ev_ret, ev_oret, ev_retN, ev_retL, ev_oretL, ev_orun, ev_orunN, ev_orunN_nx, ev_fz, ev_fz_l, ev_fz_v, ev_app, ev_app_s, ev_clear, ev_clear_s, ev_oNx, ev_asg, ev_asg_s, ev_par, ev_par_s, ev_aug, ev_aug_s, ev_setIx, ev_setIx_s, ev_augIx, ev_for, ev_ofor, ev_V, ev_L, ev_B, ev_rdV, ev_rdLv, ev_rdLl, ev_rdBv, ev_rdBb, ev_C, ev_e2, ev_o2, ev_e1, ev_e3, ev_o3, ev_pN, ev_pS, ev_oPS, ev_aNil, ev_aCons, ev_oCons, ev_tup, ev_lst, ev_oLst, ev_scal, ev_scal_i, ev_scal_s, ev_scal_b, ev_neg, ev_oNeg, ev_tB, ev_asB, ev_tNot, ev_tAnd, ev_tOr, ev_oAnd_t, ev_oAnd_f, ev_oOr_t, ev_oOr_f, ev_eAnd, ev_eOr, ev_oAndD_t, ev_oAndD_f, ev_oOrD_t, ev_oOrD_f, ev_eNot, ev_oNot, ev_isi, ev_isi_ii, ev_isi_ib, ev_isi_il, ev_isi_it, ev_isi_is, ev_isi_ll, ev_isi_lt, ev_isi_li, ev_isi_lb, ev_isi_tt, ev_isi_tl, ev_isi_ss, ev_isi_bb, ev_isi_bi, ev_isN, ev_notN, ev_oIsN_n, ev_oIsN_i, ev_oIsN_l, ev_oIsN_t, ev_oNotN_n, ev_oNotN_i, ev_oNotN_l, ev_oNotN_t, ev_rev, ev_gRev, ev_iAny, ev_oAny_l, ev_oAny_t, ev_iSeqB, ev_oSeqB, ev_iEnum, ev_oEnum, ev_iZip, ev_oZip_ll, ev_oZip_tt, ev_oZip_lt, ev_oZip_tl, ev_iRng1, ev_rng1_s, ev_iRng2, ev_rng2_s, ev_tgN, ev_tgNil, ev_tgCons, ev_tgT, ev_wipe_nil, ev_wipe_cons, ev_lc, ev_oLc, ev_add, ev_addIS, ev_add_ll, ev_add_tt, ev_addL, ev_repL, ev_rep, ev_sub, ev_mul, ev_mod, ev_div, ev_pow, ev_lt, ev_le, ev_gt, ev_ge, ev_eq, ev_ne, ev_eqs, ev_nes, ev_eqb, ev_neb, ev_len, ev_lenT, ev_list, ev_listT, ev_tuple, ev_tupleT, ev_int, ev_intb, ev_sum, ev_sum0, ev_max2, ev_min2, ev_sl, ev_slT, ev_slL, ev_slB, ev_divZ, ev_onNx, ev_while, ev_eq_li, ev_ne_li, ev_eq_self, ev_ne_self, ev_eq_selfT, ev_ne_selfT, ev_ne_nil, ev_eq_nil, ev_sorted_i, decide_true, decide_false, List.nil_append, List.cons_append, ev_ix, ev_ixT, ev_ixB, ev_ixBT, f1, f2, f3, i_bk0, i_bk1, i_bk2, fold, e1', List.length_map, v1, v2, e2', w1, w2]
  generalize (bk.its.map fun i => i.2).map PyData.int = S1 at one
  generalize ((List.range bk.its.length).map fun i : Nat => wideZ ns (300 + (0 + (i : Int))) T23).map PyData.int = S2 at one
  obtain ⟨e, he, t5, t6, rfl⟩ := forF_rng (lo := 0) (n := (bk.rus.length : Int).toNat) (v := 5) (b := L_law_1) (env := [.brw (.list (ns.map .int)), .val (bkD bk), .val (bkD bk), .val (.tuple S1), .val (.list [.tuple S1, .tuple S2]), .und, .und, .und])
    (fun i env => ∃ t5 t6, env = [.brw (.list (ns.map .int)), .val (bkD bk), .val (bkD bk), .val (.tuple S1), .val (.list [.tuple S1, .tuple S2]), t5, t6, .und]) ⟨_, _, rfl⟩ (fun i env hi hI => by
      obtain ⟨t5, t6, rfl⟩ := hI
      unfold L_law_1
      simp only [ev_bs, ev_bn, ev_ms, ev_mn, ev_g0, ev_gs, ev_s0, ev_ss, ev_bn1, ev_bn2, ev_seq, ev_seq_nx, ev_seq_rt, ev_seq_bk, ev_seq_ct, ev_nil, ev_brk, ev_cnt, ev_if, ev_if_t, ev_if_f, ev_set, ev_oset, ev_setL, ev_osetL, ev_drop, ev_odrop, ev_ret, ev_oret, ev_retN, ev_retL, ev_oretL, ev_orun, ev_orunN, ev_orunN_nx, ev_fz, ev_fz_l, ev_fz_v, ev_app, ev_app_s, ev_clear, ev_clear_s, ev_oNx, ev_asg, ev_asg_s, ev_par, ev_par_s, ev_aug, ev_aug_s, ev_setIx, ev_setIx_s, ev_augIx, ev_for, ev_ofor, ev_V, ev_L, ev_B, ev_rdV, ev_rdLv, ev_rdLl, ev_rdBv, ev_rdBb, ev_C, ev_e2, ev_o2, ev_e1, ev_e3, ev_o3, ev_pN, ev_pS, ev_oPS, ev_aNil, ev_aCons, ev_oCons, ev_tup, ev_lst, ev_oLst, ev_scal, ev_scal_i, ev_scal_s, ev_scal_b, ev_neg, ev_oNeg, ev_tB, ev_asB, ev_tNot, ev_tAnd, ev_tOr, ev_oAnd_t, ev_oAnd_f, ev_oOr_t, ev_oOr_f, ev_eAnd, ev_eOr, ev_oAndD_t, ev_oAndD_f, ev_oOrD_t, ev_oOrD_f, ev_eNot, ev_oNot, ev_isi, ev_isi_ii, ev_isi_ib, ev_isi_il, ev_isi_it, ev_isi_is, ev_isi_ll, ev_isi_lt, ev_isi_li, ev_isi_lb, ev_isi_tt, ev_isi_tl, ev_isi_ss, ev_isi_bb, ev_isi_bi, ev_isN, ev_notN, ev_oIsN_n, ev_oIsN_i, ev_oIsN_l, ev_oIsN_t, ev_oNotN_n, ev_oNotN_i, ev_oNotN_l, ev_oNotN_t, ev_rev, ev_gRev, ev_iAny, ev_oAny_l, ev_oAny_t, ev_iSeqB, ev_oSeqB, ev_iEnum, ev_oEnum, ev_iZip, ev_oZip_ll, ev_oZip_tt, ev_oZip_lt, ev_oZip_tl, ev_iRng1, ev_rng1_s, ev_iRng2, ev_rng2_s, ev_tgN, ev_tgNil, ev_tgCons, ev_tgT, ev_wipe_nil, ev_wipe_cons, ev_lc, ev_oLc, ev_add, ev_addIS, ev_add_ll, ev_add_tt, ev_addL, ev_repL, ev_rep, ev_sub, ev_mul, ev_mod, ev_div, ev_pow, ev_lt, ev_le, ev_gt, ev_ge, ev_eq, ev_ne, ev_eqs, ev_nes, ev_eqb, ev_neb, ev_len, ev_lenT, ev_list, ev_listT, ev_tuple, ev_tupleT, ev_int, ev_intb, ev_sum, ev_sum0, ev_max2, ev_min2, ev_sl, ev_slT, ev_slL, ev_slB, ev_divZ, ev_onNx, ev_while, ev_eq_li, ev_ne_li, ev_eq_self, ev_ne_self, ev_eq_selfT, ev_ne_selfT, ev_ne_nil, ev_eq_nil, ev_sorted_i, decide_true, decide_false, List.nil_append, List.cons_append, ev_ix, ev_ixT, ev_ixB, ev_ixBT, i_bk2, List.length_map, y1, y2]
      obtain ⟨e, he, t6, rfl⟩ := forF_rng (lo := 0) (n := (bk.des.length : Int).toNat) (v := 6) (b := L_law_0) (env := [.brw (.list (ns.map .int)), .val (bkD bk), .val (bkD bk), .val (.tuple S1), .val (.list [.tuple S1, .tuple S2]), .val (.int (0 + (i : Int))), t6, .und])
        (fun j env => ∃ t6, env = [.brw (.list (ns.map .int)), .val (bkD bk), .val (bkD bk), .val (.tuple S1), .val (.list [.tuple S1, .tuple S2]), .val (.int (0 + (i : Int))), t6, .und]) ⟨_, rfl⟩ (fun j env hj hI => by
          obtain ⟨t6, rfl⟩ := hI
          have o := one i j (by omega) (by omega)
          unfold L_law_0
          simp only [ev_bs, ev_bn, ev_ms, ev_mn, ev_g0, ev_gs, ev_s0, ev_ss, ev_bn1, ev_bn2, ev_seq, ev_seq_nx, ev_seq_rt, ev_seq_bk, ev_seq_ct, ev_nil, ev_brk, ev_cnt, ev_if, ev_if_t, ev_if_f, ev_set, ev_oset, ev_setL, ev_osetL, ev_drop, ev_odrop, ev_ret, ev_oret, ev_retN, ev_retL, ev_oretL, ev_orun, ev_orunN, ev_orunN_nx, ev_fz, ev_fz_l, ev_fz_v, ev_app, ev_app_s, ev_clear, ev_clear_s, ev_oNx, ev_asg, ev_asg_s, ev_par, ev_par_s, ev_aug, ev_aug_s, ev_setIx, ev_setIx_s, ev_augIx, ev_for, ev_ofor, ev_V, ev_L, ev_B, ev_rdV, ev_rdLv, ev_rdLl, ev_rdBv, ev_rdBb, ev_C, ev_e2, ev_o2, ev_e1, ev_e3, ev_o3, ev_pN, ev_pS, ev_oPS, ev_aNil, ev_aCons, ev_oCons, ev_tup, ev_lst, ev_oLst, ev_scal, ev_scal_i, ev_scal_s, ev_scal_b, ev_neg, ev_oNeg, ev_tB, ev_asB, ev_tNot, ev_tAnd, ev_tOr, ev_oAnd_t, ev_oAnd_f, ev_oOr_t, ev_oOr_f, ev_eAnd, ev_eOr, ev_oAndD_t, ev_oAndD_f, ev_oOrD_t, ev_oOrD_f, ev_eNot, ev_oNot, ev_isi, ev_isi_ii, ev_isi_ib, ev_isi_il, ev_isi_it, ev_isi_is, ev_isi_ll, ev_isi_lt, ev_isi_li, ev_isi_lb, ev_isi_tt, ev_isi_tl, ev_isi_ss, ev_isi_bb, ev_isi_bi, ev_isN, ev_notN, ev_oIsN_n, ev_oIsN_i, ev_oIsN_l, ev_oIsN_t, ev_oNotN_n, ev_oNotN_i, ev_oNotN_l, ev_oNotN_t, ev_rev, ev_gRev, ev_iAny, ev_oAny_l, ev_oAny_t, ev_iSeqB, ev_oSeqB, ev_iEnum, ev_oEnum, ev_iZip, ev_oZip_ll, ev_oZip_tt, ev_oZip_lt, ev_oZip_tl, ev_iRng1, ev_rng1_s, ev_iRng2, ev_rng2_s, ev_tgN, ev_tgNil, ev_tgCons, ev_tgT, ev_wipe_nil, ev_wipe_cons, ev_lc, ev_oLc, ev_add, ev_addIS, ev_add_ll, ev_add_tt, ev_addL, ev_repL, ev_rep, ev_sub, ev_mul, ev_mod, ev_div, ev_pow, ev_lt, ev_le, ev_gt, ev_ge, ev_eq, ev_ne, ev_eqs, ev_nes, ev_eqb, ev_neb, ev_len, ev_lenT, ev_list, ev_listT, ev_tuple, ev_tupleT, ev_int, ev_intb, ev_sum, ev_sum0, ev_max2, ev_min2, ev_sl, ev_slT, ev_slL, ev_slB, ev_divZ, ev_onNx, ev_while, ev_eq_li, ev_ne_li, ev_eq_self, ev_ne_self, ev_eq_selfT, ev_ne_selfT, ev_ne_nil, ev_eq_nil, ev_sorted_i, decide_true, decide_false, List.nil_append, List.cons_append, ev_ix, ev_ixT, ev_ixB, ev_ixBT, o]
          exact ⟨_, rfl⟩)
      rw [he]
      exact ⟨_, _, rfl⟩)
  rw [he]
  have eqs : gEq (bkD bk) (bkD bk) = some (.bool true) := ev_eq_selfT sh
  simp only [ev_bs, ev_bn, ev_ms, ev_mn, ev_g0, ev_gs, ev_s0, ev_ss, ev_bn1, ev_bn2, ev_seq, ev_seq_nx, ev_seq_rt, ev_seq_bk, ev_seq_ct, ev_nil, ev_brk, ev_cnt, ev_if, ev_if_t, ev_if_f, ev_set, ev_oset, ev_setL, ev_osetL, ev_drop, ev_odrop, ev_ret, ev_oret, ev_retN, ev_retL, ev_oretL, ev_orun, ev_orunN, ev_orunN_nx, ev_fz, ev_fz_l, ev_fz_v, ev_app, ev_app_s, ev_clear, ev_clear_s, ev_oNx, ev_asg, ev_asg_s, ev_par, ev_par_s, ev_aug, ev_aug_s, ev_setIx, ev_setIx_s, ev_augIx, ev_for, ev_ofor, ev_V, ev_L, ev_B, ev_rdV, ev_rdLv, ev_rdLl, ev_rdBv, ev_rdBb, ev_C, ev_e2, ev_o2, ev_e1, ev_e3, ev_o3, ev_pN, ev_pS, ev_oPS, ev_aNil, ev_aCons, ev_oCons, ev_tup, ev_lst, ev_oLst, ev_scal, ev_scal_i, ev_scal_s, ev_scal_b, ev_neg, ev_oNeg, ev_tB, ev_asB, ev_tNot, ev_tAnd, ev_tOr, ev_oAnd_t, ev_oAnd_f, ev_oOr_t, ev_oOr_f, ev_eAnd, ev_eOr, ev_oAndD_t, ev_oAndD_f, ev_oOrD_t, ev_oOrD_f, ev_eNot, ev_oNot, ev_isi, ev_isi_ii, ev_isi_ib, ev_isi_il, ev_isi_it, ev_isi_is, ev_isi_ll, ev_isi_lt, ev_isi_li, ev_isi_lb, ev_isi_tt, ev_isi_tl, ev_isi_ss, ev_isi_bb, ev_isi_bi, ev_isN, ev_notN, ev_oIsN_n, ev_oIsN_i, ev_oIsN_l, ev_oIsN_t, ev_oNotN_n, ev_oNotN_i, ev_oNotN_l, ev_oNotN_t, ev_rev, ev_gRev, ev_iAny, ev_oAny_l, ev_oAny_t, ev_iSeqB, ev_oSeqB, ev_iEnum, ev_oEnum, ev_iZip, ev_oZip_ll, ev_oZip_tt, ev_oZip_lt, ev_oZip_tl, ev_iRng1, ev_rng1_s, ev_iRng2, ev_rng2_s, ev_tgN, ev_tgNil, ev_tgCons, ev_tgT, ev_wipe_nil, ev_wipe_cons, ev_lc, ev_oLc, ev_add, ev_addIS, ev_add_ll, ev_add_tt, ev_addL, ev_repL, ev_rep, ev_sub, ev_mul, ev_mod, ev_div, ev_pow, ev_lt, ev_le, ev_gt, ev_ge, ev_eq, ev_ne, ev_eqs, ev_nes, ev_eqb, ev_neb, ev_len, ev_lenT, ev_list, ev_listT, ev_tuple, ev_tupleT, ev_int, ev_intb, ev_sum, ev_sum0, ev_max2, ev_min2, ev_sl, ev_slT, ev_slL, ev_slB, ev_divZ, ev_onNx, ev_while, ev_eq_li, ev_ne_li, ev_eq_self, ev_ne_self, ev_eq_selfT, ev_ne_selfT, ev_ne_nil, ev_eq_nil, ev_sorted_i, decide_true, decide_false, List.nil_append, List.cons_append, ev_ix, ev_ixT, ev_ixB, ev_ixBT, eqs]
end DL
set_option Elab.async false
set_option linter.all false
set_option maxRecDepth 100000
set_option maxHeartbeats 4000000
namespace DL
open PySem PySem.Spec L2
section
variable {P : Program} {w : World} {K : PySem.W.Frag} {mg : Str → Option Value} {base : Heap}
theorem ok_value_of {f : Addr} {fd : FuncData} (F : Fun K "value_of" "value_of" s_value_of f fd) (hm : mg "value_of" = some (.ref f)) (b : Binds K fd ["form", "values"] []) (B_sum : mg "sum" = none) (B_zip : mg "zip" = none) : Callee P w K mg base 1 "value_of" [.fz, .fz] .fz f_value_of :=
  ⟨⟨f, fd, ["form", "values"], fn_pure F sc_value_of rfl rfl fun cdv A outer s H E G hr hW =>
  (dss_one (ds_ret (d_bin o_add (d_callB (o_sum rfl) (by rfl) B_sum (by decide +kernel) (da_cons (d_lc [("many", 2), ("value", 3)] rfl sc_value_of.nd (di_zipG (by rfl) B_zip (d_ix (d_var 0 (pv 0)) d_int (fun _ _ => rfl)) (d_var 1 (pv 1))) N_value_of (defScope s_value_of) (by decide +kernel) (fun _ _ _ _ _ => (dg_tup rfl (dgs_cons (dg_name 2 sc_value_of.nd rfl) (dgs_cons (dg_name 3 sc_value_of.nd rfl) dgs_nil)) rfl (fun _ _ _ h => tgCons_len (fun _ _ _ h => tgCons_len (fun _ _ _ h => tgNil_len h) h) h))) (fun _ _ _ _ _ => dif_nil) (fun _ _ _ _ _ => (d_bin o_mul (d_var 2 (pv 2)) (d_var 3 (pv 3))))) .vw da_nil)) (d_ix (d_var 0 (pv 0)) d_int (fun _ _ => rfl))))), hm, F.kp, b⟩⟩

theorem ok_spare {f : Addr} {fd : FuncData} (F : Fun K "spare" "spare" s_spare f fd) (hm : mg "spare" = some (.ref f)) (b : Binds K fd ["book", "rule", "state"] []) (c_value_of : Callee P w K mg base 1 "value_of" [.fz, .fz] .fz f_value_of) : Callee P w K mg base 2 "spare" [.fz, .fz, .fz] .fz f_spare :=
  ⟨⟨f, fd, ["book", "rule", "state"], fn_pure F sc_spare rfl rfl fun cdv A outer s H E G hr hW =>
  (dss_one (ds_ret (d_call c_value_of (hr.mono (by decide)) (by rfl) (da_cons (d_sl (d_ix (d_ix (d_var 0 (pv 0)) d_int (fun _ _ => rfl)) (d_var 1 (pv 1)) (fun _ _ => rfl)) (dp_some d_int) dp_none) .fz (da_cons (d_var 2 (pv 2)) .fz da_nil))))), hm, F.kp, b⟩⟩

theorem ok_gain {f : Addr} {fd : FuncData} (F : Fun K "gain" "gain" s_gain f fd) (hm : mg "gain" = some (.ref f)) (b : Binds K fd ["book", "rule", "deed"] []) (B_zip : mg "zip" = none) : Callee P w K mg base 1 "gain" [.fz, .fz, .fz] .fz f_gain :=
  ⟨⟨f, fd, ["book", "rule", "deed"], fn_pure F sc_gain rfl rfl fun cdv A outer s H E G hr hW =>
  (dss_cons (ds_set 3 sc_gain.nd rfl d_int)
  (dss_cons (ds_set 4 sc_gain.nd rfl d_int)
  (dss_cons (ds_for PassesOwn.never rfl (di_zipG (by rfl) B_zip (d_ix (d_ix (d_ix (d_var 0 (pv 0)) d_int (fun _ _ => rfl)) (d_var 1 (pv 1)) (fun _ _ => rfl)) d_int (fun _ _ => rfl)) (d_ix (d_ix (d_ix (d_var 0 (pv 0)) d_int (fun _ _ => rfl)) (d_var 2 (pv 2)) (fun _ _ => rfl)) d_int (fun _ _ => rfl))) (dg_tup rfl (dgs_cons (dg_name 5 sc_gain.nd rfl) (dgs_cons (dg_name 6 sc_gain.nd rfl) dgs_nil)) rfl (fun _ _ _ h => tgCons_len (fun _ _ _ h => tgCons_len (fun _ _ _ h => tgNil_len h) h) h))
  (dss_cons (ds_aug 3 sc_gain.nd rfl a_add (d_bin o_mul (d_var 5 (pv 5)) (d_ix (d_var 6 (pv 6)) d_int (fun _ _ => rfl))))
  (dss_one (ds_aug 4 sc_gain.nd rfl a_add (d_bin o_mul (d_var 5 (pv 5)) (d_ix (d_var 6 (pv 6)) d_int (fun _ _ => rfl)))))))
  (dss_one (ds_ret (d_tup (da_cons (d_var 3 (pv 3)) .fz (da_cons (d_var 4 (pv 4)) .fz da_nil)))))))), hm, F.kp, b⟩⟩

theorem ok_least_gain {f : Addr} {fd : FuncData} (F : Fun K "least_gain" "least_gain" s_least_gain f fd) (hm : mg "least_gain" = some (.ref f)) (b : Binds K fd ["book", "rule", "deed"] []) (c_gain : Callee P w K mg base 1 "gain" [.fz, .fz, .fz] .fz f_gain) (B_min : mg "min" = none) : Callee P w K mg base 2 "least_gain" [.fz, .fz, .fz] .fz f_least_gain :=
  ⟨⟨f, fd, ["book", "rule", "deed"], fn_pure F sc_least_gain rfl rfl fun cdv A outer s H E G hr hW =>
  (dss_cons (ds_asg (d_call c_gain (hr.mono (by decide)) (by rfl) (da_cons (d_var 0 (pv 0)) .fz (da_cons (d_var 1 (pv 1)) .fz (da_cons (d_var 2 (pv 2)) .fz da_nil)))) (dg_tup rfl (dgs_cons (dg_name 3 sc_least_gain.nd rfl) (dgs_cons (dg_name 4 sc_least_gain.nd rfl) dgs_nil)) rfl (fun _ _ _ h => tgCons_len (fun _ _ _ h => tgCons_len (fun _ _ _ h => tgNil_len h) h) h)))
  (dss_one (ds_ret (d_bin o_add (d_callB (o_min2 rfl) (by rfl) B_min (by decide +kernel) (da_cons (d_bin o_mul (d_var 3 (pv 3)) (d_ix (d_ix (d_ix (d_var 0 (pv 0)) d_int (fun _ _ => rfl)) (d_var 2 (pv 2)) (fun _ _ => rfl)) d_int (fun _ _ => rfl))) .vw (da_cons (d_bin o_mul (d_var 3 (pv 3)) (d_ix (d_ix (d_ix (d_var 0 (pv 0)) d_int (fun _ _ => rfl)) (d_var 2 (pv 2)) (fun _ _ => rfl)) d_int (fun _ _ => rfl))) .vw da_nil))) (d_var 4 (pv 4)))))), hm, F.kp, b⟩⟩

theorem ok_is_free {f : Addr} {fd : FuncData} (F : Fun K "is_free" "is_free" s_is_free f fd) (hm : mg "is_free" = some (.ref f)) (b : Binds K fd ["book", "rule", "deed"] []) (c_least_gain : Callee P w K mg base 2 "least_gain" [.fz, .fz, .fz] .fz f_least_gain) : Callee P w K mg base 3 "is_free" [.fz, .fz, .fz] .fz f_is_free :=
  ⟨⟨f, fd, ["book", "rule", "deed"], fn_pure F sc_is_free rfl rfl fun cdv A outer s H E G hr hW =>
  (dss_one (ds_ret (d_cmp o_ge (d_call c_least_gain (hr.mono (by decide)) (by rfl) (da_cons (d_var 0 (pv 0)) .fz (da_cons (d_var 1 (pv 1)) .fz (da_cons (d_var 2 (pv 2)) .fz da_nil)))) d_int (by first | exact nomark _ | rfl)))), hm, F.kp, b⟩⟩

theorem ok_l_at {f : Addr} {fd : FuncData} (F : Fun K "_law_at" "_law_at" s_l_at f fd) (hm : mg "_law_at" = some (.ref f)) (b : Binds K fd ["_law_script", "_law_k"] []) (B_len : mg "len" = none) : Callee P w K mg base 1 "_law_at" [.vw, .fz] .fz f_l_at :=
  ⟨⟨f, fd, ["_law_script", "_law_k"], fn_pure F sc_l_at rfl rfl fun cdv A outer s H E G hr hW =>
  (dss_cons (ds_if (dt_cmp o_lt (d_var 1 (pv 1)) (d_callB o_len (by rfl) B_len PySem.boot_len (da_cons (d_varB 0 (pv 0)) .vw da_nil)) (by first | exact nomark _ | rfl)) (dss_one (ds_ret (d_scal (d_ixB (d_varB 0 (pv 0)) (d_var 1 (pv 1)) (fun _ _ => rfl))))) dss_nil)
  (dss_one (ds_ret (d_bin o_add (d_bin o_mul d_int (d_var 1 (pv 1))) d_int)))), hm, F.kp, b⟩⟩

theorem ok_l_mix {f : Addr} {fd : FuncData} (F : Fun K "_law_mix" "_law_mix" s_l_mix f fd) (hm : mg "_law_mix" = some (.ref f)) (b : Binds K fd ["_law_number", "_law_place"] []) (B_range : mg "range" = none) : Callee P w K mg base 1 "_law_mix" [.fz, .fz] .fz f_l_mix :=
  ⟨⟨f, fd, ["_law_number", "_law_place"], fn_pure F sc_l_mix rfl rfl fun cdv A outer s H E G hr hW =>
  (dss_cons (ds_if (dt_cmp o_ge (d_var 0 (pv 0)) (d_bin o_pow d_int d_int) (by first | exact nomark _ | rfl)) (dss_cons (ds_set 0 sc_l_mix.nd rfl (d_bin o_sub (d_bin o_div (d_var 0 (pv 0)) (d_bin o_pow d_int d_int)) d_int))
  (dss_cons (ds_for PassesOwn.never rfl (di_range1 (by rfl) B_range (d_bin o_mod (d_var 1 (pv 1)) d_int)) (dg_name 2 sc_l_mix.nd rfl)
  (dss_one (ds_set 0 sc_l_mix.nd rfl (d_bin o_div (d_var 0 (pv 0)) d_int))))
  (dss_one (ds_ret (d_bin o_mod (d_var 0 (pv 0)) d_int))))) dss_nil)
  (dss_cons (ds_set 3 sc_l_mix.nd rfl (d_bin o_mod (d_bin o_mul (d_bin o_add (d_bin o_add (d_bin o_mod (d_var 0 (pv 0)) d_int) (d_var 1 (pv 1))) d_int) (d_bin o_add (d_bin o_mul (d_bin o_mul d_int (d_var 1 (pv 1))) (d_var 1 (pv 1))) d_int)) d_int))
  (dss_cons (ds_set 3 sc_l_mix.nd rfl (d_bin o_mod (d_bin o_mul (d_var 3 (pv 3)) (d_var 3 (pv 3))) d_int))
  (dss_one (ds_ret (d_bin o_mod (d_bin o_mul (d_var 3 (pv 3)) (d_bin o_add (d_var 3 (pv 3)) d_int)) d_int)))))), hm, F.kp, b⟩⟩

theorem ok_l_whole {f : Addr} {fd : FuncData} (F : Fun K "_law_whole" "_law_whole" s_l_whole f fd) (hm : mg "_law_whole" = some (.ref f)) (b : Binds K fd ["_law_found"] []) (B_bool : mg "bool" = none) (B_int : mg "int" = none) (B_isinstance : mg "isinstance" = none) : Callee P w K mg base 1 "_law_whole" [.fz] .fz f_l_whole :=
  ⟨⟨f, fd, ["_law_found"], fn_pure F sc_l_whole rfl rfl fun cdv A outer s H E G hr hW =>
  (dss_one (ds_ret (d_and (d_isi (T := "int") (d_var 0 (pv 0)) (by rfl) B_isinstance (by rfl) B_int (by decide +kernel) (.ty _)) (d_one (d_not (d_isi (T := "bool") (d_var 0 (pv 0)) (by rfl) B_isinstance (by rfl) B_bool (by decide +kernel) (.ty _))))))), hm, F.kp, b⟩⟩

theorem ok_l_draw {f : Addr} {fd : FuncData} (F : Fun K "_law_draw" "_law_draw" s_l_draw f fd) (hm : mg "_law_draw" = some (.ref f)) (b : Binds K fd ["_law_script", "_law_k"] []) (c_l_mix : Callee P w K mg base 1 "_law_mix" [.fz, .fz] .fz f_l_mix) (c_l_at : Callee P w K mg base 1 "_law_at" [.vw, .fz] .fz f_l_at) : Callee P w K mg base 2 "_law_draw" [.vw, .fz] .fz f_l_draw :=
  ⟨⟨f, fd, ["_law_script", "_law_k"], fn_pure F sc_l_draw rfl rfl fun cdv A outer s H E G hr hW =>
  (dss_one (ds_ret (d_call c_l_mix (hr.mono (by decide)) (by rfl) (da_cons (d_call c_l_at (hr.mono (by decide)) (by rfl) (da_cons (d_varB 0 (pv 0)) .vw (da_cons (d_bin o_add d_int (d_bin o_mod (d_var 1 (pv 1)) d_int)) .fz da_nil))) .fz (da_cons (d_bin o_add d_int (d_var 1 (pv 1))) .fz da_nil))))), hm, F.kp, b⟩⟩

theorem ok_l_named {f : Addr} {fd : FuncData} (F : Fun K "_law_named" "_law_named" s_l_named f fd) (hm : mg "_law_named" = some (.ref f)) (b : Binds K fd ["_law_k", "_law_number"] []) : Callee P w K mg base 1 "_law_named" [.fz, .fz] .fz f_l_named :=
  ⟨⟨f, fd, ["_law_k", "_law_number"], fn_pure F sc_l_named rfl rfl fun cdv A outer s H E G hr hW =>
  (dss_cons (ds_if (dt_cmp (o_eq (hu64 hr)) (d_bin o_mod (d_var 1 (pv 1)) d_int) d_int (by first | exact nomark _ | rfl)) (dss_one (ds_ret (d_bin o_add (d_bin o_mul (d_ix d_str (d_var 0 (pv 0)) (fun _ _ => rfl)) (d_bin o_add d_int (d_bin o_mod (d_bin o_div (d_var 1 (pv 1)) d_int) d_int))) (d_ix d_str (d_bin o_mod (d_bin o_div (d_var 1 (pv 1)) d_int) d_int) (fun _ _ => rfl))))) dss_nil)
  (dss_cons (ds_set 2 sc_l_named.nd rfl (d_bin o_mod (d_bin o_div (d_var 1 (pv 1)) d_int) d_int))
  (dss_one (ds_ret (d_bin o_add (d_bin o_add (d_bin o_mul d_str (d_var 2 (pv 2))) (d_ix d_str (d_var 0 (pv 0)) (fun _ _ => rfl))) (d_bin o_mul d_str (d_bin o_sub d_int (d_var 2 (pv 2))))))))), hm, F.kp, b⟩⟩

theorem ok_l_wide {f : Addr} {fd : FuncData} (F : Fun K "_law_wide" "_law_wide" s_l_wide f fd) (hm : mg "_law_wide" = some (.ref f)) (b : Binds K fd ["_law_script", "_law_k", "_law_most"] []) (c_l_at : Callee P w K mg base 1 "_law_at" [.vw, .fz] .fz f_l_at) (c_l_draw : Callee P w K mg base 2 "_law_draw" [.vw, .fz] .fz f_l_draw) : Callee P w K mg base 3 "_law_wide" [.vw, .fz, .fz] .fz f_l_wide :=
  ⟨⟨f, fd, ["_law_script", "_law_k", "_law_most"], fn_pure F sc_l_wide rfl rfl fun cdv A outer s H E G hr hW =>
  (dss_cons (ds_set 3 sc_l_wide.nd rfl (d_call c_l_draw (hr.mono (by decide)) (by rfl) (da_cons (d_varB 0 (pv 0)) .vw (da_cons (d_var 1 (pv 1)) .fz da_nil))))
  (dss_cons (ds_if (dt_cmp (o_eq (hu64 hr)) (d_bin o_mod (d_var 3 (pv 3)) d_int) d_int (by first | exact nomark _ | rfl)) (dss_one (ds_ret (d_bin o_add (d_bin o_sub (d_bin o_mod (d_call c_l_at (hr.mono (by decide)) (by rfl) (da_cons (d_varB 0 (pv 0)) .vw (da_cons (d_bin o_add d_int (d_bin o_mod (d_var 1 (pv 1)) d_int)) .fz da_nil))) (d_bin o_sub (d_bin o_mul d_int (d_var 2 (pv 2))) d_int)) (d_var 2 (pv 2))) d_int))) dss_nil)
  (dss_one (ds_ret (d_bin o_sub (d_bin o_mod (d_bin o_div (d_var 3 (pv 3)) d_int) d_int) d_int))))), hm, F.kp, b⟩⟩

theorem ok_l_items {f : Addr} {fd : FuncData} (F : Fun K "_law_items" "_law_items" s_l_items f fd) (hm : mg "_law_items" = some (.ref f)) (b : Binds K fd ["_law_script", "_law_many", "_law_most"] []) (c_l_wide : Callee P w K mg base 3 "_law_wide" [.vw, .fz, .fz] .fz f_l_wide) (c_l_named : Callee P w K mg base 1 "_law_named" [.fz, .fz] .fz f_l_named) (c_l_draw : Callee P w K mg base 2 "_law_draw" [.vw, .fz] .fz f_l_draw) (B_range : mg "range" = none) : Callee P w K mg base 4 "_law_items" [.vw, .fz, .fz] .ow f_l_items :=
  ⟨⟨f, fd, ["_law_script", "_law_many", "_law_most"], fn_pure F sc_l_items rfl rfl fun cdv A outer s H E G hr hW =>
  (dss_cons (ds_set 3 sc_l_items.nd rfl (d_call c_l_draw (hr.mono (by decide)) (by rfl) (da_cons (d_varB 0 (pv 0)) .vw (da_cons d_int .fz da_nil))))
  (dss_one (ds_ret (d_lc [("_law_k", 4)] rfl sc_l_items.nd (di_range1 (by rfl) B_range (d_var 1 (pv 1))) N_l_items (defScope s_l_items) (by decide +kernel) (fun _ _ _ _ _ => (dg_name 4 sc_l_items.nd rfl)) (fun _ _ _ _ _ => dif_nil) (fun _ _ _ _ _ => (d_tup (da_cons (d_call c_l_named (hr.mono (by decide)) (by rfl) (da_cons (d_var 4 (pv 4)) .fz (da_cons (d_var 3 (pv 3)) .fz da_nil))) .fz (da_cons (d_call c_l_wide (hr.mono (by decide)) (by rfl) (da_cons (d_varB 0 (pv 0)) .vw (da_cons (d_bin o_add d_int (d_var 4 (pv 4))) .fz (da_cons (d_var 2 (pv 2)) .fz da_nil)))) .fz da_nil)))))))), hm, F.kp, b⟩⟩

theorem ok_l_rules {f : Addr} {fd : FuncData} (F : Fun K "_law_rules" "_law_rules" s_l_rules f fd) (hm : mg "_law_rules" = some (.ref f)) (b : Binds K fd ["_law_script", "_law_items_here", "_law_many", "_law_most"] []) (c_l_named : Callee P w K mg base 1 "_law_named" [.fz, .fz] .fz f_l_named) (c_l_draw : Callee P w K mg base 2 "_law_draw" [.vw, .fz] .fz f_l_draw) (c_l_wide : Callee P w K mg base 3 "_law_wide" [.vw, .fz, .fz] .fz f_l_wide) (B_len : mg "len" = none) (B_range : mg "range" = none) (B_tuple : mg "tuple" = none) (B_zip : mg "zip" = none) : Callee P w K mg base 4 "_law_rules" [.vw, .fz, .fz, .fz] .ow f_l_rules :=
  ⟨⟨f, fd, ["_law_script", "_law_items_here", "_law_many", "_law_most"], fn_pure F sc_l_rules rfl rfl fun cdv A outer s H E G hr hW =>
  (dss_cons (ds_setL 4 sc_l_rules.nd rfl (d_lst da_nil))
  (dss_cons (ds_for PassesOwn.never rfl (di_range1 (by rfl) B_range (d_var 2 (pv 2))) (dg_name 5 sc_l_rules.nd rfl)
  (dss_cons (ds_set 6 sc_l_rules.nd rfl (d_callT o_tuple (by rfl) B_tuple (by decide +kernel) (da_cons (d_lc [("_law_j", 10)] rfl sc_l_rules.nd (di_range1 (by rfl) B_range (d_callB o_len (by rfl) B_len PySem.boot_len (da_cons (d_var 1 (pv 1)) .vw da_nil))) N_l_rules (defScope s_l_rules) (by decide +kernel) (fun _ _ _ _ _ => (dg_name 10 sc_l_rules.nd rfl)) (fun _ _ _ _ _ => dif_nil) (fun _ _ _ _ _ => (d_call c_l_wide (hr.mono (by decide)) (by rfl) (da_cons (d_varB 0 (pv 0)) .vw (da_cons (d_bin o_add (d_bin o_add d_int (d_bin o_mul d_int (d_var 5 (pv 5)))) (d_var 10 (pv 10))) .fz (da_cons (d_var 3 (pv 3)) .fz da_nil)))))) .vl da_nil)))
  (dss_cons (ds_set 7 sc_l_rules.nd rfl (d_bin o_mul (d_bin o_mod (d_call c_l_draw (hr.mono (by decide)) (by rfl) (da_cons (d_varB 0 (pv 0)) .vw (da_cons (d_bin o_add d_int (d_var 5 (pv 5))) .fz da_nil))) d_int) (d_bin o_mod (d_call c_l_draw (hr.mono (by decide)) (by rfl) (da_cons (d_varB 0 (pv 0)) .vw (da_cons (d_bin o_add d_int (d_var 5 (pv 5))) .fz da_nil))) d_int)))
  (dss_cons (ds_for PassesOwn.never rfl (di_zipG (by rfl) B_zip (d_var 6 (pv 6)) (d_var 1 (pv 1))) (dg_tup rfl (dgs_cons (dg_name 8 sc_l_rules.nd rfl) (dgs_cons (dg_name 9 sc_l_rules.nd rfl) dgs_nil)) rfl (fun _ _ _ h => tgCons_len (fun _ _ _ h => tgCons_len (fun _ _ _ h => tgNil_len h) h) h))
  (dss_one (ds_set 7 sc_l_rules.nd rfl (d_bin o_sub (d_var 7 (pv 7)) (d_bin o_mul (d_var 8 (pv 8)) (d_ix (d_var 9 (pv 9)) d_int (fun _ _ => rfl)))))))
  (dss_one (ds_app 4 (pv 4) (d_tup (da_cons (d_call c_l_named (hr.mono (by decide)) (by rfl) (da_cons (d_var 5 (pv 5)) .fz (da_cons (d_call c_l_draw (hr.mono (by decide)) (by rfl) (da_cons (d_varB 0 (pv 0)) .vw (da_cons d_int .fz da_nil))) .fz da_nil))) .fz (da_cons (d_var 6 (pv 6)) .fz (da_cons (d_var 7 (pv 7)) .fz da_nil))))))))))
  (dss_one (ds_retL 4 (pv 4))))), hm, F.kp, b⟩⟩

theorem ok_l_deeds {f : Addr} {fd : FuncData} (F : Fun K "_law_deeds" "_law_deeds" s_l_deeds f fd) (hm : mg "_law_deeds" = some (.ref f)) (b : Binds K fd ["_law_script", "_law_items_here", "_law_many"] []) (c_l_named : Callee P w K mg base 1 "_law_named" [.fz, .fz] .fz f_l_named) (c_l_draw : Callee P w K mg base 2 "_law_draw" [.vw, .fz] .fz f_l_draw) (c_l_wide : Callee P w K mg base 3 "_law_wide" [.vw, .fz, .fz] .fz f_l_wide) (B_int : mg "int" = none) (B_len : mg "len" = none) (B_range : mg "range" = none) (B_tuple : mg "tuple" = none) : Callee P w K mg base 4 "_law_deeds" [.vw, .fz, .fz] .ow f_l_deeds :=
  ⟨⟨f, fd, ["_law_script", "_law_items_here", "_law_many"], fn_pure F sc_l_deeds rfl rfl fun cdv A outer s H E G hr hW =>
  (dss_cons (ds_setL 3 sc_l_deeds.nd rfl (d_lst da_nil))
  (dss_cons (ds_for PassesOwn.never rfl (di_range1 (by rfl) B_range (d_var 2 (pv 2))) (dg_name 4 sc_l_deeds.nd rfl)
  (dss_cons (ds_set 5 sc_l_deeds.nd rfl (d_call c_l_wide (hr.mono (by decide)) (by rfl) (da_cons (d_varB 0 (pv 0)) .vw (da_cons (d_bin o_add d_int (d_var 4 (pv 4))) .fz (da_cons (d_bin o_pow d_int d_int) .fz da_nil)))))
  (dss_cons (ds_setL 6 sc_l_deeds.nd rfl (d_lst da_nil))
  (dss_cons (ds_for PassesOwn.never rfl (di_range1 (by rfl) B_range (d_callB o_len (by rfl) B_len PySem.boot_len (da_cons (d_var 1 (pv 1)) .vw da_nil))) (dg_name 7 sc_l_deeds.nd rfl)
  (dss_cons (ds_set 8 sc_l_deeds.nd rfl (d_bin o_mod (d_call c_l_draw (hr.mono (by decide)) (by rfl) (da_cons (d_varB 0 (pv 0)) .vw (da_cons (d_bin o_add (d_bin o_add d_int (d_bin o_mul d_int (d_var 4 (pv 4)))) (d_var 7 (pv 7))) .fz da_nil))) d_int))
  (dss_cons (ds_set 9 sc_l_deeds.nd rfl (d_bin o_mul (d_call c_l_wide (hr.mono (by decide)) (by rfl) (da_cons (d_varB 0 (pv 0)) .vw (da_cons (d_bin o_add (d_bin o_add d_int (d_bin o_mul d_int (d_var 4 (pv 4)))) (d_var 7 (pv 7))) .fz (da_cons (d_bin o_pow d_int d_int) .fz da_nil)))) (d_callT o_int (by rfl) B_int (by decide +kernel) (da_cons (d_cmp (o_ne (hu64 hr)) (d_var 8 (pv 8)) d_int (by first | exact nomark _ | rfl)) .vw da_nil))))
  (dss_one (ds_app 6 (pv 6) (d_tup (da_cons (d_var 9 (pv 9)) .fz (da_cons (d_bin o_mul (d_call c_l_wide (hr.mono (by decide)) (by rfl) (da_cons (d_varB 0 (pv 0)) .vw (da_cons (d_bin o_add (d_bin o_add d_int (d_bin o_mul d_int (d_var 4 (pv 4)))) (d_var 7 (pv 7))) .fz (da_cons (d_bin o_pow d_int d_int) .fz da_nil)))) (d_callT o_int (by rfl) B_int (by decide +kernel) (da_cons (d_cmp (o_eq (hu64 hr)) (d_var 8 (pv 8)) d_int (by first | exact nomark _ | rfl)) .vw da_nil))) .fz da_nil))))))))
  (dss_cons (ds_set 10 sc_l_deeds.nd rfl (d_bin o_add (d_var 5 (pv 5)) (d_bin o_mod (d_call c_l_draw (hr.mono (by decide)) (by rfl) (da_cons (d_varB 0 (pv 0)) .vw (da_cons (d_bin o_add d_int (d_var 4 (pv 4))) .fz da_nil))) d_int)))
  (dss_one (ds_app 3 (pv 3) (d_tup (da_cons (d_call c_l_named (hr.mono (by decide)) (by rfl) (da_cons (d_var 4 (pv 4)) .fz (da_cons (d_call c_l_draw (hr.mono (by decide)) (by rfl) (da_cons (d_varB 0 (pv 0)) .vw (da_cons d_int .fz da_nil))) .fz da_nil))) .fz (da_cons (d_var 5 (pv 5)) .fz (da_cons (d_var 10 (pv 10)) .fz (da_cons (d_callT o_tuple (by rfl) B_tuple (by decide +kernel) (da_cons (d_varL 6 (pv 6)) .vl da_nil)) .fz da_nil))))))))))))
  (dss_one (ds_retL 3 (pv 3))))), hm, F.kp, b⟩⟩

theorem ok_l_book {f : Addr} {fd : FuncData} (F : Fun K "_law_book" "_law_book" s_l_book f fd) (hm : mg "_law_book" = some (.ref f)) (b : Binds K fd ["_law_script", "_law_counts_here"] []) (c_l_deeds : Callee P w K mg base 4 "_law_deeds" [.vw, .fz, .fz] .ow f_l_deeds) (c_l_rules : Callee P w K mg base 4 "_law_rules" [.vw, .fz, .fz, .fz] .ow f_l_rules) (c_l_items : Callee P w K mg base 4 "_law_items" [.vw, .fz, .fz] .ow f_l_items) (c_l_mix : Callee P w K mg base 1 "_law_mix" [.fz, .fz] .fz f_l_mix) (c_l_at : Callee P w K mg base 1 "_law_at" [.vw, .fz] .fz f_l_at) : Callee P w K mg base 5 "_law_book" [.vw, .fz] .fz f_l_book :=
  ⟨⟨f, fd, ["_law_script", "_law_counts_here"], fn_pure F sc_l_book rfl rfl fun cdv A outer s H E G hr hW =>
  (dss_cons (ds_set 2 sc_l_book.nd rfl (d_bin o_mod (d_call c_l_mix (hr.mono (by decide)) (by rfl) (da_cons (d_call c_l_at (hr.mono (by decide)) (by rfl) (da_cons (d_varB 0 (pv 0)) .vw (da_cons d_int .fz da_nil))) .fz (da_cons d_int .fz da_nil))) d_int))
  (dss_cons (ds_set 3 sc_l_book.nd rfl (d_call c_l_items (hr.mono (by decide)) (by rfl) (da_cons (d_varB 0 (pv 0)) .vw (da_cons (d_ix (d_var 1 (pv 1)) d_int (fun _ _ => rfl)) .fz (da_cons (d_ix (d_lst (da_cons d_int .fz (da_cons (d_bin o_pow d_int d_int) .fz da_nil))) (d_var 2 (pv 2)) (fun _ _ => rfl)) .fz da_nil)))))
  (dss_one (ds_ret (d_tup (da_cons (d_var 3 (pv 3)) .fz (da_cons (d_call c_l_rules (hr.mono (by decide)) (by rfl) (da_cons (d_varB 0 (pv 0)) .vw (da_cons (d_var 3 (pv 3)) .fz (da_cons (d_ix (d_var 1 (pv 1)) d_int (fun _ _ => rfl)) .fz (da_cons (d_ix (d_lst (da_cons (d_bin o_pow d_int d_int) .fz (da_cons d_int .fz da_nil))) (d_var 2 (pv 2)) (fun _ _ => rfl)) .fz da_nil))))) .fz (da_cons (d_call c_l_deeds (hr.mono (by decide)) (by rfl) (da_cons (d_varB 0 (pv 0)) .vw (da_cons (d_var 3 (pv 3)) .fz (da_cons (d_ix (d_var 1 (pv 1)) d_int (fun _ _ => rfl)) .fz da_nil)))) .fz da_nil)))))))), hm, F.kp, b⟩⟩

theorem ok_l_counts {f : Addr} {fd : FuncData} (F : Fun K "_law_counts" "_law_counts" s_l_counts f fd) (hm : mg "_law_counts" = some (.ref f)) (b : Binds K fd ["_law_script"] []) (c_l_mix : Callee P w K mg base 1 "_law_mix" [.fz, .fz] .fz f_l_mix) (c_l_at : Callee P w K mg base 1 "_law_at" [.vw, .fz] .fz f_l_at) : Callee P w K mg base 2 "_law_counts" [.vw] .ow f_l_counts :=
  ⟨⟨f, fd, ["_law_script"], fn_pure F sc_l_counts rfl rfl fun cdv A outer s H E G hr hW =>
  (dss_cons (ds_set 1 sc_l_counts.nd rfl (d_call c_l_mix (hr.mono (by decide)) (by rfl) (da_cons (d_call c_l_at (hr.mono (by decide)) (by rfl) (da_cons (d_varB 0 (pv 0)) .vw (da_cons d_int .fz da_nil))) .fz (da_cons d_int .fz da_nil))))
  (dss_one (ds_ret (d_lst (da_cons (d_bin o_add d_int (d_bin o_mod (d_var 1 (pv 1)) d_int)) .fz (da_cons (d_bin o_add d_int (d_bin o_mod (d_bin o_div (d_var 1 (pv 1)) d_int) d_int)) .fz (da_cons (d_bin o_add d_int (d_bin o_mod (d_bin o_div (d_var 1 (pv 1)) d_int) d_int)) .fz da_nil))))))), hm, F.kp, b⟩⟩

theorem ok_l_behind {f : Addr} {fd : FuncData} (F : Fun K "_law_behind" "_law_behind" s_l_behind f fd) (hm : mg "_law_behind" = some (.ref f)) (b : Binds K fd ["_law_state", "_law_deed", "_law_n"] []) (B_tuple : mg "tuple" = none) (B_zip : mg "zip" = none) : Callee P w K mg base 1 "_law_behind" [.fz, .fz, .fz] .fz f_l_behind :=
  ⟨⟨f, fd, ["_law_state", "_law_deed", "_law_n"], fn_pure F sc_l_behind rfl rfl fun cdv A outer s H E G hr hW =>
  (dss_one (ds_ret (d_callT o_tuple (by rfl) B_tuple (by decide +kernel) (da_cons (d_lc [("_law_number", 4), ("_law_change", 3)] rfl sc_l_behind.nd (di_zipG (by rfl) B_zip (d_var 0 (pv 0)) (d_ix (d_var 1 (pv 1)) d_int (fun _ _ => rfl))) N_l_behind (defScope s_l_behind) (by decide +kernel) (fun _ _ _ _ _ => (dg_tup rfl (dgs_cons (dg_name 4 sc_l_behind.nd rfl) (dgs_cons (dg_name 3 sc_l_behind.nd rfl) dgs_nil)) rfl (fun _ _ _ h => tgCons_len (fun _ _ _ h => tgCons_len (fun _ _ _ h => tgNil_len h) h) h))) (fun _ _ _ _ _ => dif_nil) (fun _ _ _ _ _ => (d_bin o_add (d_bin o_add (d_var 4 (pv 4)) (d_bin o_mul (d_ix (d_var 3 (pv 3)) d_int (fun _ _ => rfl)) (d_var 2 (pv 2)))) (d_ix (d_var 3 (pv 3)) d_int (fun _ _ => rfl))))) .vl da_nil)))), hm, F.kp, b⟩⟩

theorem ok_l_one {f : Addr} {fd : FuncData} (F : Fun K "_law_one" "_law_one" s_l_one f fd) (hm : mg "_law_one" = some (.ref f)) (b : Binds K fd ["_law_book_here", "_law_handed", "_law_k", "_law_j", "_law_states"] []) (c_is_free : Callee P w K mg base 3 "is_free" [.fz, .fz, .fz] .fz f_is_free) (c_l_whole : Callee P w K mg base 1 "_law_whole" [.fz] .fz f_l_whole) (c_least_gain : Callee P w K mg base 2 "least_gain" [.fz, .fz, .fz] .fz f_least_gain) (c_spare : Callee P w K mg base 2 "spare" [.fz, .fz, .fz] .fz f_spare) (c_l_behind : Callee P w K mg base 1 "_law_behind" [.fz, .fz, .fz] .fz f_l_behind) (c_gain : Callee P w K mg base 1 "gain" [.fz, .fz, .fz] .fz f_gain) (B_bool : mg "bool" = none) (B_isinstance : mg "isinstance" = none) (B_len : mg "len" = none) (B_min : mg "min" = none) (B_range : mg "range" = none) (B_tuple : mg "tuple" = none) : Callee P w K mg base 4 "_law_one" [.fz, .fz, .fz, .fz, .fz] .fz f_l_one :=
  ⟨⟨f, fd, ["_law_book_here", "_law_handed", "_law_k", "_law_j", "_law_states"], fn_pure F sc_l_one rfl rfl fun cdv A outer s H E G hr hW =>
  (dss_cons (ds_set 5 sc_l_one.nd rfl (d_ix (d_ix (d_var 0 (pv 0)) d_int (fun _ _ => rfl)) (d_var 3 (pv 3)) (fun _ _ => rfl)))
  (dss_cons (ds_set 6 sc_l_one.nd rfl (d_call c_gain (hr.mono (by decide)) (by rfl) (da_cons (d_var 1 (pv 1)) .fz (da_cons (d_var 2 (pv 2)) .fz (da_cons (d_var 3 (pv 3)) .fz da_nil)))))
  (dss_cons (ds_if (DW.t (dw_or (dt_not (dt_val (d_isi (T := "tuple") (d_var 6 (pv 6)) (by rfl) B_isinstance (by rfl) B_tuple (by decide +kernel) (.ty _)))) (dw_or (dt_cmp (o_ne (hu64 hr)) (d_callB o_len (by rfl) B_len PySem.boot_len (da_cons (d_var 6 (pv 6)) .vw da_nil)) d_int (by first | exact nomark _ | rfl)) (dw_or (dt_not (dt_val (d_call c_l_whole (hr.mono (by decide)) (by rfl) (da_cons (d_ix (d_var 6 (pv 6)) d_int (fun _ _ => rfl)) .fz da_nil)))) (dw_or1 (dt_not (dt_val (d_call c_l_whole (hr.mono (by decide)) (by rfl) (da_cons (d_ix (d_var 6 (pv 6)) d_int (fun _ _ => rfl)) .fz da_nil))))))))) (dss_one (ds_ret d_bl)) dss_nil)
  (dss_cons (ds_for PassesOwn.never rfl (di_any (d_var 4 (pv 4))) (dg_name 7 sc_l_one.nd rfl)
  (dss_one (ds_for PassesOwn.never rfl (di_any (d_lst (da_cons (d_ix (d_var 5 (pv 5)) d_int (fun _ _ => rfl)) .fz (da_cons (d_ix (d_var 5 (pv 5)) d_int (fun _ _ => rfl)) .fz da_nil)))) (dg_name 8 sc_l_one.nd rfl)
  (dss_cons (ds_set 9 sc_l_one.nd rfl (d_bin o_sub (d_call c_spare (hr.mono (by decide)) (by rfl) (da_cons (d_var 1 (pv 1)) .fz (da_cons (d_var 2 (pv 2)) .fz (da_cons (d_call c_l_behind (hr.mono (by decide)) (by rfl) (da_cons (d_var 7 (pv 7)) .fz (da_cons (d_var 5 (pv 5)) .fz (da_cons (d_var 8 (pv 8)) .fz da_nil)))) .fz da_nil)))) (d_call c_spare (hr.mono (by decide)) (by rfl) (da_cons (d_var 1 (pv 1)) .fz (da_cons (d_var 2 (pv 2)) .fz (da_cons (d_var 7 (pv 7)) .fz da_nil))))))
  (dss_one (ds_if (dt_cmp (o_ne (hu64 hr)) (d_var 9 (pv 9)) (d_bin o_add (d_bin o_mul (d_ix (d_var 6 (pv 6)) d_int (fun _ _ => rfl)) (d_var 8 (pv 8))) (d_ix (d_var 6 (pv 6)) d_int (fun _ _ => rfl))) (by first | exact nomark _ | rfl)) (dss_one (ds_ret d_bl)) dss_nil))))))
  (dss_cons (ds_set 10 sc_l_one.nd rfl (d_call c_least_gain (hr.mono (by decide)) (by rfl) (da_cons (d_var 1 (pv 1)) .fz (da_cons (d_var 2 (pv 2)) .fz (da_cons (d_var 3 (pv 3)) .fz da_nil)))))
  (dss_cons (ds_set 11 sc_l_one.nd rfl (d_bin o_add (d_callB (o_min2 rfl) (by rfl) B_min (by decide +kernel) (da_cons (d_bin o_mul (d_ix (d_var 6 (pv 6)) d_int (fun _ _ => rfl)) (d_ix (d_var 5 (pv 5)) d_int (fun _ _ => rfl))) .vw (da_cons (d_bin o_mul (d_ix (d_var 6 (pv 6)) d_int (fun _ _ => rfl)) (d_ix (d_var 5 (pv 5)) d_int (fun _ _ => rfl))) .vw da_nil))) (d_ix (d_var 6 (pv 6)) d_int (fun _ _ => rfl))))
  (dss_cons (ds_for PassesOwn.never rfl (di_rangeA (by rfl) B_range (d_ix (d_var 5 (pv 5)) d_int (fun _ _ => rfl)) (d_bin o_add (d_callB (o_min2 rfl) (by rfl) B_min (by decide +kernel) (da_cons (d_ix (d_var 5 (pv 5)) d_int (fun _ _ => rfl)) .vw (da_cons (d_bin o_add (d_ix (d_var 5 (pv 5)) d_int (fun _ _ => rfl)) d_int) .vw da_nil))) d_int)) (dg_name 8 sc_l_one.nd rfl)
  (dss_one (ds_set 11 sc_l_one.nd rfl (d_callB (o_min2 rfl) (by rfl) B_min (by decide +kernel) (da_cons (d_var 11 (pv 11)) .vw (da_cons (d_bin o_add (d_bin o_mul (d_ix (d_var 6 (pv 6)) d_int (fun _ _ => rfl)) (d_var 8 (pv 8))) (d_ix (d_var 6 (pv 6)) d_int (fun _ _ => rfl))) .vw da_nil))))))
  (dss_cons (ds_if (DW.t (dw_or (dt_not (dt_val (d_call c_l_whole (hr.mono (by decide)) (by rfl) (da_cons (d_var 10 (pv 10)) .fz da_nil)))) (dw_or1 (dt_cmp (o_ne (hu64 hr)) (d_var 10 (pv 10)) (d_var 11 (pv 11)) (by first | exact nomark _ | rfl))))) (dss_one (ds_ret d_bl)) dss_nil)
  (dss_cons (ds_set 12 sc_l_one.nd rfl (d_call c_is_free (hr.mono (by decide)) (by rfl) (da_cons (d_var 1 (pv 1)) .fz (da_cons (d_var 2 (pv 2)) .fz (da_cons (d_var 3 (pv 3)) .fz da_nil)))))
  (dss_one (ds_ret (d_and (d_isi (T := "bool") (d_var 12 (pv 12)) (by rfl) B_isinstance (by rfl) B_bool (by decide +kernel) (.ty _)) (d_one (d_cmp (o_eq (hu64 hr)) (d_var 12 (pv 12)) (d_cmp o_ge (d_var 11 (pv 11)) d_int (by first | exact nomark _ | rfl)) (by first | exact nomark _ | rfl))))))))))))))), hm, F.kp, b⟩⟩

theorem ok_l_stretched {f : Addr} {fd : FuncData} (F : Fun K "_law_stretched" "_law_stretched" s_l_stretched f fd) (hm : mg "_law_stretched" = some (.ref f)) (b : Binds K fd ["_law_script", "_law_book_here"] []) (c_l_at : Callee P w K mg base 1 "_law_at" [.vw, .fz] .fz f_l_at) (c_l_draw : Callee P w K mg base 2 "_law_draw" [.vw, .fz] .fz f_l_draw) (B_enumerate : mg "enumerate" = none) (B_tuple : mg "tuple" = none) : Callee P w K mg base 3 "_law_stretched" [.vw, .fz] .fz f_l_stretched :=
  ⟨⟨f, fd, ["_law_script", "_law_book_here"], fn_pure F sc_l_stretched rfl rfl fun cdv A outer s H E G hr hW =>
  (dss_cons (ds_setL 2 sc_l_stretched.nd rfl (d_lst da_nil))
  (dss_cons (ds_for PassesOwn.never rfl (di_enum (by rfl) B_enumerate (d_ix (d_var 1 (pv 1)) d_int (fun _ _ => rfl))) (dg_tup rfl (dgs_cons (dg_name 3 sc_l_stretched.nd rfl) (dgs_cons (dg_name 4 sc_l_stretched.nd rfl) dgs_nil)) rfl (fun _ _ _ h => tgCons_len (fun _ _ _ h => tgCons_len (fun _ _ _ h => tgNil_len h) h) h))
  (dss_cons (ds_set 5 sc_l_stretched.nd rfl (d_call c_l_draw (hr.mono (by decide)) (by rfl) (da_cons (d_varB 0 (pv 0)) .vw (da_cons (d_bin o_add d_int (d_var 3 (pv 3))) .fz da_nil))))
  (dss_cons (ds_if (dt_cmp (o_eq (hu64 hr)) (d_bin o_mod (d_var 5 (pv 5)) d_int) d_int (by first | exact nomark _ | rfl)) (dss_cons (ds_set 6 sc_l_stretched.nd rfl (d_bin o_sub (d_bin o_mod (d_call c_l_at (hr.mono (by decide)) (by rfl) (da_cons (d_varB 0 (pv 0)) .vw (da_cons (d_bin o_add d_int (d_var 3 (pv 3))) .fz da_nil))) (d_bin o_mul d_int (d_bin o_pow d_int d_int))) (d_bin o_pow d_int d_int)))
  (dss_cons (ds_set 7 sc_l_stretched.nd rfl (d_bin o_add (d_var 6 (pv 6)) (d_bin o_mod (d_call c_l_at (hr.mono (by decide)) (by rfl) (da_cons (d_varB 0 (pv 0)) .vw (da_cons (d_bin o_add d_int (d_var 3 (pv 3))) .fz da_nil))) (d_ix (d_lst (da_cons (d_bin o_pow d_int d_int) .fz (da_cons d_int .fz da_nil))) (d_bin o_div (d_bin o_mod (d_bin o_div (d_var 5 (pv 5)) d_int) d_int) d_int) (fun _ _ => rfl)))))
  (dss_one (ds_set 4 sc_l_stretched.nd rfl (d_tup (da_cons (d_ix (d_var 4 (pv 4)) d_int (fun _ _ => rfl)) .fz (da_cons (d_var 6 (pv 6)) .fz (da_cons (d_var 7 (pv 7)) .fz (da_cons (d_callT o_tuple (by rfl) B_tuple (by decide +kernel) (da_cons (d_lc [("_law_one_here", 8), ("_law_other", 9)] rfl sc_l_stretched.nd (di_any (d_ix (d_var 4 (pv 4)) d_int (fun _ _ => rfl))) N_l_stretched (defScope s_l_stretched) (by decide +kernel) (fun _ _ _ _ _ => (dg_tup rfl (dgs_cons (dg_name 8 sc_l_stretched.nd rfl) (dgs_cons (dg_name 9 sc_l_stretched.nd rfl) dgs_nil)) rfl (fun _ _ _ h => tgCons_len (fun _ _ _ h => tgCons_len (fun _ _ _ h => tgNil_len h) h) h))) (fun _ _ _ _ _ => dif_nil) (fun _ _ _ _ _ => (d_tup (da_cons (d_bin o_sub (d_bin o_mod (d_var 8 (pv 8)) d_int) d_int) .fz (da_cons (d_bin o_sub (d_bin o_mod (d_var 9 (pv 9)) d_int) d_int) .fz da_nil))))) .vl da_nil)) .fz da_nil))))))))) dss_nil)
  (dss_one (ds_app 2 (pv 2) (d_var 4 (pv 4)))))))
  (dss_fz 2 (dss_one (ds_ret (d_tup (da_cons (d_ix (d_var 1 (pv 1)) d_int (fun _ _ => rfl)) .fz (da_cons (d_ix (d_var 1 (pv 1)) d_int (fun _ _ => rfl)) .fz (da_cons (d_var 2 (pv 2)) .fz da_nil))))))))), hm, F.kp, b⟩⟩

theorem ok_law {f : Addr} {fd : FuncData} (F : Fun K "law" "law" s_law f fd) (c_l_one : Callee P w K mg base 4 "_law_one" [.fz, .fz, .fz, .fz, .fz] .fz f_l_one) (c_l_wide : Callee P w K mg base 3 "_law_wide" [.vw, .fz, .fz] .fz f_l_wide) (c_l_stretched : Callee P w K mg base 3 "_law_stretched" [.vw, .fz] .fz f_l_stretched) (c_l_book : Callee P w K mg base 5 "_law_book" [.vw, .fz] .fz f_l_book) (c_l_counts : Callee P w K mg base 2 "_law_counts" [.vw] .ow f_l_counts) (B_len : mg "len" = none) (B_list : mg "list" = none) (B_range : mg "range" = none) (B_tuple : mg "tuple" = none) : FnOk P w K mg base CX0 6 f fd ["_law_script"] (spP K [.vw] .fz f_law) :=
  fn_pure F sc_law rfl rfl fun cdv A outer s H E G hr hW =>
  (dss_cons (ds_set 1 sc_law.nd rfl (d_call c_l_stretched (hr.mono (by decide)) (by rfl) (da_cons (d_varB 0 (pv 0)) .vw (da_cons (d_call c_l_book (hr.mono (by decide)) (by rfl) (da_cons (d_varB 0 (pv 0)) .vw (da_cons (d_call c_l_counts (hr.mono (by decide)) (by rfl) (da_cons (d_varB 0 (pv 0)) .vw da_nil)) .fz da_nil))) .fz da_nil))))
  (dss_cons (ds_set 2 sc_law.nd rfl (d_tup (da_cons (d_callT o_list (by rfl) B_list (by decide +kernel) (da_cons (d_ix (d_var 1 (pv 1)) d_int (fun _ _ => rfl)) .vl da_nil)) .fz (da_cons (d_callT o_list (by rfl) B_list (by decide +kernel) (da_cons (d_ix (d_var 1 (pv 1)) d_int (fun _ _ => rfl)) .vl da_nil)) .fz (da_cons (d_callT o_list (by rfl) B_list (by decide +kernel) (da_cons (d_ix (d_var 1 (pv 1)) d_int (fun _ _ => rfl)) .vl da_nil)) .fz da_nil)))))
  (dss_cons (ds_set 3 sc_law.nd rfl (d_callT o_tuple (by rfl) B_tuple (by decide +kernel) (da_cons (d_lc [("_law_item", 7)] rfl sc_law.nd (di_any (d_ix (d_var 1 (pv 1)) d_int (fun _ _ => rfl))) N_law (defScope s_law) (by decide +kernel) (fun _ _ _ _ _ => (dg_name 7 sc_law.nd rfl)) (fun _ _ _ _ _ => dif_nil) (fun _ _ _ _ _ => (d_ix (d_var 7 (pv 7)) d_int (fun _ _ => rfl)))) .vl da_nil)))
  (dss_cons (ds_set 4 sc_law.nd rfl (d_lst (da_cons (d_var 3 (pv 3)) .fz (da_cons (d_callT o_tuple (by rfl) B_tuple (by decide +kernel) (da_cons (d_lc [("_law_k", 5)] rfl sc_law.nd (di_range1 (by rfl) B_range (d_callB o_len (by rfl) B_len PySem.boot_len (da_cons (d_var 3 (pv 3)) .vw da_nil))) N_law (defScope s_law) (by decide +kernel) (fun _ _ _ _ _ => (dg_name 5 sc_law.nd rfl)) (fun _ _ _ _ _ => dif_nil) (fun _ _ _ _ _ => (d_call c_l_wide (hr.mono (by decide)) (by rfl) (da_cons (d_varB 0 (pv 0)) .vw (da_cons (d_bin o_add d_int (d_var 5 (pv 5))) .fz (da_cons (d_bin o_pow d_int d_int) .fz da_nil)))))) .vl da_nil)) .fz da_nil))))
  (dss_cons (ds_for PassesOwn.never rfl (di_range1 (by rfl) B_range (d_callB o_len (by rfl) B_len PySem.boot_len (da_cons (d_ix (d_var 1 (pv 1)) d_int (fun _ _ => rfl)) .vw da_nil))) (dg_name 5 sc_law.nd rfl)
  (dss_one (ds_for PassesOwn.never rfl (di_range1 (by rfl) B_range (d_callB o_len (by rfl) B_len PySem.boot_len (da_cons (d_ix (d_var 1 (pv 1)) d_int (fun _ _ => rfl)) .vw da_nil))) (dg_name 6 sc_law.nd rfl)
  (dss_one (ds_if (dt_not (dt_val (d_call c_l_one (hr.mono (by decide)) (by rfl) (da_cons (d_var 1 (pv 1)) .fz (da_cons (d_var 2 (pv 2)) .fz (da_cons (d_var 5 (pv 5)) .fz (da_cons (d_var 6 (pv 6)) .fz (da_cons (d_var 4 (pv 4)) .fz da_nil)))))))) (dss_one (ds_ret d_bl)) dss_nil)))))
  (dss_one (ds_ret (d_cmp (o_eq (hu64 hr)) (d_var 2 (pv 2)) (d_var 1 (pv 1)) (by first | exact nomark _ | rfl)))))))))
end
end DL
set_option Elab.async false
set_option linter.all false
set_option maxRecDepth 100000
set_option maxHeartbeats 4000000
set_option maxHeartbeats 4000000
namespace DL
open PySem PySem.Spec L2
def spLaw (K : PySem.W.Frag) : Sp := fun vs H Q _ => ∃ (a : Addr) (ns : List Int), vs = [.ref a] ∧ SqL K H a (ns.map V.int) ∧ ns.length ≤ 63 ∧ ∀ H', Q (.bl true) H'
theorem sp_law {K : PySem.W.Frag} (ht : ∀ ns : List Int, ns.length ≤ 63 → f_law [.list (ns.map PyData.int)] = some (.bool true)) (vs : List V) (H : Hp) (Q : VK) (E : XK) (h : spLaw K vs H Q E) : spP K [.vw] .fz f_law vs H Q E := by
  obtain ⟨a, ns, rfl, hS, hl, q⟩ := h
  exact ⟨fun _ => none, _, _, (fun _ _ z => nomatch z), ht ns hl, ⟨.lst hS (DpAll_ints ns), trivial⟩, fun v H' F' E r => by
    cases r with | bl b => exact q H'⟩
theorem all_mk {l : PySem.W.OpenLaw} {w : World} {K : PySem.W.Frag} {h : Heap} {mg : Str → Option Value} {fa fa_value_of fa_spare fa_gain fa_least_gain fa_is_free fa_l_at fa_l_mix fa_l_whole fa_l_draw fa_l_named fa_l_wide fa_l_items fa_l_rules fa_l_deeds fa_l_book fa_l_counts fa_l_behind fa_l_one fa_l_stretched fa_law : Addr} (X : K.In h) (G : h.Ns mainGlobals mg) (hfa : mg "law" = some (.ref fa))
    {od_value_of an_value_of : Option Addr} {sl_value_of : Array (Option Value)} {oc_value_of kV_value_of dc_value_of pm_value_of cd_value_of ct_value_of : Value}
    {od_spare an_spare : Option Addr} {sl_spare : Array (Option Value)} {oc_spare kV_spare dc_spare pm_spare cd_spare ct_spare : Value}
    {od_gain an_gain : Option Addr} {sl_gain : Array (Option Value)} {oc_gain kV_gain dc_gain pm_gain cd_gain ct_gain : Value}
    {od_least_gain an_least_gain : Option Addr} {sl_least_gain : Array (Option Value)} {oc_least_gain kV_least_gain dc_least_gain pm_least_gain cd_least_gain ct_least_gain : Value}
    {od_is_free an_is_free : Option Addr} {sl_is_free : Array (Option Value)} {oc_is_free kV_is_free dc_is_free pm_is_free cd_is_free ct_is_free : Value}
    {od_l_at an_l_at : Option Addr} {sl_l_at : Array (Option Value)} {oc_l_at kV_l_at dc_l_at pm_l_at cd_l_at ct_l_at : Value}
    {od_l_mix an_l_mix : Option Addr} {sl_l_mix : Array (Option Value)} {oc_l_mix kV_l_mix dc_l_mix pm_l_mix cd_l_mix ct_l_mix : Value}
    {od_l_whole an_l_whole : Option Addr} {sl_l_whole : Array (Option Value)} {oc_l_whole kV_l_whole dc_l_whole pm_l_whole cd_l_whole ct_l_whole : Value}
    {od_l_draw an_l_draw : Option Addr} {sl_l_draw : Array (Option Value)} {oc_l_draw kV_l_draw dc_l_draw pm_l_draw cd_l_draw ct_l_draw : Value}
    {od_l_named an_l_named : Option Addr} {sl_l_named : Array (Option Value)} {oc_l_named kV_l_named dc_l_named pm_l_named cd_l_named ct_l_named : Value}
    {od_l_wide an_l_wide : Option Addr} {sl_l_wide : Array (Option Value)} {oc_l_wide kV_l_wide dc_l_wide pm_l_wide cd_l_wide ct_l_wide : Value}
    {od_l_items an_l_items : Option Addr} {sl_l_items : Array (Option Value)} {oc_l_items kV_l_items dc_l_items pm_l_items cd_l_items ct_l_items : Value}
    {od_l_rules an_l_rules : Option Addr} {sl_l_rules : Array (Option Value)} {oc_l_rules kV_l_rules dc_l_rules pm_l_rules cd_l_rules ct_l_rules : Value}
    {od_l_deeds an_l_deeds : Option Addr} {sl_l_deeds : Array (Option Value)} {oc_l_deeds kV_l_deeds dc_l_deeds pm_l_deeds cd_l_deeds ct_l_deeds : Value}
    {od_l_book an_l_book : Option Addr} {sl_l_book : Array (Option Value)} {oc_l_book kV_l_book dc_l_book pm_l_book cd_l_book ct_l_book : Value}
    {od_l_counts an_l_counts : Option Addr} {sl_l_counts : Array (Option Value)} {oc_l_counts kV_l_counts dc_l_counts pm_l_counts cd_l_counts ct_l_counts : Value}
    {od_l_behind an_l_behind : Option Addr} {sl_l_behind : Array (Option Value)} {oc_l_behind kV_l_behind dc_l_behind pm_l_behind cd_l_behind ct_l_behind : Value}
    {od_l_one an_l_one : Option Addr} {sl_l_one : Array (Option Value)} {oc_l_one kV_l_one dc_l_one pm_l_one cd_l_one ct_l_one : Value}
    {od_l_stretched an_l_stretched : Option Addr} {sl_l_stretched : Array (Option Value)} {oc_l_stretched kV_l_stretched dc_l_stretched pm_l_stretched cd_l_stretched ct_l_stretched : Value}
    {od_law an_law : Option Addr} {sl_law : Array (Option Value)} {oc_law kV_law dc_law pm_law cd_law ct_law : Value}
    (a_value_of : PySem.W.nsIn K mainGlobals "value_of" = some (some (.ref fa_value_of)))
    (l_value_of : K.lookup fa_value_of = some ⟨oc_value_of, od_value_of, .func (PySem.W.fnOf "value_of" "value_of" (defArgs s_value_of) (defBody s_value_of) (defScope s_value_of) .none kV_value_of dc_value_of pm_value_of an_value_of cd_value_of ct_value_of), sl_value_of⟩)
    (x_value_of : PySem.W.codeIn K cd_value_of "value_of" = true)
    (k_value_of : PySem.W.keepIn K (.ref fa_value_of) = true)
    (a_spare : PySem.W.nsIn K mainGlobals "spare" = some (some (.ref fa_spare)))
    (l_spare : K.lookup fa_spare = some ⟨oc_spare, od_spare, .func (PySem.W.fnOf "spare" "spare" (defArgs s_spare) (defBody s_spare) (defScope s_spare) .none kV_spare dc_spare pm_spare an_spare cd_spare ct_spare), sl_spare⟩)
    (x_spare : PySem.W.codeIn K cd_spare "spare" = true)
    (k_spare : PySem.W.keepIn K (.ref fa_spare) = true)
    (a_gain : PySem.W.nsIn K mainGlobals "gain" = some (some (.ref fa_gain)))
    (l_gain : K.lookup fa_gain = some ⟨oc_gain, od_gain, .func (PySem.W.fnOf "gain" "gain" (defArgs s_gain) (defBody s_gain) (defScope s_gain) .none kV_gain dc_gain pm_gain an_gain cd_gain ct_gain), sl_gain⟩)
    (x_gain : PySem.W.codeIn K cd_gain "gain" = true)
    (k_gain : PySem.W.keepIn K (.ref fa_gain) = true)
    (a_least_gain : PySem.W.nsIn K mainGlobals "least_gain" = some (some (.ref fa_least_gain)))
    (l_least_gain : K.lookup fa_least_gain = some ⟨oc_least_gain, od_least_gain, .func (PySem.W.fnOf "least_gain" "least_gain" (defArgs s_least_gain) (defBody s_least_gain) (defScope s_least_gain) .none kV_least_gain dc_least_gain pm_least_gain an_least_gain cd_least_gain ct_least_gain), sl_least_gain⟩)
    (x_least_gain : PySem.W.codeIn K cd_least_gain "least_gain" = true)
    (k_least_gain : PySem.W.keepIn K (.ref fa_least_gain) = true)
    (a_is_free : PySem.W.nsIn K mainGlobals "is_free" = some (some (.ref fa_is_free)))
    (l_is_free : K.lookup fa_is_free = some ⟨oc_is_free, od_is_free, .func (PySem.W.fnOf "is_free" "is_free" (defArgs s_is_free) (defBody s_is_free) (defScope s_is_free) .none kV_is_free dc_is_free pm_is_free an_is_free cd_is_free ct_is_free), sl_is_free⟩)
    (x_is_free : PySem.W.codeIn K cd_is_free "is_free" = true)
    (k_is_free : PySem.W.keepIn K (.ref fa_is_free) = true)
    (a_l_at : PySem.W.nsIn K mainGlobals "_law_at" = some (some (.ref fa_l_at)))
    (l_l_at : K.lookup fa_l_at = some ⟨oc_l_at, od_l_at, .func (PySem.W.fnOf "_law_at" "_law_at" (defArgs s_l_at) (defBody s_l_at) (defScope s_l_at) .none kV_l_at dc_l_at pm_l_at an_l_at cd_l_at ct_l_at), sl_l_at⟩)
    (x_l_at : PySem.W.codeIn K cd_l_at "_law_at" = true)
    (k_l_at : PySem.W.keepIn K (.ref fa_l_at) = true)
    (a_l_mix : PySem.W.nsIn K mainGlobals "_law_mix" = some (some (.ref fa_l_mix)))
    (l_l_mix : K.lookup fa_l_mix = some ⟨oc_l_mix, od_l_mix, .func (PySem.W.fnOf "_law_mix" "_law_mix" (defArgs s_l_mix) (defBody s_l_mix) (defScope s_l_mix) .none kV_l_mix dc_l_mix pm_l_mix an_l_mix cd_l_mix ct_l_mix), sl_l_mix⟩)
    (x_l_mix : PySem.W.codeIn K cd_l_mix "_law_mix" = true)
    (k_l_mix : PySem.W.keepIn K (.ref fa_l_mix) = true)
    (a_l_whole : PySem.W.nsIn K mainGlobals "_law_whole" = some (some (.ref fa_l_whole)))
    (l_l_whole : K.lookup fa_l_whole = some ⟨oc_l_whole, od_l_whole, .func (PySem.W.fnOf "_law_whole" "_law_whole" (defArgs s_l_whole) (defBody s_l_whole) (defScope s_l_whole) .none kV_l_whole dc_l_whole pm_l_whole an_l_whole cd_l_whole ct_l_whole), sl_l_whole⟩)
    (x_l_whole : PySem.W.codeIn K cd_l_whole "_law_whole" = true)
    (k_l_whole : PySem.W.keepIn K (.ref fa_l_whole) = true)
    (a_l_draw : PySem.W.nsIn K mainGlobals "_law_draw" = some (some (.ref fa_l_draw)))
    (l_l_draw : K.lookup fa_l_draw = some ⟨oc_l_draw, od_l_draw, .func (PySem.W.fnOf "_law_draw" "_law_draw" (defArgs s_l_draw) (defBody s_l_draw) (defScope s_l_draw) .none kV_l_draw dc_l_draw pm_l_draw an_l_draw cd_l_draw ct_l_draw), sl_l_draw⟩)
    (x_l_draw : PySem.W.codeIn K cd_l_draw "_law_draw" = true)
    (k_l_draw : PySem.W.keepIn K (.ref fa_l_draw) = true)
    (a_l_named : PySem.W.nsIn K mainGlobals "_law_named" = some (some (.ref fa_l_named)))
    (l_l_named : K.lookup fa_l_named = some ⟨oc_l_named, od_l_named, .func (PySem.W.fnOf "_law_named" "_law_named" (defArgs s_l_named) (defBody s_l_named) (defScope s_l_named) .none kV_l_named dc_l_named pm_l_named an_l_named cd_l_named ct_l_named), sl_l_named⟩)
    (x_l_named : PySem.W.codeIn K cd_l_named "_law_named" = true)
    (k_l_named : PySem.W.keepIn K (.ref fa_l_named) = true)
    (a_l_wide : PySem.W.nsIn K mainGlobals "_law_wide" = some (some (.ref fa_l_wide)))
    (l_l_wide : K.lookup fa_l_wide = some ⟨oc_l_wide, od_l_wide, .func (PySem.W.fnOf "_law_wide" "_law_wide" (defArgs s_l_wide) (defBody s_l_wide) (defScope s_l_wide) .none kV_l_wide dc_l_wide pm_l_wide an_l_wide cd_l_wide ct_l_wide), sl_l_wide⟩)
    (x_l_wide : PySem.W.codeIn K cd_l_wide "_law_wide" = true)
    (k_l_wide : PySem.W.keepIn K (.ref fa_l_wide) = true)
    (a_l_items : PySem.W.nsIn K mainGlobals "_law_items" = some (some (.ref fa_l_items)))
    (l_l_items : K.lookup fa_l_items = some ⟨oc_l_items, od_l_items, .func (PySem.W.fnOf "_law_items" "_law_items" (defArgs s_l_items) (defBody s_l_items) (defScope s_l_items) .none kV_l_items dc_l_items pm_l_items an_l_items cd_l_items ct_l_items), sl_l_items⟩)
    (x_l_items : PySem.W.codeIn K cd_l_items "_law_items" = true)
    (k_l_items : PySem.W.keepIn K (.ref fa_l_items) = true)
    (a_l_rules : PySem.W.nsIn K mainGlobals "_law_rules" = some (some (.ref fa_l_rules)))
    (l_l_rules : K.lookup fa_l_rules = some ⟨oc_l_rules, od_l_rules, .func (PySem.W.fnOf "_law_rules" "_law_rules" (defArgs s_l_rules) (defBody s_l_rules) (defScope s_l_rules) .none kV_l_rules dc_l_rules pm_l_rules an_l_rules cd_l_rules ct_l_rules), sl_l_rules⟩)
    (x_l_rules : PySem.W.codeIn K cd_l_rules "_law_rules" = true)
    (k_l_rules : PySem.W.keepIn K (.ref fa_l_rules) = true)
    (a_l_deeds : PySem.W.nsIn K mainGlobals "_law_deeds" = some (some (.ref fa_l_deeds)))
    (l_l_deeds : K.lookup fa_l_deeds = some ⟨oc_l_deeds, od_l_deeds, .func (PySem.W.fnOf "_law_deeds" "_law_deeds" (defArgs s_l_deeds) (defBody s_l_deeds) (defScope s_l_deeds) .none kV_l_deeds dc_l_deeds pm_l_deeds an_l_deeds cd_l_deeds ct_l_deeds), sl_l_deeds⟩)
    (x_l_deeds : PySem.W.codeIn K cd_l_deeds "_law_deeds" = true)
    (k_l_deeds : PySem.W.keepIn K (.ref fa_l_deeds) = true)
    (a_l_book : PySem.W.nsIn K mainGlobals "_law_book" = some (some (.ref fa_l_book)))
    (l_l_book : K.lookup fa_l_book = some ⟨oc_l_book, od_l_book, .func (PySem.W.fnOf "_law_book" "_law_book" (defArgs s_l_book) (defBody s_l_book) (defScope s_l_book) .none kV_l_book dc_l_book pm_l_book an_l_book cd_l_book ct_l_book), sl_l_book⟩)
    (x_l_book : PySem.W.codeIn K cd_l_book "_law_book" = true)
    (k_l_book : PySem.W.keepIn K (.ref fa_l_book) = true)
    (a_l_counts : PySem.W.nsIn K mainGlobals "_law_counts" = some (some (.ref fa_l_counts)))
    (l_l_counts : K.lookup fa_l_counts = some ⟨oc_l_counts, od_l_counts, .func (PySem.W.fnOf "_law_counts" "_law_counts" (defArgs s_l_counts) (defBody s_l_counts) (defScope s_l_counts) .none kV_l_counts dc_l_counts pm_l_counts an_l_counts cd_l_counts ct_l_counts), sl_l_counts⟩)
    (x_l_counts : PySem.W.codeIn K cd_l_counts "_law_counts" = true)
    (k_l_counts : PySem.W.keepIn K (.ref fa_l_counts) = true)
    (a_l_behind : PySem.W.nsIn K mainGlobals "_law_behind" = some (some (.ref fa_l_behind)))
    (l_l_behind : K.lookup fa_l_behind = some ⟨oc_l_behind, od_l_behind, .func (PySem.W.fnOf "_law_behind" "_law_behind" (defArgs s_l_behind) (defBody s_l_behind) (defScope s_l_behind) .none kV_l_behind dc_l_behind pm_l_behind an_l_behind cd_l_behind ct_l_behind), sl_l_behind⟩)
    (x_l_behind : PySem.W.codeIn K cd_l_behind "_law_behind" = true)
    (k_l_behind : PySem.W.keepIn K (.ref fa_l_behind) = true)
    (a_l_one : PySem.W.nsIn K mainGlobals "_law_one" = some (some (.ref fa_l_one)))
    (l_l_one : K.lookup fa_l_one = some ⟨oc_l_one, od_l_one, .func (PySem.W.fnOf "_law_one" "_law_one" (defArgs s_l_one) (defBody s_l_one) (defScope s_l_one) .none kV_l_one dc_l_one pm_l_one an_l_one cd_l_one ct_l_one), sl_l_one⟩)
    (x_l_one : PySem.W.codeIn K cd_l_one "_law_one" = true)
    (k_l_one : PySem.W.keepIn K (.ref fa_l_one) = true)
    (a_l_stretched : PySem.W.nsIn K mainGlobals "_law_stretched" = some (some (.ref fa_l_stretched)))
    (l_l_stretched : K.lookup fa_l_stretched = some ⟨oc_l_stretched, od_l_stretched, .func (PySem.W.fnOf "_law_stretched" "_law_stretched" (defArgs s_l_stretched) (defBody s_l_stretched) (defScope s_l_stretched) .none kV_l_stretched dc_l_stretched pm_l_stretched an_l_stretched cd_l_stretched ct_l_stretched), sl_l_stretched⟩)
    (x_l_stretched : PySem.W.codeIn K cd_l_stretched "_law_stretched" = true)
    (k_l_stretched : PySem.W.keepIn K (.ref fa_l_stretched) = true)
    (a_law : PySem.W.nsIn K mainGlobals "law" = some (some (.ref fa_law)))
    (l_law : K.lookup fa_law = some ⟨oc_law, od_law, .func (PySem.W.fnOf "law" "law" (defArgs s_law) (defBody s_law) (defScope s_law) .none kV_law dc_law pm_law an_law cd_law ct_law), sl_law⟩)
    (x_law : PySem.W.codeIn K cd_law "law" = true)
    (k_law : PySem.W.keepIn K (.ref fa_law) = true)
    (z_bool : PySem.W.nsIn K mainGlobals "bool" = some none)
    (z_enumerate : PySem.W.nsIn K mainGlobals "enumerate" = some none)
    (z_int : PySem.W.nsIn K mainGlobals "int" = some none)
    (z_isinstance : PySem.W.nsIn K mainGlobals "isinstance" = some none)
    (z_len : PySem.W.nsIn K mainGlobals "len" = some none)
    (z_list : PySem.W.nsIn K mainGlobals "list" = some none)
    (z_min : PySem.W.nsIn K mainGlobals "min" = some none)
    (z_range : PySem.W.nsIn K mainGlobals "range" = some none)
    (z_sum : PySem.W.nsIn K mainGlobals "sum" = some none)
    (z_tuple : PySem.W.nsIn K mainGlobals "tuple" = some none)
    (z_zip : PySem.W.nsIn K mainGlobals "zip" = some none) :
    ∃ fd : FuncData, (∀ (s : Shared) (v : Value), BindsTo s fd ⟨[v], []⟩ [("_law_script", v)]) ∧ ∀ base : Heap, K.In base → base.Ns mainGlobals mg → FnOk l.prog w K mg base CX0 6 fa fd ["_law_script"] (spLaw K) := by
  have e := hfa.symm.trans (PySem.W.mg_of X G a_law)
  cases e
  have F_value_of := fun_mk (st := s_value_of) l_value_of x_value_of k_value_of
  have b_value_of := F_value_of.binds (ps := ["form", "values"]) fun _ _ _ _ _ _ us hl => match us, hl with | [_, _], _ => rfl
  have m_value_of := PySem.W.mg_of X G a_value_of
  have F_spare := fun_mk (st := s_spare) l_spare x_spare k_spare
  have b_spare := F_spare.binds (ps := ["book", "rule", "state"]) fun _ _ _ _ _ _ us hl => match us, hl with | [_, _, _], _ => rfl
  have m_spare := PySem.W.mg_of X G a_spare
  have F_gain := fun_mk (st := s_gain) l_gain x_gain k_gain
  have b_gain := F_gain.binds (ps := ["book", "rule", "deed"]) fun _ _ _ _ _ _ us hl => match us, hl with | [_, _, _], _ => rfl
  have m_gain := PySem.W.mg_of X G a_gain
  have F_least_gain := fun_mk (st := s_least_gain) l_least_gain x_least_gain k_least_gain
  have b_least_gain := F_least_gain.binds (ps := ["book", "rule", "deed"]) fun _ _ _ _ _ _ us hl => match us, hl with | [_, _, _], _ => rfl
  have m_least_gain := PySem.W.mg_of X G a_least_gain
  have F_is_free := fun_mk (st := s_is_free) l_is_free x_is_free k_is_free
  have b_is_free := F_is_free.binds (ps := ["book", "rule", "deed"]) fun _ _ _ _ _ _ us hl => match us, hl with | [_, _, _], _ => rfl
  have m_is_free := PySem.W.mg_of X G a_is_free
  have F_l_at := fun_mk (st := s_l_at) l_l_at x_l_at k_l_at
  have b_l_at := F_l_at.binds (ps := ["_law_script", "_law_k"]) fun _ _ _ _ _ _ us hl => match us, hl with | [_, _], _ => rfl
  have m_l_at := PySem.W.mg_of X G a_l_at
  have F_l_mix := fun_mk (st := s_l_mix) l_l_mix x_l_mix k_l_mix
  have b_l_mix := F_l_mix.binds (ps := ["_law_number", "_law_place"]) fun _ _ _ _ _ _ us hl => match us, hl with | [_, _], _ => rfl
  have m_l_mix := PySem.W.mg_of X G a_l_mix
  have F_l_whole := fun_mk (st := s_l_whole) l_l_whole x_l_whole k_l_whole
  have b_l_whole := F_l_whole.binds (ps := ["_law_found"]) fun _ _ _ _ _ _ us hl => match us, hl with | [_], _ => rfl
  have m_l_whole := PySem.W.mg_of X G a_l_whole
  have F_l_draw := fun_mk (st := s_l_draw) l_l_draw x_l_draw k_l_draw
  have b_l_draw := F_l_draw.binds (ps := ["_law_script", "_law_k"]) fun _ _ _ _ _ _ us hl => match us, hl with | [_, _], _ => rfl
  have m_l_draw := PySem.W.mg_of X G a_l_draw
  have F_l_named := fun_mk (st := s_l_named) l_l_named x_l_named k_l_named
  have b_l_named := F_l_named.binds (ps := ["_law_k", "_law_number"]) fun _ _ _ _ _ _ us hl => match us, hl with | [_, _], _ => rfl
  have m_l_named := PySem.W.mg_of X G a_l_named
  have F_l_wide := fun_mk (st := s_l_wide) l_l_wide x_l_wide k_l_wide
  have b_l_wide := F_l_wide.binds (ps := ["_law_script", "_law_k", "_law_most"]) fun _ _ _ _ _ _ us hl => match us, hl with | [_, _, _], _ => rfl
  have m_l_wide := PySem.W.mg_of X G a_l_wide
  have F_l_items := fun_mk (st := s_l_items) l_l_items x_l_items k_l_items
  have b_l_items := F_l_items.binds (ps := ["_law_script", "_law_many", "_law_most"]) fun _ _ _ _ _ _ us hl => match us, hl with | [_, _, _], _ => rfl
  have m_l_items := PySem.W.mg_of X G a_l_items
  have F_l_rules := fun_mk (st := s_l_rules) l_l_rules x_l_rules k_l_rules
  have b_l_rules := F_l_rules.binds (ps := ["_law_script", "_law_items_here", "_law_many", "_law_most"]) fun _ _ _ _ _ _ us hl => match us, hl with | [_, _, _, _], _ => rfl
  have m_l_rules := PySem.W.mg_of X G a_l_rules
  have F_l_deeds := fun_mk (st := s_l_deeds) l_l_deeds x_l_deeds k_l_deeds
  have b_l_deeds := F_l_deeds.binds (ps := ["_law_script", "_law_items_here", "_law_many"]) fun _ _ _ _ _ _ us hl => match us, hl with | [_, _, _], _ => rfl
  have m_l_deeds := PySem.W.mg_of X G a_l_deeds
  have F_l_book := fun_mk (st := s_l_book) l_l_book x_l_book k_l_book
  have b_l_book := F_l_book.binds (ps := ["_law_script", "_law_counts_here"]) fun _ _ _ _ _ _ us hl => match us, hl with | [_, _], _ => rfl
  have m_l_book := PySem.W.mg_of X G a_l_book
  have F_l_counts := fun_mk (st := s_l_counts) l_l_counts x_l_counts k_l_counts
  have b_l_counts := F_l_counts.binds (ps := ["_law_script"]) fun _ _ _ _ _ _ us hl => match us, hl with | [_], _ => rfl
  have m_l_counts := PySem.W.mg_of X G a_l_counts
  have F_l_behind := fun_mk (st := s_l_behind) l_l_behind x_l_behind k_l_behind
  have b_l_behind := F_l_behind.binds (ps := ["_law_state", "_law_deed", "_law_n"]) fun _ _ _ _ _ _ us hl => match us, hl with | [_, _, _], _ => rfl
  have m_l_behind := PySem.W.mg_of X G a_l_behind
  have F_l_one := fun_mk (st := s_l_one) l_l_one x_l_one k_l_one
  have b_l_one := F_l_one.binds (ps := ["_law_book_here", "_law_handed", "_law_k", "_law_j", "_law_states"]) fun _ _ _ _ _ _ us hl => match us, hl with | [_, _, _, _, _], _ => rfl
  have m_l_one := PySem.W.mg_of X G a_l_one
  have F_l_stretched := fun_mk (st := s_l_stretched) l_l_stretched x_l_stretched k_l_stretched
  have b_l_stretched := F_l_stretched.binds (ps := ["_law_script", "_law_book_here"]) fun _ _ _ _ _ _ us hl => match us, hl with | [_, _], _ => rfl
  have m_l_stretched := PySem.W.mg_of X G a_l_stretched
  have F_law := fun_mk (st := s_law) l_law x_law k_law
  have b_law := F_law.binds (ps := ["_law_script"]) fun _ _ _ _ _ _ us hl => match us, hl with | [_], _ => rfl
  have m_law := PySem.W.mg_of X G a_law
  have B_bool : mg "bool" = none := PySem.W.mg_none_of X G z_bool
  have B_enumerate : mg "enumerate" = none := PySem.W.mg_none_of X G z_enumerate
  have B_int : mg "int" = none := PySem.W.mg_none_of X G z_int
  have B_isinstance : mg "isinstance" = none := PySem.W.mg_none_of X G z_isinstance
  have B_len : mg "len" = none := PySem.W.mg_none_of X G z_len
  have B_list : mg "list" = none := PySem.W.mg_none_of X G z_list
  have B_min : mg "min" = none := PySem.W.mg_none_of X G z_min
  have B_range : mg "range" = none := PySem.W.mg_none_of X G z_range
  have B_sum : mg "sum" = none := PySem.W.mg_none_of X G z_sum
  have B_tuple : mg "tuple" = none := PySem.W.mg_none_of X G z_tuple
  have B_zip : mg "zip" = none := PySem.W.mg_none_of X G z_zip
  refine ⟨PySem.W.fnOf "law" "law" (defArgs s_law) (defBody s_law) (defScope s_law) .none kV_law dc_law pm_law an_law cd_law ct_law, fun s v => .of_eq rfl, fun base _ _ => ?_⟩
  have c_value_of : Callee l.prog w K mg base 1 "value_of" [.fz, .fz] .fz f_value_of := ok_value_of F_value_of m_value_of b_value_of B_sum B_zip
  have c_spare : Callee l.prog w K mg base 2 "spare" [.fz, .fz, .fz] .fz f_spare := ok_spare F_spare m_spare b_spare c_value_of
  have c_gain : Callee l.prog w K mg base 1 "gain" [.fz, .fz, .fz] .fz f_gain := ok_gain F_gain m_gain b_gain B_zip
  have c_least_gain : Callee l.prog w K mg base 2 "least_gain" [.fz, .fz, .fz] .fz f_least_gain := ok_least_gain F_least_gain m_least_gain b_least_gain c_gain B_min
  have c_is_free : Callee l.prog w K mg base 3 "is_free" [.fz, .fz, .fz] .fz f_is_free := ok_is_free F_is_free m_is_free b_is_free c_least_gain
  have c_l_at : Callee l.prog w K mg base 1 "_law_at" [.vw, .fz] .fz f_l_at := ok_l_at F_l_at m_l_at b_l_at B_len
  have c_l_mix : Callee l.prog w K mg base 1 "_law_mix" [.fz, .fz] .fz f_l_mix := ok_l_mix F_l_mix m_l_mix b_l_mix B_range
  have c_l_whole : Callee l.prog w K mg base 1 "_law_whole" [.fz] .fz f_l_whole := ok_l_whole F_l_whole m_l_whole b_l_whole B_bool B_int B_isinstance
  have c_l_draw : Callee l.prog w K mg base 2 "_law_draw" [.vw, .fz] .fz f_l_draw := ok_l_draw F_l_draw m_l_draw b_l_draw c_l_mix c_l_at
  have c_l_named : Callee l.prog w K mg base 1 "_law_named" [.fz, .fz] .fz f_l_named := ok_l_named F_l_named m_l_named b_l_named 
  have c_l_wide : Callee l.prog w K mg base 3 "_law_wide" [.vw, .fz, .fz] .fz f_l_wide := ok_l_wide F_l_wide m_l_wide b_l_wide c_l_at c_l_draw
  have c_l_items : Callee l.prog w K mg base 4 "_law_items" [.vw, .fz, .fz] .ow f_l_items := ok_l_items F_l_items m_l_items b_l_items c_l_wide c_l_named c_l_draw B_range
  have c_l_rules : Callee l.prog w K mg base 4 "_law_rules" [.vw, .fz, .fz, .fz] .ow f_l_rules := ok_l_rules F_l_rules m_l_rules b_l_rules c_l_named c_l_draw c_l_wide B_len B_range B_tuple B_zip
  have c_l_deeds : Callee l.prog w K mg base 4 "_law_deeds" [.vw, .fz, .fz] .ow f_l_deeds := ok_l_deeds F_l_deeds m_l_deeds b_l_deeds c_l_named c_l_draw c_l_wide B_int B_len B_range B_tuple
  have c_l_book : Callee l.prog w K mg base 5 "_law_book" [.vw, .fz] .fz f_l_book := ok_l_book F_l_book m_l_book b_l_book c_l_deeds c_l_rules c_l_items c_l_mix c_l_at
  have c_l_counts : Callee l.prog w K mg base 2 "_law_counts" [.vw] .ow f_l_counts := ok_l_counts F_l_counts m_l_counts b_l_counts c_l_mix c_l_at
  have c_l_behind : Callee l.prog w K mg base 1 "_law_behind" [.fz, .fz, .fz] .fz f_l_behind := ok_l_behind F_l_behind m_l_behind b_l_behind B_tuple B_zip
  have c_l_one : Callee l.prog w K mg base 4 "_law_one" [.fz, .fz, .fz, .fz, .fz] .fz f_l_one := ok_l_one F_l_one m_l_one b_l_one c_is_free c_l_whole c_least_gain c_spare c_l_behind c_gain B_bool B_isinstance B_len B_min B_range B_tuple
  have c_l_stretched : Callee l.prog w K mg base 3 "_law_stretched" [.vw, .fz] .fz f_l_stretched := ok_l_stretched F_l_stretched m_l_stretched b_l_stretched c_l_at c_l_draw B_enumerate B_tuple
  have c_law : FnOk l.prog w K mg base CX0 6 fa (PySem.W.fnOf "law" "law" (defArgs s_law) (defBody s_law) (defScope s_law) .none kV_law dc_law pm_law an_law cd_law ct_law) ["_law_script"] (spP K [.vw] .fz f_law) := ok_law F_law c_l_one c_l_wide c_l_stretched c_l_book c_l_counts B_len B_list B_range B_tuple
  exact c_law.imp (sp_law law_true)
end DL
open PySem PySem.W PyProof.Rows
set_option maxRecDepth 100000 in
set_option maxHeartbeats 0 in
theorem PySem.Challenge.cw_apartbook_k15_gains_holds : PySem.Challenge.rw_apartbook_k15_gains.Holds := by
  w_on; o_law; k_head; (case hw => w_witness2)
  k_fill
  refine L2.walk_of (l := PySem.Challenge.rw_apartbook_k15_gains) (n := 63) (k := 6) (x := "_law_script") (CX := fun _ => L2.CX0) (sp := fun w => DL.spLaw _) rfl (by decide) rfl ⟨rfl, by decide, by decide⟩ (fun w h Y => PySem.W.kIn_of Y) ?F (fun _ _ a ns hl _ hS => ⟨a, ns, rfl, hS, hl, fun _ => rfl⟩) (fun _ _ _ _ _ z => z)
  case F =>
    intro w mg fa h KX G hmg
    refine' DL.all_mk KX G hmg ?a_value_of ?l_value_of ?x_value_of ?k_value_of ?a_spare ?l_spare ?x_spare ?k_spare ?a_gain ?l_gain ?x_gain ?k_gain ?a_least_gain ?l_least_gain ?x_least_gain ?k_least_gain ?a_is_free ?l_is_free ?x_is_free ?k_is_free ?a_l_at ?l_l_at ?x_l_at ?k_l_at ?a_l_mix ?l_l_mix ?x_l_mix ?k_l_mix ?a_l_whole ?l_l_whole ?x_l_whole ?k_l_whole ?a_l_draw ?l_l_draw ?x_l_draw ?k_l_draw ?a_l_named ?l_l_named ?x_l_named ?k_l_named ?a_l_wide ?l_l_wide ?x_l_wide ?k_l_wide ?a_l_items ?l_l_items ?x_l_items ?k_l_items ?a_l_rules ?l_l_rules ?x_l_rules ?k_l_rules ?a_l_deeds ?l_l_deeds ?x_l_deeds ?k_l_deeds ?a_l_book ?l_l_book ?x_l_book ?k_l_book ?a_l_counts ?l_l_counts ?x_l_counts ?k_l_counts ?a_l_behind ?l_l_behind ?x_l_behind ?k_l_behind ?a_l_one ?l_l_one ?x_l_one ?k_l_one ?a_l_stretched ?l_l_stretched ?x_l_stretched ?k_l_stretched ?a_law ?l_law ?x_law ?k_law ?z_bool ?z_enumerate ?z_int ?z_isinstance ?z_len ?z_list ?z_min ?z_range ?z_sum ?z_tuple ?z_zip
    (case a_value_of => k_is)
    (case l_value_of => k_is)
    (case x_value_of => k_is)
    (case k_value_of => k_is)
    (case a_spare => k_is)
    (case l_spare => k_is)
    (case x_spare => k_is)
    (case k_spare => k_is)
    (case a_gain => k_is)
    (case l_gain => k_is)
    (case x_gain => k_is)
    (case k_gain => k_is)
    (case a_least_gain => k_is)
    (case l_least_gain => k_is)
    (case x_least_gain => k_is)
    (case k_least_gain => k_is)
    (case a_is_free => k_is)
    (case l_is_free => k_is)
    (case x_is_free => k_is)
    (case k_is_free => k_is)
    (case a_l_at => k_is)
    (case l_l_at => k_is)
    (case x_l_at => k_is)
    (case k_l_at => k_is)
    (case a_l_mix => k_is)
    (case l_l_mix => k_is)
    (case x_l_mix => k_is)
    (case k_l_mix => k_is)
    (case a_l_whole => k_is)
    (case l_l_whole => k_is)
    (case x_l_whole => k_is)
    (case k_l_whole => k_is)
    (case a_l_draw => k_is)
    (case l_l_draw => k_is)
    (case x_l_draw => k_is)
    (case k_l_draw => k_is)
    (case a_l_named => k_is)
    (case l_l_named => k_is)
    (case x_l_named => k_is)
    (case k_l_named => k_is)
    (case a_l_wide => k_is)
    (case l_l_wide => k_is)
    (case x_l_wide => k_is)
    (case k_l_wide => k_is)
    (case a_l_items => k_is)
    (case l_l_items => k_is)
    (case x_l_items => k_is)
    (case k_l_items => k_is)
    (case a_l_rules => k_is)
    (case l_l_rules => k_is)
    (case x_l_rules => k_is)
    (case k_l_rules => k_is)
    (case a_l_deeds => k_is)
    (case l_l_deeds => k_is)
    (case x_l_deeds => k_is)
    (case k_l_deeds => k_is)
    (case a_l_book => k_is)
    (case l_l_book => k_is)
    (case x_l_book => k_is)
    (case k_l_book => k_is)
    (case a_l_counts => k_is)
    (case l_l_counts => k_is)
    (case x_l_counts => k_is)
    (case k_l_counts => k_is)
    (case a_l_behind => k_is)
    (case l_l_behind => k_is)
    (case x_l_behind => k_is)
    (case k_l_behind => k_is)
    (case a_l_one => k_is)
    (case l_l_one => k_is)
    (case x_l_one => k_is)
    (case k_l_one => k_is)
    (case a_l_stretched => k_is)
    (case l_l_stretched => k_is)
    (case x_l_stretched => k_is)
    (case k_l_stretched => k_is)
    (case a_law => k_is)
    (case l_law => k_is)
    (case x_law => k_is)
    (case k_law => k_is)
    (case z_bool => k_is)
    (case z_enumerate => k_is)
    (case z_int => k_is)
    (case z_isinstance => k_is)
    (case z_len => k_is)
    (case z_list => k_is)
    (case z_min => k_is)
    (case z_range => k_is)
    (case z_sum => k_is)
    (case z_tuple => k_is)
    (case z_zip => k_is)
#print axioms PySem.Challenge.cw_apartbook_k15_gains_holds
