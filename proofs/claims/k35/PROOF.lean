import PyProof.Rows.All
import Wide.All
import OpenK.AllK
import Wide.FinOn
import HandS.ForMost
import HandS.Wide
import HandS.Zip
import KE.SortData
import KE.KDictKeyed
import HandS.Deep
import HandS.TupAny
import HandS.TupMul
import HandS.Style
import HandS.IsInst
import KE.GoesMore
import KE.GoesEnum
import PyProof.LongRange
import HandS.Conv
import KE.Datum
import KE.KDictSum
import HandS.Keys
import PyProof.Transfer
import HandS.TupLe
import PySem.Challenge.RW_apartbook_k35_whole_any_order_the_same
set_option Elab.async false
set_option linter.all false
set_option maxRecDepth 100000
set_option maxHeartbeats 4000000
/-! DL, a layer of data over the hand layer: what an expression gives is told by a plain function of the frame's data. -/
namespace DL
open PySem PySem.Spec L2

abbrev D := PyData
/-- how a result stands: vw seen for now, sv seen and staying, fz frozen for good, ow a new list of one's own -/
inductive RK where
  | vw | vl | sv | fz | ow
/-- what a thing of one's own is: a list, a tuple, a dict by its keys (ints and texts; nested tuples), an instance by its class and attributes -/
inductive Shp where
  | l | t | k (ks : List Key) | q (ks : List D) | o (c : Str) (fs : List Str)
/-- a thing of one's own: frozen data, or a node with what stands in it -/
inductive T where
  | d (d : D) | n (s : Shp) (ts : List T)
/-- a slot's content -/
inductive C where
  | und | val (d : D) | brw (d : D) | lst (ds : List D) | dK (kvs : List (Key × D)) | dT (kvs : List (List Key × D)) | dN (ks : List D) | own (m : Option Nat) (t : T) | ro (b : Bool) (t : T) | pin (j : Nat)
/-- the slot's content is the caller's, borrowed for writing -/
def C.mu : C → Bool
  | .own (some _) _ => true
  | _ => false

/-- the entry: its heap, its frozen part, what may be written of it -/
structure GC where
  H0 : Hp
  F0 : Hp
  Ws : List (Addr × List Addr)
  w : Option World
/-- what may be written of the entry's: the borrowed things, by their roots and addresses -/
def GC.W (G : GC) : List Addr := G.Ws.flatMap (·.2)
/-- what stays of the entry -/
def GC.kp (G : GC) : Hp := fun a => if a ∈ G.W then none else G.H0 a

/-! frozen data: its lists are plain ones -/
mutual
inductive DF (K : PySem.W.Frag) (H : Hp) : V → PyData → Prop
  | non : DF K H .non .none
  | bl (b : Bool) : DF K H (.bl b) (.bool b)
  | int (i : Int) : DF K H (.int i) (.int i)
  | str (x : Str) : DF K H (.str x) (.str x)
  | lst {a : Addr} {xs : List V} {ds : List PyData} : H a = some (.lst xs) → DFAll K H xs ds → DF K H (.ref a) (.list ds)
  | tup {a : Addr} {xs : List V} {ds : List PyData} : SqT K H a xs → DFAll K H xs ds → DF K H (.ref a) (.tuple ds)
inductive DFAll (K : PySem.W.Frag) (H : Hp) : List V → List PyData → Prop
  | nil : DFAll K H [] []
  | cons {v : V} {vs : List V} {d : PyData} {ds : List PyData} : DF K H v d → DFAll K H vs ds → DFAll K H (v :: vs) (d :: ds)
end
section
variable {K : PySem.W.Frag} {H H' F F' : Hp}
theorem Same.seqT (e : Same H H') {a : Addr} {xs : List V} (h : SqT K H a xs) : SqT K H' a xs := by
  rcases h with (h | ⟨o, h⟩) | h
  · exact .inl (.inl (e _ _ h))
  · exact .inl (.inr ⟨o, e _ _ h⟩)
  · exact .inr h
mutual
theorem Dp_mono (e : Same H H') : ∀ (d : D) (v : V), Dp K H v d → Dp K H' v d
  | .none, _, h => by cases h; exact .non
  | .bool b, _, h => by cases h; exact .bl b
  | .int i, _, h => by cases h; exact .int i
  | .str x, _, h => by cases h; exact .str x
  | .list ds, _, h => by
    cases h with
    | lst hs ha => exact .lst (e.seq hs) (DpAll_mono e ds _ ha)
  | .tuple ds, _, h => by
    cases h with
    | tup hs ha => exact .tup (Same.seqT e hs) (DpAll_mono e ds _ ha)
  | .dict _, _, h => by cases h
theorem DpAll_mono (e : Same H H') : ∀ (ds : List D) (vs : List V), DpAll K H vs ds → DpAll K H' vs ds
  | [], _, h => by cases h; exact .nil
  | d :: ds, _, h => by
    cases h with
    | cons h1 h2 => exact .cons (Dp_mono e d _ h1) (DpAll_mono e ds _ h2)
end
theorem DpAll_len : ∀ {vs : List V} {ds : List D}, DpAll K H vs ds → vs.length = ds.length
  | [], ds, h => by cases h; rfl
  | v :: vs, ds, h => by
    cases h with
    | cons h1 h2 => rw [List.length_cons, List.length_cons, DpAll_len h2]
theorem DpAll_get : ∀ {vs : List V} {ds : List D} {i : Nat} {d : D}, DpAll K H vs ds → ds[i]? = some d → ∃ v, vs[i]? = some v ∧ Dp K H v d
  | [], ds, i, d, h, e => by cases h; simp at e
  | v :: vs, ds, i, d, h, e => by
    cases h with
    | cons h1 h2 =>
      cases i with
      | zero => simp at e; subst e; exact ⟨v, rfl, h1⟩
      | succ i => simpa using DpAll_get h2 (by simpa using e)
theorem DpAll_getV : ∀ {vs : List V} {ds : List D} {i : Nat} {v : V}, DpAll K H vs ds → vs[i]? = some v → ∃ d, ds[i]? = some d ∧ Dp K H v d
  | [], ds, i, d, h, e => by simp at e
  | v :: vs, ds, i, d, h, e => by
    cases h with
    | cons h1 h2 =>
      cases i with
      | zero => simp at e; subst e; exact ⟨_, rfl, h1⟩
      | succ i => simpa using DpAll_getV h2 (by simpa using e)
theorem DpAll_app : ∀ {vs ws : List V} {ds es : List D}, DpAll K H vs ds → DpAll K H ws es → DpAll K H (vs ++ ws) (ds ++ es)
  | [], ws, ds, es, h, h' => by cases h; exact h'
  | v :: vs, ws, ds, es, h, h' => by
    cases h with
    | cons h1 h2 => exact .cons h1 (DpAll_app h2 h')
theorem DpAll_take : ∀ {vs : List V} {ds : List D} (n : Nat), DpAll K H vs ds → DpAll K H (vs.take n) (ds.take n)
  | _, _, 0, _ => .nil
  | [], _, n + 1, h => by cases h; exact .nil
  | v :: vs, _, n + 1, h => by
    cases h with
    | cons h1 h2 => exact .cons h1 (DpAll_take n h2)
theorem DpAll_drop : ∀ {vs : List V} {ds : List D} (n : Nat), DpAll K H vs ds → DpAll K H (vs.drop n) (ds.drop n)
  | _, _, 0, h => h
  | [], _, n + 1, h => by cases h; exact .nil
  | v :: vs, _, n + 1, h => by
    cases h with
    | cons h1 h2 => exact DpAll_drop n h2
theorem DpAll_set : ∀ {vs : List V} {ds : List D} {v : V} {d : D} (i : Nat), DpAll K H vs ds → Dp K H v d → DpAll K H (vs.set i v) (ds.set i d)
  | [], _, v, d, i, h, _ => by cases h; exact .nil
  | w :: vs, _, v, d, i, h, hd => by
    cases h with
    | cons h1 h2 =>
      cases i with
      | zero => exact .cons hd h2
      | succ i => exact .cons h1 (DpAll_set i h2 hd)
theorem DpAll_rev {vs : List V} {ds : List D} (h : DpAll K H vs ds) : DpAll K H vs.reverse ds.reverse := by
  induction vs generalizing ds with
  | nil => cases h; exact .nil
  | cons v vs ih =>
    cases h with
    | cons h1 h2 =>
      rw [List.reverse_cons, List.reverse_cons]
      exact DpAll_app (ih h2) (.cons h1 .nil)
theorem DpAll_rep {vs : List V} {ds : List D} (h : DpAll K H vs ds) : ∀ n : Nat, DpAll K H (List.replicate n vs).flatten (List.replicate n ds).flatten
  | 0 => .nil
  | n + 1 => by
    rw [List.replicate_succ, List.replicate_succ, List.flatten_cons, List.flatten_cons]
    exact DpAll_app h (DpAll_rep h n)
theorem DpAll_ints : ∀ (ns : List Int), DpAll K H (ns.map V.int) (ns.map PyData.int)
  | [] => .nil
  | n :: ns => .cons (.int n) (DpAll_ints ns)
theorem DpAll_ints_of : ∀ {vs : List V} {ns : List Int}, DpAll K H vs (ns.map PyData.int) → vs = ns.map V.int
  | [], ns, h => by
    cases ns with
    | nil => rfl
    | cons n ns => cases h
  | v :: vs, ns, h => by
    cases ns with
    | nil => cases h
    | cons n ns =>
      cases h with
      | cons h1 h2 =>
        cases h1
        rw [List.map_cons, DpAll_ints_of h2]
theorem DpAll_strs_of : ∀ {vs : List V} {ns : List Str}, DpAll K H vs (ns.map PyData.str) → vs = ns.map V.str
  | [], ns, h => by
    cases ns with
    | nil => rfl
    | cons n ns => cases h
  | v :: vs, ns, h => by
    cases ns with
    | nil => cases h
    | cons n ns =>
      cases h with
      | cons h1 h2 =>
        cases h1
        rw [List.map_cons, DpAll_strs_of h2]
mutual
theorem DF_mono (e : Same H H') : ∀ (d : D) (v : V), DF K H v d → DF K H' v d
  | .none, _, h => by cases h; exact .non
  | .bool b, _, h => by cases h; exact .bl b
  | .int i, _, h => by cases h; exact .int i
  | .str x, _, h => by cases h; exact .str x
  | .list ds, _, h => by
    cases h with
    | lst hs ha => exact .lst (e _ _ hs) (DFAll_mono e ds _ ha)
  | .tuple ds, _, h => by
    cases h with
    | tup hs ha => exact .tup (Same.seqT e hs) (DFAll_mono e ds _ ha)
  | .dict _, _, h => by cases h
theorem DFAll_mono (e : Same H H') : ∀ (ds : List D) (vs : List V), DFAll K H vs ds → DFAll K H' vs ds
  | [], _, h => by cases h; exact .nil
  | d :: ds, _, h => by
    cases h with
    | cons h1 h2 => exact .cons (DF_mono e d _ h1) (DFAll_mono e ds _ h2)
end
theorem DFAll_len : ∀ {vs : List V} {ds : List D}, DFAll K H vs ds → vs.length = ds.length
  | [], ds, h => by cases h; rfl
  | v :: vs, ds, h => by
    cases h with
    | cons h1 h2 => rw [List.length_cons, List.length_cons, DFAll_len h2]
theorem DFAll_get : ∀ {vs : List V} {ds : List D} {i : Nat} {d : D}, DFAll K H vs ds → ds[i]? = some d → ∃ v, vs[i]? = some v ∧ DF K H v d
  | [], ds, i, d, h, e => by cases h; simp at e
  | v :: vs, ds, i, d, h, e => by
    cases h with
    | cons h1 h2 =>
      cases i with
      | zero => simp at e; subst e; exact ⟨v, rfl, h1⟩
      | succ i => simpa using DFAll_get h2 (by simpa using e)
theorem DFAll_getV : ∀ {vs : List V} {ds : List D} {i : Nat} {v : V}, DFAll K H vs ds → vs[i]? = some v → ∃ d, ds[i]? = some d ∧ DF K H v d
  | [], ds, i, d, h, e => by simp at e
  | v :: vs, ds, i, d, h, e => by
    cases h with
    | cons h1 h2 =>
      cases i with
      | zero => simp at e; subst e; exact ⟨_, rfl, h1⟩
      | succ i => simpa using DFAll_getV h2 (by simpa using e)
theorem DFAll_app : ∀ {vs ws : List V} {ds es : List D}, DFAll K H vs ds → DFAll K H ws es → DFAll K H (vs ++ ws) (ds ++ es)
  | [], ws, ds, es, h, h' => by cases h; exact h'
  | v :: vs, ws, ds, es, h, h' => by
    cases h with
    | cons h1 h2 => exact .cons h1 (DFAll_app h2 h')
theorem DFAll_take : ∀ {vs : List V} {ds : List D} (n : Nat), DFAll K H vs ds → DFAll K H (vs.take n) (ds.take n)
  | _, _, 0, _ => .nil
  | [], _, n + 1, h => by cases h; exact .nil
  | v :: vs, _, n + 1, h => by
    cases h with
    | cons h1 h2 => exact .cons h1 (DFAll_take n h2)
theorem DFAll_drop : ∀ {vs : List V} {ds : List D} (n : Nat), DFAll K H vs ds → DFAll K H (vs.drop n) (ds.drop n)
  | _, _, 0, h => h
  | [], _, n + 1, h => by cases h; exact .nil
  | v :: vs, _, n + 1, h => by
    cases h with
    | cons h1 h2 => exact DFAll_drop n h2
theorem DFAll_set : ∀ {vs : List V} {ds : List D} {v : V} {d : D} (i : Nat), DFAll K H vs ds → DF K H v d → DFAll K H (vs.set i v) (ds.set i d)
  | [], _, v, d, i, h, _ => by cases h; exact .nil
  | w :: vs, _, v, d, i, h, hd => by
    cases h with
    | cons h1 h2 =>
      cases i with
      | zero => exact .cons hd h2
      | succ i => exact .cons h1 (DFAll_set i h2 hd)
theorem DFAll_rev {vs : List V} {ds : List D} (h : DFAll K H vs ds) : DFAll K H vs.reverse ds.reverse := by
  induction vs generalizing ds with
  | nil => cases h; exact .nil
  | cons v vs ih =>
    cases h with
    | cons h1 h2 =>
      rw [List.reverse_cons, List.reverse_cons]
      exact DFAll_app (ih h2) (.cons h1 .nil)
theorem DFAll_rep {vs : List V} {ds : List D} (h : DFAll K H vs ds) : ∀ n : Nat, DFAll K H (List.replicate n vs).flatten (List.replicate n ds).flatten
  | 0 => .nil
  | n + 1 => by
    rw [List.replicate_succ, List.replicate_succ, List.flatten_cons, List.flatten_cons]
    exact DFAll_app h (DFAll_rep h n)
theorem DFAll_ints : ∀ (ns : List Int), DFAll K H (ns.map V.int) (ns.map PyData.int)
  | [] => .nil
  | n :: ns => .cons (.int n) (DFAll_ints ns)
theorem DFAll_ints_of : ∀ {vs : List V} {ns : List Int}, DFAll K H vs (ns.map PyData.int) → vs = ns.map V.int
  | [], ns, h => by
    cases ns with
    | nil => rfl
    | cons n ns => cases h
  | v :: vs, ns, h => by
    cases ns with
    | nil => cases h
    | cons n ns =>
      cases h with
      | cons h1 h2 =>
        cases h1
        rw [List.map_cons, DFAll_ints_of h2]
theorem DFAll_strs_of : ∀ {vs : List V} {ns : List Str}, DFAll K H vs (ns.map PyData.str) → vs = ns.map V.str
  | [], ns, h => by
    cases ns with
    | nil => rfl
    | cons n ns => cases h
  | v :: vs, ns, h => by
    cases ns with
    | nil => cases h
    | cons n ns =>
      cases h with
      | cons h1 h2 =>
        cases h1
        rw [List.map_cons, DFAll_strs_of h2]

mutual
theorem DF.dp : ∀ (d : D) (v : V), DF K H v d → Dp K H v d
  | .none, _, h => by cases h; exact .non
  | .bool b, _, h => by cases h; exact .bl b
  | .int i, _, h => by cases h; exact .int i
  | .str x, _, h => by cases h; exact .str x
  | .list ds, _, h => by
    cases h with
    | lst hs ha => exact .lst (.inl (.inl hs)) (DFAll.dp ds _ ha)
  | .tuple ds, _, h => by
    cases h with
    | tup hs ha => exact .tup hs (DFAll.dp ds _ ha)
  | .dict _, _, h => by cases h
theorem DFAll.dp : ∀ (ds : List D) (vs : List V), DFAll K H vs ds → DpAll K H vs ds
  | [], _, h => by cases h; exact .nil
  | d :: ds, _, h => by
    cases h with
    | cons h1 h2 => exact .cons (DF.dp d _ h1) (DFAll.dp ds _ h2)
end
end

/-- the dict's pairs by their data -/
inductive KDp {κ : Type} (K : PySem.W.Frag) (H : Hp) : List (κ × V) → List (κ × D) → Prop
  | nil : KDp K H [] []
  | cons {k : κ} {v : V} {d : D} {vs ds} : DF K H v d → KDp K H vs ds → KDp K H ((k, v) :: vs) ((k, d) :: ds)
theorem KDp.mono {κ : Type} {K : PySem.W.Frag} {H H' : Hp} (e : Same H H') : ∀ {vs : List (κ × V)} {ds : List (κ × D)}, KDp K H vs ds → KDp K H' vs ds
  | _, _, .nil => .nil
  | _, _, .cons h t => .cons (DF_mono e _ _ h) (KDp.mono e t)

/-! a dict that keeps nested keys -/
mutual
def keyN : D → Option NestedKey
  | .none => some .none
  | .bool b => some (.num (if b = true then 1 else 0))
  | .int i => some (.num i)
  | .str x => some (.text x)
  | .tuple ds => (keyNs ds).map .tup
  | _ => none
def keyNs : List D → Option (List NestedKey)
  | [] => some []
  | d :: ds => (keyN d).bind fun k => (keyNs ds).map (k :: ·)
end
/-- the dict's own object: its entries -/
def dnO (w : World) (a : Addr) (xs : List (NestedKey × Addr × Value)) : HO := .ext fun h => xs.length ≤ sizeLine ∧ (a == sysModules) = false ∧
  ∃ o es ep, h.get? a = some o ∧ o.ExactDict ∧ o.data = .dict es ep ∧ es.toList = xs.map (fun x => (⟨x.1.hash w, .ref x.2.1, x.2.2⟩ : DictEntry)) ∧ (xs.map (·.1)).Nodup
inductive KeyAll (K : PySem.W.Frag) (H : Hp) : List (NestedKey × Addr × Value) → List D → Prop
  | nil : KeyAll K H [] []
  | cons {k : NestedKey} {p : Addr} {v : Value} {d : D} {xs : List (NestedKey × Addr × Value)} {ds : List D} : keyN d = some k → k.depth ≤ 8 → DF K H (.ref p) d → KeyAll K H xs ds → KeyAll K H ((k, p, v) :: xs) (d :: ds)
theorem KeyAll.mono {K : PySem.W.Frag} {H H' : Hp} (e : Same H H') : ∀ {xs : List (NestedKey × Addr × Value)} {ds : List D}, KeyAll K H xs ds → KeyAll K H' xs ds
  | _, _, .nil => .nil
  | _, _, .cons a b c t => .cons a b (DF_mono e _ _ c) (KeyAll.mono e t)
/-- a dict's own keys, with the values -/
inductive KeysQ (K : PySem.W.Frag) (F : Hp) : List (NestedKey × Addr × Value) → List D → List V → Prop
  | nil : KeysQ K F [] [] []
  | cons {k : NestedKey} {p : Addr} {u : Value} {v : V} {d : D} {xs : List (NestedKey × Addr × Value)} {ds : List D} {vs : List V} : keyN d = some k → k.depth ≤ 8 → DF K F (.ref p) d → RelV v u → KeysQ K F xs ds vs → KeysQ K F ((k, p, u) :: xs) (d :: ds) (v :: vs)
theorem KeysQ.mono {K : PySem.W.Frag} {F F' : Hp} (e : Same F F') : ∀ {xs : List (NestedKey × Addr × Value)} {ds : List D} {vs : List V}, KeysQ K F xs ds vs → KeysQ K F' xs ds vs
  | _, _, _, .nil => .nil
  | _, _, _, .cons a b c r t => .cons a b (DF_mono e _ _ c) r (KeysQ.mono e t)
/-- a node: its address, the values in it, the addresses that are its own -/
def NR (K : PySem.W.Frag) (ow : Option World) (H F : Hp) (s : Shp) (a : Addr) (vs : List V) (own : List Addr) : Prop :=
  match s with
  | .l => own = [a] ∧ H a = some (.lst vs)
  | .t => (own = [a] ∧ H a = some (.tup vs)) ∨ (own = [] ∧ SqT K F a vs)
  | .k ks => own = [a] ∧ ks.length = vs.length ∧ H a = some (.dK (ks.zip vs))
  | .q ks => own = [a] ∧ ∃ w xs, ow = some w ∧ H a = some (dnO w a xs) ∧ KeysQ K F xs ks vs
  | .o c fs => fs.length = vs.length ∧ ∃ C dx, own = [a, dx] ∧ PySem.W.nsIn K mainGlobals c = some (some (.ref C)) ∧ H a = some (.ins C dx (fs.zip vs)) ∧ H dx = some (.own a)
theorem NR.mono {K : PySem.W.Frag} {ow : Option World} {H H' F F' : Hp} {s : Shp} {a : Addr} {vs : List V} {own : List Addr} (r : NR K ow H F s a vs own) (h : ∀ b o, b ∈ own → H b = some o → H' b = some o) (f : Same F F') : NR K ow H' F' s a vs own := by
  cases s with
  | l => obtain ⟨rfl, r⟩ := r; exact ⟨rfl, h _ _ (List.mem_singleton.mpr rfl) r⟩
  | t =>
    rcases r with ⟨rfl, r⟩ | ⟨rfl, r⟩
    · exact .inl ⟨rfl, h _ _ (List.mem_singleton.mpr rfl) r⟩
    · exact .inr ⟨rfl, Same.seqT f r⟩
  | k ks => obtain ⟨rfl, l, r⟩ := r; exact ⟨rfl, l, h _ _ (List.mem_singleton.mpr rfl) r⟩
  | q ks => obtain ⟨rfl, w, xs, e, r, kq⟩ := r; exact ⟨rfl, w, xs, e, h _ _ (List.mem_singleton.mpr rfl) r, kq.mono f⟩
  | o c fs => obtain ⟨l, C, dx, rfl, n, r, r2⟩ := r; exact ⟨l, C, dx, rfl, n, h _ _ (List.mem_cons_self ..) r, h _ _ (by simp) r2⟩
/-! a value is such a thing; its addresses -/
mutual
inductive OR (K : PySem.W.Frag) (ow : Option World) (H F : Hp) : V → T → List Addr → Prop
  | d {v : V} {d : D} : DF K F v d → OR K ow H F v (.d d) []
  | n {s : Shp} {a : Addr} {vs : List V} {ts : List T} {own l : List Addr} : NR K ow H F s a vs own → ORs K ow H F vs ts l → (own ++ l).Nodup → OR K ow H F (.ref a) (.n s ts) (own ++ l)
inductive ORs (K : PySem.W.Frag) (ow : Option World) (H F : Hp) : List V → List T → List Addr → Prop
  | nil : ORs K ow H F [] [] []
  | cons {v : V} {t : T} {l m : List Addr} {vs : List V} {ts : List T} : OR K ow H F v t l → ORs K ow H F vs ts m → ORs K ow H F (v :: vs) (t :: ts) (l ++ m)
end
section
variable {K : PySem.W.Frag} {ow : Option World} {H H' F F' : Hp}
mutual
theorem OR_mono (f : Same F F') : ∀ (t : T) (v : V) (l : List Addr), (∀ b o, b ∈ l → H b = some o → H' b = some o) → OR K ow H F v t l → OR K ow H' F' v t l
  | .d d, _, _, _, h => by
    cases h with
    | d h => exact .d (DF_mono f _ _ h)
  | .n s ts, _, _, e, h => by
    cases h with
    | n h1 h2 h3 => exact .n (h1.mono (fun b o hb => e b o (List.mem_append_left _ hb)) f) (ORs_mono f ts _ _ (fun b o hb => e b o (List.mem_append_right _ hb)) h2) h3
theorem ORs_mono (f : Same F F') : ∀ (ts : List T) (vs : List V) (l : List Addr), (∀ b o, b ∈ l → H b = some o → H' b = some o) → ORs K ow H F vs ts l → ORs K ow H' F' vs ts l
  | [], _, _, _, h => by cases h; exact .nil
  | t :: ts, _, _, e, h => by
    cases h with
    | cons h1 h2 => exact .cons (OR_mono f t _ _ (fun b o hb => e b o (List.mem_append_left _ hb)) h1) (ORs_mono f ts _ _ (fun b o hb => e b o (List.mem_append_right _ hb)) h2)
end
theorem OR.nodup {v : V} {t : T} {l : List Addr} (h : OR K ow H F v t l) : l.Nodup := by
  cases h with
  | d _ => exact List.nodup_nil
  | n _ _ h => exact h
end
def SlotRep (K : PySem.W.Frag) (G : GC) (H F : Hp) (x : Option V) (c : C) (fp : List Addr) : Prop :=
  match c with
  | .und => fp = []
  | .val d => fp = [] ∧ ∃ v, x = some v ∧ DF K F v d
  | .brw d => fp = [] ∧ ∃ v, x = some v ∧ Dp K G.kp v d
  | .lst ds => ∃ a vs, fp = [a] ∧ x = some (.ref a) ∧ H a = some (.lst vs) ∧ DFAll K F vs ds
  | .dK ds => ∃ a vs, fp = [a] ∧ x = some (.ref a) ∧ H a = some (.dK vs) ∧ KDp K F vs ds
  | .dT ds => ∃ a vs, fp = [a] ∧ x = some (.ref a) ∧ H a = some (.dT vs) ∧ KDp K F vs ds
  | .dN ks => ∃ a w xs, fp = [a] ∧ x = some (.ref a) ∧ G.w = some w ∧ H a = some (dnO w a xs) ∧ KeyAll K F xs ks
  | .ro b t => fp = [] ∧ ∃ v l, x = some v ∧ OR K G.w G.kp F v t l ∧ (b = true → ∀ a vs, a ∈ l → G.kp a = some (.lst vs) → F a = some (.lst vs))
  | .pin j => fp = [] ∧ ∃ a l, G.Ws[j]? = some (a, l) ∧ x = some (.ref a)
  | .own m t => ∃ v, x = some v ∧ OR K G.w H F v t fp ∧ ∀ j, m = some j → ∃ a l, G.Ws[j]? = some (a, l) ∧ v = .ref a ∧ ∀ b, b ∈ fp → b ∈ l ∨ G.H0 b = none

structure Rel (K : PySem.W.Frag) (G : GC) (env : List C) (σ : St) (H F : Hp) (fp : Nat → List Addr) : Prop where
  len : env.length = σ.length
  slot : ∀ i c, env[i]? = some c → SlotRep K G H F (σ[i]?.join) c (fp i)
  dj : ∀ i j a, a ∈ fp i → a ∈ fp j → i = j
  own : ∀ i a, a ∈ fp i → F a = none ∧ H a ≠ none ∧ (G.H0 a = none ∨ (a ∈ G.W ∧ ∃ c, env[i]? = some c ∧ c.mu = true))
  sub : Same F H
  new : ∀ a o, F a = some o → G.F0 a = some o ∨ G.H0 a = none
  old : Same G.F0 F
  keep : ∀ a o, G.H0 a = some o → a ∉ G.W → H a = some o
  alive : ∀ a, G.H0 a ≠ none → H a ≠ none

structure Ext (H F H' F' : Hp) : Prop where
  h : Same H H'
  f : Same F F'
  sub : Same F' H'
  new : ∀ a o, F' a = some o → F a = some o ∨ H a = none
section
variable {K : PySem.W.Frag} {G : GC} {env : List C} {σ : St} {H F H' F' H1 F1 : Hp} {fp : Nat → List Addr}
theorem Ext.refl (h : Same F H) : Ext H F H F := ⟨Same.refl _, Same.refl _, h, fun _ _ e => .inl e⟩
theorem Ext.trans (a : Ext H F H1 F1) (b : Ext H1 F1 H' F') : Ext H F H' F' :=
  ⟨a.h.trans b.h, a.f.trans b.f, b.sub, fun x o e => by
    rcases b.new x o e with q | q
    · exact a.new x o q
    · exact .inr (a.h.free q)⟩
/-- a new object, frozen at once -/
theorem Ext.frozen {p : Addr} {o : HO} (h : Same F H) (np : H p = none) : Ext H F (upd H p o) (upd F p o) := by
  have nf : F p = none := h.free np
  refine ⟨fun b x e => ?_, fun b x e => ?_, fun b x e => ?_, fun b x e => ?_⟩
  · rw [upd_ne (ne_of_none e np)]; exact e
  · rw [upd_ne (ne_of_none e nf)]; exact e
  · by_cases hb : b = p
    · subst hb; rw [upd_same] at e ⊢; exact e
    · rw [upd_ne hb] at e ⊢; exact h _ _ e
  · by_cases hb : b = p
    · subst hb; exact .inr np
    · rw [upd_ne hb] at e; exact .inl e
/-- a new object, not frozen -/
theorem Ext.laid {p : Addr} {o : HO} (h : Same F H) (np : H p = none) : Ext H F (upd H p o) F := by
  refine ⟨fun b x e => ?_, Same.refl _, fun b x e => ?_, fun b x e => .inl e⟩
  · rw [upd_ne (ne_of_none e np)]; exact e
  · rw [upd_ne (ne_of_none (h _ _ e) np)]; exact h _ _ e
theorem Rel.ext (R : Rel K G env σ H F fp) (E : Ext H F H' F') : Rel K G env σ H' F' fp where
  len := R.len
  slot := fun i c e => by
    have q := R.slot i c e
    cases c with
    | und => exact q
    | val d => obtain ⟨q1, v, q2, q3⟩ := q; exact ⟨q1, v, q2, DF_mono E.f _ _ q3⟩
    | brw d => exact q
    | lst ds => obtain ⟨a, vs, q1, q2, q3, q4⟩ := q; exact ⟨a, vs, q1, q2, E.h _ _ q3, DFAll_mono E.f _ _ q4⟩
    | dK ds => obtain ⟨a, vs, q1, q2, q3, q4⟩ := q; exact ⟨a, vs, q1, q2, E.h _ _ q3, q4.mono E.f⟩
    | dT ds => obtain ⟨a, vs, q1, q2, q3, q4⟩ := q; exact ⟨a, vs, q1, q2, E.h _ _ q3, q4.mono E.f⟩
    | dN ds => obtain ⟨a, w, xs, q1, q2, q5, q3, q4⟩ := q; exact ⟨a, w, xs, q1, q2, q5, E.h _ _ q3, q4.mono E.f⟩
    | pin _ => exact q
    | ro b t => obtain ⟨q0, v, l, q1, q2, q3⟩ := q; exact ⟨q0, v, l, q1, OR_mono E.f _ _ _ (fun _ _ _ h => h) q2, fun hb a vs ha hk => E.f _ _ (q3 hb a vs ha hk)⟩
    | own m t => obtain ⟨v, q1, q2, q3⟩ := q; exact ⟨v, q1, OR_mono E.f _ _ _ (fun b o _ => E.h b o) q2, q3⟩
  dj := R.dj
  own := fun i a ha => by
    obtain ⟨h1, h2, h3⟩ := R.own i a ha
    refine ⟨?_, ?_, h3⟩
    · cases q : F' a with
      | none => rfl
      | some o =>
        rcases E.new a o q with z | z
        · rw [h1] at z; cases z
        · exact absurd z h2
    · cases q : H a with
      | none => exact absurd q h2
      | some o => rw [E.h _ _ q]; intro z; cases z
  sub := E.sub
  new := fun a o e => by
    rcases E.new a o e with z | z
    · exact R.new a o z
    · right
      cases q : G.H0 a with
      | none => rfl
      | some u => exact absurd z (R.alive a (by rw [q]; intro z; cases z))
  old := R.old.trans E.f
  keep := fun a o e hw => E.h _ _ (R.keep a o e hw)
  alive := fun a e => by
    have q := R.alive a e
    cases z : H a with
    | none => exact absurd z q
    | some o => rw [E.h _ _ z]; intro y; cases y
theorem Rel.kpSame (R : Rel K G env σ H F fp) : Same G.kp H := fun a o e => by
  unfold GC.kp at e
  by_cases hw : a ∈ G.W
  · rw [if_pos hw] at e; cases e
  · rw [if_neg hw] at e; exact R.keep a o e hw
end

/-- a list or tuple that is read has a length within the line -/
def LenOk (K : PySem.W.Frag) (H : Hp) : Prop := ∀ a xs, (SqL K H a xs ∨ SqT K H a xs) → xs.length ≤ sizeLine
theorem pe_len {X : Cx} {e : Expr} {t : TE} (h : PE X e t) : PE X e (fun σ H Q => LenOk X.K H → t σ H Q) := ⟨fun pins s σ H Q I hq => h.run pins s σ H Q I (hq fun a xs hx => by
  rcases hx with hx | hx
  · obtain ⟨_, _, _, z⟩ := I.list hx
    exact z
  · obtain ⟨_, _, _, z⟩ := I.tuple hx
    exact z)⟩

/-- what stays: the frozen and the entry's kept part -/
def stb (G : GC) (F : Hp) : Hp := fun a => (F a).or (G.kp a)
def RepK (K : PySem.W.Frag) (G : GC) (k : RK) (H : Hp) (H' F' : Hp) (v : V) (d : D) : Prop :=
  match k with
  | .vw => Dp K H' v d
  | .vl => DF K F' v d ∨ ∃ a vs ds, v = .ref a ∧ d = .list ds ∧ H' a = some (.lst vs) ∧ DFAll K F' vs ds
  | .sv => Dp K (stb G F') v d
  | .fz => DF K F' v d
  | .ow => ∃ a vs ds, v = .ref a ∧ d = .list ds ∧ H a = none ∧ H' a = some (.lst vs) ∧ F' a = none ∧ DFAll K F' vs ds

/-- an expression: f tells its value by the frame's data -/
structure DE (X : Cx) (G : GC) (k : RK) (e : Expr) (f : List C → Option D) : Prop where
  ex : ∃ t, PE X e t ∧ ∀ (σ : St) (H F : Hp) (fp : Nat → List Addr) (env : List C) (d : D) (Q : VK), Rel X.K G env σ H F fp → f env = some d →
    (∀ v H' F', Ext H F H' F' → RepK X.K G k H H' F' v d → Q v H') → t σ H Q
def RepA (K : PySem.W.Frag) (G : GC) (k : RK) (H' F' : Hp) (v : V) (d : D) : Prop :=
  match k with
  | .vw => Dp K H' v d
  | .vl => DF K F' v d ∨ ∃ a vs ds, v = .ref a ∧ d = .list ds ∧ H' a = some (.lst vs) ∧ DFAll K F' vs ds
  | .sv => Dp K (stb G F') v d
  | _ => DF K F' v d
/-- arguments -/
def RepKs (K : PySem.W.Frag) (G : GC) (H' F' : Hp) : List RK → List V → List D → Prop
  | [], [], [] => True
  | k :: ks, v :: vs, d :: ds => RepA K G k H' F' v d ∧ RepKs K G H' F' ks vs ds
  | _, _, _ => False
structure DA (X : Cx) (G : GC) (ks : List RK) (es : List Expr) (f : List C → Option (List D)) : Prop where
  ex : ∃ t, PA X es t ∧ ∀ (σ : St) (H F : Hp) (fp : Nat → List Addr) (env : List C) (ds : List D) (Q : List V → Hp → Prop), Rel X.K G env σ H F fp → f env = some ds →
    (∀ vs H' F', Ext H F H' F' → RepKs X.K G H' F' ks vs ds → Q vs H') → t σ H Q
/-- a test -/
structure DTs (X : Cx) (G : GC) (e : Expr) (f : List C → Option Bool) : Prop where
  ex : ∃ t, PT X e t ∧ ∀ (σ : St) (H F : Hp) (fp : Nat → List Addr) (env : List C) (b : Bool) (Q : Bool → Hp → Prop), Rel X.K G env σ H F fp → f env = some b →
    (∀ H' F', Ext H F H' F' → Q b H') → t σ H Q
end DL
set_option Elab.async false
set_option linter.all false
set_option maxRecDepth 100000
set_option maxHeartbeats 4000000
namespace DL
open PySem PySem.Spec L2

def RK.le : RK → RK → Bool
  | .ow, _ => true
  | .fz, .fz => true | .fz, .sv => true | .fz, .vl => true | .fz, .vw => true
  | .vl, .vl => true | .vl, .vw => true
  | .sv, .sv => true | .sv, .vw => true
  | .vw, .vw => true
  | _, _ => false
/-- the place of a result in an argument: never a list of one's own -/
def RK.arg : RK → Bool
  | .ow => false
  | _ => true

section
variable {K : PySem.W.Frag} {G : GC} {H H1 F1 H' F F' : Hp} {v : V} {d : D}
theorem stb_f : Same F (stb G F) := fun a o e => by unfold stb; rw [e]; rfl
theorem stb_kp (sub : Same F H) (kp : Same G.kp H) : Same G.kp (stb G F) := fun a o e => by
  unfold stb
  cases q : F a with
  | none => exact e
  | some u =>
    have h1 := sub _ _ q
    rw [kp _ _ e] at h1
    cases h1; rfl
theorem stb_sub (sub : Same F H) (kp : Same G.kp H) : Same (stb G F) H := fun a o e => by
  unfold stb at e
  cases q : F a with
  | none => rw [q] at e; exact kp _ _ e
  | some u => rw [q] at e; cases e; exact sub _ _ q
theorem stb_mono (sub : Same F' H') (kp : Same G.kp H') (f : Same F F') : Same (stb G F) (stb G F') := fun a o e => by
  unfold stb at e
  cases q : F a with
  | none => rw [q] at e; exact stb_kp sub kp _ _ e
  | some u => rw [q] at e; cases e; exact stb_f _ _ (f _ _ q)
theorem RepA.ext {k : RK} (E : Ext H F H' F') (kp : Same G.kp H') (r : RepA K G k H F v d) : RepA K G k H' F' v d := by
  cases k with
  | vw => exact Dp_mono E.h _ _ r
  | vl =>
    rcases r with r | ⟨a, vs, ds, e1, e2, e3, e4⟩
    · exact .inl (DF_mono E.f _ _ r)
    · exact .inr ⟨a, vs, ds, e1, e2, E.h _ _ e3, DFAll_mono E.f _ _ e4⟩
  | sv => exact Dp_mono (stb_mono E.sub kp E.f) _ _ r
  | fz => exact DF_mono E.f _ _ r
  | ow => exact DF_mono E.f _ _ r
/-- for now -/
theorem RepA.now {k : RK} (sub : Same F H) (kp : Same G.kp H) (r : RepA K G k H F v d) : Dp K H v d := by
  cases k with
  | vw => exact r
  | vl =>
    rcases r with r | ⟨a, vs, ds, rfl, rfl, e3, e4⟩
    · exact Dp_mono sub _ _ (DF.dp _ _ r)
    · exact .lst (.inl (.inl e3)) (DpAll_mono sub _ _ (DFAll.dp _ _ e4))
  | sv => exact Dp_mono (stb_sub sub kp) _ _ r
  | fz => exact Dp_mono sub _ _ (DF.dp _ _ r)
  | ow => exact Dp_mono sub _ _ (DF.dp _ _ r)
/-- a list's or tuple's items, frozen -/
theorem vl_list {ds : List D} (sub : Same F H) (r : RepA K G .vl H F v (.list ds)) : ∃ a vs, v = .ref a ∧ H a = some (.lst vs) ∧ DFAll K F vs ds := by
  rcases r with r | ⟨a, vs, ds', e1, e2, e3, e4⟩
  · cases r with
    | lst h1 h2 => exact ⟨_, _, rfl, sub _ _ h1, h2⟩
  · cases e2
    exact ⟨a, vs, e1, e3, e4⟩
theorem vl_tup {ds : List D} (sub : Same F H) (r : RepA K G .vl H F v (.tuple ds)) : ∃ a vs, v = .ref a ∧ SqT K H a vs ∧ DFAll K F vs ds := by
  rcases r with r | ⟨a, vs, ds', e1, e2, e3, e4⟩
  · cases r with
    | tup h1 h2 => exact ⟨_, _, rfl, Same.seqT sub h1, h2⟩
  · cases e2
theorem vl_int {i : Int} (r : RepA K G .vl H F v (.int i)) : v = .int i := by
  rcases r with r | ⟨a, vs, ds', e1, e2, e3, e4⟩
  · cases r; rfl
  · cases e2
theorem vl_str {i : Str} (r : RepA K G .vl H F v (.str i)) : v = .str i := by
  rcases r with r | ⟨a, vs, ds', e1, e2, e3, e4⟩
  · cases r; rfl
  · cases e2
theorem vl_bl {i : Bool} (r : RepA K G .vl H F v (.bool i)) : v = .bl i := by
  rcases r with r | ⟨a, vs, ds', e1, e2, e3, e4⟩
  · cases r; rfl
  · cases e2
theorem vl_non (r : RepA K G .vl H F v .none) : v = .non := by
  rcases r with r | ⟨a, vs, ds', e1, e2, e3, e4⟩
  · cases r; rfl
  · cases e2
end

section
variable {X : Cx} {G : GC} {k k' : RK} {e : Expr} {f : List C → Option D}
/-- another way of standing -/
theorem DE.conv (h : DE X G k e f) (hk : k.le k' = true) : DE X G k' e f := by
  obtain ⟨t, pt, ok⟩ := h.ex
  refine ⟨t, pt, fun σ H F fp env d Q R hf q => ok σ H F fp env d Q R hf fun v H' F' E r => ?_⟩
  have kp := (R.ext E).kpSame
  cases k with
  | ow =>
    obtain ⟨a, vs, ds, rfl, rfl, h1, h2, h3, h4⟩ := r
    have E2 : Ext H F H' (upd F' a (.lst vs)) := by
      refine ⟨E.h, fun b x e => ?_, fun b x e => ?_, fun b x e => ?_⟩
      · rw [upd_ne (ne_of_none (E.f _ _ e) h3)]; exact E.f _ _ e
      · by_cases hb : b = a
        · subst hb; rw [upd_same] at e; rw [← e]; exact h2
        · rw [upd_ne hb] at e; exact E.sub _ _ e
      · by_cases hb : b = a
        · subst hb; exact .inr h1
        · rw [upd_ne hb] at e; exact E.new _ _ e
    have m : Same F' (upd F' a (.lst vs)) := fun b x e => by
      rw [upd_ne (ne_of_none e h3)]; exact e
    have z : DF X.K (upd F' a (.lst vs)) (.ref a) (.list ds) := .lst upd_same (DFAll_mono m _ _ h4)
    cases k' with
    | vw => exact q _ H' _ E2 (Dp_mono E2.sub _ _ (DF.dp _ _ z))
    | vl => exact q _ H' _ E2 (.inl z)
    | sv => exact q _ H' _ E2 (Dp_mono stb_f _ _ (DF.dp _ _ z))
    | fz => exact q _ H' _ E2 z
    | ow => exact q _ H' F' E ⟨a, vs, ds, rfl, rfl, h1, h2, h3, h4⟩
  | fz =>
    have z : DF X.K F' v d := r
    cases k' with
    | vw => exact q _ H' _ E (Dp_mono E.sub _ _ (DF.dp _ _ z))
    | vl => exact q _ H' _ E (.inl z)
    | sv => exact q _ H' _ E (Dp_mono stb_f _ _ (DF.dp _ _ z))
    | fz => exact q _ H' _ E z
    | ow => cases hk
  | vl =>
    cases k' with
    | vw => exact q _ H' _ E (RepA.now (k := .vl) E.sub kp r)
    | vl => exact q _ H' _ E r
    | sv => cases hk
    | fz => cases hk
    | ow => cases hk
  | sv =>
    cases k' with
    | vw => exact q _ H' _ E (Dp_mono (stb_sub E.sub kp) _ _ r)
    | sv => exact q _ H' _ E r
    | vl => cases hk
    | fz => cases hk
    | ow => cases hk
  | vw =>
    cases k' with
    | vw => exact q _ H' _ E r
    | sv => cases hk
    | vl => cases hk
    | fz => cases hk
    | ow => cases hk
theorem repK_A {K : PySem.W.Frag} {H H' F' : Hp} {v : V} {d : D} (ha : k.arg = true) (r : RepK K G k H H' F' v d) : RepA K G k H' F' v d := by
  cases k with
  | ow => cases ha
  | _ => exact r
theorem repA_K {K : PySem.W.Frag} {H H' F' : Hp} {v : V} {d : D} (ha : k.arg = true) (r : RepA K G k H' F' v d) : RepK K G k H H' F' v d := by
  cases k with
  | ow => cases ha
  | _ => exact r

/-! ### names, constants -/
def eV (i : Nat) : List C → Option D := fun env => match env[i]? with | some (.val d) => some d | _ => none
def eL (i : Nat) : List C → Option D := fun env => match env[i]? with | some (.val d) => some d | some (.lst ds) => some (.list ds) | _ => none
def eB (i : Nat) : List C → Option D := fun env => match env[i]? with | some (.val d) => some d | some (.brw d) => some d | _ => none
def eC (d : D) : List C → Option D := fun _ => some d
theorem d_var {x : Str} {pos : Pos} (i : Nat) (h : PE X (.Name x pos) (tVar i)) : DE X G .fz (.Name x pos) (eV i) := by
  refine ⟨_, h, fun σ H F fp env d Q R hf q => ?_⟩
  unfold eV at hf
  split at hf
  · rename_i d' e
    cases hf
    obtain ⟨_, v, e1, r⟩ := R.slot i _ e
    cases z : σ[i]? with
    | none => rw [z] at e1; cases e1
    | some o =>
      rw [z] at e1
      have e2 : o = some v := e1
      subst e2
      exact ⟨v, z, q v H F (Ext.refl R.sub) r⟩
  · cases hf
theorem d_varL {x : Str} {pos : Pos} (i : Nat) (h : PE X (.Name x pos) (tVar i)) : DE X G .vl (.Name x pos) (eL i) := by
  refine ⟨_, h, fun σ H F fp env d Q R hf q => ?_⟩
  unfold eL at hf
  split at hf
  · rename_i d' e
    cases hf
    obtain ⟨_, v, e1, r⟩ := R.slot i _ e
    cases z : σ[i]? with
    | none => rw [z] at e1; cases e1
    | some o =>
      rw [z] at e1
      have e2 : o = some v := e1
      subst e2
      exact ⟨v, z, q v H F (Ext.refl R.sub) (.inl r)⟩
  · rename_i ds e
    cases hf
    obtain ⟨a, vs, _, e1, e3, r⟩ := R.slot i _ e
    cases z : σ[i]? with
    | none => rw [z] at e1; cases e1
    | some o =>
      rw [z] at e1
      have e2 : o = some (.ref a) := e1
      subst e2
      exact ⟨_, z, q _ H F (Ext.refl R.sub) (.inr ⟨a, vs, ds, rfl, rfl, e3, r⟩)⟩
  · cases hf
theorem d_varB {x : Str} {pos : Pos} (i : Nat) (h : PE X (.Name x pos) (tVar i)) : DE X G .sv (.Name x pos) (eB i) := by
  refine ⟨_, h, fun σ H F fp env d Q R hf q => ?_⟩
  unfold eB at hf
  split at hf
  · rename_i d' e
    cases hf
    obtain ⟨_, v, e1, r⟩ := R.slot i _ e
    cases z : σ[i]? with
    | none => rw [z] at e1; cases e1
    | some o =>
      rw [z] at e1
      have e2 : o = some v := e1
      subst e2
      exact ⟨v, z, q v H F (Ext.refl R.sub) (Dp_mono stb_f _ _ (DF.dp _ _ r))⟩
  · rename_i ds e
    cases hf
    obtain ⟨_, v, e1, r⟩ := R.slot i _ e
    cases z : σ[i]? with
    | none => rw [z] at e1; cases e1
    | some o =>
      rw [z] at e1
      have e2 : o = some v := e1
      subst e2
      exact ⟨v, z, q v H F (Ext.refl R.sub) (Dp_mono (stb_kp R.sub R.kpSame) _ _ r)⟩
  · cases hf
theorem d_int {i j pos} : DE X G .fz (.Constant (.int i) j pos) (eC (.int i)) := ⟨_, pe_int, fun σ H F fp env d Q R hf q => by cases hf; exact q _ H F (Ext.refl R.sub) (.int i)⟩
theorem d_bl {b j pos} : DE X G .fz (.Constant (.bool b) j pos) (eC (.bool b)) := ⟨_, pe_bl, fun σ H F fp env d Q R hf q => by cases hf; exact q _ H F (Ext.refl R.sub) (.bl b)⟩
theorem d_non {j pos} : DE X G .fz (.Constant .none j pos) (eC .none) := ⟨_, pe_non, fun σ H F fp env d Q R hf q => by cases hf; exact q _ H F (Ext.refl R.sub) .non⟩
theorem d_str {x j pos} : DE X G .fz (.Constant (.str x) j pos) (eC (.str x)) := ⟨_, pe_str, fun σ H F fp env d Q R hf q => by cases hf; exact q _ H F (Ext.refl R.sub) (.str x)⟩
/-- a module's constant -/
theorem d_glob {x : Str} {v : V} {d : D} {u : Value} {pos : Pos} (hg : Gl X x) (hm : X.mg x = some u) (r : RelV v u) (hd : DF X.K (fun _ => none) v d) (hdb : (x == ("__debug__" : Str)) = false := by decide) : DE X G .fz (.Name x pos) (eC d) :=
  ⟨_, pe_glob hg hm r hdb, fun σ H F fp env d' Q R hf q => by cases hf; exact q _ H F (Ext.refl R.sub) (DF_mono (fun _ _ z => by simp at z) _ _ hd)⟩

/-! ### operators by values -/
theorem opr_len {f : Value → Value → Sem Value} {r : R2} (h : OpR X f r) : OpR X f (fun x y H Q => LenOk X.K H → r x y H Q) := fun pins s σ H x y v u Q I rx ry q => h pins s σ H x y v u Q I rx ry (q fun a xs hx => by
  rcases hx with hx | hx
  · obtain ⟨_, _, _, z⟩ := I.list hx
    exact z
  · obtain ⟨_, _, _, z⟩ := I.tuple hx
    exact z)
structure DOp (X : Cx) (G : GC) (f : Value → Value → Sem Value) (ka kb kr : RK) (g : D → D → Option D) : Prop where
  ex : ∃ r, OpR X f r ∧ ∀ (H F : Hp) (vx vy : V) (dx dy d : D) (Q : VK), Same F H → Same G.kp H → LenOk X.K H → RepA X.K G ka H F vx dx → RepA X.K G kb H F vy dy → g dx dy = some d →
    (∀ v H' F', Ext H F H' F' → RepK X.K G kr H H' F' v d → Q v H') → r vx vy H Q
def e2 (g : D → D → Option D) (fa fb : List C → Option D) : List C → Option D := fun env => (fa env).bind fun x => (fb env).bind fun y => g x y
variable {op : Operator} {a b : Expr} {fa fb : List C → Option D} {pos : Pos} {ka kb kr k1 k2 : RK} {g : D → D → Option D}
theorem RepK.back {K : PySem.W.Frag} {H H1 H' F' : Hp} {v : V} {d : D} (s : Same H H1) (r : RepK K G k H1 H' F' v d) : RepK K G k H H' F' v d := by
  cases k with
  | ow =>
    obtain ⟨a, vs, ds, e1, e2, h1, r⟩ := r
    exact ⟨a, vs, ds, e1, e2, s.free h1, r⟩
  | _ => exact r
theorem two_ok {r : R2} {ta tb : TE} (o2 : ∀ (H F : Hp) (vx vy : V) (dx dy d : D) (Q : VK), Same F H → Same G.kp H → LenOk X.K H → RepA X.K G ka H F vx dx → RepA X.K G kb H F vy dy → g dx dy = some d →
    (∀ v H' F', Ext H F H' F' → RepK X.K G kr H H' F' v d → Q v H') → r vx vy H Q) (haa : ka.arg = true) (hba : kb.arg = true)
    (oa : ∀ (σ : L2.St) (H F : Hp) (fp : Nat → List Addr) (env : List C) (d : D) (Q : VK), Rel X.K G env σ H F fp → fa env = some d → (∀ v H' F', Ext H F H' F' → RepK X.K G ka H H' F' v d → Q v H') → ta σ H Q)
    (ob : ∀ (σ : L2.St) (H F : Hp) (fp : Nat → List Addr) (env : List C) (d : D) (Q : VK), Rel X.K G env σ H F fp → fb env = some d → (∀ v H' F', Ext H F H' F' → RepK X.K G kb H H' F' v d → Q v H') → tb σ H Q)
    {σ : L2.St} {H F : Hp} {fp : Nat → List Addr} {env : List C} {d : D} {Q : VK} (R : Rel X.K G env σ H F fp) (hf : e2 g fa fb env = some d) (q : ∀ v H' F', Ext H F H' F' → RepK X.K G kr H H' F' v d → Q v H') :
    tOp (fun x y H Q => LenOk X.K H → r x y H Q) ta tb σ H Q := by
  unfold e2 at hf
  cases h1 : fa env with
  | none => rw [h1] at hf; cases hf
  | some x =>
    cases h2 : fb env with
    | none => rw [h1, h2] at hf; cases hf
    | some y =>
      rw [h1, h2] at hf
      refine oa σ H F fp env x _ R h1 fun vx H1 F1 E1 r1 => ?_
      refine ob σ H1 F1 fp env y _ (R.ext E1) h2 fun vy H2 F2 E2 r2 => ?_
      intro hl
      have kp2 := ((R.ext E1).ext E2).kpSame
      exact o2 H2 F2 vx vy x y d Q E2.sub kp2 hl ((repK_A haa r1).ext E2 kp2) (repK_A hba r2) hf fun v H' F' E3 r3 => q v H' F' ((E1.trans E2).trans E3) (r3.back (E1.h.trans E2.h))
theorem d_bin (o : DOp X G (binaryOp op) ka kb kr g) (ha : DE X G k1 a fa) (hb : DE X G k2 b fb) (h1 : k1.le ka = true := by rfl) (h2 : k2.le kb = true := by rfl) (haa : ka.arg = true := by rfl) (hba : kb.arg = true := by rfl) :
    DE X G kr (.BinOp a op b pos) (e2 g fa fb) := by
  obtain ⟨r, or, o2⟩ := o.ex
  obtain ⟨ta, pa, oa⟩ := (ha.conv h1).ex
  obtain ⟨tb, pb, ob⟩ := (hb.conv h2).ex
  exact ⟨_, pe_op (opr_len or) pa pb, fun σ H F fp env d Q R hf q => two_ok o2 haa hba oa ob R hf q⟩
/-- a comparison as a value, as a test -/
theorem d_cmp {op : CmpOp} (o : DOp X G (compareOp op) ka kb kr g) (ha : DE X G k1 a fa) (hb : DE X G k2 b fb) (hm : behindInMarks op b = false) (h1 : k1.le ka = true := by rfl) (h2 : k2.le kb = true := by rfl) (haa : ka.arg = true := by rfl) (hba : kb.arg = true := by rfl) :
    DE X G kr (.Compare a [op] [b] pos) (e2 g fa fb) := by
  obtain ⟨r, or, o2⟩ := o.ex
  obtain ⟨ta, pa, oa⟩ := (ha.conv h1).ex
  obtain ⟨tb, pb, ob⟩ := (hb.conv h2).ex
  exact ⟨_, pe_cmpR (opr_len or) pa pb hm, fun σ H F fp env d Q R hf q => two_ok o2 haa hba oa ob R hf q⟩
def asB : Option D → Option Bool
  | some (.bool b) => some b
  | _ => none
def tB (f : List C → Option D) : List C → Option Bool := fun env => asB (f env)
theorem asB_some {o : Option D} {b : Bool} (h : asB o = some b) : o = some (.bool b) := by
  cases o with
  | none => cases h
  | some d => cases d <;> first | (cases h; rfl) | cases h
theorem repK_bl {K : PySem.W.Frag} {H H' F' : Hp} {v : V} {c : Bool} (ha : k.arg = true) (r : RepK K G k H H' F' v (.bool c)) : v = .bl c := by
  cases k with
  | ow => cases ha
  | vw => cases r; rfl
  | vl => exact vl_bl (G := G) (H := H') (F := F') r
  | sv => cases r; rfl
  | fz => cases r; rfl
theorem dt_cmp {op : CmpOp} (o : DOp X G (compareOp op) ka kb .fz g) (ha : DE X G k1 a fa) (hb : DE X G k2 b fb) (hm : behindInMarks op b = false) (h1 : k1.le ka = true := by rfl) (h2 : k2.le kb = true := by rfl) (haa : ka.arg = true := by rfl) (hba : kb.arg = true := by rfl) :
    DTs X G (.Compare a [op] [b] pos) (tB (e2 g fa fb)) := by
  obtain ⟨r, or, o2⟩ := o.ex
  obtain ⟨ta, pa, oa⟩ := (ha.conv h1).ex
  obtain ⟨tb, pb, ob⟩ := (hb.conv h2).ex
  refine ⟨_, pt_cmpR (opr_len or) pa pb hm, fun σ H F fp env d Q R hf q => ?_⟩
  exact two_ok (r := r) (Q := fun x H' => ∃ k, x = .bl k ∧ Q k H') o2 haa hba oa ob R (asB_some hf) fun v H' F' E r => ⟨d, repK_bl (k := .fz) (G := G) (H := H) rfl r, q H' F' E⟩
/-- an expression that gives True or False, as a test -/
theorem dt_val (h : DE X G k e f) (h1 : k.le .vw = true := by rfl) (he : ∀ whole, isTrue e X.env whole = (do let v ← whole; standAt e.pos; holding [v] (truthy v)) := by intro _; rfl) : DTs X G e (tB f) := by
  obtain ⟨t, pt, ok⟩ := (h.conv h1).ex
  refine ⟨_, pt_val pt he, fun σ H F fp env d Q R hf q => ?_⟩
  exact ok σ H F fp env _ _ R (asB_some hf) fun v H' F' E r => ⟨d, repK_bl (k := .vw) (G := G) (H := H) rfl r, q H' F' E⟩
def tNotF (f : List C → Option Bool) : List C → Option Bool := fun env => (f env).map (!·)
theorem dt_not {f : List C → Option Bool} (h : DTs X G a f) : DTs X G (.UnaryOp .Not a pos) (tNotF f) := by
  obtain ⟨t, pt, ok⟩ := h.ex
  refine ⟨_, pt_not pt, fun σ H F fp env d Q R hf q => ?_⟩
  unfold tNotF at hf
  cases z : f env with
  | none => rw [z] at hf; cases hf
  | some c =>
    rw [z] at hf; cases hf
    exact ok σ H F fp env c _ R z fun H' F' E => q H' F' E
/-- and, or in tests: a chain -/
structure DW (X : Cx) (G : GC) (e : Expr) (f : List C → Option Bool) : Prop where
  ex : ∃ t, PW X e t ∧ ∀ (σ : L2.St) (H F : Hp) (fp : Nat → List Addr) (env : List C) (b : Bool) (Q : Bool → Hp → Prop), Rel X.K G env σ H F fp → f env = some b →
    (∀ H' F', Ext H F H' F' → Q b H') → t σ H Q
theorem DW.t {f : List C → Option Bool} (h : DW X G e f) : DTs X G e f := let ⟨t, p, o⟩ := h.ex; ⟨t, p.pt, o⟩
def tAndF (f g : List C → Option Bool) : List C → Option Bool := fun env => (f env).bind fun c => if c = true then g env else some false
def tOrF (f g : List C → Option Bool) : List C → Option Bool := fun env => (f env).bind fun c => if c = true then some true else g env
variable {f1 f2 : List C → Option Bool} {rest : List Expr}
theorem dw_and1 (h : DTs X G a f1) : DW X G (.BoolOp .And [a] pos) f1 := let ⟨t, p, o⟩ := h.ex; ⟨t, pw_and1 p, o⟩
theorem dw_or1 (h : DTs X G a f1) : DW X G (.BoolOp .Or [a] pos) f1 := let ⟨t, p, o⟩ := h.ex; ⟨t, pw_or1 p, o⟩
theorem dw_and (h : DTs X G a f1) (h2 : DW X G (.BoolOp .And (b :: rest) pos) f2) : DW X G (.BoolOp .And (a :: b :: rest) pos) (tAndF f1 f2) := by
  obtain ⟨t, p, o⟩ := h.ex
  obtain ⟨t2, p2, o2⟩ := h2.ex
  refine ⟨_, pw_and p p2, fun σ H F fp env d Q R hf q => ?_⟩
  unfold tAndF at hf
  cases z : f1 env with
  | none => rw [z] at hf; cases hf
  | some c =>
    rw [z] at hf
    refine o σ H F fp env c _ R z fun H1 F1 E1 => ?_
    cases c with
    | true =>
      refine iteT ?_
      exact o2 σ H1 F1 fp env d _ (R.ext E1) hf fun H' F' E => q H' F' (E1.trans E)
    | false =>
      cases hf
      exact iteF (q H1 F1 E1)
theorem dw_or (h : DTs X G a f1) (h2 : DW X G (.BoolOp .Or (b :: rest) pos) f2) : DW X G (.BoolOp .Or (a :: b :: rest) pos) (tOrF f1 f2) := by
  obtain ⟨t, p, o⟩ := h.ex
  obtain ⟨t2, p2, o2⟩ := h2.ex
  refine ⟨_, pw_or p p2, fun σ H F fp env d Q R hf q => ?_⟩
  unfold tOrF at hf
  cases z : f1 env with
  | none => rw [z] at hf; cases hf
  | some c =>
    rw [z] at hf
    refine o σ H F fp env c _ R z fun H1 F1 E1 => ?_
    cases c with
    | true =>
      cases hf
      exact iteT (q H1 F1 E1)
    | false =>
      refine iteF ?_
      exact o2 σ H1 F1 fp env d _ (R.ext E1) hf fun H' F' E => q H' F' (E1.trans E)
/-- and, or, not as values (truths) -/
def eAnd (f g : List C → Option D) : List C → Option D := fun env => (asB (f env)).bind fun c => if c = true then g env else some (.bool false)
def eOr (f g : List C → Option D) : List C → Option D := fun env => (asB (f env)).bind fun c => if c = true then some (.bool true) else g env
def eNot (f : List C → Option D) : List C → Option D := fun env => (asB (f env)).map fun c => .bool (!c)
theorem d_one {op} (h : DE X G k a fa) : DE X G k (.BoolOp op [a] pos) fa := let ⟨t, p, o⟩ := h.ex; ⟨t, pe_one p, o⟩
theorem d_and (h : DE X G k1 a fa) (h2 : DE X G k2 (.BoolOp .And (b :: rest) pos) fb) (hk : k1.le .vw = true := by rfl) (hk2 : k2.le .fz = true := by rfl) : DE X G .fz (.BoolOp .And (a :: b :: rest) pos) (eAnd fa fb) := by
  obtain ⟨t, p, o⟩ := (h.conv hk).ex
  obtain ⟨t2, p2, o2⟩ := (h2.conv hk2).ex
  refine ⟨_, pe_and p p2, fun σ H F fp env d Q R hf q => ?_⟩
  unfold eAnd at hf
  cases z : asB (fa env) with
  | none => rw [z] at hf; cases hf
  | some c =>
    rw [z] at hf
    refine o σ H F fp env _ _ R (asB_some z) fun v H1 F1 E1 r => ⟨c, repK_bl (k := .vw) (G := G) (H := H) rfl r, ?_⟩
    cases c with
    | true =>
      refine iteT ?_
      exact o2 σ H1 F1 fp env d _ (R.ext E1) hf fun v H' F' E r => q v H' F' (E1.trans E) r
    | false =>
      cases hf
      exact iteF (q _ H1 F1 E1 (.bl false))
theorem d_or (h : DE X G k1 a fa) (h2 : DE X G k2 (.BoolOp .Or (b :: rest) pos) fb) (hk : k1.le .vw = true := by rfl) (hk2 : k2.le .fz = true := by rfl) : DE X G .fz (.BoolOp .Or (a :: b :: rest) pos) (eOr fa fb) := by
  obtain ⟨t, p, o⟩ := (h.conv hk).ex
  obtain ⟨t2, p2, o2⟩ := (h2.conv hk2).ex
  refine ⟨_, pe_or p p2, fun σ H F fp env d Q R hf q => ?_⟩
  unfold eOr at hf
  cases z : asB (fa env) with
  | none => rw [z] at hf; cases hf
  | some c =>
    rw [z] at hf
    refine o σ H F fp env _ _ R (asB_some z) fun v H1 F1 E1 r => ⟨c, repK_bl (k := .vw) (G := G) (H := H) rfl r, ?_⟩
    cases c with
    | true =>
      cases hf
      exact iteT (q _ H1 F1 E1 (.bl true))
    | false =>
      refine iteF ?_
      exact o2 σ H1 F1 fp env d _ (R.ext E1) hf fun v H' F' E r => q v H' F' (E1.trans E) r
theorem d_not (h : DE X G k1 a fa) (hk : k1.le .vw = true := by rfl) : DE X G .fz (.UnaryOp .Not a pos) (eNot fa) := by
  obtain ⟨t, p, o⟩ := (h.conv hk).ex
  refine ⟨_, pe_not p, fun σ H F fp env d Q R hf q => ?_⟩
  unfold eNot at hf
  cases z : asB (fa env) with
  | none => rw [z] at hf; cases hf
  | some c =>
    rw [z] at hf; cases hf
    exact o σ H F fp env _ _ R (asB_some z) fun v H1 F1 E1 r => ⟨c, repK_bl (k := .vw) (G := G) (H := H) rfl r, q _ H1 F1 E1 (.bl _)⟩
end
end DL
set_option Elab.async false
set_option linter.all false
set_option maxRecDepth 100000
set_option maxHeartbeats 4000000
namespace DL
open PySem PySem.Spec L2

section
variable {X : Cx} {G : GC}
/-! ### numbers -/
def gAddI : D → D → Option D | .int i, .int j => some (.int (i + j)) | _, _ => none
def gSub : D → D → Option D | .int i, .int j => some (.int (i - j)) | _, _ => none
def gMulI : D → D → Option D | .int i, .int j => if i.natAbs.log2 + j.natAbs.log2 < 1000000 then some (.int (i * j)) else none | _, _ => none
def gDiv : D → D → Option D | .int i, .int j => if 0 < j ∧ j.natAbs.log2 < 9000 then some (.int (i / j)) else none | _, _ => none
def gMod : D → D → Option D | .int i, .int j => if 0 < j then some (.int (i % j)) else none | _, _ => none
def gPow : D → D → Option D | .int i, .int j => if 0 ≤ j ∧ j ≤ 1000000 ∧ i.natAbs < 2 ^ 64 then some (.int (i ^ j.toNat)) else none | _, _ => none
def gLt : D → D → Option D | .int i, .int j => some (.bool (decide (i < j))) | _, _ => none
def gLe : D → D → Option D | .int i, .int j => some (.bool (decide (i ≤ j))) | _, _ => none
def gGt : D → D → Option D | .int i, .int j => some (.bool (decide (j < i))) | _, _ => none
def gGe : D → D → Option D | .int i, .int j => some (.bool (decide (j ≤ i))) | _, _ => none

theorem dop_int {f : Value → Value → Sem Value} {C : Int → Int → Prop} [∀ i j, Decidable (C i j)] {r : Int → Int → V} {r' : Int → Int → D} (h : OpR X f (rI C r)) {g : D → D → Option D}
    (hg : ∀ x y d, g x y = some d → ∃ i j, x = .int i ∧ y = .int j ∧ C i j ∧ d = r' i j) (hr : ∀ K F i j, DF K F (r i j) (r' i j)) : DOp X G f .vl .vl .fz g :=
  ⟨_, h, fun H F vx vy dx dy d Q sub kp hl rx ry hd q => by
    obtain ⟨i, j, rfl, rfl, hC, rfl⟩ := hg _ _ _ hd
    have e1 := vl_int rx
    have e2 := vl_int ry
    subst e1 e2
    exact ⟨i, j, rfl, rfl, hC, q _ H F (Ext.refl sub) (hr _ _ _ _)⟩⟩
theorem rI_of0 {f : Value → Value → Sem Value} {r : Int → Int → V} (h : OpR X f (rI0 r)) : OpR X f (rI (fun _ _ => True) r) := fun pins s σ H x y v u Q I rx ry q => h pins s σ H x y v u Q I rx ry (by
  obtain ⟨i, j, e1, e2, _, q⟩ := q
  exact ⟨i, j, e1, e2, q⟩)
theorem o_addI : DOp X G (binaryOp .Add) .vl .vl .fz gAddI := dop_int (r' := fun i j => .int (i + j)) (rI_of0 op_add) (fun x y d h => by
  unfold gAddI at h; split at h <;> cases h; exact ⟨_, _, rfl, rfl, True.intro, rfl⟩) fun _ _ _ _ => .int _
theorem o_sub : DOp X G (binaryOp .Sub) .vl .vl .fz gSub := dop_int (r' := fun i j => .int (i - j)) (rI_of0 op_sub) (fun x y d h => by
  unfold gSub at h; split at h <;> cases h; exact ⟨_, _, rfl, rfl, True.intro, rfl⟩) fun _ _ _ _ => .int _
theorem o_mulI : DOp X G (binaryOp .Mult) .vl .vl .fz gMulI := dop_int (C := fun i j => i.natAbs.log2 + j.natAbs.log2 < 1000000) (r' := fun i j => .int (i * j)) op_mulW (fun x y d h => by
  unfold gMulI at h
  split at h
  · split at h <;> cases h
    exact ⟨_, _, rfl, rfl, by assumption, rfl⟩
  · cases h) fun _ _ _ _ => .int _
theorem o_div : DOp X G (binaryOp .FloorDiv) .vl .vl .fz gDiv := dop_int (C := fun i j => 0 < j ∧ j.natAbs.log2 < 9000) (r' := fun i j => .int (i / j)) op_fdivW (fun x y d h => by
  unfold gDiv at h
  split at h
  · split at h <;> cases h
    exact ⟨_, _, rfl, rfl, by assumption, rfl⟩
  · cases h) fun _ _ _ _ => .int _
theorem o_mod : DOp X G (binaryOp .Mod) .vl .vl .fz gMod := dop_int (C := fun i j => 0 < j) (r' := fun i j => .int (i % j)) op_mod (fun x y d h => by
  unfold gMod at h
  split at h
  · split at h <;> cases h
    exact ⟨_, _, rfl, rfl, by assumption, rfl⟩
  · cases h) fun _ _ _ _ => .int _
theorem o_pow : DOp X G (binaryOp .Pow) .vl .vl .fz gPow := dop_int (C := fun i j => 0 ≤ j ∧ j ≤ 1000000 ∧ i.natAbs < 2 ^ 64) (r' := fun i j => .int (i ^ j.toNat)) op_pow (fun x y d h => by
  unfold gPow at h
  split at h
  · split at h <;> cases h
    exact ⟨_, _, rfl, rfl, by assumption, rfl⟩
  · cases h) fun _ _ _ _ => .int _
theorem o_lt : DOp X G (compareOp .Lt) .vl .vl .fz gLt := dop_int (r' := fun i j => .bool (decide (i < j))) (rI_of0 op_lt) (fun x y d h => by
  unfold gLt at h; split at h <;> cases h; exact ⟨_, _, rfl, rfl, True.intro, rfl⟩) fun _ _ _ _ => .bl _
theorem o_le : DOp X G (compareOp .LtE) .vl .vl .fz gLe := dop_int (r' := fun i j => .bool (decide (i ≤ j))) (rI_of0 op_le) (fun x y d h => by
  unfold gLe at h; split at h <;> cases h; exact ⟨_, _, rfl, rfl, True.intro, rfl⟩) fun _ _ _ _ => .bl _
theorem o_gt : DOp X G (compareOp .Gt) .vl .vl .fz gGt := dop_int (r' := fun i j => .bool (decide (j < i))) (rI_of0 op_gt) (fun x y d h => by
  unfold gGt at h; split at h <;> cases h; exact ⟨_, _, rfl, rfl, True.intro, rfl⟩) fun _ _ _ _ => .bl _
theorem o_ge : DOp X G (compareOp .GtE) .vl .vl .fz gGe := dop_int (r' := fun i j => .bool (decide (j ≤ i))) (rI_of0 op_ge) (fun x y d h => by
  unfold gGe at h; split at h <;> cases h; exact ⟨_, _, rfl, rfl, True.intro, rfl⟩) fun _ _ _ _ => .bl _
/-- minus -/
def eNeg (f : List C → Option D) : List C → Option D := fun env => match f env with | some (.int i) => some (.int (-i)) | _ => none
theorem d_neg {a : Expr} {k1 : RK} {fa : List C → Option D} {pos : Pos} (h : DE X G k1 a fa) (hk : k1.le .vl = true := by rfl) : DE X G .fz (.UnaryOp .USub a pos) (eNeg fa) := by
  obtain ⟨t, p, o⟩ := (h.conv hk).ex
  refine ⟨_, pe_un un_neg p, fun σ H F fp env d Q R hf q => ?_⟩
  unfold eNeg at hf
  cases z : fa env with
  | none => rw [z] at hf; cases hf
  | some c =>
    rw [z] at hf
    cases c <;> cases hf
    refine o σ H F fp env _ _ R z fun v H1 F1 E1 r => ?_
    have e := vl_int (G := G) (H := H1) (F := F1) r
    subst e
    exact ⟨_, rfl, q _ H1 F1 E1 (.int _)⟩

/-! ### texts, lists, tuples: + and * -/
def gAddS : D → D → Option D | .str x, .str y => if x.length + y.length ≤ sizeLine then some (.str (x ++ y)) else none | _, _ => none
theorem o_addS : DOp X G (binaryOp .Add) .vl .vl .fz gAddS := ⟨_, op_add_str, fun H F vx vy dx dy d Q sub kp hl rx ry hd q => by
  unfold gAddS at hd
  split at hd
  · split at hd <;> cases hd
    have e1 := vl_str rx
    have e2 := vl_str ry
    subst e1 e2
    exact ⟨_, _, rfl, rfl, by assumption, q _ H F (Ext.refl sub) (.str _)⟩
  · cases hd⟩
def gAddL : D → D → Option D | .list xs, .list ys => if xs.length + ys.length ≤ sizeLine then some (.list (xs ++ ys)) else none | _, _ => none
theorem new_ow {H F : Hp} {p : Addr} {vs : List V} {ds : List D} (sub : Same F H) (np : H p = none) (r : DFAll X.K F vs ds) : Ext H F (upd H p (.lst vs)) F ∧ RepK X.K G .ow H (upd H p (.lst vs)) F (.ref p) (.list ds) :=
  ⟨Ext.laid sub np, p, vs, ds, rfl, rfl, np, upd_same, sub.free np, r⟩
theorem new_tup {H F : Hp} {p : Addr} {vs : List V} {ds : List D} (sub : Same F H) (np : H p = none) (r : DFAll X.K F vs ds) : Ext H F (upd H p (.tup vs)) (upd F p (.tup vs)) ∧ DF X.K (upd F p (.tup vs)) (.ref p) (.tuple ds) :=
  ⟨Ext.frozen sub np, .tup (.inl (.inl upd_same)) (DFAll_mono (fun b x e => by rw [upd_ne (ne_of_none e (sub.free np))]; exact e) _ _ r)⟩
theorem o_addL : DOp X G (binaryOp .Add) .vl .vl .ow gAddL := ⟨_, op_cat, fun H F vx vy dx dy d Q sub kp hl rx ry hd q => by
  unfold gAddL at hd
  split at hd
  · split at hd <;> cases hd
    obtain ⟨a, vs, rfl, h1, h2⟩ := vl_list sub rx
    obtain ⟨b, ws, rfl, h3, h4⟩ := vl_list sub ry
    refine ⟨a, b, vs, ws, rfl, rfl, h1, h3, by rw [DFAll_len h2, DFAll_len h4]; assumption, fun p np => ?_⟩
    obtain ⟨E, r⟩ := new_ow (G := G) sub np (DFAll_app h2 h4)
    exact q _ _ _ E r
  · cases hd⟩
def gAddT : D → D → Option D | .tuple xs, .tuple ys => if xs.length + ys.length ≤ sizeLine then some (.tuple (xs ++ ys)) else none | _, _ => none
theorem o_addT : DOp X G (binaryOp .Add) .vl .vl .fz gAddT := ⟨_, op_catA, fun H F vx vy dx dy d Q sub kp hl rx ry hd q => by
  unfold gAddT at hd
  split at hd
  · split at hd <;> cases hd
    rename_i xs ys _
    have fx : ∃ a vs, vx = .ref a ∧ SqT X.K F a vs ∧ DFAll X.K F vs xs := by
      rcases rx with rx | ⟨_, _, _, _, z, _⟩
      · cases rx with | tup h1 h2 => exact ⟨_, _, rfl, h1, h2⟩
      · cases z
    have fy : ∃ a vs, vy = .ref a ∧ SqT X.K F a vs ∧ DFAll X.K F vs ys := by
      rcases ry with rx | ⟨_, _, _, _, z, _⟩
      · cases rx with | tup h1 h2 => exact ⟨_, _, rfl, h1, h2⟩
      · cases z
    obtain ⟨a, vs, rfl, h1, h2⟩ := fx
    obtain ⟨b, ws, rfl, h3, h4⟩ := fy
    refine ⟨a, b, vs, ws, rfl, rfl, Same.seqT sub h1, Same.seqT sub h3, by rw [DFAll_len h2, DFAll_len h4]; assumption, fun e => ?_, fun e0 e => ?_, fun e0 e1 p np => ?_⟩
    · subst e; cases h2; exact q _ H F (Ext.refl sub) (.tup h3 h4)
    · subst e; cases h4; rw [List.append_nil] at q; exact q _ H F (Ext.refl sub) (.tup h1 h2)
    · obtain ⟨E, r⟩ := new_tup sub np (DFAll_app h2 h4)
      exact q _ _ _ E r
  · cases hd⟩
def gMulL : D → D → Option D | .list xs, .int k => if k < 2 ^ 63 ∧ -(2 ^ 63) ≤ k ∧ xs.length * k.toNat ≤ sizeLine then some (.list (List.replicate k.toNat xs).flatten) else none | _, _ => none
theorem o_mulL : DOp X G (binaryOp .Mult) .vl .vl .ow gMulL := ⟨_, op_rep, fun H F vx vy dx dy d Q sub kp hl rx ry hd q => by
  unfold gMulL at hd
  split at hd
  · split at hd <;> cases hd
    rename_i hc
    obtain ⟨a, vs, rfl, h1, h2⟩ := vl_list sub rx
    have e2 := vl_int ry
    subst e2
    refine ⟨a, _, vs, rfl, rfl, h1, hc.2.1, hc.1, by rw [DFAll_len h2]; exact hc.2.2, fun p np => ?_⟩
    obtain ⟨E, r⟩ := new_ow (G := G) sub np (DFAll_rep h2 _)
    exact q _ _ _ E r
  · cases hd⟩
def gMulT : D → D → Option D | .tuple xs, .int k => if xs ≠ [] ∧ 2 ≤ k ∧ k ≤ 1000 ∧ xs.length ≤ 1000 then some (.tuple (List.replicate k.toNat xs).flatten) else none | _, _ => none
theorem o_mulT : DOp X G (binaryOp .Mult) .vl .vl .fz gMulT := ⟨_, op_repT, fun H F vx vy dx dy d Q sub kp hl rx ry hd q => by
  unfold gMulT at hd
  split at hd
  · split at hd <;> cases hd
    rename_i hc
    obtain ⟨a, vs, rfl, h1, h2⟩ := vl_tup sub rx
    have e2 := vl_int ry
    subst e2
    refine ⟨a, _, vs, rfl, rfl, h1, fun e => ?_, hc.2.1, hc.2.2.1, by rw [DFAll_len h2]; exact hc.2.2.2, fun p np => ?_⟩
    · subst e; cases h2; exact hc.1 rfl
    obtain ⟨E, r⟩ := new_tup sub np (DFAll_rep h2 _)
    exact q _ _ _ E r
  · cases hd⟩

/-! ### == and != of scalars (S) and of data (D) -/
def gEqS : D → D → Option D
  | .int i, .int j => some (.bool (decide (i = j)))
  | .str i, .str j => some (.bool (decide (i = j)))
  | .bool i, .bool j => some (.bool (decide (i = j)))
  | _, _ => none
def gNeS : D → D → Option D
  | .int i, .int j => some (.bool (!decide (i = j)))
  | .str i, .str j => some (.bool (!decide (i = j)))
  | .bool i, .bool j => some (.bool (!decide (i = j)))
  | _, _ => none
theorem o_eqS : DOp X G (compareOp .Eq) .vl .vl .fz gEqS := ⟨_, op_eq, fun H F vx vy dx dy d Q sub kp hl rx ry hd q => by
  unfold gEqS at hd
  split at hd <;> cases hd
  · have e1 := vl_int rx; have e2 := vl_int ry; subst e1 e2
    refine ⟨rfl, ?_⟩
    rw [dec_int, Bool.beq_eq_decide_eq]
    exact q _ H F (Ext.refl sub) (.bl _)
  · have e1 := vl_str rx; have e2 := vl_str ry; subst e1 e2
    refine ⟨rfl, ?_⟩
    rw [dec_str, Bool.beq_eq_decide_eq]
    exact q _ H F (Ext.refl sub) (.bl _)
  · have e1 := vl_bl rx; have e2 := vl_bl ry; subst e1 e2
    refine ⟨rfl, ?_⟩
    rw [dec_bl, Bool.beq_eq_decide_eq]
    exact q _ H F (Ext.refl sub) (.bl _)⟩
theorem o_neS : DOp X G (compareOp .NotEq) .vl .vl .fz gNeS := ⟨_, op_ne, fun H F vx vy dx dy d Q sub kp hl rx ry hd q => by
  unfold gNeS at hd
  split at hd <;> cases hd
  · have e1 := vl_int rx; have e2 := vl_int ry; subst e1 e2
    refine ⟨rfl, ?_⟩
    rw [dec_int, Bool.beq_eq_decide_eq]
    exact q _ H F (Ext.refl sub) (.bl _)
  · have e1 := vl_str rx; have e2 := vl_str ry; subst e1 e2
    refine ⟨rfl, ?_⟩
    rw [dec_str, Bool.beq_eq_decide_eq]
    exact q _ H F (Ext.refl sub) (.bl _)
  · have e1 := vl_bl rx; have e2 := vl_bl ry; subst e1 e2
    refine ⟨rfl, ?_⟩
    rw [dec_bl, Bool.beq_eq_decide_eq]
    exact q _ H F (Ext.refl sub) (.bl _)⟩
def gEqD : D → D → Option D := fun x y => if SeqAt.shaped x = true ∧ SeqAt.shaped y = true then some (.bool (PyData.eqv x y)) else none
def gNeD : D → D → Option D := fun x y => if SeqAt.shaped x = true ∧ SeqAt.shaped y = true then some (.bool (!PyData.eqv x y)) else none
theorem o_eqD (hu : X.A.units + 64 < cLine) : DOp X G (compareOp .Eq) .vw .vw .fz gEqD := ⟨_, op_eqD hu, fun H F vx vy dx dy d Q sub kp hl rx ry hd q => by
  unfold gEqD at hd
  split at hd <;> cases hd
  rename_i hc
  exact ⟨_, _, rx, ry, hc.1, hc.2, q _ H F (Ext.refl sub) (.bl _)⟩⟩
theorem o_neD (hu : X.A.units + 64 < cLine) : DOp X G (compareOp .NotEq) .vw .vw .fz gNeD := ⟨_, op_neD hu, fun H F vx vy dx dy d Q sub kp hl rx ry hd q => by
  unfold gNeD at hd
  split at hd <;> cases hd
  rename_i hc
  exact ⟨_, _, rx, ry, hc.1, hc.2, q _ H F (Ext.refl sub) (.bl _)⟩⟩
/-! ### in, not in: a list's items of any depth; a sign in a text -/
def gInL : D → D → Option D | x, .list ys => if SeqAt.shaped x = true ∧ SeqAt.shaped (.list ys) = true then some (.bool (ys.any fun z => PyData.eqv z x)) else none | _, _ => none
def gNotInL : D → D → Option D | x, .list ys => if SeqAt.shaped x = true ∧ SeqAt.shaped (.list ys) = true then some (.bool (!ys.any fun z => PyData.eqv z x)) else none | _, _ => none
theorem o_inL (hu : X.A.units + 65 < cLine) : DOp X G (compareOp .In) .vw .vw .fz gInL := ⟨_, op_inD hu, fun H F vx vy dx dy d Q sub kp hl rx ry hd q => by
  unfold gInL at hd
  split at hd
  · split at hd <;> cases hd
    rename_i hc
    exact ⟨_, _, rx, ry, hc.1, hc.2, q _ H F (Ext.refl sub) (.bl _)⟩
  · cases hd⟩
theorem o_notInL (hu : X.A.units + 65 < cLine) : DOp X G (compareOp .NotIn) .vw .vw .fz gNotInL := ⟨_, op_notInD hu, fun H F vx vy dx dy d Q sub kp hl rx ry hd q => by
  unfold gNotInL at hd
  split at hd
  · split at hd <;> cases hd
    rename_i hc
    exact ⟨_, _, rx, ry, hc.1, hc.2, q _ H F (Ext.refl sub) (.bl _)⟩
  · cases hd⟩

/-! ### a[i] -/
def gIx : D → D → Option D
  | .list xs, .int i => atI xs i
  | .tuple xs, .int i => atI xs i
  | .str z, .int i => (atI z.cps.toList i).map fun c => .str ⟨#[c]⟩
  | _, _ => none
theorem atI_rep {K : PySem.W.Frag} {F : Hp} {vs : List V} {ds : List D} {i : Int} {d : D} (h : DFAll K F vs ds) (e : atI ds i = some d) : ∃ v, atI vs i = some v ∧ DF K F v d := by
  unfold atI at e ⊢
  rw [DFAll_len h]
  cases z : ixN ds.length i with
  | none => rw [z] at e; cases e
  | some j =>
    rw [z] at e
    exact DFAll_get h e
theorem atI_repD {K : PySem.W.Frag} {F : Hp} {vs : List V} {ds : List D} {i : Int} {d : D} (h : DpAll K F vs ds) (e : atI ds i = some d) : ∃ v, atI vs i = some v ∧ Dp K F v d := by
  unfold atI at e ⊢
  rw [DpAll_len h]
  cases z : ixN ds.length i with
  | none => rw [z] at e; cases e
  | some j =>
    rw [z] at e
    exact DpAll_get h e
theorem ixr_len {r : R2} (h : IxR X r) : IxR X (fun x y H Q => LenOk X.K H → r x y H Q) := fun a b pins s σ H x y v u Q I rx ry q hs => h a b pins s σ H x y v u Q I rx ry (q fun a xs hx => by
  rcases hx with hx | hx
  · obtain ⟨_, _, _, z⟩ := I.list hx
    exact z
  · obtain ⟨_, _, _, z⟩ := I.tuple hx
    exact z) hs
/-- a text's length is within the line where it is read: asked -/
def gIxS : D → D → Option D
  | .str z, .int i => if z.length ≤ sizeLine then (atI z.cps.toList i).map fun c => .str ⟨#[c]⟩ else none
  | x, y => gIx x y
theorem ix_ok {H F : Hp} {vx vy : V} {dx dy d : D} {Q : VK} (sub : Same F H) (rx : RepA X.K G .vl H F vx dx) (ry : RepA X.K G .vl H F vy dy) (hd : gIxS dx dy = some d)
    (q : ∀ v H' F', Ext H F H' F' → RepK X.K G .fz H H' F' v d → Q v H') : rIx X.K vx vy H Q := by
  unfold gIxS at hd
  split at hd
  · split at hd
    · rename_i z i hz
      have e1 := vl_str rx; have e2 := vl_int ry; subst e1 e2
      cases e : atI z.cps.toList i with
      | none => rw [e] at hd; cases hd
      | some c =>
        rw [e] at hd; cases hd
        exact .inr (.inr ⟨z, i, c, rfl, rfl, hz, e, q _ H F (Ext.refl sub) (.str _)⟩)
    · cases hd
  · rename_i hne
    unfold gIx at hd
    split at hd
    · obtain ⟨a, vs, rfl, h1, h2⟩ := vl_list sub rx
      have e2 := vl_int ry; subst e2
      obtain ⟨v, e, r⟩ := atI_rep h2 hd
      exact .inl ⟨a, vs, _, v, rfl, rfl, .inl (.inl h1), e, q _ H F (Ext.refl sub) r⟩
    · obtain ⟨a, vs, rfl, h1, h2⟩ := vl_tup sub rx
      have e2 := vl_int ry; subst e2
      obtain ⟨v, e, r⟩ := atI_rep h2 hd
      exact .inr (.inl ⟨a, vs, _, v, rfl, rfl, h1, e, q _ H F (Ext.refl sub) r⟩)
    · exact (hne _ _ rfl rfl).elim
    · cases hd
theorem ixB_ok {H F : Hp} {vx vy : V} {dx dy d : D} {Q : VK} (sub : Same F H) (kp : Same G.kp H) (rx : Dp X.K (stb G F) vx dx) (ry : RepA X.K G .vl H F vy dy) (hd : gIx dx dy = some d) (hz : ∀ z, dx ≠ .str z)
    (q : ∀ v H' F', Ext H F H' F' → RepK X.K G .sv H H' F' v d → Q v H') : rIx X.K vx vy H Q := by
  unfold gIx at hd
  split at hd
  · cases rx with
    | lst h1 h2 =>
      have e2 := vl_int ry; subst e2
      obtain ⟨v, e, r⟩ := atI_repD h2 hd
      exact .inl ⟨_, _, _, v, rfl, rfl, (stb_sub sub kp).seq h1, e, q _ H F (Ext.refl sub) r⟩
  · cases rx with
    | tup h1 h2 =>
      have e2 := vl_int ry; subst e2
      obtain ⟨v, e, r⟩ := atI_repD h2 hd
      exact .inr (.inl ⟨_, _, _, v, rfl, rfl, Same.seqT (stb_sub sub kp) h1, e, q _ H F (Ext.refl sub) r⟩)
  · exact absurd rfl (hz _)
  · cases hd
variable {a b : Expr} {fa fb : List C → Option D} {pos : Pos} {k1 k2 : RK}
theorem d_ix (ha : DE X G k1 a fa) (hb : DE X G k2 b fb) (hs : PlainIx b) (h1 : k1.le .vl = true := by rfl) (h2 : k2.le .vl = true := by rfl) : DE X G .fz (.Subscript a b pos) (e2 gIxS fa fb) := by
  obtain ⟨ta, pa, oa⟩ := (ha.conv h1).ex
  obtain ⟨tb, pb, ob⟩ := (hb.conv h2).ex
  exact ⟨_, pe_ix (ixr_len ix_seq) pa pb hs, fun σ H F fp env d Q R hf q => two_ok (kr := .fz) (fun H F vx vy dx dy d Q sub kp hl rx ry hd q => ix_ok sub rx ry hd q) rfl rfl oa ob R hf q⟩
def gIxB : D → D → Option D | .str _, _ => none | x, y => gIx x y
theorem d_ixB (ha : DE X G k1 a fa) (hb : DE X G k2 b fb) (hs : PlainIx b) (h1 : k1.le .sv = true := by rfl) (h2 : k2.le .vl = true := by rfl) : DE X G .sv (.Subscript a b pos) (e2 gIxB fa fb) := by
  obtain ⟨ta, pa, oa⟩ := (ha.conv h1).ex
  obtain ⟨tb, pb, ob⟩ := (hb.conv h2).ex
  refine ⟨_, pe_ix (ixr_len ix_seq) pa pb hs, fun σ H F fp env d Q R hf q => two_ok (kr := .sv) (fun H F vx vy dx dy d Q sub kp hl rx ry hd q => ?_) rfl rfl oa ob R hf q⟩
  unfold gIxB at hd
  split at hd
  · cases hd
  · rename_i hn
    exact ixB_ok sub kp rx ry hd (fun z e => hn z e) q
/-- what is a number, text, truth or None stands anywhere -/
def scalD : D → Bool | .int _ => true | .str _ => true | .bool _ => true | .none => true | _ => false
def eScal (f : List C → Option D) : List C → Option D := fun env => match f env with | some d => if scalD d then some d else none | none => none
theorem d_scal {e : Expr} {f : List C → Option D} (h : DE X G k1 e f) (h1 : k1.le .vw = true := by rfl) : DE X G .fz e (eScal f) := by
  obtain ⟨t, p, o⟩ := (h.conv h1).ex
  refine ⟨t, p, fun σ H F fp env d Q R hf q => ?_⟩
  unfold eScal at hf
  split at hf
  · rename_i d' e
    split at hf
    · cases hf
      rename_i hs
      refine o σ H F fp env _ _ R e fun v H' F' E r => q v H' F' E ?_
      have r' : Dp X.K H' v d := r
      cases r' with
      | non => exact .non
      | bl b => exact .bl b
      | int i => exact .int i
      | str x => exact .str x
      | lst _ _ => cases hs
      | tup _ _ => cases hs
    · cases hf
  · cases hf

/-! ### slices -/
structure DP (X : Cx) (G : GC) (e : Option Expr) (f : List C → Option (Option Int)) : Prop where
  ex : ∃ t, PO X e t ∧ ∀ (σ : L2.St) (H F : Hp) (fp : Nat → List Addr) (env : List C) (o : Option Int) (Q : Option Int → Hp → Prop), Rel X.K G env σ H F fp → f env = some o →
    (∀ H' F', Ext H F H' F' → Q o H') → t σ H Q
def pN : List C → Option (Option Int) := fun _ => some none
def pS (f : List C → Option D) : List C → Option (Option Int) := fun env => match f env with | some (.int i) => some (some i) | _ => none
theorem dp_none : DP X G none pN := ⟨_, po_none, fun σ H F fp env d Q R hf q => by cases hf; exact q H F (Ext.refl R.sub)⟩
theorem dp_some {e : Expr} {f : List C → Option D} (h : DE X G k1 e f) (h1 : k1.le .vl = true := by rfl) : DP X G (some e) (pS f) := by
  obtain ⟨t, p, o⟩ := (h.conv h1).ex
  refine ⟨_, po_some p, fun σ H F fp env d Q R hf q => ?_⟩
  unfold pS at hf
  split at hf
  · rename_i i e
    cases hf
    refine o σ H F fp env _ _ R e fun v H' F' E r => ?_
    have e1 := vl_int (G := G) (H := H') (F := F') r
    exact ⟨i, e1, q H' F' E⟩
  · cases hf
def cutD {α : Type} (xs : List α) (lo hi : Option Int) : List α := (xs.drop (HT.sIx xs.length 0 lo)).take (HT.sIx xs.length xs.length hi - HT.sIx xs.length 0 lo)
theorem cut_rep {K : PySem.W.Frag} {F : Hp} {vs : List V} {ds : List D} (h : DFAll K F vs ds) (lo hi : Option Int) : DFAll K F (cutV vs lo hi) (cutD ds lo hi) := by
  unfold cutV cutD
  rw [DFAll_len h]
  exact DFAll_take _ (DFAll_drop _ h)
theorem slr_len {r : V → Option Int → Option Int → Hp → VK → Prop} (h : SlR X r) : SlR X (fun x l u H Q => LenOk X.K H → r x l u H Q) := fun pins s σ H x v vl vu lo hi sl Q I rx hs pl pu q => h pins s σ H x v vl vu lo hi sl Q I rx hs pl pu (q fun a xs hx => by
  rcases hx with hx | hx
  · obtain ⟨_, _, _, z⟩ := I.list hx
    exact z
  · obtain ⟨_, _, _, z⟩ := I.tuple hx
    exact z)
def e3 (g : D → Option Int → Option Int → Option D) (fa : List C → Option D) (fl fu : List C → Option (Option Int)) : List C → Option D := fun env => (fa env).bind fun x => (fl env).bind fun l => (fu env).bind fun u => g x l u
theorem d_slice {r : V → Option Int → Option Int → Hp → VK → Prop} {ka kr : RK} {g : D → Option Int → Option Int → Option D} {lo hi : Option Expr} {fl fu : List C → Option (Option Int)} {p2 : Pos} (hr : SlR X r)
    (hg : ∀ (H F : Hp) (vx : V) (dx d : D) (l u : Option Int) (Q : VK), Same F H → Same G.kp H → LenOk X.K H → RepA X.K G ka H F vx dx → g dx l u = some d → (∀ v H' F', Ext H F H' F' → RepK X.K G kr H H' F' v d → Q v H') → r vx l u H Q)
    (ha : DE X G k1 a fa) (hl : DP X G lo fl) (hu : DP X G hi fu) (h1 : k1.le ka = true := by rfl) (haa : ka.arg = true := by rfl) : DE X G kr (.Subscript a (.Slice lo hi none p2) pos) (e3 g fa fl fu) := by
  obtain ⟨ta, pa, oa⟩ := (ha.conv h1).ex
  obtain ⟨tl, pl, ol⟩ := hl.ex
  obtain ⟨tu, pu, ou⟩ := hu.ex
  refine ⟨_, pe_slice (slr_len hr) pa pl pu, fun σ H F fp env d Q R hf q => ?_⟩
  unfold e3 at hf
  cases z1 : fa env with
  | none => rw [z1] at hf; cases hf
  | some x =>
    cases z2 : fl env with
    | none => rw [z1, z2] at hf; cases hf
    | some l =>
      cases z3 : fu env with
      | none => rw [z1, z2, z3] at hf; cases hf
      | some u =>
        rw [z1, z2, z3] at hf
        refine oa σ H F fp env x _ R z1 fun vx H1 F1 E1 r1 => ?_
        refine ol σ H1 F1 fp env l _ (R.ext E1) z2 fun H2 F2 E2 => ?_
        have R2 := (R.ext E1).ext E2
        refine ou σ H2 F2 fp env u _ R2 z3 fun H3 F3 E3 hlen => ?_
        have R3 := R2.ext E3
        have kp3 := R3.kpSame
        have kp2 := R2.kpSame
        exact hg H3 F3 vx x d l u Q E3.sub kp3 hlen (((repK_A haa r1).ext E2 kp2).ext E3 kp3) hf fun v H' F' E r => q v H' F' (((E1.trans E2).trans E3).trans E) (r.back ((E1.h.trans E2.h).trans E3.h))
def gSlL : D → Option Int → Option Int → Option D | .list xs, l, u => some (.list (cutD xs l u)) | _, _, _ => none
theorem d_slL {lo hi : Option Expr} {fl fu : List C → Option (Option Int)} {p2 : Pos} (ha : DE X G k1 a fa) (hl : DP X G lo fl) (hu : DP X G hi fu) (h1 : k1.le .vl = true := by rfl) : DE X G .ow (.Subscript a (.Slice lo hi none p2) pos) (e3 gSlL fa fl fu) :=
  d_slice (ka := .vl) sl_list (fun H F vx dx d l u Q sub kp hlen rx hd q => by
    unfold gSlL at hd
    split at hd <;> cases hd
    obtain ⟨p, vs, rfl, h1, h2⟩ := vl_list sub rx
    refine ⟨p, vs, rfl, .inl (.inl h1), fun n nn => ?_⟩
    obtain ⟨E, r⟩ := new_ow (G := G) sub nn (cut_rep h2 l u)
    exact q _ _ _ E r) ha hl hu h1
/-- a slice of a borrowed list of numbers -/
def allInt : List D → Option (List Int)
  | [] => some []
  | .int i :: r => (allInt r).map (i :: ·)
  | _ => none
theorem allInt_eq : ∀ {ds : List D} {ns : List Int}, allInt ds = some ns → ds = ns.map PyData.int
  | [], ns, h => by cases h; rfl
  | d :: ds, ns, h => by
    cases d <;> simp only [allInt] at h <;> try cases h
    rename_i i
    cases z : allInt ds with
    | none => rw [z] at h; cases h
    | some ms => rw [z] at h; cases h; rw [allInt_eq z]; rfl
theorem allInt_map : ∀ ns : List Int, allInt (ns.map PyData.int) = some ns
  | [] => rfl
  | n :: ns => by rw [List.map_cons, allInt, allInt_map ns]; rfl
def gSlB : D → Option Int → Option Int → Option D | .list xs, l, u => (allInt xs).map fun ns => .list ((cutD ns l u).map .int) | _, _, _ => none
theorem d_slB {lo hi : Option Expr} {fl fu : List C → Option (Option Int)} {p2 : Pos} (ha : DE X G k1 a fa) (hl : DP X G lo fl) (hu : DP X G hi fu) (h1 : k1.le .sv = true := by rfl) : DE X G .ow (.Subscript a (.Slice lo hi none p2) pos) (e3 gSlB fa fl fu) :=
  d_slice (ka := .sv) sl_list (fun H F vx dx d l u Q sub kp hlen rx hd q => by
    unfold gSlB at hd
    split at hd
    · rename_i xs
      cases z : allInt xs with
      | none => rw [z] at hd; cases hd
      | some ns =>
        rw [z] at hd; cases hd
        have e := allInt_eq z
        subst e
        have rx' : Dp X.K (stb G F) vx (.list (ns.map .int)) := rx
        cases rx' with
        | lst h1 h2 =>
          have e2 := DpAll_ints_of h2
          subst e2
          refine ⟨_, _, rfl, (stb_sub sub kp).seq h1, fun n nn => ?_⟩
          have e3 : cutV (ns.map V.int) l u = (cutD ns l u).map V.int := by
            unfold cutV cutD
            rw [List.length_map, List.map_take, List.map_drop]
          rw [e3]
          obtain ⟨E, r⟩ := new_ow (X := X) (G := G) sub nn (DFAll_ints (K := X.K) (H := F) (cutD ns l u))
          exact q _ _ _ E r
    · cases hd) ha hl hu h1
def gSlT : D → Option Int → Option Int → Option D | .tuple xs, l, u => some (.tuple (cutD xs l u)) | _, _, _ => none
theorem d_slT {lo hi : Option Expr} {fl fu : List C → Option (Option Int)} {p2 : Pos} (ha : DE X G k1 a fa) (hl : DP X G lo fl) (hu : DP X G hi fu) (h1 : k1.le .vl = true := by rfl) : DE X G .fz (.Subscript a (.Slice lo hi none p2) pos) (e3 gSlT fa fl fu) :=
  d_slice (ka := .vl) sl_tupA (fun H F vx dx d l u Q sub kp hlen rx hd q => by
    unfold gSlT at hd
    split at hd <;> cases hd
    rename_i xs
    have fx : ∃ a vs, vx = .ref a ∧ SqT X.K F a vs ∧ DFAll X.K F vs xs := by
      rcases rx with rx | ⟨_, _, _, _, z, _⟩
      · cases rx with | tup h1 h2 => exact ⟨_, _, rfl, h1, h2⟩
      · cases z
    obtain ⟨p, vs, rfl, h1, h2⟩ := fx
    refine ⟨p, vs, rfl, Same.seqT sub h1, fun hw => ?_, fun hw n nn => ?_⟩
    · have e : cutV vs l u = vs := by
        unfold cutV
        rw [hw.1, hw.2]
        exact List.take_length
      have r := cut_rep h2 l u
      rw [e] at r
      exact q _ H F (Ext.refl sub) (.tup h1 r)
    · obtain ⟨E, r⟩ := new_tup sub nn (cut_rep h2 l u)
      exact q _ _ _ E r) ha hl hu h1
end
end DL
set_option Elab.async false
set_option linter.all false
set_option maxRecDepth 100000
set_option maxHeartbeats 4000000
namespace DL
open PySem PySem.Spec L2

section
variable {X : Cx} {G : GC} {e : Expr} {es : List Expr} {k k' kr : RK} {ks : List RK} {f : List C → Option D} {fs : List C → Option (List D)} {pos p : Pos}
/-! ### argument lists, displays -/
theorem RepKs_len {K : PySem.W.Frag} {H F : Hp} : ∀ {ks : List RK} {vs : List V} {ds : List D}, RepKs K G H F ks vs ds → vs.length = ds.length ∧ ks.length = ds.length
  | [], [], [], _ => ⟨rfl, rfl⟩
  | k :: ks, v :: vs, d :: ds, h => by
    obtain ⟨h1, h2⟩ := RepKs_len h.2
    exact ⟨by rw [List.length_cons, List.length_cons, h1], by rw [List.length_cons, List.length_cons, h2]⟩
  | [], _ :: _, _, h => by cases h
  | [], [], _ :: _, h => by cases h
  | _ :: _, [], _, h => by cases h
  | _ :: _, _ :: _, [], h => by cases h
theorem RepKs_ext {K : PySem.W.Frag} {H F H' F' : Hp} (E : Ext H F H' F') (kp : Same G.kp H') : ∀ {ks : List RK} {vs : List V} {ds : List D}, RepKs K G H F ks vs ds → RepKs K G H' F' ks vs ds
  | [], [], [], _ => trivial
  | k :: ks, v :: vs, d :: ds, h => ⟨h.1.ext E kp, RepKs_ext E kp h.2⟩
  | [], _ :: _, _, h => by cases h
  | [], [], _ :: _, h => by cases h
  | _ :: _, [], _, h => by cases h
  | _ :: _, _ :: _, [], h => by cases h
def aNil : List C → Option (List D) := fun _ => some []
def aCons (f : List C → Option D) (g : List C → Option (List D)) : List C → Option (List D) := fun env => (f env).bind fun d => (g env).bind fun ds => some (d :: ds)
theorem da_nil : DA X G [] [] aNil := ⟨_, pa_nil, fun σ H F fp env ds Q R hf q => by cases hf; exact q [] H F (Ext.refl R.sub) trivial⟩
theorem da_cons (h : DE X G k e f) (k' : RK) (ht : DA X G ks es fs) (hk : k.le k' = true := by rfl) (ha : k'.arg = true := by rfl) (hs : starEach (e :: es) X.env = (false, eval e X.env) :: starEach es X.env := by rfl) : DA X G (k' :: ks) (e :: es) (aCons f fs) := by
  obtain ⟨t, pt, o⟩ := (h.conv hk).ex
  obtain ⟨t2, pt2, o2⟩ := ht.ex
  refine ⟨_, pa_cons pt pt2 hs, fun σ H F fp env ds Q R hf q => ?_⟩
  unfold aCons at hf
  cases z : f env with
  | none => rw [z] at hf; cases hf
  | some d =>
    cases z2 : fs env with
    | none => rw [z, z2] at hf; cases hf
    | some es =>
      rw [z, z2] at hf; cases hf
      refine o σ H F fp env d _ R z fun v H1 F1 E1 r1 => ?_
      refine o2 σ H1 F1 fp env es _ (R.ext E1) z2 fun vs H2 F2 E2 r2 => ?_
      exact q (v :: vs) H2 F2 (E1.trans E2) ⟨(repK_A ha r1).ext E2 ((R.ext E1).ext E2).kpSame, r2⟩
def allFz : List RK → Bool
  | [] => true
  | .fz :: r => allFz r
  | _ => false
theorem RepKs_fz {K : PySem.W.Frag} {H F : Hp} : ∀ {ks : List RK} {vs : List V} {ds : List D}, allFz ks = true → RepKs K G H F ks vs ds → DFAll K F vs ds
  | [], [], [], _, _ => .nil
  | k :: ks, v :: vs, d :: ds, hk, h => by
    cases k with
    | fz => exact .cons h.1 (RepKs_fz (show allFz ks = true from hk) h.2)
    | _ => cases hk
  | [], _ :: _, _, _, h => by cases h
  | [], [], _ :: _, _, h => by cases h
  | _ :: _, [], _, _, h => by cases h
  | _ :: _, _ :: _, [], _, h => by cases h
def eTup (f : List C → Option (List D)) : List C → Option D := fun env => (f env).map .tuple
def eLst (f : List C → Option (List D)) : List C → Option D := fun env => (f env).map .list
theorem line1000 {n : Nat} (h : n ≤ 1000) : n ≤ sizeLine := by rw [sizeLine_eq]; omega
theorem d_tup {x1} (h : DA X G ks es fs) (hk : allFz ks = true := by rfl) (hn : ks.length ≤ 1000 := by decide) : DE X G .fz (.Tuple es x1 pos) (eTup fs) := by
  obtain ⟨t, pt, o⟩ := h.ex
  refine ⟨_, pe_tup pt, fun σ H F fp env d Q R hf q => ?_⟩
  unfold eTup at hf
  cases z : fs env with
  | none => rw [z] at hf; cases hf
  | some ds =>
    rw [z] at hf; cases hf
    refine o σ H F fp env ds _ R z fun vs H1 F1 E1 r => ?_
    obtain ⟨l1, l2⟩ := RepKs_len r
    refine ⟨line1000 (by omega), fun n nn => ?_⟩
    obtain ⟨E, r'⟩ := new_tup E1.sub nn (RepKs_fz hk r)
    exact q _ _ _ (E1.trans E) r'
theorem d_lst (h : DA X G ks es fs) (hk : allFz ks = true := by rfl) (hn : ks.length ≤ 1000 := by decide) : DE X G .ow (.List es pos) (eLst fs) := by
  obtain ⟨t, pt, o⟩ := h.ex
  refine ⟨_, pe_lst pt, fun σ H F fp env d Q R hf q => ?_⟩
  unfold eLst at hf
  cases z : fs env with
  | none => rw [z] at hf; cases hf
  | some ds =>
    rw [z] at hf; cases hf
    refine o σ H F fp env ds _ R z fun vs H1 F1 E1 r => ?_
    obtain ⟨l1, l2⟩ := RepKs_len r
    refine ⟨line1000 (by omega), fun n nn => ?_⟩
    obtain ⟨E, r'⟩ := new_ow (G := G) E1.sub nn (RepKs_fz hk r)
    exact q _ _ _ (E1.trans E) (r'.back E1.h)

/-! ### calls of built-ins -/
theorem callr_len {f : Value} {r : List V → Hp → VK → Prop} (h : CallR X f r) : CallR X f (fun xs H Q => LenOk X.K H → r xs H Q) := fun pins s σ H xs us Q I rx q => h pins s σ H xs us Q I rx (q fun a xs hx => by
  rcases hx with hx | hx
  · obtain ⟨_, _, _, z⟩ := I.list hx
    exact z
  · obtain ⟨_, _, _, z⟩ := I.tuple hx
    exact z)
structure DCall (X : Cx) (G : GC) (f : Value) (ks : List RK) (kr : RK) (g : List D → Option D) : Prop where
  ex : ∃ r, CallR X f r ∧ ∀ (H F : Hp) (vs : List V) (ds : List D) (d : D) (Q : VK), Same F H → Same G.kp H → LenOk X.K H → RepKs X.K G H F ks vs ds → g ds = some d →
    (∀ v H' F', Ext H F H' F' → RepK X.K G kr H H' F' v d → Q v H') → r vs H Q
def e1 (g : List D → Option D) (f : List C → Option (List D)) : List C → Option D := fun env => (f env).bind g
theorem call_ok {r : List V → Hp → VK → Prop} {t : TA} {g : List D → Option D} (o : ∀ (H F : Hp) (vs : List V) (ds : List D) (d : D) (Q : VK), Same F H → Same G.kp H → LenOk X.K H → RepKs X.K G H F ks vs ds → g ds = some d →
    (∀ v H' F', Ext H F H' F' → RepK X.K G kr H H' F' v d → Q v H') → r vs H Q)
    (oa : ∀ (σ : L2.St) (H F : Hp) (fp : Nat → List Addr) (env : List C) (ds : List D) (Q : List V → Hp → Prop), Rel X.K G env σ H F fp → fs env = some ds → (∀ vs H' F', Ext H F H' F' → RepKs X.K G H' F' ks vs ds → Q vs H') → t σ H Q)
    {σ : L2.St} {H F : Hp} {fp : Nat → List Addr} {env : List C} {d : D} {Q : VK} (R : Rel X.K G env σ H F fp) (hf : e1 g fs env = some d) (q : ∀ v H' F', Ext H F H' F' → RepK X.K G kr H H' F' v d → Q v H') :
    tCB (fun xs H Q => LenOk X.K H → r xs H Q) t σ H Q := by
  unfold e1 at hf
  cases z : fs env with
  | none => rw [z] at hf; cases hf
  | some ds =>
    rw [z] at hf
    refine oa σ H F fp env ds _ R z fun vs H1 F1 E1 r1 hl => ?_
    exact o H1 F1 vs ds d Q E1.sub (R.ext E1).kpSame hl r1 hf fun v H' F' E r => q v H' F' (E1.trans E) (r.back E1.h)
variable {x : Str} {id T : String} {g : List D → Option D}
theorem d_callB (o : DCall X G (.builtin id) ks kr g) (hg : Gl X x) (hm : X.mg x = none) (hv : bootBuiltins x = some (.builtin id)) (ha : DA X G ks (e :: es) fs) (hn : x ≠ "__name__" := by decide) (hdb : (x == ("__debug__" : Str)) = false := by decide)
    (he : starEach (e :: es) X.env = (false, eval e X.env) :: starEach es X.env := by rfl) (hpl : (backTo pos (starEach es X.env)).any (·.1) = false := by rfl) : DE X G kr (.Call (.Name x p) (e :: es) [] pos) (e1 g fs) := by
  obtain ⟨r, hr, o⟩ := o.ex
  obtain ⟨t, pt, oa⟩ := ha.ex
  exact ⟨_, pe_callB (callr_len hr) hg hm hv pt hn hdb he hpl, fun σ H F fp env d Q R hf q => call_ok o oa R hf q⟩
theorem d_callT (o : DCall X G (.type T) ks kr g) (hg : Gl X x) (hm : X.mg x = none) (hv : bootBuiltins x = some (.type T)) (ha : DA X G ks (e :: es) fs) (hn : x ≠ "__name__" := by decide) (hdb : (x == ("__debug__" : Str)) = false := by decide)
    (he : starEach (e :: es) X.env = (false, eval e X.env) :: starEach es X.env := by rfl) (hpl : (backTo pos (starEach es X.env)).any (·.1) = false := by rfl) : DE X G kr (.Call (.Name x p) (e :: es) [] pos) (e1 g fs) := by
  obtain ⟨r, hr, o⟩ := o.ex
  obtain ⟨t, pt, oa⟩ := ha.ex
  exact ⟨_, pe_callTy (callr_len hr) hg hm hv pt hn hdb he hpl, fun σ H F fp env d Q R hf q => call_ok o oa R hf q⟩

theorem rep1 {K : PySem.W.Frag} {H F : Hp} {k : RK} {vs : List V} {ds : List D} (h : RepKs K G H F [k] vs ds) : ∃ v d, vs = [v] ∧ ds = [d] ∧ RepA K G k H F v d := by
  obtain ⟨l1, l2⟩ := RepKs_len h
  have l3 : ds.length = 1 := l2.symm
  obtain ⟨d, rfl⟩ := List.length_eq_one_iff.mp l3
  obtain ⟨v, rfl⟩ := List.length_eq_one_iff.mp (l1.trans l3)
  exact ⟨v, d, rfl, rfl, h.1⟩
theorem len2 {α : Type} {l : List α} (h : l.length = 2) : ∃ a b, l = [a, b] := by
  cases l with
  | nil => cases h
  | cons a l =>
    cases l with
    | nil => cases h
    | cons b l =>
      cases l with
      | nil => exact ⟨a, b, rfl⟩
      | cons c l => simp at h
theorem rep2 {K : PySem.W.Frag} {H F : Hp} {k k2 : RK} {vs : List V} {ds : List D} (h : RepKs K G H F [k, k2] vs ds) : ∃ v d v2 d2, vs = [v, v2] ∧ ds = [d, d2] ∧ RepA K G k H F v d ∧ RepA K G k2 H F v2 d2 := by
  obtain ⟨l1, l2⟩ := RepKs_len h
  have l3 : ds.length = 2 := l2.symm
  obtain ⟨d, d2, rfl⟩ := len2 l3
  obtain ⟨v, v2, rfl⟩ := len2 (l1.trans l3)
  exact ⟨v, d, v2, d2, rfl, rfl, h.1, h.2.1⟩
/-! ### len, abs, min, max, sum, sorted, int, str, list, tuple -/
def gLen : List D → Option D
  | [.list xs] => some (.int xs.length)
  | [.tuple xs] => some (.int xs.length)
  | [.str z] => if z.length ≤ sizeLine then some (.int z.length) else none
  | _ => none
theorem o_len : DCall X G (.builtin "len") [.vw] .fz gLen := ⟨_, call_len_seq.or call_len_str, fun H F vs ds d Q sub kp hl rs hd q => by
  obtain ⟨v, d1, rfl, rfl, r⟩ := rep1 rs
  have r' : Dp X.K H v d1 := r
  unfold gLen at hd
  split at hd
  · rename_i e; cases e; cases hd
    cases r' with
    | lst h1 h2 =>
      left
      refine ⟨_, _, rfl, .inl h1, ?_⟩
      rw [DpAll_len h2]
      exact q _ H F (Ext.refl sub) (.int _)
  · rename_i e; cases e; cases hd
    cases r' with
    | tup h1 h2 =>
      left
      refine ⟨_, _, rfl, .inr h1, ?_⟩
      rw [DpAll_len h2]
      exact q _ H F (Ext.refl sub) (.int _)
  · rename_i e; cases e
    split at hd <;> cases hd
    cases r'
    right
    exact ⟨_, rfl, by assumption, q _ H F (Ext.refl sub) (.int _)⟩
  · cases hd⟩
def gAbs : List D → Option D | [.int i] => some (.int (if i < 0 then -i else i)) | _ => none
theorem o_abs : DCall X G (.builtin "abs") [.vw] .fz gAbs := ⟨_, call_abs, fun H F vs ds d Q sub kp hl rs hd q => by
  obtain ⟨v, d1, rfl, rfl, r⟩ := rep1 rs
  have r' : Dp X.K H v d1 := r
  unfold gAbs at hd
  split at hd
  · rename_i e; cases e; cases hd; cases r'
    exact ⟨_, rfl, q _ H F (Ext.refl sub) (.int _)⟩
  · cases hd⟩
def gMax2 : List D → Option D | [.int i, .int j] => some (.int (if j > i then j else i)) | _ => none
def gMin2 : List D → Option D | [.int i, .int j] => some (.int (if j < i then j else i)) | _ => none
theorem o_max2 (hc : X.calm = true) : DCall X G (.builtin "max") [.vw, .vw] .fz gMax2 := ⟨_, call_max2 hc, fun H F vs ds d Q sub kp hl rs hd q => by
  obtain ⟨v, d1, v2, d2, rfl, rfl, r, r2⟩ := rep2 rs
  have r' : Dp X.K H v d1 := r
  have r2' : Dp X.K H v2 d2 := r2
  unfold gMax2 at hd
  split at hd
  · rename_i e; cases e; cases hd; cases r'; cases r2'
    exact ⟨_, _, rfl, q _ H F (Ext.refl sub) (.int _)⟩
  · cases hd⟩
theorem o_min2 (hc : X.calm = true) : DCall X G (.builtin "min") [.vw, .vw] .fz gMin2 := ⟨_, call_min2 hc, fun H F vs ds d Q sub kp hl rs hd q => by
  obtain ⟨v, d1, v2, d2, rfl, rfl, r, r2⟩ := rep2 rs
  have r' : Dp X.K H v d1 := r
  have r2' : Dp X.K H v2 d2 := r2
  unfold gMin2 at hd
  split at hd
  · rename_i e; cases e; cases hd; cases r'; cases r2'
    exact ⟨_, _, rfl, q _ H F (Ext.refl sub) (.int _)⟩
  · cases hd⟩
def gSum : List D → Option D | [.list xs] => (allInt xs).map fun ns => .int ns.sum | _ => none
theorem o_sum (hc : X.calm = true) : DCall X G (.builtin "sum") [.vw] .fz gSum := ⟨_, cr_sum hc, fun H F vs ds d Q sub kp hl rs hd q => by
  obtain ⟨v, d1, rfl, rfl, r⟩ := rep1 rs
  have r' : Dp X.K H v d1 := r
  unfold gSum at hd
  split at hd
  · rename_i xs e; cases e
    cases z : allInt xs with
    | none => rw [z] at hd; cases hd
    | some ns =>
      rw [z] at hd; cases hd
      have e := allInt_eq z
      subst e
      cases r' with
      | lst h1 h2 =>
        have e2 := DpAll_ints_of h2
        subst e2
        exact ⟨_, ns, rfl, h1, q _ H F (Ext.refl sub) (.int _)⟩
  · cases hd⟩
def gInt : List D → Option D
  | [.int i] => some (.int i)
  | [.bool b] => some (.int (if b then 1 else 0))
  | [.str a] => if a.length ≤ 640 then (PySem.intText? a).map .int else none
  | _ => none
theorem o_int : DCall X G (.type "int") [.vw] .fz gInt := ⟨_, call_int1.or call_int_str, fun H F vs ds d Q sub kp hl rs hd q => by
  obtain ⟨v, d1, rfl, rfl, r⟩ := rep1 rs
  have r' : Dp X.K H v d1 := r
  unfold gInt at hd
  split at hd
  · rename_i e; cases e; cases hd; cases r'
    exact .inl (.inl ⟨_, rfl, q _ H F (Ext.refl sub) (.int _)⟩)
  · rename_i e; cases e; cases hd; cases r'
    exact .inl (.inr ⟨_, rfl, q _ H F (Ext.refl sub) (.int _)⟩)
  · rename_i a e; cases e; cases r'
    split at hd
    · cases z : PySem.intText? a with
      | none => rw [z] at hd; cases hd
      | some n =>
        rw [z] at hd; cases hd
        exact .inr ⟨a, n, rfl, z, by assumption, q _ H F (Ext.refl sub) (.int _)⟩
    · cases hd
  · cases hd⟩
def gStr : List D → Option D | [.int i] => if i.natAbs.log2 < 1920 then some (.str (toString i)) else none | _ => none
theorem o_str : DCall X G (.type "str") [.vw] .fz gStr := ⟨_, call_str_int, fun H F vs ds d Q sub kp hl rs hd q => by
  obtain ⟨v, d1, rfl, rfl, r⟩ := rep1 rs
  have r' : Dp X.K H v d1 := r
  unfold gStr at hd
  split at hd
  · rename_i e; cases e; cases r'
    split at hd <;> cases hd
    exact ⟨_, rfl, by assumption, q _ H F (Ext.refl sub) (.str _)⟩
  · cases hd⟩
def gList : List D → Option D | [.list xs] => some (.list xs) | [.tuple xs] => some (.list xs) | _ => none
theorem o_list : DCall X G (.type "list") [.vl] .ow gList := ⟨_, call_list_of, fun H F vs ds d Q sub kp hl rs hd q => by
  obtain ⟨v, d1, rfl, rfl, r⟩ := rep1 rs
  unfold gList at hd
  split at hd
  · rename_i e; cases e; cases hd
    obtain ⟨a, vs, rfl, h1, h2⟩ := vl_list sub r
    refine ⟨a, vs, rfl, .inl (.inl (.inl h1)), fun n nn => ?_⟩
    obtain ⟨E, r'⟩ := new_ow (G := G) sub nn h2
    exact q _ _ _ E r'
  · rename_i e; cases e; cases hd
    obtain ⟨a, vs, rfl, h1, h2⟩ := vl_tup sub r
    refine ⟨a, vs, rfl, .inr h1, fun n nn => ?_⟩
    obtain ⟨E, r'⟩ := new_ow (G := G) sub nn h2
    exact q _ _ _ E r'
  · cases hd⟩
def gTuple : List D → Option D | [.list xs] => some (.tuple xs) | [.tuple xs] => some (.tuple xs) | _ => none
theorem o_tuple : DCall X G (.type "tuple") [.vl] .fz gTuple := ⟨_, call_tuple_of, fun H F vs ds d Q sub kp hl rs hd q => by
  obtain ⟨v, d1, rfl, rfl, r⟩ := rep1 rs
  unfold gTuple at hd
  split at hd
  · rename_i e; cases e; cases hd
    obtain ⟨a, vs, rfl, h1, h2⟩ := vl_list sub r
    refine ⟨a, vs, rfl, .inl ⟨.inl (.inl h1), fun n nn => ?_⟩⟩
    obtain ⟨E, r'⟩ := new_tup sub nn h2
    exact q _ _ _ E r'
  · rename_i xs e; cases e; cases hd
    have fx : ∃ a vs, v = .ref a ∧ SqT X.K F a vs ∧ DFAll X.K F vs xs := by
      rcases r with rx | ⟨_, _, _, _, z, _⟩
      · cases rx with | tup h1 h2 => exact ⟨_, _, rfl, h1, h2⟩
      · cases z
    obtain ⟨a, vs, rfl, h1, h2⟩ := fx
    exact ⟨a, vs, rfl, .inr ⟨Same.seqT sub h1, q _ H F (Ext.refl sub) (.tup h1 h2)⟩⟩
  · cases hd⟩

/-! ### isinstance of a built-in type -/
def tyD : D → String
  | .none => "NoneType" | .bool _ => "bool" | .int _ => "int" | .str _ => "str" | .list _ => "list" | .tuple _ => "tuple" | .dict _ => "dict"
theorem dp_ty {K : PySem.W.Frag} {H : Hp} {v : V} {d : D} (h : Dp K H v d) : TyX K H v (.type (tyD d)) := by
  cases h with
  | non => exact .base .non
  | bl b => exact .base (.bl b)
  | int i => exact .base (.int i)
  | str x => exact .base (.str x)
  | lst h _ =>
    rcases h with (h | ⟨o, h⟩) | ⟨o, its, n, h1, h2, _⟩
    · exact .base (.lst h)
    · exact .base (.frz h)
    · exact .kList h1 h2
  | tup h _ =>
    rcases h with (h | ⟨o, h⟩) | ⟨o, its, n, h1, h2, _⟩
    · exact .base (.tup h)
    · exact .fTuple h
    · exact .kTuple h1 h2
def eIsi (T : String) (f : List C → Option D) : List C → Option D := fun env => (f env).bind fun d => (kitB (tyD d) T).map .bool
theorem d_isi {e : Expr} {y : Str} {p2 : Pos} {T : String} (h : DE X G k e f) (hg : Gl X "isinstance") (hm : X.mg "isinstance" = none) (hg2 : Gl X y) (hm2 : X.mg y = none) (hv2 : bootBuiltins y = some (.type T)) (hc : ClsV (.ty T) (.type T))
    (hk : k.le .vw = true := by rfl) (hv : bootBuiltins "isinstance" = some (.builtin "isinstance") := by decide +kernel) (hy : y ≠ "__name__" := by decide) (hdb : (y == ("__debug__" : Str)) = false := by decide)
    (he : starEach [e, .Name y p2] X.env = (false, eval e X.env) :: starEach [.Name y p2] X.env := by rfl) (he2 : starEach [.Name y p2] X.env = (false, eval (.Name y p2) X.env) :: starEach [] X.env := by rfl)
    (hpl : (backTo pos (starEach [.Name y p2] X.env)).any (·.1) = false := by rfl) : DE X G .fz (.Call (.Name "isinstance" p) [e, .Name y p2] [] pos) (eIsi T f) := by
  obtain ⟨t, pt, o⟩ := (h.conv hk).ex
  refine ⟨_, pe_callB call_isi hg hm hv (pa_cons pt (pa_cons (pe_bltn hg2 hm2 hv2 (v := .ty T) rfl hy hdb) pa_nil he2) he) (by decide) (by decide) he hpl, fun σ H F fp env d Q R hf q => ?_⟩
  unfold eIsi at hf
  cases z : f env with
  | none => rw [z] at hf; cases hf
  | some d1 =>
    rw [z] at hf
    cases z2 : kitB (tyD d1) T with
    | none => rw [show (some d1 : Option D).bind (fun d => (kitB (tyD d) T).map PyData.bool) = (kitB (tyD d1) T).map PyData.bool from rfl, z2] at hf; cases hf
    | some b =>
      rw [show (some d1 : Option D).bind (fun d => (kitB (tyD d) T).map PyData.bool) = (kitB (tyD d1) T).map PyData.bool from rfl, z2] at hf; cases hf
      refine o σ H F fp env d1 _ R z fun v H1 F1 E1 r => ?_
      exact ⟨_, _, _, _, _, rfl, hc, dp_ty r, kit_ty z2, q _ H1 F1 E1 (.bl _)⟩
end

/-! ### calls of the text's own defs -/
/-- the promise: F of the arguments' data; what stood stands. ks: how the arguments stand (fz, vw); kr: how the result does (fz, ow) -/
def spP (K : PySem.W.Frag) (ks : List RK) (kr : RK) (g : List D → Option D) : Sp := fun vs H Q _ => ∃ (F0 : Hp) (ds : List D) (d : D), Same F0 H ∧ g ds = some d ∧ RepKs K ⟨H, F0, [], none⟩ H F0 ks vs ds ∧
  ∀ v H' F', Ext H F0 H' F' → RepK K ⟨H, F0, [], none⟩ kr H H' F' v d → Q v H'
structure Callee (P : Program) (w : World) (K : PySem.W.Frag) (mg : Str → Option Value) (base : Heap) (k : Nat) (x : Str) (ks : List RK) (kr : RK) (g : List D → Option D) : Prop where
  ex : ∃ (f : Addr) (fd : FuncData) (ps : List Str), FnOk P w K mg base CX0 k f fd ps (spP K ks kr g) ∧ mg x = some (.ref f) ∧ PySem.W.keepIn K (.ref f) = true ∧ Binds K fd ps []
def okPs : List RK → Bool
  | [] => true
  | .fz :: r => okPs r
  | .vw :: r => okPs r
  | _ => false
def okR : RK → Bool | .fz => true | .ow => true | _ => false
section
variable {X : Cx} {G G' : GC} {es : List Expr} {kr : RK} {ks : List RK} {fs : List C → Option (List D)} {pos p : Pos} {x : Str} {g : List D → Option D} {n : Nat}
theorem RepKs_any {K : PySem.W.Frag} {H F : Hp} : ∀ {ks : List RK} {vs : List V} {ds : List D}, okPs ks = true → RepKs K G H F ks vs ds → RepKs K G' H F ks vs ds
  | [], [], [], _, _ => trivial
  | k :: ks, v :: vs, d :: ds, hk, h => by
    cases k with
    | fz => exact ⟨h.1, RepKs_any hk h.2⟩
    | vw => exact ⟨h.1, RepKs_any hk h.2⟩
    | _ => cases hk
  | [], _ :: _, _, _, h => by cases h
  | [], [], _ :: _, _, h => by cases h
  | _ :: _, [], _, _, h => by cases h
  | _ :: _, _ :: _, [], _, h => by cases h
theorem RepK_any {K : PySem.W.Frag} {H H' F' : Hp} {v : V} {d : D} (hk : okR kr = true) (h : RepK K G kr H H' F' v d) : RepK K G' kr H H' F' v d := by
  cases kr with
  | fz => exact h
  | ow => exact h
  | _ => cases hk
theorem d_call {e : Expr} (c : Callee X.prog X.w X.K X.mg X.base n x ks kr g) (hr : Room n X.A) (hg : Gl X x) (ha : DA X G ks (e :: es) fs) (hp : okPs ks = true := by rfl) (hk : okR kr = true := by rfl) (hdb : (x == ("__debug__" : Str)) = false := by decide)
    (he : starEach (e :: es) X.env = (false, eval e X.env) :: starEach es X.env := by rfl) (hpl : (backTo pos (starEach es X.env)).any (·.1) = false := by rfl) : DE X G kr (.Call (.Name x p) (e :: es) [] pos) (e1 g fs) := by
  obtain ⟨f, fd, ps, F, hm, kp, b⟩ := c.ex
  obtain ⟨t, pt, oa⟩ := ha.ex
  refine ⟨_, pe_call F hr hg hm kp b .nil pass0 pt hdb he hpl, fun σ H F fp env d Q R hf q => ?_⟩
  unfold e1 at hf
  cases z : fs env with
  | none => rw [z] at hf; cases hf
  | some ds =>
    rw [z] at hf
    refine oa σ H F fp env ds _ R z fun vs H1 F1 E1 r1 => ?_
    rw [List.append_nil]
    exact ⟨F1, ds, d, E1.sub, hf, RepKs_any hp r1, fun v H' F' E r => q v H' F' (E1.trans E) ((RepK_any hk r).back E1.h)⟩
end
end DL
set_option Elab.async false
set_option linter.all false
set_option maxRecDepth 100000
set_option maxHeartbeats 4000000
namespace DL
open PySem PySem.Spec L2

inductive Out where
  | nx (env : List C) | rt (d : D) | bk (env : List C) | ct (env : List C) | err | rx (env : List C) (t : T)
/-- at a def's end: what stood and may not be written stands -/
structure Fin (G : GC) (H' F' : Hp) : Prop where
  h : ∀ a o, G.H0 a = some o → a ∉ G.W → H' a = some o
  f : Same G.F0 F'
  sub : Same F' H'
  new : ∀ a o, F' a = some o → G.F0 a = some o ∨ G.H0 a = none
/-- a thing of one's own that is new, apart from the slots' -/
structure New (K : PySem.W.Frag) (G : GC) (H F : Hp) (fp : Nat → List Addr) (v : V) (t : T) (l : List Addr) : Prop where
  rep : OR K G.w H F v t l
  own : ∀ a, a ∈ l → F a = none ∧ H a ≠ none ∧ G.H0 a = none
  dj : ∀ a, a ∈ l → ∀ j, a ∉ fp j
def Post (K : PySem.W.Frag) (G : GC) (kr : RK) (F : Hp) (E : Ends) : Out → Prop
  | .nx env' => ∀ σ' H' F' fp', Rel K G env' σ' H' F' fp' → Same F F' → E.nx σ' H'
  | .rt d => ∀ v H' F', Fin G H' F' → RepK K G kr G.H0 H' F' v d → E.rt v H'
  | .bk env' => ∀ σ' H' F' fp', Rel K G env' σ' H' F' fp' → Same F F' → E.bk σ' H'
  | .ct env' => ∀ σ' H' F' fp', Rel K G env' σ' H' F' fp' → Same F F' → E.ct σ' H'
  | .err => False
  | .rx env' t => ∀ v σ' H' F' fp' l, Rel K G env' σ' H' F' fp' → New K G H' F' fp' v t l → E.rt v H'
structure DS (X : Cx) (G : GC) (kr : RK) (st : Stmt) (f : List C → Out) : Prop where
  ex : ∃ t, PS X st t ∧ ∀ (σ : L2.St) (H F : Hp) (fp : Nat → List Addr) (env : List C) (E : Ends), Rel X.K G env σ H F fp → Post X.K G kr F E (f env) → t E σ H
structure DSs (X : Cx) (G : GC) (kr : RK) (st : List Stmt) (f : List C → Out) : Prop where
  ex : ∃ t, PSs X st t ∧ ∀ (σ : L2.St) (H F : Hp) (fp : Nat → List Addr) (env : List C) (E : Ends), Rel X.K G env σ H F fp → Post X.K G kr F E (f env) → t E σ H

section
variable {K : PySem.W.Frag} {G : GC} {env : List C} {σ : L2.St} {H F H' F' : Hp} {fp : Nat → List Addr} {kr : RK}
theorem Post.mono {F F1 : Hp} {E : Ends} (s : Same F F1) : ∀ {o : Out}, Post K G kr F E o → Post K G kr F1 E o
  | .nx _, h => fun σ' H' F' fp' R z => h σ' H' F' fp' R (s.trans z)
  | .rt _, h => h
  | .bk _, h => fun σ' H' F' fp' R z => h σ' H' F' fp' R (s.trans z)
  | .ct _, h => fun σ' H' F' fp' R z => h σ' H' F' fp' R (s.trans z)
  | .err, h => h
  | .rx _ _, h => h
theorem Rel.fin (R : Rel K G env σ H F fp) : Fin G H F := ⟨R.keep, R.old, R.sub, R.new⟩
theorem Rel.h0 (R : Rel K G env σ H F fp) {a : Addr} (e : H a = none) : G.H0 a = none := by
  cases q : G.H0 a with
  | none => rfl
  | some o => exact absurd e (R.alive a (by rw [q]; intro z; cases z))
def fset (fp : Nat → List Addr) (i : Nat) (l : List Addr) : Nat → List Addr := fun j => if j = i then l else fp j
theorem fset_at {fp : Nat → List Addr} {i : Nat} {l : List Addr} : fset fp i l i = l := if_pos rfl
theorem fset_ne {fp : Nat → List Addr} {i j : Nat} {l : List Addr} (h : j ≠ i) : fset fp i l j = fp j := if_neg h
theorem join_set_at {σ : L2.St} {i : Nat} {v : V} (h : i < σ.length) : ((σ.set i (some v))[i]?).join = some v := by
  rw [List.getElem?_set_self h]; rfl
/-- a slot is stored -/
theorem Rel.put (R : Rel K G env σ H F fp) {i : Nat} {v : V} {c : C} {l : List Addr} (hs : SlotRep K G H F (some v) c l) (ho : ∀ a, a ∈ l → F a = none ∧ H a ≠ none ∧ G.H0 a = none) (hd : ∀ a, a ∈ l → ∀ j, j ≠ i → a ∉ fp j) :
    Rel K G (env.set i c) (σ.set i (some v)) H F (fset fp i l) where
  len := by rw [List.length_set, List.length_set, R.len]
  slot := fun j c' e => by
    by_cases hj : j = i
    · subst hj
      rw [fset_at]
      by_cases hl : j < env.length
      · rw [List.getElem?_set_self hl] at e; cases e
        rw [join_set_at (by rw [← R.len]; exact hl)]
        exact hs
      · rw [List.getElem?_eq_none (by rw [List.length_set]; omega)] at e; cases e
    · rw [List.getElem?_set_ne (Ne.symm hj)] at e
      rw [List.getElem?_set_ne (Ne.symm hj), fset_ne hj]
      exact R.slot j c' e
  dj := fun j k a h1 h2 => by
    by_cases hj : j = i
    · by_cases hk : k = i
      · exact hj.trans hk.symm
      · subst hj
        rw [fset_at] at h1; rw [fset_ne hk] at h2
        exact absurd h2 (hd a h1 k hk)
    · by_cases hk : k = i
      · subst hk
        rw [fset_at] at h2; rw [fset_ne hj] at h1
        exact absurd h1 (hd a h2 j hj)
      · rw [fset_ne hj] at h1; rw [fset_ne hk] at h2
        exact R.dj j k a h1 h2
  own := fun j a h1 => by
    by_cases hj : j = i
    · subst hj; rw [fset_at] at h1
      obtain ⟨g1, g2, g3⟩ := ho a h1
      exact ⟨g1, g2, .inl g3⟩
    · rw [fset_ne hj] at h1
      rw [List.getElem?_set_ne (Ne.symm hj)]
      exact R.own j a h1
  sub := R.sub
  new := R.new
  old := R.old
  keep := R.keep
  alive := R.alive
/-- a slot is given up -/
theorem Rel.drop (R : Rel K G env σ H F fp) (i : Nat) : Rel K G (env.set i .und) σ H F (fset fp i []) where
  len := by rw [List.length_set]; exact R.len
  slot := fun j c' e => by
    by_cases hj : j = i
    · subst hj
      rw [fset_at]
      by_cases hl : j < env.length
      · rw [List.getElem?_set_self hl] at e; cases e; rfl
      · rw [List.getElem?_eq_none (by rw [List.length_set]; omega)] at e; cases e
    · rw [List.getElem?_set_ne (Ne.symm hj)] at e
      rw [fset_ne hj]
      exact R.slot j c' e
  dj := fun j k a h1 h2 => by
    by_cases hj : j = i
    · subst hj; rw [fset_at] at h1; cases h1
    · by_cases hk : k = i
      · subst hk; rw [fset_at] at h2; cases h2
      · rw [fset_ne hj] at h1; rw [fset_ne hk] at h2
        exact R.dj j k a h1 h2
  own := fun j a h1 => by
    by_cases hj : j = i
    · subst hj; rw [fset_at] at h1; cases h1
    · rw [fset_ne hj] at h1
      rw [List.getElem?_set_ne (Ne.symm hj)]
      exact R.own j a h1
  sub := R.sub
  new := R.new
  old := R.old
  keep := R.keep
  alive := R.alive
theorem Rel.h00 (R : Rel K G env σ H F fp) {i : Nat} {c : C} (e : env[i]? = some c) (hc : c.mu = false) {a : Addr} (ha : a ∈ fp i) : G.H0 a = none := by
  rcases (R.own i a ha).2.2 with h | ⟨_, c', e', h⟩
  · exact h
  · rw [e] at e'; cases e'; rw [hc] at h; cases h
/-- a slot's list is written in place -/
theorem Rel.write (R : Rel K G env σ H F fp) {i : Nat} {a : Addr} {o : HO} {c0 c : C} (hi : fp i = [a]) (e0 : env[i]? = some c0) (hs : SlotRep K G (upd H a o) F (σ[i]?.join) c [a]) (hc0 : c0.mu = false := by rfl) : Rel K G (env.set i c) σ (upd H a o) F fp := by
  obtain ⟨h1, h2, _⟩ := R.own i a (by rw [hi]; exact List.mem_singleton.mpr rfl)
  have h3 := R.h00 e0 hc0 (a := a) (by rw [hi]; exact List.mem_singleton.mpr rfl)
  have ne : ∀ b u, F b = some u → b ≠ a := fun b u e z => by rw [z, h1] at e; cases e
  exact {
    len := by rw [List.length_set]; exact R.len
    slot := fun j c' e => by
      by_cases hj : j = i
      · subst hj
        by_cases hl : j < env.length
        · rw [List.getElem?_set_self hl] at e; cases e; rw [hi]; exact hs
        · rw [List.getElem?_eq_none (by rw [List.length_set]; omega)] at e; cases e
      · rw [List.getElem?_set_ne (Ne.symm hj)] at e
        have q := R.slot j c' e
        have nm : a ∉ fp j := fun z => hj (R.dj j i a z (by rw [hi]; exact List.mem_singleton.mpr rfl))
        have na : ∀ b, fp j = [b] → b ≠ a := fun b z y => nm (by rw [z, y]; exact List.mem_singleton.mpr rfl)
        cases c' with
        | und => exact q
        | val d => exact q
        | brw d => exact q
        | lst ds => obtain ⟨b, vs, q1, q2, q3, q4⟩ := q; exact ⟨b, vs, q1, q2, by rw [upd_ne (na b q1)]; exact q3, q4⟩
        | dK ds => obtain ⟨b, vs, q1, q2, q3, q4⟩ := q; exact ⟨b, vs, q1, q2, by rw [upd_ne (na b q1)]; exact q3, q4⟩
        | dT ds => obtain ⟨b, vs, q1, q2, q3, q4⟩ := q; exact ⟨b, vs, q1, q2, by rw [upd_ne (na b q1)]; exact q3, q4⟩
        | dN ds => obtain ⟨b, w, xs, q1, q2, q5, q3, q4⟩ := q; exact ⟨b, w, xs, q1, q2, q5, by rw [upd_ne (na b q1)]; exact q3, q4⟩
        | ro b t => exact q
        | pin _ => exact q
        | own m t => obtain ⟨v, q1, q2, q3⟩ := q; exact ⟨v, q1, OR_mono (Same.refl _) _ _ _ (fun b o hb e => by rw [upd_ne (fun z => nm (by rw [← z]; exact hb))]; exact e) q2, q3⟩
    dj := R.dj
    own := fun j b hb => by
      obtain ⟨g1, g2, g3⟩ := R.own j b hb
      refine ⟨g1, ?_, ?_⟩
      · by_cases hb' : b = a
        · rw [hb', upd_same]; intro z; cases z
        · rw [upd_ne hb']; exact g2
      · by_cases hj : j = i
        · subst hj; exact .inl (R.h00 e0 hc0 hb)
        · rw [List.getElem?_set_ne (Ne.symm hj)]; exact g3
    sub := fun b u e => by rw [upd_ne (ne b u e)]; exact R.sub b u e
    new := R.new
    old := R.old
    keep := fun b u e hw => by
      have nb : b ≠ a := fun z => by rw [z, h3] at e; cases e
      rw [upd_ne nb]; exact R.keep b u e hw
    alive := fun b e => by
      by_cases hb' : b = a
      · rw [hb', upd_same]; intro z; cases z
      · rw [upd_ne hb']; exact R.alive b e }
/-- a slot's list is frozen -/
theorem Rel.freeze (R : Rel K G env σ H F fp) {i : Nat} {ds : List D} (e : env[i]? = some (.lst ds)) : ∃ F', Rel K G (env.set i (.val (.list ds))) σ H F' (fset fp i []) ∧ Same F F' ∧ ∃ a, (σ[i]?).join = some (.ref a) ∧ DF K F' (.ref a) (.list ds) := by
  obtain ⟨a, vs, q1, q2, q3, q4⟩ := R.slot i _ e
  obtain ⟨h1, h2, h3⟩ := R.own i a (by rw [q1]; exact List.mem_singleton.mpr rfl)
  have sm : Same F (upd F a (.lst vs)) := fun b x z => by rw [upd_ne (ne_of_none z h1)]; exact z
  have z : DF K (upd F a (.lst vs)) (.ref a) (.list ds) := .lst upd_same (DFAll_mono sm _ _ q4)
  have h0 : G.H0 a = none := R.h00 e rfl (by rw [q1]; exact List.mem_singleton.mpr rfl)
  refine ⟨upd F a (.lst vs), ?_, sm, a, q2, z⟩
  exact {
    len := by rw [List.length_set]; exact R.len
    slot := fun j c' ej => by
      by_cases hj : j = i
      · subst hj
        rw [fset_at]
        have hl := (List.getElem?_eq_some_iff.mp e).1
        rw [List.getElem?_set_self hl] at ej; cases ej
        exact ⟨rfl, _, q2, z⟩
      · rw [List.getElem?_set_ne (Ne.symm hj)] at ej
        rw [fset_ne hj]
        have q := R.slot j c' ej
        cases c' with
        | und => exact q
        | val d => obtain ⟨y1, v, y2, y3⟩ := q; exact ⟨y1, v, y2, DF_mono sm _ _ y3⟩
        | brw d => exact q
        | lst ds => obtain ⟨b, vs, y1, y2, y3, y4⟩ := q; exact ⟨b, vs, y1, y2, y3, DFAll_mono sm _ _ y4⟩
        | dK ds => obtain ⟨b, vs, y1, y2, y3, y4⟩ := q; exact ⟨b, vs, y1, y2, y3, y4.mono sm⟩
        | dT ds => obtain ⟨b, vs, y1, y2, y3, y4⟩ := q; exact ⟨b, vs, y1, y2, y3, y4.mono sm⟩
        | dN ds => obtain ⟨b, w, xs, y1, y2, y5, y3, y4⟩ := q; exact ⟨b, w, xs, y1, y2, y5, y3, y4.mono sm⟩
        | pin _ => exact q
        | ro b t => obtain ⟨y0, v, l, y1, y2, y3⟩ := q; exact ⟨y0, v, l, y1, OR_mono sm _ _ _ (fun _ _ _ z => z) y2, fun hb a vs ha hk => sm _ _ (y3 hb a vs ha hk)⟩
        | own m t => obtain ⟨v, y1, y2, y3⟩ := q; exact ⟨v, y1, OR_mono sm _ _ _ (fun _ _ _ z => z) y2, y3⟩
    dj := fun j k b h1 h2 => by
      by_cases hj : j = i
      · subst hj; rw [fset_at] at h1; cases h1
      · by_cases hk : k = i
        · subst hk; rw [fset_at] at h2; cases h2
        · rw [fset_ne hj] at h1; rw [fset_ne hk] at h2
          exact R.dj j k b h1 h2
    own := fun j b hb => by
      by_cases hj : j = i
      · subst hj; rw [fset_at] at hb; cases hb
      · rw [fset_ne hj] at hb
        obtain ⟨g1, g2, g3⟩ := R.own j b hb
        have nb : b ≠ a := fun z => hj (R.dj j i b hb (by rw [q1, z]; exact List.mem_singleton.mpr rfl))
        exact ⟨by rw [upd_ne nb]; exact g1, g2, by rw [List.getElem?_set_ne (Ne.symm hj)]; exact g3⟩
    sub := fun b u eb => by
      by_cases hb : b = a
      · rw [hb] at eb ⊢; rw [upd_same] at eb; rw [← eb]; exact q3
      · rw [upd_ne hb] at eb; exact R.sub b u eb
    new := fun b u eb => by
      by_cases hb : b = a
      · rw [hb]; exact .inr h0
      · rw [upd_ne hb] at eb; exact R.new b u eb
    old := R.old.trans sm
    keep := R.keep
    alive := R.alive }
end

section
variable {X : Cx} {G : GC} {kr k k1 : RK} {st : Stmt} {rest sts sts2 : List Stmt} {e a : Expr} {f g : List C → Out} {fe fa : List C → Option D} {ft : List C → Option Bool} {pos pos' : Pos}
/-! ### blocks -/
def sNil : List C → Out := fun env => .nx env
def sSeq (f g : List C → Out) : List C → Out := fun env => match f env with | .nx e => g e | o => o
theorem dss_nil : DSs X G kr [] sNil := ⟨_, pss_nil, fun σ H F fp env E R q => q σ H F fp R (Same.refl _)⟩
theorem dss_cons (h : DS X G kr st f) (h2 : DSs X G kr rest g) : DSs X G kr (st :: rest) (sSeq f g) := by
  obtain ⟨t, p, o⟩ := h.ex
  obtain ⟨t2, p2, o2⟩ := h2.ex
  refine ⟨_, pss_cons p p2, fun σ H F fp env E R q => o σ H F fp env _ R ?_⟩
  unfold sSeq at q
  cases z : f env with
  | nx e' =>
    rw [z] at q
    intro σ' H' F' fp' R' s
    exact o2 σ' H' F' fp' e' E R' (Post.mono s q)
  | rt d => rw [z] at q; exact q
  | bk e' => rw [z] at q; exact q
  | ct e' => rw [z] at q; exact q
  | err => rw [z] at q; exact q
  | rx _ _ => rw [z] at q; exact q
theorem dss_one (h : DS X G kr st f) : DSs X G kr [st] f := let ⟨t, p, o⟩ := h.ex; ⟨t, pss_one p, o⟩
/-- (nothing of the text): the list of a slot is frozen from here on -/
def sFz (i : Nat) (g : List C → Out) : List C → Out := fun env => match env[i]? with | some (.lst ds) => g (env.set i (.val (.list ds))) | some (.val _) => g env | _ => .err
theorem dss_fz (i : Nat) (h : DSs X G kr sts g) : DSs X G kr sts (sFz i g) := by
  obtain ⟨t, p, o⟩ := h.ex
  refine ⟨t, p, fun σ H F fp env E R q => ?_⟩
  unfold sFz at q
  split at q
  · rename_i ds e
    obtain ⟨F', R', s, _⟩ := R.freeze e
    exact o σ H F' _ _ E R' (Post.mono s q)
  · exact o σ H F fp env E R q
  · exact q.elim
theorem ds_pass : DS X G kr (.Pass pos) sNil := ⟨_, ps_pass, fun σ H F fp env E R q => q σ H F fp R (Same.refl _)⟩
def sBrk : List C → Out := fun env => .bk env
def sCnt : List C → Out := fun env => .ct env
theorem ds_break : DS X G kr (.Break pos) sBrk := ⟨_, ps_break, fun σ H F fp env E R q => q σ H F fp R (Same.refl _)⟩
theorem ds_continue : DS X G kr (.Continue pos) sCnt := ⟨_, ps_continue, fun σ H F fp env E R q => q σ H F fp R (Same.refl _)⟩
theorem ds_doc {x j} : DS X G kr (.Expr (.Constant (.str x) j pos) pos') sNil := ⟨_, ps_doc, fun σ H F fp env E R q => q σ H F fp R (Same.refl _)⟩
/-- an expression as a statement -/
def sDrop (fe : List C → Option D) : List C → Out := fun env => match fe env with | some _ => .nx env | none => .err
theorem ds_expr (h : DE X G k e fe) (hs : swapsWith e none pos.line X.env = pure false := by rfl) : DS X G kr (.Expr e pos) (sDrop fe) := by
  obtain ⟨t, p, o⟩ := h.ex
  refine ⟨_, ps_expr p hs, fun σ H F fp env E R q => ?_⟩
  unfold sDrop at q
  cases z : fe env with
  | none => rw [z] at q; exact q.elim
  | some d =>
    rw [z] at q
    exact o σ H F fp env d _ R z fun v H' F' E' _ => q σ H' F' fp (R.ext E') E'.f
/-! ### return -/
def sRet (fe : List C → Option D) : List C → Out := fun env => match fe env with | some d => .rt d | none => .err
theorem RepK_h0 {K : PySem.W.Frag} {env : List C} {σ : L2.St} {H F H' F' : Hp} {fp : Nat → List Addr} {v : V} {d : D} (R : Rel K G env σ H F fp) (r : RepK K G k H H' F' v d) : RepK K G k G.H0 H' F' v d := by
  cases k with
  | ow =>
    obtain ⟨a, vs, ds, e1, e2, h1, r⟩ := r
    exact ⟨a, vs, ds, e1, e2, R.h0 h1, r⟩
  | _ => exact r
theorem ds_ret (h : DE X G k e fe) (hk : k.le kr = true := by rfl) : DS X G kr (.Return (some e) pos) (sRet fe) := by
  obtain ⟨t, p, o⟩ := (h.conv hk).ex
  refine ⟨_, ps_ret p, fun σ H F fp env E R q => ?_⟩
  unfold sRet at q
  cases z : fe env with
  | none => rw [z] at q; exact q.elim
  | some d =>
    rw [z] at q
    exact o σ H F fp env d _ R z fun v H' F' E' r => q v H' F' (R.ext E').fin (RepK_h0 R r)
def sRetL (i : Nat) : List C → Out := fun env => match env[i]? with | some (.lst ds) => .rt (.list ds) | _ => .err
/-- return of a list of one's own -/
theorem ds_retL {x : Str} (i : Nat) (h : PE X (.Name x pos') (tVar i)) : DS X G .ow (.Return (some (.Name x pos')) pos) (sRetL i) := by
  refine ⟨_, ps_ret h, fun σ H F fp env E R q => ?_⟩
  unfold sRetL at q
  split at q
  · rename_i ds e
    obtain ⟨a, vs, q1, q2, q3, q4⟩ := R.slot i _ e
    obtain ⟨h1, h2, h3⟩ := R.own i a (by rw [q1]; exact List.mem_singleton.mpr rfl)
    cases z : σ[i]? with
    | none => rw [z] at q2; cases q2
    | some o =>
      rw [z] at q2
      have e2 : o = some (.ref a) := q2
      subst e2
      exact ⟨_, z, q (.ref a) H F R.fin ⟨a, vs, ds, rfl, rfl, R.h00 e rfl (by rw [q1]; exact List.mem_singleton.mpr rfl), q3, h1, q4⟩⟩
  · exact q.elim
def sRetN : List C → Out := fun _ => .rt .none
theorem ds_retN : DS X G .fz (.Return none pos) sRetN := ⟨_, ps_retN, fun σ H F fp env E R q => q _ H F R.fin .non⟩
/-! ### if -/
def sIf (ft : List C → Option Bool) (f g : List C → Out) : List C → Out := fun env => match ft env with | some true => f env | some false => g env | none => .err
theorem ds_if (hc : DTs X G e ft) (ha : DSs X G kr sts f) (hb : DSs X G kr sts2 g) : DS X G kr (.If e sts sts2 pos) (sIf ft f g) := by
  obtain ⟨tc, pc, oc⟩ := hc.ex
  obtain ⟨ta, pa, oa⟩ := ha.ex
  obtain ⟨tb, pb, ob⟩ := hb.ex
  refine ⟨_, ps_if pc pa pb, fun σ H F fp env E R q => ?_⟩
  unfold sIf at q
  cases z : ft env with
  | none => rw [z] at q; exact q.elim
  | some b =>
    rw [z] at q
    refine oc σ H F fp env b _ R z fun H' F' E' => ?_
    cases b with
    | true => exact iteT (oa σ H' F' fp env E (R.ext E') (Post.mono E'.f q))
    | false => exact iteF (ob σ H' F' fp env E (R.ext E') (Post.mono E'.f q))
/-! ### names stored -/
def sSet (i : Nat) (fe : List C → Option D) : List C → Out := fun env => match fe env with | some d => .nx (env.set i (.val d)) | none => .err
theorem ds_set {x : Str} (i : Nat) (hN : X.N.Nodup) (hi : X.N[i]? = some x) (h : DE X G k e fe) (hx : Loc X.env.scope x := by first | exact .inl rfl | exact .inr rfl) (hk : k.le .fz = true := by rfl) (hs : swapsWith e (some (.Name x pos')) pos.line X.env = pure false := by rfl)
    (hf : X.fn x = true ∨ X.env.scope.names.lookup x = some .local := by first | exact .inl rfl | exact .inr rfl | assumption) : DS X G kr (.Assign [.Name x pos'] e pos) (sSet i fe) := by
  obtain ⟨t, p, o⟩ := (h.conv hk).ex
  refine ⟨_, ps_set hN hi hx p hs hf, fun σ H F fp env E R q => ?_⟩
  unfold sSet at q
  cases z : fe env with
  | none => rw [z] at q; exact q.elim
  | some d =>
    rw [z] at q
    refine o σ H F fp env d _ R z fun v H' F' E' r => ?_
    exact q _ H' F' _ ((R.ext E').put (i := i) (v := v) (c := .val d) (l := []) ⟨rfl, v, rfl, r⟩ (fun _ m => nomatch m) (fun _ m => nomatch m)) E'.f
def sSetL (i : Nat) (fe : List C → Option D) : List C → Out := fun env => match fe env with | some (.list ds) => .nx (env.set i (.lst ds)) | _ => .err
theorem Rel.putL {K : PySem.W.Frag} {env : List C} {σ : L2.St} {H F H' F' : Hp} {fp : Nat → List Addr} {v : V} {d : D} (R : Rel K G env σ H F fp) (E : Ext H F H' F') (i : Nat) (r : RepK K G .ow H H' F' v d) :
    ∃ ds a, d = .list ds ∧ Rel K G (env.set i (.lst ds)) (σ.set i (some v)) H' F' (fset fp i [a]) := by
  obtain ⟨a, vs, ds, rfl, rfl, h1, h2, h3, h4⟩ := r
  have R' := R.ext E
  refine ⟨ds, a, rfl, R'.put (c := .lst ds) ⟨a, vs, rfl, rfl, h2, h4⟩ (fun b hb => ?_) (fun b hb j hj hm => ?_)⟩
  · have e : b = a := List.mem_singleton.mp hb
    subst e
    exact ⟨h3, (by rw [h2]; intro z; cases z), R.h0 h1⟩
  · have e : b = a := List.mem_singleton.mp hb
    subst e
    exact (R.own j b hm).2.1 h1
theorem ds_setL {x : Str} (i : Nat) (hN : X.N.Nodup) (hi : X.N[i]? = some x) (h : DE X G .ow e fe) (hx : Loc X.env.scope x := by first | exact .inl rfl | exact .inr rfl) (hs : swapsWith e (some (.Name x pos')) pos.line X.env = pure false := by rfl)
    (hf : X.fn x = true ∨ X.env.scope.names.lookup x = some .local := by first | exact .inl rfl | exact .inr rfl | assumption) : DS X G kr (.Assign [.Name x pos'] e pos) (sSetL i fe) := by
  obtain ⟨t, p, o⟩ := h.ex
  refine ⟨_, ps_set hN hi hx p hs hf, fun σ H F fp env E R q => ?_⟩
  unfold sSetL at q
  cases z : fe env with
  | none => rw [z] at q; exact q.elim
  | some d =>
    rw [z] at q
    refine o σ H F fp env d _ R z fun v H' F' E' r => ?_
    obtain ⟨ds, a, rfl, R'⟩ := R.putL E' i r
    exact q _ H' F' _ R' E'.f
/-! ### op= -/
def sAug (i : Nat) (g : D → D → Option D) (fe : List C → Option D) : List C → Out := fun env => match env[i]? with
  | some (.val x) => (match fe env with | some y => (match g x y with | some z => .nx (env.set i (.val z)) | none => .err) | none => .err)
  | _ => .err
theorem ds_aug {x : Str} {op : Operator} {g : D → D → Option D} {kb : RK} (i : Nat) (hN : X.N.Nodup) (hi : X.N[i]? = some x) (og : DOp X G (inplaceOp op) .vl kb .fz g) (h : DE X G k e fe) (hx : Loc X.env.scope x := by first | exact .inl rfl | exact .inr rfl) (hk : k.le kb = true := by rfl) (hb : kb.arg = true := by rfl)
    (hf : X.fn x = true ∨ X.env.scope.names.lookup x = some .local := by first | exact .inl rfl | exact .inr rfl | assumption) : DS X G kr (.AugAssign (.Name x pos') op e pos) (sAug i g fe) := by
  obtain ⟨t, p, o⟩ := (h.conv hk).ex
  obtain ⟨r, or, o2⟩ := og.ex
  refine ⟨_, ps_aug (ti := fun x y H Q => LenOk X.K H → r x y H Q) hN hi hx p (opr_len or) hf, fun σ H F fp env E R q => ?_⟩
  unfold sAug at q
  split at q
  · rename_i dx ex
    cases z : fe env with
    | none => rw [z] at q; exact q.elim
    | some dy =>
      rw [z] at q
      cases z2 : g dx dy with
      | none => simp only [z2] at q; exact q.elim
      | some dz =>
        simp only [z2] at q
        obtain ⟨_, vx, e1, r1⟩ := R.slot i _ ex
        cases y : σ[i]? with
        | none => rw [y] at e1; cases e1
        | some w =>
          rw [y] at e1
          have e2 : w = some vx := e1
          subst e2
          refine ⟨vx, y, o σ H F fp env dy _ R z fun vy H1 F1 E1 ry hl => ?_⟩
          have kp1 := (R.ext E1).kpSame
          refine o2 H1 F1 vx vy dx dy dz _ E1.sub kp1 hl (.inl (DF_mono E1.f _ _ r1)) (repK_A hb ry) z2 fun v H' F' E2 rz => ?_
          exact q _ H' F' _ (((R.ext E1).ext E2).put (i := i) (v := v) (c := .val dz) (l := []) ⟨rfl, v, rfl, rz⟩ (fun _ m => nomatch m) (fun _ m => nomatch m)) (E1.f.trans E2.f)
  · exact q.elim
theorem a_addI : DOp X G (inplaceOp .Add) .vl .vl .fz gAddI := dop_int (r' := fun i j => .int (i + j)) (rI_of0 iop_add) (fun x y d h => by
  unfold gAddI at h; split at h <;> cases h; exact ⟨_, _, rfl, rfl, True.intro, rfl⟩) fun _ _ _ _ => .int _
theorem a_sub : DOp X G (inplaceOp .Sub) .vl .vl .fz gSub := dop_int (r' := fun i j => .int (i - j)) (rI_of0 iop_sub) (fun x y d h => by
  unfold gSub at h; split at h <;> cases h; exact ⟨_, _, rfl, rfl, True.intro, rfl⟩) fun _ _ _ _ => .int _
theorem a_addS : DOp X G (inplaceOp .Add) .vl .vl .fz gAddS := ⟨_, iop_add_str, fun H F vx vy dx dy d Q sub kp hl rx ry hd q => by
  unfold gAddS at hd
  split at hd
  · split at hd <;> cases hd
    have e1 := vl_str rx
    have e2 := vl_str ry
    subst e1 e2
    exact ⟨_, _, rfl, rfl, by assumption, q _ H F (Ext.refl sub) (.str _)⟩
  · cases hd⟩
/-! ### a list of one's own: append, items stored -/
def sApp (i : Nat) (fe : List C → Option D) : List C → Out := fun env => match env[i]? with
  | some (.lst ds) => (match fe env with | some d => if ds.length < 16000000 then .nx (env.set i (.lst (ds ++ [d]))) else .err | none => .err)
  | _ => .err
theorem slot_at {K : PySem.W.Frag} {env : List C} {σ : L2.St} {H F : Hp} {fp : Nat → List Addr} {i : Nat} {ds : List D} (R : Rel K G env σ H F fp) (e : env[i]? = some (.lst ds)) : ∃ a vs, fp i = [a] ∧ σ[i]? = some (some (.ref a)) ∧ H a = some (.lst vs) ∧ DFAll K F vs ds := by
  obtain ⟨a, vs, q1, q2, q3, q4⟩ := R.slot i _ e
  cases z : σ[i]? with
  | none => rw [z] at q2; cases q2
  | some o =>
    rw [z] at q2
    have e2 : o = some (.ref a) := q2
    subst e2
    exact ⟨a, vs, q1, rfl, q3, q4⟩
theorem ds_app {x : Str} {p1 p2 p3 : Pos} (i : Nat) (hv : PE X (.Name x p1) (tVar i)) (h : DE X G k e fe) (hk : k.le .fz = true := by rfl) (hs : starEach [e] X.env = [(false, eval e X.env)] := by rfl)
    (hbm : ∀ (r : V → List V → Hp → VK → Prop) (t : TA), MtM X "list.append" r → PA X [e] t → PE X (.Call (.Attribute (.Name x p1) "append" p2) [e] [] p3) (tBM X.K "list" r (tVar i) t) := by exact fun r t hm ha => pe_bm PySem.F.plainAttrs_list PySem.F.slot_list_append PySem.F.type_list_append hm (pv _) ha)
    (hsw : swapsWith (.Call (.Attribute (.Name x p1) "append" p2) [e] [] p3) none pos.line X.env = pure false := by rfl) : DS X G kr (.Expr (.Call (.Attribute (.Name x p1) "append" p2) [e] [] p3) pos) (sApp i fe) := by
  obtain ⟨t, p, o⟩ := (h.conv hk).ex
  refine ⟨_, ps_expr (hbm _ _ mt_append (pa_cons p pa_nil hs)) hsw, fun σ H F fp env E R q => ?_⟩
  unfold sApp at q
  split at q
  · rename_i ds e1
    cases z : fe env with
    | none => simp only [z] at q; exact q.elim
    | some d =>
      simp only [z] at q
      split at q
      · rename_i hlen
        obtain ⟨a, vs, q1, q2, q3, q4⟩ := slot_at R e1
        refine ⟨.ref a, q2, .inl ⟨rfl, _, .inl (.inl q3)⟩, ?_⟩
        refine o σ H F fp env d _ R z fun v H1 F1 E1 r => ?_
        have R1 := R.ext E1
        have q3' := E1.h _ _ q3
        refine ⟨a, vs, v, rfl, rfl, q3', ?_, ?_⟩
        · rw [DFAll_len q4, sizeLine_eq]; omega
        · exact q σ _ F1 fp (R1.write q1 e1 (c := .lst (ds ++ [d])) ⟨a, vs ++ [v], rfl, by rw [q2]; rfl, upd_same, DFAll_app (DFAll_mono E1.f _ _ q4) (.cons r .nil)⟩) E1.f
      · exact q.elim
  · exact q.elim
def setAt (ds : List D) (i : Int) (d : D) : Option (List D) := (ixN ds.length i).map fun j => ds.set j d
def sSetIx (i : Nat) (fi fe : List C → Option D) : List C → Out := fun env => match env[i]? with
  | some (.lst ds) => (match fe env with
    | some d => (match fi env with
      | some (.int j) => (match setAt ds j d with | some ds' => .nx (env.set i (.lst ds')) | none => .err)
      | _ => .err)
    | none => .err)
  | _ => .err
theorem ds_setIx {x : Str} {ei : Expr} {fi : List C → Option D} {k2 : RK} {p1 p2 : Pos} (i : Nat) (hv : PE X (.Name x p1) (tVar i)) (hi : DE X G k2 ei fi) (h : DE X G k e fe) (hk : k.le .fz = true := by rfl) (hk2 : k2.le .vl = true := by rfl)
    (ha : ∀ v, assign (.Subscript (.Name x p1) ei p2) X.env v = (do
      let ov ← holding [v] (eval (.Name x p1) X.env)
      let iv ← holding [v, ov] (eval ei X.env)
      standAt p2
      holding [v, ov, iv] (setItem ov iv v)
      release [v, ov, iv] []) := by intro _; rfl)
    (hs : swapsWithSole [.Subscript (.Name x p1) ei p2] e pos.line X.env = pure false := by rfl) (hw : swappedStores [.Subscript (.Name x p1) ei p2] e X.env = pure none := by rfl)
    (h1 : (assignEach [.Subscript (.Name x p1) ei p2] X.env).map (·.2) = [assign (.Subscript (.Name x p1) ei p2) X.env] := by rfl) : DS X G kr (.Assign [.Subscript (.Name x p1) ei p2] e pos) (sSetIx i fi fe) := by
  obtain ⟨t, p, o⟩ := (h.conv hk).ex
  obtain ⟨ti, pi, oi⟩ := (hi.conv hk2).ex
  refine ⟨_, ps_asg p (pg_sub hv pi set_list ha) hs hw h1, fun σ H F fp env E R q => ?_⟩
  unfold sSetIx at q
  split at q
  · rename_i ds e1
    cases z : fe env with
    | none => simp only [z] at q; exact q.elim
    | some d =>
      simp only [z] at q
      split at q
      · rename_i j ej
        split at q
        · rename_i ds' es
          obtain ⟨a, vs, q1, q2, q3, q4⟩ := slot_at R e1
          refine o σ H F fp env d _ R z fun v H1 F1 E1 r => ?_
          refine ⟨.ref a, q2, ?_⟩
          have R1 := R.ext E1
          refine oi σ H1 F1 fp env _ _ R1 ej fun vi H2 F2 E2 ri => ?_
          have ei := vl_int (G := G) (H := H2) (F := F2) ri
          subst ei
          have R2 := R1.ext E2
          unfold setAt at es
          cases y : ixN ds.length j with
          | none => rw [y] at es; cases es
          | some m =>
            rw [y] at es; cases es
            refine ⟨a, vs, j, m, rfl, rfl, E2.h _ _ (E1.h _ _ q3), by rw [DFAll_len q4]; exact y, ?_⟩
            exact q σ _ F2 fp (R2.write q1 e1 (c := .lst (ds.set m d)) ⟨a, vs.set m v, rfl, by rw [q2]; rfl, upd_same, DFAll_set m (DFAll_mono (E1.f.trans E2.f) _ _ q4) (DF_mono E2.f _ _ r)⟩) (E1.f.trans E2.f)
        · exact q.elim
      · exact q.elim
  · exact q.elim
end
end DL
set_option Elab.async false
set_option linter.all false
set_option maxRecDepth 100000
set_option maxHeartbeats 4000000
namespace DL
open PySem PySem.Spec L2

/-! ### the canonical readings -/
def tD (K : PySem.W.Frag) (G : GC) (k : RK) (f : List C → Option D) : TE := fun σ H Q => ∃ (F : Hp) (fp : Nat → List Addr) (env : List C) (d : D), Rel K G env σ H F fp ∧ f env = some d ∧ ∀ v H' F', Ext H F H' F' → RepK K G k H H' F' v d → Q v H'
def tDT (K : PySem.W.Frag) (G : GC) (f : List C → Option Bool) : TT := fun σ H Q => ∃ (F : Hp) (fp : Nat → List Addr) (env : List C) (b : Bool), Rel K G env σ H F fp ∧ f env = some b ∧ ∀ H' F', Ext H F H' F' → Q b H'
section
variable {X : Cx} {G : GC} {k : RK} {e : Expr} {f : List C → Option D} {ft : List C → Option Bool}
theorem DE.canon (h : DE X G k e f) : PE X e (tD X.K G k f) := by
  obtain ⟨t, p, o⟩ := h.ex
  exact ⟨fun pins s σ H Q I ⟨F, fp, env, d, R, hf, q⟩ => p.run pins s σ H Q I (o σ H F fp env d Q R hf q)⟩
theorem DE.of (h : PE X e (tD X.K G k f)) : DE X G k e f := ⟨_, h, fun σ H F fp env d Q R hf q => ⟨F, fp, env, d, R, hf, q⟩⟩
theorem DTs.canon (h : DTs X G e ft) : PT X e (tDT X.K G ft) := by
  obtain ⟨t, p, o⟩ := h.ex
  exact ⟨fun pins s σ H Q I ⟨F, fp, env, d, R, hf, q⟩ => p.run pins s σ H Q I (o σ H F fp env d Q R hf q)⟩
end

/-! ### targets -/
structure DG (X : Cx) (G : GC) (is : List Nat) (tg : Expr) (f : D → List C → Option (List C)) : Prop where
  ex : ∃ t, PG X tg t ∧ ∀ (σ : L2.St) (H F : Hp) (fp : Nat → List Addr) (env env' : List C) (v : V) (d : D) (Q : L2.St → Hp → Prop), Rel X.K G env σ H F fp → DF X.K F v d → f d env = some env' →
    (∀ σ' fp', Rel X.K G env' σ' H F fp' → (∀ vs, (∀ i, i ∈ is → i ∈ vs) → wipe σ' vs = wipe σ vs) → (∀ j a, a ∈ fp' j → a ∈ fp j) → Q σ' H) → t v σ H Q
structure DGs (X : Cx) (G : GC) (is : List Nat) (tgs : List Expr) (f : List D → List C → Option (List C)) : Prop where
  ex : ∃ t, PGs X tgs t ∧ ∀ (σ : L2.St) (H F : Hp) (fp : Nat → List Addr) (env env' : List C) (vs : List V) (ds : List D) (Q : L2.St → Hp → Prop), Rel X.K G env σ H F fp → DFAll X.K F vs ds → f ds env = some env' →
    (∀ σ' fp', Rel X.K G env' σ' H F fp' → (∀ vs, (∀ i, i ∈ is → i ∈ vs) → wipe σ' vs = wipe σ vs) → (∀ j a, a ∈ fp' j → a ∈ fp j) → Q σ' H) → t vs σ H Q
theorem wipe_set0 (σ : L2.St) (i : Nat) (x : Option V) : ∀ vs : List Nat, (wipe (σ.set i x) vs).set i none = (wipe σ vs).set i none
  | [] => by unfold wipe; rw [List.set_set]
  | v :: vs => by
    unfold wipe
    by_cases h : v = i
    · subst h; rw [List.set_set, List.set_set]; exact wipe_set0 σ v x vs
    · rw [List.set_comm _ _ h, wipe_set0 σ i x vs, List.set_comm _ _ (Ne.symm h)]
theorem wipe_set (σ : L2.St) (i : Nat) (x : Option V) : ∀ vs : List Nat, i ∈ vs → wipe (σ.set i x) vs = wipe σ vs
  | v :: vs, h => by
    unfold wipe
    by_cases e : v = i
    · subst e; exact wipe_set0 σ v x vs
    · rw [wipe_set σ i x vs (by
        rcases List.mem_cons.mp h with z | z
        · exact absurd z.symm e
        · exact z)]
section
variable {X : Cx} {G : GC} {tg : Expr} {tgs : List Expr} {pos : Pos}
def tgN (i : Nat) : D → List C → Option (List C) := fun d env => some (env.set i (.val d))
theorem dg_name {x : Str} (i : Nat) (hN : X.N.Nodup) (hi : X.N[i]? = some x) (hx : Loc X.env.scope x := by first | exact .inl rfl | exact .inr rfl) (hf : X.fn x = true ∨ X.env.scope.names.lookup x = some .local := by first | exact .inl rfl | exact .inr rfl | assumption) :
    DG X G [i] (.Name x pos) (tgN i) := by
  refine ⟨_, pg_name hN hi hx hf, fun σ H F fp env env' v d Q R r hf q => ?_⟩
  cases hf
  refine q _ _ (R.put (i := i) (v := v) (c := .val d) (l := []) ⟨rfl, v, rfl, r⟩ (fun _ m => nomatch m) (fun _ m => nomatch m)) (fun vs h => wipe_set σ i _ vs (h i (List.mem_singleton.mpr rfl))) (fun j a h => ?_)
  by_cases hj : j = i
  · subst hj; rw [fset_at] at h; cases h
  · rw [fset_ne hj] at h; exact h
def tgNil : List D → List C → Option (List C) := fun ds env => match ds with | [] => some env | _ => none
def tgCons (f : D → List C → Option (List C)) (g : List D → List C → Option (List C)) : List D → List C → Option (List C) := fun ds env => match ds with | d :: r => (f d env).bind (g r) | [] => none
theorem dgs_nil : DGs X G [] [] tgNil := by
  refine ⟨_, pgs_nil, fun σ H F fp env env' vs ds Q R r hf q => ?_⟩
  unfold tgNil at hf
  split at hf
  · cases hf; cases r
    exact ⟨rfl, q σ fp R (fun _ _ => rfl) fun _ _ h => h⟩
  · cases hf
theorem dgs_cons {is js : List Nat} {f : D → List C → Option (List C)} {g : List D → List C → Option (List C)} (h : DG X G is tg f) (h2 : DGs X G js tgs g)
    (hs : (assignEach (tg :: tgs) X.env).map (·.2) = assign tg X.env :: (assignEach tgs X.env).map (·.2) := by rfl) : DGs X G (is ++ js) (tg :: tgs) (tgCons f g) := by
  obtain ⟨t, p, o⟩ := h.ex
  obtain ⟨t2, p2, o2⟩ := h2.ex
  refine ⟨_, pgs_cons p p2 hs, fun σ H F fp env env' vs ds Q R r hf q => ?_⟩
  unfold tgCons at hf
  split at hf
  · rename_i d ds
    cases r with
    | cons r1 r2 =>
      cases z : f d env with
      | none => rw [z] at hf; cases hf
      | some env1 =>
        rw [z] at hf
        refine ⟨_, _, rfl, o σ H F fp env env1 _ d _ R r1 z fun σ1 fp1 R1 w1 s1 => ?_⟩
        exact o2 σ1 H F fp1 env1 env' _ ds _ R1 r2 hf fun σ2 fp2 R2 w2 s2 => q σ2 fp2 R2 (fun vs h => (w2 vs fun i hi => h i (List.mem_append_right _ hi)).trans (w1 vs fun i hi => h i (List.mem_append_left _ hi))) fun j a h => s1 j a (s2 j a h)
  · cases hf
def tgT (g : List D → List C → Option (List C)) : D → List C → Option (List C) := fun d env => match d with | .tuple ds => g ds env | _ => none
theorem dg_tup {is : List Nat} {g : List D → List C → Option (List C)} {kk : Nat} (hc : X.calm = true) (h : DGs X G is tgs g) {n : Nat} (hn : (assignEach tgs X.env).length = n := by rfl) (hl : ∀ ds env env', g ds env = some env' → ds.length = n)
    (hst : (assignEach tgs X.env).findIdx? (·.1) = none := by rfl) : DG X G is (.Tuple tgs kk pos) (tgT g) := by
  obtain ⟨t, p, o⟩ := h.ex
  refine ⟨_, pg_tup hc p hn hst, fun σ H F fp env env' v d Q R r hf q => ?_⟩
  unfold tgT at hf
  split at hf
  · cases r with
    | tup h1 h2 =>
      exact ⟨_, _, rfl, Same.seqT R.sub h1, (DFAll_len h2).trans (hl _ _ _ hf), o σ H F fp env env' _ _ Q R h2 hf q⟩
  · cases hf
theorem tgNil_len {ds : List D} {env env' : List C} (h : tgNil ds env = some env') : ds.length = 0 := by
  unfold tgNil at h; split at h
  · rfl
  · cases h
theorem tgCons_len {f : D → List C → Option (List C)} {g : List D → List C → Option (List C)} {n : Nat} (hg : ∀ ds env env', g ds env = some env' → ds.length = n) {ds : List D} {env env' : List C} (h : tgCons f g ds env = some env') : ds.length = n + 1 := by
  unfold tgCons at h; split at h
  · rename_i d r
    cases z : f d env with
    | none => rw [z] at h; cases h
    | some e => rw [z] at h; rw [List.length_cons, hg _ _ _ h]
  · cases h
/-- a target's store as a statement -/
def sAsg (f : D → List C → Option (List C)) (fe : List C → Option D) : List C → Out := fun env => match fe env with | some d => (match f d env with | some e => .nx e | none => .err) | none => .err
theorem ds_asg {is : List Nat} {kr k : RK} {e : Expr} {f : D → List C → Option (List C)} {fe : List C → Option D} (h : DE X G k e fe) (hg : DG X G is tg f) (hk : k.le .fz = true := by rfl) (hs : swapsWithSole [tg] e pos.line X.env = pure false := by rfl) (hw : swappedStores [tg] e X.env = pure none := by rfl)
    (h1 : (assignEach [tg] X.env).map (·.2) = [assign tg X.env] := by rfl) : DS X G kr (.Assign [tg] e pos) (sAsg f fe) := by
  obtain ⟨t, p, o⟩ := (h.conv hk).ex
  obtain ⟨t2, p2, o2⟩ := hg.ex
  refine ⟨_, ps_asg p p2 hs hw h1, fun σ H F fp env E R q => ?_⟩
  unfold sAsg at q
  cases z : fe env with
  | none => simp only [z] at q; exact q.elim
  | some d =>
    simp only [z] at q
    cases z2 : f d env with
    | none => simp only [z2] at q; exact q.elim
    | some e' =>
      simp only [z2] at q
      refine o σ H F fp env d _ R z fun v H1 F1 E1 r => ?_
      exact o2 σ H1 F1 fp env e' v d _ (R.ext E1) r z2 fun σ' fp' R' _ _ => q σ' H1 F1 fp' R' E1.f
/-- a, b = x, y -/
def sPar (i j : Nat) (fs : List C → Option (List D)) : List C → Out := fun env => match fs env with | some [x, y] => .nx ((env.set i (.val x)).set j (.val y)) | _ => .err
theorem ds_par {kr : RK} {x y : Str} {a b : Expr} {ks : List RK} {fs : List C → Option (List D)} {px py pt : Pos} {kt kk2 pt2} (i j : Nat) (hc : X.calm = true) (hN : X.N.Nodup) (hi : X.N[i]? = some x) (hj : X.N[j]? = some y) (ha : DA X G [.fz, .fz] [a, b] fs) (hij : i ≠ j := by decide)
    (hx : X.env.scope.names.lookup x = some .local := by rfl) (hy : X.env.scope.names.lookup y = some .local := by rfl)
    (hw : swappedStores [.Tuple [.Name x px, .Name y py] kt pt] (.Tuple [a, b] kk2 pt2) X.env = pure (some [x, y]) := by rfl)
    (hs : swapsWithSole [.Tuple [.Name x px, .Name y py] kt pt] (.Tuple [a, b] kk2 pt2) pos.line X.env = pure false := by rfl) :
    DS X G kr (.Assign [.Tuple [.Name x px, .Name y py] kt pt] (.Tuple [a, b] kk2 pt2) pos) (sPar i j fs) := by
  obtain ⟨t, p, o⟩ := ha.ex
  refine ⟨_, ps_par hc hN hi hj hij hx hy p hw hs, fun σ H F fp env E R q => ?_⟩
  unfold sPar at q
  split at q
  · rename_i dx dy z
    refine o σ H F fp env _ _ R z fun vs H1 F1 E1 r => ?_
    obtain ⟨v, d, v2, d2, rfl, e, r1, r2⟩ := rep2 r
    cases e
    refine ⟨v, v2, rfl, ?_⟩
    have R1 := (R.ext E1).put (i := i) (v := v) (c := .val dx) (l := []) ⟨rfl, v, rfl, r1⟩ (fun _ m => nomatch m) (fun _ m => nomatch m)
    exact q _ H1 F1 _ (R1.put (i := j) (v := v2) (c := .val dy) (l := []) ⟨rfl, v2, rfl, r2⟩ (fun _ m => nomatch m) (fun _ m => nomatch m)) E1.f
  · exact q.elim
end

/-! ### what is walked -/
theorem pi_len {X : Cx} {tg iter : Expr} {wi : TI} (h : PI X tg iter wi) : PI X tg iter (fun σ H R => wi σ H fun J H' => LenOk X.K H' → R J H') := ⟨fun pins s σ H R I q => thn (h.run pins s σ H _ I q) fun v s1 h1 => thn h1 fun itv s2 ⟨it, fp, tn, J, H', e, I', T, t0, f0, r⟩ => ⟨it, fp, tn, J, H', e, I', T, t0, f0, r fun a xs hx => by
  rcases hx with hx | hx
  · obtain ⟨_, _, _, z⟩ := I'.list hx
    exact z
  · obtain ⟨_, _, _, z⟩ := I'.tuple hx
    exact z⟩⟩
def Walk (K : PySem.W.Frag) (J : It) (items : List D) (F' : Hp) : Prop := ∀ (i : Nat) (H2 F2 : Hp), Same F' F2 → Same F2 H2 →
  (∀ d, items[i]? = some d → J.go i H2 ∧ ∀ x H3, J.yld i H2 x H3 → ∃ F3, Ext H2 F2 H3 F3 ∧ DF K F3 x d) ∧ (items.length ≤ i → J.stop i H2)
structure DI (X : Cx) (G : GC) (tg iter : Expr) (f : List C → Option (List D)) : Prop where
  ex : ∃ wi, PI X tg iter wi ∧ ∀ (σ : L2.St) (H F : Hp) (fp : Nat → List Addr) (env : List C) (items : List D) (R : It → Hp → Prop), Rel X.K G env σ H F fp → f env = some items →
    (∀ J H' F', Ext H F H' F' → Walk X.K J items F' → (LenOk X.K H' → items.length ≤ sizeLine) → R J H') → wi σ H R
section
variable {X : Cx} {G : GC} {tg iter e : Expr} {k : RK} {f : List C → Option D} {fs : List C → Option (List D)} {p pos : Pos} {ks : List RK}
theorem pi_or {wi wi' : TI} (h : PI X tg iter wi) (h' : PI X tg iter wi') : PI X tg iter (fun σ H R => wi σ H R ∨ wi' σ H R) := ⟨fun pins s σ H R I q => by
  rcases q with q | q
  · exact h.run pins s σ H R I q
  · exact h'.run pins s σ H R I q⟩
theorem list_inj {K : PySem.W.Frag} {H : Hp} {a : Addr} {vs ws : List V} (e : H a = some (.lst vs)) (h : Rd H a (.lst ws)) : ws = vs := by
  rcases h with h | ⟨o, h⟩
  · rw [e] at h; cases h; rfl
  · rw [e] at h; cases h
def iSeq (f : List C → Option D) : List C → Option (List D) := fun env => match f env with | some (.list ds) => some ds | some (.tuple ds) => some ds | _ => none
/-- tracked lists or tuples are what they are, where the written part has no object there -/
theorem di_seq (h : DE X G k e f) (hk : k.le .fz = true := by rfl) : DI X G tg e (iSeq f) := by
  obtain ⟨t, p, o⟩ := (h.conv hk).ex
  refine ⟨_, pi_or (pi_list p) (pi_tup p), fun σ H F fp env items R Rl hf q => ?_⟩
  unfold iSeq at hf
  split at hf
  · rename_i ds z
    cases hf
    left
    refine o σ H F fp env _ _ Rl z fun v H1 F1 E1 r => ?_
    cases r with
    | @lst a vs _ h1 h2 =>
      refine ⟨a, rfl, ⟨vs, .inl (.inl (E1.sub _ _ h1))⟩, q _ H1 F1 E1 (fun i H2 F2 s1 s2 => ⟨fun d hd => ?_, fun hl => ?_⟩) (fun ln => by rw [← DFAll_len h2]; exact ln a vs (.inl (.inl (.inl (E1.sub _ _ h1)))))⟩
      · have e2 : H2 a = some (.lst vs) := s2 _ _ (s1 _ _ h1)
        obtain ⟨v, hv, rv⟩ := DFAll_get h2 hd
        refine ⟨⟨vs, v, .inl (.inl e2), hv⟩, fun x H3 ⟨eH, y⟩ => ⟨F2, ?_, ?_⟩⟩
        · subst eH; exact Ext.refl s2
        · have e3 := y vs (.inl (.inl e2))
          rw [hv] at e3; cases e3
          exact DF_mono s1 _ _ rv
      · exact ⟨vs, .inl (.inl (s2 _ _ (s1 _ _ h1))), by rw [DFAll_len h2]; exact hl⟩
  · rename_i ds z
    cases hf
    right
    refine o σ H F fp env _ _ Rl z fun v H1 F1 E1 r => ?_
    cases r with
    | @tup a vs _ h1 h2 =>
      refine ⟨a, rfl, ⟨vs, Same.seqT E1.sub h1⟩, q _ H1 F1 E1 (fun i H2 F2 s1 s2 => ⟨fun d hd => ?_, fun hl => ?_⟩) (fun ln => by rw [← DFAll_len h2]; exact ln a vs (.inr (Same.seqT E1.sub h1)))⟩
      · have e2 : SqT X.K H2 a vs := Same.seqT (s1.trans s2) h1
        obtain ⟨v, hv, rv⟩ := DFAll_get h2 hd
        refine ⟨⟨vs, v, e2, hv⟩, fun x H3 ⟨eH, y⟩ => ⟨F2, ?_, ?_⟩⟩
        · subst eH; exact Ext.refl s2
        · have e3 := y vs e2
          rw [hv] at e3; cases e3
          exact DF_mono s1 _ _ rv
      · exact ⟨vs, Same.seqT (s1.trans s2) h1, by rw [DFAll_len h2]; exact hl⟩
  · cases hf
/-- range -/
def rng (lo : Int) (n : Nat) : List D := (List.range n).map fun i => .int (lo + (i : Nat))
theorem rng_len (lo : Int) (n : Nat) : (rng lo n).length = n := by unfold rng; rw [List.length_map, List.length_range]
theorem walk_rng {K : PySem.W.Frag} {F' : Hp} (lo : Int) (n : Nat) : Walk K (Itr lo n) (rng lo n) F' := fun i H2 F2 s1 s2 => by
  refine ⟨fun d hd => ?_, fun hl => by rw [rng_len] at hl; exact hl⟩
  have hi : i < n := by
    have := (List.getElem?_eq_some_iff.mp hd).1
    rw [rng_len] at this; exact this
  refine ⟨hi, fun x H3 ⟨e, ex⟩ => ⟨F2, by subst e; exact Ext.refl s2, ?_⟩⟩
  unfold rng at hd
  rw [List.getElem?_map, List.getElem?_range hi] at hd
  cases hd
  subst ex
  exact .int _
def iRng1F (f : List C → Option D) : List C → Option (List D) := fun env => match f env with | some (.int j) => if -(2 ^ 62) ≤ j ∧ j ≤ 16777216 then some (rng 0 j.toNat) else none | _ => none
theorem di_range1 (hg : Gl X "range") (hm : X.mg "range" = none) (h : DE X G k e f) (hk : k.le .vl = true := by rfl) (hs : starEach [e] X.env = [(false, eval e X.env)] := by rfl) : DI X G tg (.Call (.Name "range" p) [e] [] pos) (iRng1F f) := by
  obtain ⟨t, pt, o⟩ := (h.conv hk).ex
  refine ⟨_, pi_range1 hg hm (pa_cons pt pa_nil hs) hs, fun σ H F fp env items R Rl hf q => ?_⟩
  unfold iRng1F at hf
  split at hf
  · rename_i j z
    split at hf
    · cases hf
      rename_i hb
      refine o σ H F fp env _ _ Rl z fun v H1 F1 E1 r => ?_
      have ev := vl_int (G := G) (H := H1) (F := F1) r
      subst ev
      exact ⟨j, rfl, hb.1, by omega, q _ H1 F1 E1 (walk_rng 0 _) fun _ => by rw [rng_len, sizeLine_eq]; omega⟩
    · cases hf
  · cases hf
def iRng2F (f g : List C → Option D) : List C → Option (List D) := fun env => match f env with
  | some (.int i) => (match g env with | some (.int j) => if (-(2 ^ 62) ≤ i ∧ i < 2 ^ 62 ∧ -(2 ^ 62) ≤ j ∧ j < 2 ^ 62 ∧ j - i ≤ 16777216) then some (rng i (j - i).toNat) else none | _ => none)
  | _ => none
theorem di_range2 {e2 : Expr} {k2 : RK} {f2 : List C → Option D} (hg : Gl X "range") (hm : X.mg "range" = none) (h : DE X G k e f) (h2 : DE X G k2 e2 f2) (hk : k.le .vl = true := by rfl) (hk2 : k2.le .vl = true := by rfl)
    (hs : starEach [e, e2] X.env = [(false, eval e X.env), (false, eval e2 X.env)] := by rfl) (hs2 : starEach [e2] X.env = [(false, eval e2 X.env)] := by rfl) : DI X G tg (.Call (.Name "range" p) [e, e2] [] pos) (iRng2F f f2) := by
  obtain ⟨t, pt, o⟩ := (h.conv hk).ex
  obtain ⟨t2, pt2, o2⟩ := (h2.conv hk2).ex
  refine ⟨_, pi_range2 hg hm (pa_cons pt (pa_cons pt2 pa_nil hs2) (by rw [hs, hs2])) hs hs2, fun σ H F fp env items R Rl hf q => ?_⟩
  unfold iRng2F at hf
  split at hf
  · rename_i i z
    split at hf
    · rename_i j z2
      split at hf
      · cases hf
        rename_i hb
        refine o σ H F fp env _ _ Rl z fun v H1 F1 E1 r => ?_
        have ev := vl_int (G := G) (H := H1) (F := F1) r
        subst ev
        refine o2 σ H1 F1 fp env _ _ (Rl.ext E1) z2 fun v H2 F2 E2 r => ?_
        have ev := vl_int (G := G) (H := H2) (F := F2) r
        subst ev
        exact ⟨i, j, rfl, ⟨hb.1, hb.2.1, hb.2.2.1, hb.2.2.2.1⟩, q _ H2 F2 (E1.trans E2) (walk_rng i _) fun _ => by rw [rng_len, sizeLine_eq]; omega⟩
      · cases hf
    · cases hf
  · cases hf
/-- range with a step of -1 -/
def rngD (lo : Int) (n : Nat) : List D := (List.range n).map fun i => .int (lo - (i : Nat))
theorem rngD_len (lo : Int) (n : Nat) : (rngD lo n).length = n := by unfold rngD; rw [List.length_map, List.length_range]
def iRngD (f g h : List C → Option D) : List C → Option (List D) := fun env => match f env with
  | some (.int i) => (match g env with | some (.int j) => (match h env with | some (.int (-1)) => if (-(2 ^ 62) ≤ i ∧ i < 2 ^ 62 ∧ -(2 ^ 62) ≤ j ∧ j < 2 ^ 62 ∧ i - j ≤ 16777216) then some (rngD i (i - j).toNat) else none | _ => none) | _ => none)
  | _ => none
theorem di_rangeD {e2 e3 : Expr} {k2 k3 : RK} {f2 f3 : List C → Option D} (hg : Gl X "range") (hm : X.mg "range" = none) (h : DE X G k e f) (h2 : DE X G k2 e2 f2) (h3 : DE X G k3 e3 f3) (hk : k.le .vl = true := by rfl) (hk2 : k2.le .vl = true := by rfl) (hk3 : k3.le .vl = true := by rfl)
    (n1 : starEach [e, e2, e3] X.env = (false, eval e X.env) :: starEach [e2, e3] X.env := by rfl) (n2 : starEach [e2, e3] X.env = (false, eval e2 X.env) :: starEach [e3] X.env := by rfl) (n3 : starEach [e3] X.env = [(false, eval e3 X.env)] := by rfl)
    (pl : ∀ wi, (∀ ta, PA X [e, e2, e3] ta → PI X tg (.Call (.Name "range" p) [e, e2, e3] [] pos) (iRng3 ta)) → wi = True → True := by intros; trivial)
    (pr : ∀ ta, PA X [e, e2, e3] ta → PI X tg (.Call (.Name "range" p) [e, e2, e3] [] pos) (iRng3 ta) := by exact fun ta h => pi_range3 (by assumption) (by assumption) h) : DI X G tg (.Call (.Name "range" p) [e, e2, e3] [] pos) (iRngD f f2 f3) := by
  obtain ⟨t, pt, o⟩ := (h.conv hk).ex
  obtain ⟨t2, pt2, o2⟩ := (h2.conv hk2).ex
  obtain ⟨t3, pt3, o3⟩ := (h3.conv hk3).ex
  refine ⟨_, pr _ (pa_cons pt (pa_cons pt2 (pa_cons pt3 pa_nil n3) n2) n1), fun σ H F fp env items R Rl hf q => ?_⟩
  unfold iRngD at hf
  split at hf
  · rename_i i z
    split at hf
    · rename_i j z2
      split at hf
      · rename_i z3
        split at hf
        · cases hf
          rename_i hb
          refine o σ H F fp env _ _ Rl z fun v H1 F1 E1 r => ?_
          have ev := vl_int (G := G) (H := H1) (F := F1) r
          subst ev
          refine o2 σ H1 F1 fp env _ _ (Rl.ext E1) z2 fun v H2 F2 E2 r => ?_
          have ev := vl_int (G := G) (H := H2) (F := F2) r
          subst ev
          refine o3 σ H2 F2 fp env _ _ ((Rl.ext E1).ext E2) z3 fun v H3 F3 E3 r => ?_
          have ev := vl_int (G := G) (H := H3) (F := F3) r
          subst ev
          refine ⟨i, j, -1, (i - j).toNat, rfl, RgC.neg hb.1 hb.2.1 hb.2.2.1 hb.2.2.2.1, q _ H3 F3 ((E1.trans E2).trans E3) (fun m Hm Fm s1 s2 => ⟨fun d hd => ?_, fun hl => by rw [rngD_len] at hl; exact hl⟩) (fun _ => by rw [rngD_len, sizeLine_eq]; omega)⟩
          have hi : m < (i - j).toNat := by
            have := (List.getElem?_eq_some_iff.mp hd).1
            rw [rngD_len] at this; exact this
          refine ⟨hi, fun x H3 ⟨e, ex⟩ => ⟨Fm, by subst e; exact Ext.refl s2, ?_⟩⟩
          unfold rngD at hd
          rw [List.getElem?_map, List.getElem?_range hi] at hd
          cases hd
          subst ex
          have e9 : i + ((m : Nat) : Int) * -1 = i - (m : Nat) := by omega
          rw [e9]
          exact .int _
        · cases hf
      · cases hf
    · cases hf
  · cases hf
/-- a text, sign by sign -/
def iStrF (f : List C → Option D) : List C → Option (List D) := fun env => match f env with | some (.str z) => if z.length ≤ sizeLine then some (z.cps.toList.map fun c => .str ⟨#[c]⟩) else none | _ => none
theorem di_str (h : DE X G k e f) (hk : k.le .vl = true := by rfl) : DI X G tg e (iStrF f) := by
  obtain ⟨t, p, o⟩ := (h.conv hk).ex
  refine ⟨_, pi_str p, fun σ H F fp env items R Rl hf q => ?_⟩
  unfold iStrF at hf
  split at hf
  · rename_i z ez
    split at hf
    rotate_left
    · cases hf
    rename_i hz
    cases hf
    refine o σ H F fp env _ _ Rl ez fun v H1 F1 E1 r => ?_
    have ev := vl_str (G := G) (H := H1) (F := F1) r
    refine ⟨z, ev, q _ H1 F1 E1 (fun i H2 F2 s1 s2 => ⟨fun d hd => ?_, fun hl => ?_⟩) (fun _ => by rw [List.length_map, Array.length_toList]; exact hz)⟩
    · rw [List.getElem?_map] at hd
      cases y : z.cps.toList[i]? with
      | none => rw [y] at hd; cases hd
      | some c =>
        rw [y] at hd; cases hd
        have hi : i < z.cps.size := by
          have := (List.getElem?_eq_some_iff.mp y).1
          rw [Array.length_toList] at this; exact this
        refine ⟨hi, fun x H3 ⟨e, c', ec, ex⟩ => ⟨F2, by subst e; exact Ext.refl s2, ?_⟩⟩
        subst ex
        rw [← Array.getElem?_toList, y] at ec
        cases ec
        exact .str _
    · rw [List.length_map, Array.length_toList] at hl; exact hl
  · cases hf
/-- enumerate of a list -/
def enumD (ds : List D) : List D := (List.range ds.length).zipWith (fun i d => .tuple [.int (i : Nat), d]) ds
def iEnumF (f : List C → Option D) : List C → Option (List D) := fun env => match f env with | some (.list ds) => some (enumD ds) | _ => none
theorem enumD_get {ds : List D} {i : Nat} {x : D} (h : (enumD ds)[i]? = some x) : ∃ d, ds[i]? = some d ∧ x = .tuple [.int (i : Nat), d] := by
  unfold enumD at h
  rw [List.getElem?_zipWith] at h
  cases z : ds[i]? with
  | none =>
    rw [z] at h
    cases y : (List.range ds.length)[i]? <;> rw [y] at h <;> cases h
  | some d =>
    have hi := (List.getElem?_eq_some_iff.mp z).1
    rw [z, List.getElem?_range hi] at h
    cases h
    exact ⟨d, rfl, rfl⟩
theorem enumD_len (ds : List D) : (enumD ds).length = ds.length := by
  unfold enumD; rw [List.length_zipWith, List.length_range, Nat.min_self]
theorem pair_new {K : PySem.W.Frag} {H F : Hp} {T : Addr} {v w : V} {d1 d2 : D} (sub : Same F H) (nT : H T = none) (r1 : DF K F v d1) (r2 : DF K F w d2) : Ext H F (upd H T (.tup [v, w])) (upd F T (.tup [v, w])) ∧ DF K (upd F T (.tup [v, w])) (.ref T) (.tuple [d1, d2]) := by
  have m : Same F (upd F T (.tup [v, w])) := fun b x e => by rw [upd_ne (ne_of_none e (sub.free nT))]; exact e
  exact ⟨Ext.frozen sub nT, .tup (.inl (.inl upd_same)) (.cons (DF_mono m _ _ r1) (.cons (DF_mono m _ _ r2) .nil))⟩
theorem di_enum {elts : List Expr} {kk : Nat} {tpos : Pos} (hg : Gl X "enumerate") (hm : X.mg "enumerate" = none) (h : DE X G k e f) (hk : k.le .fz = true := by rfl) (hs : starEach [e] X.env = [(false, eval e X.env)] := by rfl) :
    DI X G (.Tuple elts kk tpos) (.Call (.Name "enumerate" p) [e] [] pos) (iEnumF f) := by
  obtain ⟨t, pt, o⟩ := (h.conv hk).ex
  refine ⟨_, pi_enum hg hm (pa_cons pt pa_nil hs) hs, fun σ H F fp env items R Rl hf q => ?_⟩
  unfold iEnumF at hf
  split at hf
  · rename_i ds z
    cases hf
    refine o σ H F fp env _ _ Rl z fun v H1 F1 E1 r => ?_
    cases r with
    | @lst a vs _ h1 h2 =>
      refine ⟨a, vs, rfl, .inl (.inl (E1.sub _ _ h1)), q _ H1 F1 E1 (fun i H2 F2 s1 s2 => ⟨fun d hd => ?_, fun hl => ?_⟩) (fun ln => by rw [enumD_len, ← DFAll_len h2]; exact ln a vs (.inl (.inl (.inl (E1.sub _ _ h1)))))⟩
      · have e2 : H2 a = some (.lst vs) := s2 _ _ (s1 _ _ h1)
        obtain ⟨d', hd', rfl⟩ := enumD_get hd
        obtain ⟨v, hv, rv⟩ := DFAll_get h2 hd'
        refine ⟨⟨vs, v, .inl (.inl e2), hv⟩, fun x H3 ⟨T, x', ex, nT, eH, y⟩ => ?_⟩
        have e3 := y vs (.inl (.inl e2))
        rw [hv] at e3; cases e3
        subst ex eH
        obtain ⟨E, r'⟩ := pair_new s2 nT (.int (i : Nat)) (DF_mono s1 _ _ rv)
        exact ⟨_, E, r'⟩
      · rw [enumD_len] at hl
        exact ⟨vs, .inl (.inl (s2 _ _ (s1 _ _ h1))), by rw [DFAll_len h2]; exact hl⟩
  · cases hf
/-- zip of two lists, of two tuples -/
def zipD : List D → List D → List D := List.zipWith fun x y => .tuple [x, y]
def iZipF (f g : List C → Option D) : List C → Option (List D) := fun env => match f env with
  | some (.list xs) => (match g env with | some (.list ys) => some (zipD xs ys) | _ => none)
  | some (.tuple xs) => (match g env with | some (.tuple ys) => some (zipD xs ys) | _ => none)
  | _ => none
theorem zipD_get {xs ys : List D} {i : Nat} {x : D} (h : (zipD xs ys)[i]? = some x) : ∃ a b, xs[i]? = some a ∧ ys[i]? = some b ∧ x = .tuple [a, b] := by
  unfold zipD at h
  rw [List.getElem?_zipWith] at h
  cases z : xs[i]? with
  | none => rw [z] at h; cases h
  | some a =>
    cases y : ys[i]? with
    | none => rw [z, y] at h; cases h
    | some b => rw [z, y] at h; cases h; exact ⟨a, b, rfl, rfl, rfl⟩
theorem zipD_len (xs ys : List D) : (zipD xs ys).length = min xs.length ys.length := List.length_zipWith
end
end DL
set_option Elab.async false
set_option linter.all false
set_option maxRecDepth 100000
set_option maxHeartbeats 4000000
namespace DL
open PySem PySem.Spec L2

section
variable {X : Cx} {G : GC} {tg iter e e2 elt : Expr} {k k2 kr : RK} {f f2 fe : List C → Option D} {fs : List C → Option (List D)} {p pos : Pos} {body : List Stmt} {fb : List C → Out} {ft : List C → Option Bool}
theorem di_zip {elts : List Expr} {kk : Nat} {tpos : Pos} (hg : Gl X "zip") (hm : X.mg "zip" = none) (h : DE X G k e f) (h2 : DE X G k2 e2 f2) (hk : k.le .fz = true := by rfl) (hk2 : k2.le .fz = true := by rfl)
    (hs : starEach [e, e2] X.env = (false, eval e X.env) :: starEach [e2] X.env := by rfl) (hs2 : starEach [e2] X.env = [(false, eval e2 X.env)] := by rfl) (hpl : (backTo pos (starEach [e2] X.env)).any (·.1) = false := by rfl) :
    DI X G (.Tuple elts kk tpos) (.Call (.Name "zip" p) [e, e2] [] pos) (iZipF f f2) := by
  obtain ⟨t, pt, o⟩ := (h.conv hk).ex
  obtain ⟨t2, pt2, o2⟩ := (h2.conv hk2).ex
  refine ⟨_, RZ.pi_zipA hg hm (pa_cons pt (pa_cons pt2 pa_nil hs2) hs) hs hpl, fun σ H F fp env items R Rl hf q => ?_⟩
  unfold iZipF at hf
  split at hf
  · rename_i xs z
    split at hf
    · rename_i ys z2
      cases hf
      refine o σ H F fp env _ _ Rl z fun v H1 F1 E1 r => ?_
      refine o2 σ H1 F1 fp env _ _ (Rl.ext E1) z2 fun v2 H2 F2 E2 r2 => ?_
      cases DF_mono E2.f _ _ r with
      | @lst a vs _ h1 h2 =>
        cases r2 with
        | @lst b ws _ h3 h4 =>
          refine ⟨a, b, vs, ws, rfl, .inl ⟨.inl (.inl (E2.sub _ _ h1)), .inl (.inl (E2.sub _ _ h3)), q _ H2 F2 (E1.trans E2) (fun i H3 F3 s1 s2 => ⟨fun d hd => ?_, fun hl => ?_⟩) (fun ln => by have z9 := ln a vs (.inl (.inl (.inl (E2.sub _ _ h1)))); rw [DFAll_len h2] at z9; rw [zipD_len]; omega)⟩⟩
          · obtain ⟨d1, d2, g1, g2, rfl⟩ := zipD_get hd
            obtain ⟨v, hv, rv⟩ := DFAll_get h2 g1
            obtain ⟨w, hw, rw'⟩ := DFAll_get h4 g2
            have ea : SqL X.K H3 a vs := .inl (.inl (s2 _ _ (s1 _ _ h1)))
            have eb : SqL X.K H3 b ws := .inl (.inl (s2 _ _ (s1 _ _ h3)))
            refine ⟨⟨vs, ws, v, w, ea, eb, hv, hw⟩, fun x H4 ⟨T, x1, x2, ex, nT, eH, y1, y2⟩ => ?_⟩
            have z1 := y1 vs ea; rw [hv] at z1; cases z1
            have z2 := y2 ws eb; rw [hw] at z2; cases z2
            subst ex eH
            obtain ⟨E, r'⟩ := pair_new s2 nT (DF_mono s1 _ _ rv) (DF_mono s1 _ _ rw')
            exact ⟨_, E, r'⟩
          · rw [zipD_len] at hl
            refine ⟨vs, ws, .inl (.inl (s2 _ _ (s1 _ _ h1))), .inl (.inl (s2 _ _ (s1 _ _ h3))), ?_⟩
            rw [DFAll_len h2, DFAll_len h4]; omega
    · cases hf
  · rename_i xs z
    split at hf
    · rename_i ys z2
      cases hf
      refine o σ H F fp env _ _ Rl z fun v H1 F1 E1 r => ?_
      refine o2 σ H1 F1 fp env _ _ (Rl.ext E1) z2 fun v2 H2 F2 E2 r2 => ?_
      cases DF_mono E2.f _ _ r with
      | @tup a vs _ h1 h2 =>
        cases r2 with
        | @tup b ws _ h3 h4 =>
          refine ⟨a, b, vs, ws, rfl, .inr ⟨Same.seqT E2.sub h1, Same.seqT E2.sub h3, q _ H2 F2 (E1.trans E2) (fun i H3 F3 s1 s2 => ⟨fun d hd => ?_, fun hl => ?_⟩) (fun ln => by have z9 := ln a vs (.inr (Same.seqT E2.sub h1)); rw [DFAll_len h2] at z9; rw [zipD_len]; omega)⟩⟩
          · obtain ⟨d1, d2, g1, g2, rfl⟩ := zipD_get hd
            obtain ⟨v, hv, rv⟩ := DFAll_get h2 g1
            obtain ⟨w, hw, rw'⟩ := DFAll_get h4 g2
            have ea : SqT X.K H3 a vs := Same.seqT (s1.trans s2) h1
            have eb : SqT X.K H3 b ws := Same.seqT (s1.trans s2) h3
            refine ⟨⟨vs, ws, v, w, ea, eb, hv, hw⟩, fun x H4 ⟨T, x1, x2, ex, nT, eH, y1, y2⟩ => ?_⟩
            have z1 := y1 vs ea; rw [hv] at z1; cases z1
            have z2 := y2 ws eb; rw [hw] at z2; cases z2
            subst ex eH
            obtain ⟨E, r'⟩ := pair_new s2 nT (DF_mono s1 _ _ rv) (DF_mono s1 _ _ rw')
            exact ⟨_, E, r'⟩
          · rw [zipD_len] at hl
            refine ⟨vs, ws, Same.seqT (s1.trans s2) h1, Same.seqT (s1.trans s2) h3, ?_⟩
            rw [DFAll_len h2, DFAll_len h4]; omega
    · cases hf
  · cases hf

/-! ### for -/
def forF (g : D → List C → Option (List C)) (b : List C → Out) : List D → List C → Out
  | [], env => .nx env
  | d :: ds, env => match g d env with
    | none => .err
    | some e => match b e with
      | .nx e' => forF g b ds e'
      | .ct e' => forF g b ds e'
      | .bk e' => .nx e'
      | .rt d => .rt d
      | .err => .err
      | .rx e t => .rx e t
def sFor (fi : List C → Option (List D)) (g : D → List C → Option (List C)) (b : List C → Out) : List C → Out := fun env => match fi env with | some items => forF g b items env | none => .err
theorem ds_for {is : List Nat} {fi : List C → Option (List D)} {g : D → List C → Option (List C)} (hp : PassesOwn (model X.prog X.w) X.A X.env X.xe) (hc : X.calm = true) (hi : DI X G tg iter fi) (hg : DG X G is tg g) (hb : DSs X G kr body fb)
    (hs : ∀ x, foldedSetIterable iter X.env x = pure x := by intro _; rfl) : DS X G kr (.For tg iter body [] pos) (sFor fi g fb) := by
  obtain ⟨wi, pw, ow⟩ := hi.ex
  obtain ⟨tg', pg, og⟩ := hg.ex
  obtain ⟨tb, pb, ob⟩ := hb.ex
  refine ⟨_, ps_for hp hc pw pg pb hs, fun σ H F fp env E R q => ?_⟩
  unfold sFor at q
  cases z : fi env with
  | none => rw [z] at q; exact q.elim
  | some items =>
    rw [z] at q
    refine ow σ H F fp env items _ R z fun J H1 F1 E1 wk _ => ?_
    refine ⟨fun i m σ H => m = items.length - i ∧ i ≤ items.length ∧ ∃ env fp F, Rel X.K G env σ H F fp ∧ Same F1 F ∧ Post X.K G kr F E (forF g fb (items.drop i) env), ⟨items.length, by simp, Nat.zero_le _, env, fp, F1, R.ext E1, Same.refl _, Post.mono E1.f (by rw [List.drop_zero]; exact q)⟩, ?_⟩
    rintro i m σ2 H2 ⟨rfl, hi, env2, fp2, F2, R2, s2, q2⟩
    obtain ⟨w1, w2⟩ := wk i H2 F2 s2 R2.sub
    by_cases hlt : i < items.length
    · right
      obtain ⟨d, hd⟩ : ∃ d, items[i]? = some d := ⟨items[i], List.getElem?_eq_getElem hlt⟩
      obtain ⟨go, y⟩ := w1 d hd
      have ed : items.drop i = d :: items.drop (i + 1) := by
        rw [List.drop_eq_getElem_cons hlt]
        rw [List.getElem?_eq_getElem hlt] at hd; cases hd; rfl
      rw [ed] at q2
      unfold forF at q2
      refine ⟨go, fun σ' H' => ∃ env' fp' F', Rel X.K G env' σ' H' F' fp' ∧ Same F1 F' ∧ Post X.K G kr F' E (forF g fb (items.drop (i + 1)) env'), fun σ' H' n => ⟨items.length - (i + 1), by omega, rfl, hlt, n⟩, fun x H3 yl => ?_⟩
      obtain ⟨F3, E3, r3⟩ := y x H3 yl
      have R3 := R2.ext E3
      cases z2 : g d env2 with
      | none => simp only [z2] at q2; exact q2.elim
      | some e' =>
        simp only [z2] at q2
        refine og σ2 H3 F3 fp2 env2 e' x d _ R3 r3 z2 fun σ4 fp4 R4 _ _ => ?_
        refine ob σ4 H3 F3 fp4 e' _ R4 ?_
        cases z3 : fb e' with
        | nx e'' =>
          simp only [z3] at q2
          exact fun σ5 H5 F5 fp5 R5 s5 => ⟨e'', fp5, F5, R5, (s2.trans E3.f).trans s5, Post.mono (E3.f.trans s5) q2⟩
        | ct e'' =>
          simp only [z3] at q2
          exact fun σ5 H5 F5 fp5 R5 s5 => ⟨e'', fp5, F5, R5, (s2.trans E3.f).trans s5, Post.mono (E3.f.trans s5) q2⟩
        | bk e'' =>
          simp only [z3] at q2
          exact fun σ5 H5 F5 fp5 R5 s5 => q2 σ5 H5 F5 fp5 R5 (E3.f.trans s5)
        | rt d' => simp only [z3] at q2; exact q2
        | err => simp only [z3] at q2; exact q2
        | rx _ _ => simp only [z3] at q2; exact q2
    · left
      have ei : i = items.length := by omega
      subst ei
      rw [List.drop_length] at q2
      exact ⟨w2 (Nat.le_refl _), q2 σ2 H2 F2 fp2 R2 (Same.refl _)⟩
/-! ### while, so many turns at most -/
def whileF (c : List C → Option Bool) (b : List C → Out) : Nat → List C → Out
  | 0, _ => .err
  | n + 1, env => match c env with
    | none => .err
    | some false => .nx env
    | some true => match b env with
      | .nx e' => whileF c b n e'
      | .ct e' => whileF c b n e'
      | .bk e' => .nx e'
      | .rt d => .rt d
      | .err => .err
      | .rx e t => .rx e t
def sWhile (fuel : List C → Nat) (c : List C → Option Bool) (b : List C → Out) : List C → Out := fun env => whileF c b (fuel env) env
theorem ds_while (fuel : List C → Nat) (hp : PassesOwn (model X.prog X.w) X.A X.env X.xe) (hc : DTs X G e ft) (hb : DSs X G kr body fb) : DS X G kr (.While e body [] pos) (sWhile fuel ft fb) := by
  obtain ⟨tc, pc, oc⟩ := hc.ex
  obtain ⟨tb, pb, ob⟩ := hb.ex
  refine ⟨_, ps_while hp pc pb, fun σ H F fp env E R q => ?_⟩
  unfold sWhile at q
  refine ⟨fun m σ H => ∃ env fp F, Rel X.K G env σ H F fp ∧ Post X.K G kr F E (whileF ft fb m env), ⟨fuel env, env, fp, F, R, q⟩, ?_⟩
  rintro m σ2 H2 ⟨env2, fp2, F2, R2, q2⟩
  cases m with
  | zero => exact q2.elim
  | succ m =>
    unfold whileF at q2
    cases z : ft env2 with
    | none => simp only [z] at q2; exact q2.elim
    | some b =>
      refine oc σ2 H2 F2 fp2 env2 b _ R2 z fun H3 F3 E3 => ?_
      have R3 := R2.ext E3
      cases b with
      | false =>
        simp only [z] at q2
        exact iteF (q2 σ2 H3 F3 fp2 R3 E3.f)
      | true =>
        simp only [z] at q2
        refine iteT ⟨fun σ' H' => ∃ env' fp' F', Rel X.K G env' σ' H' F' fp' ∧ Post X.K G kr F' E (whileF ft fb m env'), fun σ' H' n => ⟨m, Nat.lt_succ_self m, n⟩, ?_⟩
        refine ob σ2 H3 F3 fp2 env2 _ R3 ?_
        cases z3 : fb env2 with
        | nx e'' =>
          simp only [z3] at q2
          exact fun σ5 H5 F5 fp5 R5 s5 => ⟨e'', fp5, F5, R5, Post.mono (E3.f.trans s5) q2⟩
        | ct e'' =>
          simp only [z3] at q2
          exact fun σ5 H5 F5 fp5 R5 s5 => ⟨e'', fp5, F5, R5, Post.mono (E3.f.trans s5) q2⟩
        | bk e'' =>
          simp only [z3] at q2
          exact fun σ5 H5 F5 fp5 R5 s5 => q2 σ5 H5 F5 fp5 R5 (E3.f.trans s5)
        | rt d' => simp only [z3] at q2; exact q2
        | err => simp only [z3] at q2; exact q2
        | rx _ _ => simp only [z3] at q2; exact q2

/-! ### comprehensions -/
def wipeE (env : List C) : List Nat → List C
  | [] => env
  | v :: vs => (wipeE env vs).set v .und
theorem Rel.drop2 {K : PySem.W.Frag} {env : List C} {σ : L2.St} {H F : Hp} {fp : Nat → List Addr} (R : Rel K G env σ H F fp) (i : Nat) : Rel K G (env.set i .und) (σ.set i none) H F (fset fp i []) where
  len := by rw [List.length_set, List.length_set]; exact R.len
  slot := fun j c' e => by
    by_cases hj : j = i
    · subst hj
      rw [fset_at]
      by_cases hl : j < env.length
      · rw [List.getElem?_set_self hl] at e; cases e; rfl
      · rw [List.getElem?_eq_none (by rw [List.length_set]; omega)] at e; cases e
    · rw [List.getElem?_set_ne (Ne.symm hj)] at e
      rw [fset_ne hj, List.getElem?_set_ne (Ne.symm hj)]
      exact R.slot j c' e
  dj := (R.drop i).dj
  own := (R.drop i).own
  sub := R.sub
  new := R.new
  old := R.old
  keep := R.keep
  alive := R.alive
theorem Rel.wiped {K : PySem.W.Frag} {env : List C} {σ : L2.St} {H F : Hp} {fp : Nat → List Addr} (R : Rel K G env σ H F fp) : ∀ vs : List Nat, ∃ fp', Rel K G (wipeE env vs) (wipe σ vs) H F fp' ∧ ∀ j a, a ∈ fp' j → a ∈ fp j
  | [] => ⟨fp, R, fun _ _ h => h⟩
  | v :: vs => by
    obtain ⟨fp', R', s⟩ := R.wiped vs
    refine ⟨_, R'.drop2 v, fun j a h => ?_⟩
    by_cases hj : j = v
    · subst hj; rw [fset_at] at h; cases h
    · rw [fset_ne hj] at h; exact s j a h
/-- an object that is neither frozen nor a slot's is written -/
theorem Rel.updD {K : PySem.W.Frag} {env : List C} {σ : L2.St} {H F : Hp} {fp : Nat → List Addr} {p : Addr} {o : HO} (R : Rel K G env σ H F fp) (hp : ∀ j, p ∉ fp j) (hF : F p = none) (h0 : G.H0 p = none) : Rel K G env σ (upd H p o) F fp where
  len := R.len
  slot := fun j c' e => by
    have q := R.slot j c' e
    have na : ∀ b, fp j = [b] → b ≠ p := fun b z y => hp j (by rw [z, y]; exact List.mem_singleton.mpr rfl)
    cases c' with
    | ro b t => exact q
    | pin _ => exact q
    | own m t => obtain ⟨v, q1, q2, q3⟩ := q; exact ⟨v, q1, OR_mono (Same.refl _) _ _ _ (fun b o hb e => by rw [upd_ne (fun z => hp j (by rw [← z]; exact hb))]; exact e) q2, q3⟩
    | und => exact q
    | val d => exact q
    | brw d => exact q
    | lst ds => obtain ⟨b, vs, q1, q2, q3, q4⟩ := q; exact ⟨b, vs, q1, q2, by rw [upd_ne (na b q1)]; exact q3, q4⟩
    | dK ds => obtain ⟨b, vs, q1, q2, q3, q4⟩ := q; exact ⟨b, vs, q1, q2, by rw [upd_ne (na b q1)]; exact q3, q4⟩
    | dT ds => obtain ⟨b, vs, q1, q2, q3, q4⟩ := q; exact ⟨b, vs, q1, q2, by rw [upd_ne (na b q1)]; exact q3, q4⟩
    | dN ds => obtain ⟨b, w, xs, q1, q2, q5, q3, q4⟩ := q; exact ⟨b, w, xs, q1, q2, q5, by rw [upd_ne (na b q1)]; exact q3, q4⟩
  dj := R.dj
  own := fun j b hb => by
    obtain ⟨g1, g2, g3⟩ := R.own j b hb
    refine ⟨g1, ?_, g3⟩
    by_cases hb' : b = p
    · rw [hb', upd_same]; intro z; cases z
    · rw [upd_ne hb']; exact g2
  sub := fun b u e => by rw [upd_ne (fun z => by rw [z, hF] at e; cases e)]; exact R.sub b u e
  new := R.new
  old := R.old
  keep := fun b u e hw => by
    rw [upd_ne (fun z => by rw [z, h0] at e; cases e)]; exact R.keep b u e hw
  alive := fun b e => by
    by_cases hb' : b = p
    · rw [hb', upd_same]; intro z; cases z
    · rw [upd_ne hb']; exact R.alive b e
theorem wipe_wipe (σ : L2.St) : ∀ vs : List Nat, wipe (wipe σ vs) vs = wipe σ vs
  | [] => rfl
  | v :: vs => by
    show (wipe ((wipe σ vs).set v none) vs).set v none = (wipe σ vs).set v none
    rw [wipe_set0, wipe_wipe σ vs]
def lcF (g : D → List C → Option (List C)) (tt : List C → Option Bool) (fe : List C → Option D) (env : List C) : List D → Option (List D)
  | [] => some []
  | d :: ds => (g d env).bind fun e => (tt e).bind fun b => if b = true then (fe e).bind fun y => (lcF g tt fe env ds).map (y :: ·) else lcF g tt fe env ds
def eLc (vs : List Nat) (fi : List C → Option (List D)) (g : D → List C → Option (List C)) (tt : List C → Option Bool) (fe : List C → Option D) : List C → Option D := fun env => (fi env).bind fun items => (lcF g tt fe (wipeE env vs) items).map .list
def tgD (K : PySem.W.Frag) (G : GC) (is : List Nat) (f : D → List C → Option (List C)) : TG := fun v σ H Q => ∃ (F : Hp) (fp : Nat → List Addr) (env env' : List C) (d : D), Rel K G env σ H F fp ∧ DF K F v d ∧ f d env = some env' ∧
  ∀ σ' fp', Rel K G env' σ' H F fp' → (∀ vs, (∀ i, i ∈ is → i ∈ vs) → wipe σ' vs = wipe σ vs) → (∀ j a, a ∈ fp' j → a ∈ fp j) → Q σ' H
theorem DG.canon {is : List Nat} {f : D → List C → Option (List C)} (h : DG X G is tg f) : PG X tg (tgD X.K G is f) := by
  obtain ⟨t, p, o⟩ := h.ex
  exact ⟨fun pins s σ H v u Q I r ⟨F, fp, env, env', d, R, rd, hf, q⟩ => p.run pins s σ H v u Q I r (o σ H F fp env env' v d Q R rd hf q)⟩
/-- no test, or one -/
structure DIf (X : Cx) (G : GC) (ifs : List Expr) (f : List C → Option Bool) : Prop where
  run : PTs X ifs (tDT X.K G f)
theorem dif_nil : DIf X G [] (fun _ => some true) := ⟨⟨fun pins s σ H Q I ⟨F, fp, env, b, R, hf, q⟩ => pts_nil.run pins s σ H Q I (by cases hf; exact q H F (Ext.refl R.sub))⟩⟩
theorem dif_one {c : Expr} (h : DTs X G c ft) : DIf X G [c] ft := ⟨pts_one h.canon⟩
theorem lc_ok {wi : TI} {is vs : List Nat} {fi : List C → Option (List D)} {g : D → List C → Option (List C)} (ow : ∀ (σ : L2.St) (H F : Hp) (fp : Nat → List Addr) (env : List C) (items : List D) (R : It → Hp → Prop), Rel X.K G env σ H F fp → fi env = some items →
    (∀ J H' F', Ext H F H' F' → Walk X.K J items F' → (LenOk X.K H' → items.length ≤ sizeLine) → R J H') → wi σ H R) (hi : ∀ i, i ∈ is → i ∈ vs) {σ : L2.St} {H F : Hp} {fp : Nat → List Addr} {env : List C} {d : D} {Q : VK} (R : Rel X.K G env σ H F fp) (hf : eLc vs fi g ft fe env = some d)
    (q : ∀ v H' F', Ext H F H' F' → RepK X.K G .ow H H' F' v d → Q v H') : tLc (fun σ H R => wi σ H fun J H' => LenOk X.K H' → R J H') (tgD X.K G is g) (tDT X.K G ft) (tD X.K G .fz fe) vs σ H Q := by
  unfold eLc at hf
  cases z : fi env with
  | none => rw [z] at hf; cases hf
  | some items =>
    rw [z] at hf
    cases z2 : lcF g ft fe (wipeE env vs) items with
    | none =>
      rw [show (some items : Option (List D)).bind (fun items => (lcF g ft fe (wipeE env vs) items).map PyData.list) = (lcF g ft fe (wipeE env vs) items).map PyData.list from rfl, z2] at hf
      cases hf
    | some res =>
      rw [show (some items : Option (List D)).bind (fun items => (lcF g ft fe (wipeE env vs) items).map PyData.list) = (lcF g ft fe (wipeE env vs) items).map PyData.list from rfl, z2] at hf
      cases hf
      refine ow σ H F fp env items _ R z fun J H1 F1 E1 wk lnw ln p np => ?_
      have hline := lnw ln
      have R1 := R.ext E1
      obtain ⟨fpw, Rw, sw⟩ := R1.wiped vs
      have pfp : ∀ j, p ∉ fpw j := fun j hm => (Rw.own j p hm).2.1 np
      have h0p : G.H0 p = none := R1.h0 np
      have f1p : F1 p = none := R1.sub.free np
      refine ⟨fun i m Hc => m = items.length - i ∧ i ≤ items.length ∧ ∃ Fc acc vs' rest, Rel X.K G (wipeE env vs) (wipe σ vs) Hc Fc fpw ∧ Same H1 Hc ∧ Same F1 Fc ∧ (∀ a o, Fc a = some o → F1 a = some o ∨ H1 a = none) ∧ Hc p = some (.lst vs') ∧ Fc p = none ∧ DFAll X.K Fc vs' acc ∧ lcF g ft fe (wipeE env vs) (items.drop i) = some rest ∧ acc ++ rest = res ∧ acc.length + rest.length ≤ i + rest.length ∧ vs'.length ≤ i,
        ⟨items.length, by simp, Nat.zero_le _, F1, [], [], res, Rw.updD pfp f1p h0p, fun b x e => by rw [upd_ne (ne_of_none e np)]; exact e, Same.refl _, fun _ _ e => .inl e, upd_same, f1p, .nil, by rw [List.drop_zero]; exact z2, rfl, by simp, Nat.le_refl _⟩, ?_⟩
      rintro i m Hc ⟨rfl, hile, Fc, acc, vs', rest, Rc, sH, sF, nF, hp, fpn, dacc, hrest, hres, hle, hvl⟩
      obtain ⟨w1, w2⟩ := wk i Hc Fc sF Rc.sub
      by_cases hlt : i < items.length
      · right
        obtain ⟨dd, hd⟩ : ∃ d, items[i]? = some d := ⟨items[i], List.getElem?_eq_getElem hlt⟩
        obtain ⟨go, y⟩ := w1 dd hd
        have ed : items.drop i = dd :: items.drop (i + 1) := by
          rw [List.drop_eq_getElem_cons hlt]
          rw [List.getElem?_eq_getElem hlt] at hd; cases hd; rfl
        rw [ed] at hrest
        unfold lcF at hrest
        cases z3 : g dd (wipeE env vs) with
        | none => rw [z3] at hrest; cases hrest
        | some e' =>
          rw [z3] at hrest
          have hrest : ((ft e').bind fun b => if b = true then (fe e').bind fun y => (lcF g ft fe (wipeE env vs) (items.drop (i + 1))).map (y :: ·) else lcF g ft fe (wipeE env vs) (items.drop (i + 1))) = some rest := hrest
          cases z4 : ft e' with
          | none => rw [z4] at hrest; cases hrest
          | some b =>
            rw [z4] at hrest
            have hrest : (if b = true then (fe e').bind fun y => (lcF g ft fe (wipeE env vs) (items.drop (i + 1))).map (y :: ·) else lcF g ft fe (wipeE env vs) (items.drop (i + 1))) = some rest := hrest
            refine ⟨go, fun H' => i + 1 ≤ items.length ∧ ∃ Fc acc vs' rest, Rel X.K G (wipeE env vs) (wipe σ vs) H' Fc fpw ∧ Same H1 H' ∧ Same F1 Fc ∧ (∀ a o, Fc a = some o → F1 a = some o ∨ H1 a = none) ∧ H' p = some (.lst vs') ∧ Fc p = none ∧ DFAll X.K Fc vs' acc ∧ lcF g ft fe (wipeE env vs) (items.drop (i + 1)) = some rest ∧ acc ++ rest = res ∧ acc.length + rest.length ≤ i + 1 + rest.length ∧ vs'.length ≤ i + 1,
              fun H' n => ⟨items.length - (i + 1), by omega, rfl, n⟩, fun x H3 yl => ?_⟩
            obtain ⟨F3, E3, r3⟩ := y x H3 yl
            have R3 := Rc.ext E3
            refine ⟨F3, fpw, _, e', dd, R3, r3, z3, fun σ4 fp4 R4 w4 s4 => ⟨w4 vs hi |>.trans ?_, ?_⟩⟩
            · exact wipe_wipe σ vs
            refine ⟨F3, fp4, e', b, R4, z4, fun H5 F5 E5 => ?_⟩
            have back : ∀ {H F}, Ext H3 F3 H F → Rel X.K G (wipeE env vs) (wipe σ vs) H F fpw := fun E => R3.ext E
            have fz : ∀ {H F}, Ext Hc Fc H F → F p = none := fun {H F} E => by
              cases q9 : F p with
              | none => rfl
              | some o =>
                rcases E.new p o q9 with z9 | z9
                · rw [fpn] at z9; cases z9
                · rw [hp] at z9; cases z9
            have nf : ∀ {H F}, Ext Hc Fc H F → ∀ a o, F a = some o → F1 a = some o ∨ H1 a = none := fun {H F} E a o e => by
              rcases E.new a o e with z9 | z9
              · exact nF a o z9
              · exact .inr (sH.free z9)
            cases b with
            | false =>
              simp only [Bool.false_eq_true, if_false] at hrest
              refine iteF ⟨hlt, F5, acc, vs', rest, back E5, sH.trans (E3.h.trans E5.h), sF.trans (E3.f.trans E5.f), nf (E3.trans E5), E5.h _ _ (E3.h _ _ hp), fz (E3.trans E5), DFAll_mono (E3.f.trans E5.f) _ _ dacc, hrest, hres, by omega, by omega⟩
            | true =>
              simp only [if_true] at hrest
              refine iteT ?_
              cases z5 : fe e' with
              | none => rw [z5] at hrest; cases hrest
              | some yv =>
                rw [z5] at hrest
                have hrest : ((lcF g ft fe (wipeE env vs) (items.drop (i + 1))).map (yv :: ·)) = some rest := hrest
                cases z6 : lcF g ft fe (wipeE env vs) (items.drop (i + 1)) with
                | none => rw [z6] at hrest; cases hrest
                | some rest' =>
                  rw [z6] at hrest; cases hrest
                  refine ⟨F5, fp4, e', yv, R4.ext E5, z5, fun v H6 F6 E6 r6 => ?_⟩
                  have E36 := E5.trans E6
                  refine ⟨vs', E6.h _ _ (E5.h _ _ (E3.h _ _ hp)), ?_, hlt, F6, acc ++ [yv], vs' ++ [v], rest', (back E36).updD pfp (fz (E3.trans E36)) h0p, ?_, sF.trans (E3.f.trans E36.f), nf (E3.trans E36), upd_same, fz (E3.trans E36), DFAll_app (DFAll_mono (E3.f.trans E36.f) _ _ dacc) (.cons r6 .nil), rfl, by rw [← hres]; simp, by simp only [List.length_append, List.length_cons, List.length_nil] at hle ⊢; omega, by rw [List.length_append]; simp; omega⟩
                  · omega
                  · intro b x e
                    rw [upd_ne (ne_of_none e np)]
                    exact E36.h _ _ (E3.h _ _ (sH _ _ e))
      · left
        have ei : i = items.length := by omega
        subst ei
        rw [List.drop_length] at hrest
        cases hrest
        rw [List.append_nil] at hres
        subst hres
        refine ⟨w2 (Nat.le_refl _), q _ Hc Fc ⟨E1.h.trans sH, E1.f.trans sF, Rc.sub, fun a o e => ?_⟩ ⟨p, vs', acc, rfl, rfl, E1.h.free np, hp, fpn, dacc⟩⟩
        rcases nF a o e with z9 | z9
        · exact E1.new a o z9
        · exact .inr (E1.h.free z9)
theorem d_lc {is : List Nat} {fi : List C → Option (List D)} {g : D → List C → Option (List C)} {ifs : List Expr} {scope : Scope} (own : List (Str × Nat)) (hc : X.calm = true) (hN : X.N.Nodup) (hi : DI X G tg iter fi) (N : List Str) (sc : Scope) (ok : blkC N sc scope own = true)
    (hg : ∀ (s : Shared) (H : Hp) (C : Addr) (cl : List (Str × Addr)) (fp : List Addr), DG (X.blk s H scope (compEnvC scope cl C X.env) fp) G is tg g) (ht : ∀ (s : Shared) (H : Hp) (C : Addr) (cl : List (Str × Addr)) (fp : List Addr), DIf (X.blk s H scope (compEnvC scope cl C X.env) fp) G ifs ft)
    (he : ∀ (s : Shared) (H : Hp) (C : Addr) (cl : List (Str × Addr)) (fp : List Addr), DE (X.blk s H scope (compEnvC scope cl C X.env) fp) G k elt fe) (hk : k.le .fz = true := by rfl) (his : ∀ i, i ∈ is → i ∈ own.map (·.2) := by decide) (hs : ∀ x, foldedSetIterable iter X.env x = pure x := by intro _; rfl) (hN2 : X.N = N := by rfl) (hs2 : X.env.scope = sc := by rfl) :
    DE X G .ow (.ListComp elt [⟨tg, iter, ifs, 0⟩] scope pos) (eLc (own.map (·.2)) fi g ft fe) := by
  obtain ⟨wi, pw, ow⟩ := hi.ex
  exact ⟨_, pe_lc hc hN (pi_len pw) (blkOk_by (by rw [hN2, hs2]; exact ok)) (fun s H C cl fp => (hg s H C cl fp).canon) (fun s H C cl fp => (ht s H C cl fp).run) (fun s H C cl fp => ((he s H C cl fp).conv hk).canon) hs,
    fun σ H F fp env d Q R hf q => lc_ok ow his R hf q⟩
/-- name = [..] on one line: frozen, or a list of one's own -/
theorem setLc_ok {wi : TI} {tlc : TE} {i : Nat} {fl : List C → Option D} {own : Bool} (ok : ∀ (σ : L2.St) (H F : Hp) (fp : Nat → List Addr) (env : List C) (d : D) (Q : VK), Rel X.K G env σ H F fp → fl env = some d → (∀ v H' F', Ext H F H' F' → RepK X.K G .ow H H' F' v d → Q v H') → tlc σ H Q) :
    ∀ (σ : L2.St) (H F : Hp) (fp : Nat → List Addr) (env : List C) (E : Ends), Rel X.K G env σ H F fp → Post X.K G kr F E ((if own then sSetL i fl else sSet i fl) env) → tAsg tlc (gName i) E σ H := fun σ H F fp env E R q => by
  cases own with
  | true =>
    simp only [if_true] at q
    unfold sSetL at q
    cases z : fl env with
    | none => simp only [z] at q; exact q.elim
    | some d =>
      refine ok σ H F fp env d _ R z fun v H' F' E' r => ?_
      obtain ⟨ds, a, rfl, R'⟩ := R.putL E' i r
      simp only [z] at q
      exact q _ H' F' _ R' E'.f
  | false =>
    simp only [Bool.false_eq_true, if_false] at q
    unfold sSet at q
    cases z : fl env with
    | none => simp only [z] at q; exact q.elim
    | some d =>
      simp only [z] at q
      refine ok σ H F fp env d _ R z fun v H' F' E' r => ?_
      obtain ⟨a, vs, ds, rfl, rfl, h1, h2, h3, h4⟩ := r
      have m : Same F' (upd F' a (.lst vs)) := fun b x e => by
        rw [upd_ne (ne_of_none e h3)]; exact e
      have E2 : Ext H F H' (upd F' a (.lst vs)) := by
        refine ⟨E'.h, E'.f.trans m, fun b x e => ?_, fun b x e => ?_⟩
        · by_cases hb : b = a
          · subst hb; rw [upd_same] at e; rw [← e]; exact h2
          · rw [upd_ne hb] at e; exact E'.sub _ _ e
        · by_cases hb : b = a
          · subst hb; exact .inr h1
          · rw [upd_ne hb] at e; exact E'.new _ _ e
      exact q _ H' _ _ ((R.ext E2).put (i := i) (v := .ref a) (c := .val (.list ds)) (l := []) ⟨rfl, _, rfl, .lst upd_same (DFAll_mono m _ _ h4)⟩ (fun _ m => nomatch m) (fun _ m => nomatch m)) E2.f
theorem ds_setLc {y : Str} {py spos : Pos} {is : List Nat} {fi : List C → Option (List D)} {g : D → List C → Option (List C)} {ifs : List Expr} {scope : Scope} (mine : Bool) (i : Nat) (own : List (Str × Nat)) (hc : X.calm = true) (hN : X.N.Nodup) (hy : X.N[i]? = some y) (hyl : X.env.scope.names.lookup y = some .local)
    (hsw : swapsWith (.ListComp elt [⟨tg, iter, ifs, 0⟩] scope pos) (some (.Name y py)) spos.line X.env = pure true) (hi : DI X G tg iter fi) (N : List Str) (sc : Scope) (ok : blkC N sc scope own = true)
    (hg : ∀ (s : Shared) (H : Hp) (C : Addr) (cl : List (Str × Addr)) (fp : List Addr), DG (X.blk s H scope (compEnvC scope cl C X.env) fp) G is tg g) (ht : ∀ (s : Shared) (H : Hp) (C : Addr) (cl : List (Str × Addr)) (fp : List Addr), DIf (X.blk s H scope (compEnvC scope cl C X.env) fp) G ifs ft)
    (he : ∀ (s : Shared) (H : Hp) (C : Addr) (cl : List (Str × Addr)) (fp : List Addr), DE (X.blk s H scope (compEnvC scope cl C X.env) fp) G k elt fe) (hk : k.le .fz = true := by rfl) (his : ∀ i, i ∈ is → i ∈ own.map (·.2) := by decide) (hs : ∀ x, foldedSetIterable iter X.env x = pure x := by intro _; rfl) (hN2 : X.N = N := by rfl) (hs2 : X.env.scope = sc := by rfl) :
    DS X G kr (.Assign [.Name y py] (.ListComp elt [⟨tg, iter, ifs, 0⟩] scope pos) spos) (if mine then sSetL i (eLc (own.map (·.2)) fi g ft fe) else sSet i (eLc (own.map (·.2)) fi g ft fe)) := by
  obtain ⟨wi, pw, ow⟩ := hi.ex
  refine ⟨_, ps_setLc (g := tgD X.K G is g) (tt := tDT X.K G ft) (te := tD X.K G .fz fe) hc hN hy hyl hsw (pi_len pw) (blkOk_by (by rw [hN2, hs2]; exact ok)) (fun s H C cl fp => (hg s H C cl fp).canon) (fun s H C cl fp => (ht s H C cl fp).run) (fun s H C cl fp => ((he s H C cl fp).conv hk).canon) hs, ?_⟩
  exact setLc_ok (wi := wi) (fun σ H F fp env d Q R hf q => lc_ok ow his R hf q)
end

/-! ### a def by its body -/
def cells : List RK → List D → List C
  | .vw :: ks, d :: ds => .brw d :: cells ks ds
  | _ :: ks, d :: ds => .val d :: cells ks ds
  | _, _ => []
def runP (ks : List RK) (n : Nat) (body : List C → Out) : List D → Option D := fun ds => match body (cells ks ds ++ List.replicate (n - ds.length) .und) with
  | .rt d => some d
  | _ => none
/-- for a def that may fall off its end -/
def runN (ks : List RK) (n : Nat) (body : List C → Out) : List D → Option D := fun ds => match body (cells ks ds ++ List.replicate (n - ds.length) .und) with
  | .rt d => some d
  | .nx _ => some .none
  | _ => none
theorem cells_ok {K : PySem.W.Frag} {G : GC} {H F : Hp} (hk : ∀ v d, Dp K H v d → Dp K G.kp v d) : ∀ {ks : List RK} {vs : List V} {ds : List D}, okPs ks = true → RepKs K G H F ks vs ds → (cells ks ds).length = vs.length ∧ ∀ (i : Nat) (c : C), (cells ks ds)[i]? = some c → SlotRep K G H F ((vs.map some)[i]?.join) c []
  | [], [], [], _, _ => ⟨rfl, fun i c e => by simp [cells] at e⟩
  | k :: ks, v :: vs, d :: ds, hp, h => by
    cases k with
    | fz =>
      obtain ⟨h1, h2⟩ := cells_ok hk (show okPs ks = true from hp) h.2
      refine ⟨by simp [cells, h1], fun i c e => ?_⟩
      cases i with
      | zero => simp [cells] at e; subst e; exact ⟨rfl, v, rfl, h.1⟩
      | succ i => simp only [cells, List.getElem?_cons_succ] at e; simpa using h2 i c e
    | vw =>
      obtain ⟨h1, h2⟩ := cells_ok hk (show okPs ks = true from hp) h.2
      refine ⟨by simp [cells, h1], fun i c e => ?_⟩
      cases i with
      | zero => simp [cells] at e; subst e; exact ⟨rfl, v, rfl, hk _ _ h.1⟩
      | succ i => simp only [cells, List.getElem?_cons_succ] at e; simpa using h2 i c e
    | _ => cases hp
  | [], _ :: _, _, _, h => by cases h
  | [], [], _ :: _, _, h => by cases h
  | _ :: _, [], _, _, h => by cases h
  | _ :: _, _ :: _, [], _, h => by cases h
section
variable {P : Program} {w : World} {K : PySem.W.Frag} {mg : Str → Option Value} {base : Heap}
theorem rel_start {ks : List RK} {N : List Str} {vs : List V} {ds : List D} {H F0 : Hp} (hp : okPs ks = true) (sub : Same F0 H) (r : RepKs K ⟨H, F0, [], none⟩ H F0 ks vs ds) (ow : Option World) :
    Rel K ⟨H, F0, [], ow⟩ (cells ks ds ++ List.replicate (N.length - ds.length) .und) (L2.start N vs) H F0 (fun _ => []) := by
  have hk : ∀ v d, Dp K H v d → Dp K (GC.kp ⟨H, F0, [], ow⟩) v d := fun v d h => by
    have e : GC.kp ⟨H, F0, [], ow⟩ = H := by
      funext a
      unfold GC.kp
      exact if_neg List.not_mem_nil
    rw [e]; exact h
  obtain ⟨l1, l2⟩ := cells_ok (G := ⟨H, F0, [], ow⟩) hk hp (RepKs_any hp r)
  obtain ⟨m1, m2⟩ := RepKs_len r
  exact {
    len := by
      unfold L2.start
      rw [List.length_append, List.length_append, List.length_replicate, List.length_replicate, List.length_map, l1, m1]
    slot := fun i c e => by
      by_cases hi : i < (cells ks ds).length
      · rw [List.getElem?_append_left hi] at e
        have q := l2 i c e
        unfold L2.start
        rw [List.getElem?_append_left (by rw [List.length_map, ← l1]; exact hi)]
        exact q
      · rw [List.getElem?_append_right (by omega), List.getElem?_replicate] at e
        split at e
        · cases e; rfl
        · cases e
    dj := fun _ _ _ h => nomatch h
    own := fun _ _ h => nomatch h
    sub := sub
    new := fun _ _ e => .inl e
    old := Same.refl _
    keep := fun _ _ e _ => e
    alive := fun _ e => e }
theorem fn_gen {x qual : Str} {st : Stmt} {f : Addr} {fd : FuncData} {N ps : List Str} {k : Nat} {ks : List RK} {kr : RK} {body : List C → Out} {g : List D → Option D} (F : Fun K x qual st f fd) (S : FnScope N ps (defScope st)) (hl : ks.length = ps.length) (hp : okPs ks = true)
    (hgo : ∀ ds d, g ds = some d → body (cells ks ds ++ List.replicate (N.length - ds.length) .und) = .rt d ∨ (kr = .fz ∧ d = .none ∧ ∃ e, body (cells ks ds ++ List.replicate (N.length - ds.length) .und) = .nx e))
    (hbody : ∀ (cdv : Value) (A : Around) (outer : List Env) (s : Shared) (H : Hp) (E : XK) (G : GC), Room k (A.deeper (PyProof.Rows.envOfC qual (defScope st) s.heap.objs.size f cdv)) → G.W = [] → G.w = some w →
      DSs (cxOf CX0 P w K mg base N qual (defScope st) f cdv A outer s H E).nox G kr (defBody st) body) : FnOk P w K mg base CX0 (k + 1) f fd ps (spP K ks kr g) := by
  refine F.ok S (fun vs H Q E h => ?_) (fun cdv A outer s H vs Q E hr h => ?_)
  · obtain ⟨F0, ds, d, sub, hg, r, q⟩ := h
    obtain ⟨m1, m2⟩ := RepKs_len r
    omega
  · obtain ⟨F0, ds, d, sub, hg, r, q⟩ := h
    obtain ⟨t, pt, o⟩ := (hbody cdv A outer s H E ⟨H, F0, [], some w⟩ hr rfl rfl).ex
    refine ⟨t, pt, o _ H F0 _ _ _ (rel_start (N := N) hp sub r (some w)) ?_⟩
    rcases hgo ds d hg with e | ⟨rfl, rfl, e', e⟩
    · rw [e]
      exact fun v H' F' fin rk => q v H' F' ⟨fun a o e => fin.h a o e List.not_mem_nil, fin.f, fin.sub, fin.new⟩ rk
    · rw [e]
      exact fun σ' H' F' fp' R' s' => q .non H' F' ⟨fun a o e => R'.keep a o e List.not_mem_nil, R'.old, R'.sub, R'.new⟩ .non
theorem fn_pure {x qual : Str} {st : Stmt} {f : Addr} {fd : FuncData} {N ps : List Str} {k : Nat} {ks : List RK} {kr : RK} {body : List C → Out} (F : Fun K x qual st f fd) (S : FnScope N ps (defScope st)) (hl : ks.length = ps.length) (hp : okPs ks = true)
    (hbody : ∀ (cdv : Value) (A : Around) (outer : List Env) (s : Shared) (H : Hp) (E : XK) (G : GC), Room k (A.deeper (PyProof.Rows.envOfC qual (defScope st) s.heap.objs.size f cdv)) → G.W = [] → G.w = some w →
      DSs (cxOf CX0 P w K mg base N qual (defScope st) f cdv A outer s H E).nox G kr (defBody st) body) : FnOk P w K mg base CX0 (k + 1) f fd ps (spP K ks kr (runP ks N.length body)) :=
  fn_gen F S hl hp (fun ds d h => by
    unfold runP at h
    split at h
    · cases h; exact .inl (by assumption)
    · cases h) hbody
end
end DL
set_option Elab.async false
set_option linter.all false
set_option maxRecDepth 100000
set_option maxHeartbeats 4000000
namespace DL
open PySem PySem.Spec L2

section
variable {X : Cx} {G : GC} {k k2 kr : RK} {e ei a : Expr} {f fe fi fa : List C → Option D} {pos p1 p2 : Pos} {x : Str}
/-! ### sorted -/
def alikeB (ds : List D) : Bool := ds.all fun d => ds.all fun d' => W.alike d d'
def isTup1 : D → Bool | .tuple (_ :: _) => true | _ => false
def notNT : D → Bool | .none => false | .tuple _ => false | _ => true
def sortableB (ds : List D) : Bool := ds.all isTup1 || ds.all notNT
def gSorted : List D → Option D | [.list ds] => if alikeB ds = true ∧ sortableB ds = true ∧ (ds.all fun d => decide (d.depth ≤ 60)) = true then some (.list (ds.mergeSort (W.dataLe false fun d => d))) else none | _ => none
theorem sort_in {pins : List (Addr × Obj)} {σ : L2.St} {H F : Hp} {s : Shared} (I : Inv X pins σ H s) (sub : Same F H) : ∀ {vs : List V} {ds : List D} {us : List Value}, DFAll X.K F vs ds → Vals vs us →
    W.EachIs (fun u (b : D × V) => RelV b.2 u) us (ds.zip vs) ∧ W.EachIs (fun u (b : D × V) => ∃ as, Reads s.heap u b.1 as) us (ds.zip vs) ∧ (∀ b, b ∈ ds.zip vs → DF X.K F b.2 b.1) ∧ (ds.zip vs).map Prod.fst = ds
  | [], _, _, h, r => by
    cases h; cases r
    exact ⟨.nil, .nil, (fun _ m => nomatch m), rfl⟩
  | v :: vs, _, _, h, r => by
    cases h with
    | cons h1 h2 =>
      cases r with
      | cons r1 r2 =>
        obtain ⟨a1, a2, a3, a4⟩ := sort_in I sub h2 r2
        refine ⟨.cons r1 a1, .cons (Dp.reads I _ _ _ (Dp_mono sub _ _ (DF.dp _ _ h1)) r1) a2, fun b hb => ?_, by simp [a4]⟩
        rcases List.mem_cons.mp hb with rfl | hb
        · exact h1
        · exact a3 b hb
theorem sort_out {K : PySem.W.Frag} {F : Hp} : ∀ {us : List Value} {bs : List (D × V)}, W.EachIs (fun u (b : D × V) => RelV b.2 u) us bs → (∀ b, b ∈ bs → DF K F b.2 b.1) → Vals (bs.map Prod.snd) us ∧ DFAll K F (bs.map Prod.snd) (bs.map Prod.fst)
  | _, _, .nil, _ => ⟨.nil, .nil⟩
  | _, _, .cons h t, m => by
    obtain ⟨a1, a2⟩ := sort_out t fun b hb => m b (List.mem_cons_of_mem _ hb)
    exact ⟨.cons h a1, .cons (m _ List.mem_cons_self) a2⟩
def rSortD (K : PySem.W.Frag) : List V → Hp → VK → Prop := fun xs H Q => ∃ (F : Hp) (a : Addr) (vs : List V) (ds : List D), xs = [.ref a] ∧ Same F H ∧ H a = some (.lst vs) ∧ DFAll K F vs ds ∧ alikeB ds = true ∧ sortableB ds = true ∧ (ds.all fun d => decide (d.depth ≤ 60)) = true ∧
  ∀ p ws, H p = none → DFAll K F ws (ds.mergeSort (W.dataLe false fun d => d)) → Q (.ref p) (upd H p (.lst ws))
theorem call_sortD (hu : X.A.units + 64 < cLine) : CallR X (.builtin "sorted") (rSortD X.K) := by
  intro pins s σ H xs us Q I r h
  obtain ⟨F, a, vs, ds, rfl, sub, hH, hd, h1, h2, h3, q⟩ := h
  obtain ⟨u, rfl, ru⟩ := vals1 r
  cases (show u = Value.ref a from ru)
  obtain ⟨its, rv, pl, hz⟩ := I.list (.inl (.inl hH))
  obtain ⟨e1, e2, e3, e4⟩ := sort_in I sub hd rv
  have hlen : (ds.zip vs).length = vs.length := by rw [List.length_zip, DFAll_len hd, Nat.min_self]
  refine W.sorted_data (enc := Prod.fst) (bs := ds.zip vs) (R := fun u b => RelV b.2 u) pl.isList e1 e2 ?_ ?_ (by rw [hlen]; exact hz) ?_ fun out ho he => ?_
  · rw [e4]
    intro d hd d' hd'
    have z := List.all_eq_true.mp h1 d hd
    exact List.all_eq_true.mp z d' hd'
  · rw [e4]
    unfold sortableB at h2
    rcases Bool.or_eq_true_iff.mp h2 with z | z
    · left
      intro d hd
      have y := List.all_eq_true.mp z d hd
      cases d with
      | tuple xs =>
        cases xs with
        | nil => cases y
        | cons x r => exact ⟨x, r, rfl⟩
      | _ => cases y
    · right
      intro d hd
      have y := List.all_eq_true.mp z d hd
      cases d with
      | none => cases y
      | tuple xs => cases y
      | _ => exact ⟨(fun z => nomatch z), (fun _ z => nomatch z)⟩
  · intro b hb
    have hm : b.1 ∈ ds := (List.of_mem_zip hb).1
    have y := of_decide_eq_true (List.all_eq_true.mp h3 b.1 hm)
    omega
  · have hmem : ∀ b, b ∈ (ds.zip vs).mergeSort (W.dataLe false Prod.fst) → DF X.K F b.2 b.1 := fun b hb => e3 b (List.mem_mergeSort.mp hb)
    obtain ⟨o1, o2⟩ := sort_out he hmem
    have em : ((ds.zip vs).mergeSort (W.dataLe false Prod.fst)).map Prod.fst = ds.mergeSort (W.dataLe false fun d => d) := by
      exact (W.sort_maps (r := W.dataLe false Prod.fst) (s := W.dataLe false fun d => d) Prod.fst (fun _ _ _ _ => rfl)).trans (by rw [e4])
    rw [em] at o2
    obtain ⟨c, hc⟩ := PyProof.Rows.sortedAll_at s.heap its out.toArray
    have hn : H (s.heap.objs.size + 1) = none := I.hok.fresh (Nat.le_succ _)
    refine ⟨.ref (s.heap.objs.size + 1), _, I.laid (t' := s.toks) (o := .lst (((ds.zip vs).mergeSort (W.dataLe false Prod.fst)).map Prod.snd)) (fun b ob z => PyProof.Rows.sortedAll_old z) (Nat.le_succ _) ⟨?_, out, c, o1, hc⟩, rfl, q _ _ hn o2⟩
    rw [List.length_map, List.length_mergeSort, hlen]; exact hz
theorem o_sorted (hu : X.A.units + 64 < cLine) : DCall X G (.builtin "sorted") [.vl] .ow gSorted := ⟨_, call_sortD hu, fun H F vs ds d Q sub kp hl rs hd q => by
  obtain ⟨v, d1, rfl, rfl, r⟩ := rep1 rs
  unfold gSorted at hd
  split at hd
  · rename_i e; cases e
    split at hd <;> cases hd
    rename_i hc
    obtain ⟨a, vs, rfl, h1, h2⟩ := vl_list sub r
    refine ⟨F, a, vs, _, rfl, sub, h1, h2, hc.1, hc.2.1, hc.2.2, fun p ws np hw => ?_⟩
    obtain ⟨E, r'⟩ := new_ow (G := G) sub np hw
    exact q _ _ _ E r'
  · cases hd⟩
/-! ### in, not in of a tuple of plain things (and of lists) -/
def flatD : D → Bool | .none => true | .bool _ => true | .int _ => true | .str _ => true | _ => false
def flV : D → V | .none => .non | .bool b => .bl b | .int i => .int i | .str x => .str x | _ => .non
theorem fl_dp {K : PySem.W.Frag} {H : Hp} {v : V} {d : D} (hf : flatD d = true) (h : Dp K H v d) : v = flV d ∧ flatV v = true := by
  cases h with
  | lst _ _ => cases hf
  | tup _ _ => cases hf
  | _ => exact ⟨rfl, rfl⟩
theorem fl_all {K : PySem.W.Frag} {H : Hp} : ∀ {vs : List V} {ds : List D}, ds.all flatD = true → DpAll K H vs ds → vs = ds.map flV ∧ vs.all flatV = true
  | [], _, _, h => by cases h; exact ⟨rfl, rfl⟩
  | v :: vs, _, hf, h => by
    cases h with
    | cons h1 h2 =>
      rw [List.all_cons, Bool.and_eq_true] at hf
      obtain ⟨a1, a2⟩ := fl_dp hf.1 h1
      obtain ⟨b1, b2⟩ := fl_all hf.2 h2
      exact ⟨by rw [List.map_cons, ← a1, ← b1], by rw [List.all_cons, a2, b2]; rfl⟩
/-- whether a plain thing is among plain things -/
def inF (x : D) (ys : List D) : Bool := inV (flV x) (ys.map flV)
def gInF : D → D → Option D
  | x, .tuple ys => if flatD x = true ∧ ys.all flatD = true then some (.bool (inF x ys)) else none
  | x, .list ys => if flatD x = true ∧ ys.all flatD = true then some (.bool (inF x ys)) else none
  | _, _ => none
def gNotInF : D → D → Option D
  | x, .tuple ys => if flatD x = true ∧ ys.all flatD = true then some (.bool (!inF x ys)) else none
  | x, .list ys => if flatD x = true ∧ ys.all flatD = true then some (.bool (!inF x ys)) else none
  | _, _ => none
theorem inF_ok {H F : Hp} {vx vy : V} {dx dy d : D} {Q : VK} {neg : Bool} (sub : Same F H) (rx : Dp X.K H vx dx) (ry : Dp X.K H vy dy) (hd : (if neg then gNotInF dx dy else gInF dx dy) = some d)
    (q : ∀ v H' F', Ext H F H' F' → RepK X.K G .fz H H' F' v d → Q v H') : rIn X.K neg vx vy H Q := by
  have go : ∀ ys vs p, (SqL X.K H p vs ∨ SqT X.K H p vs) → DpAll X.K H vs ys → flatD dx = true → ys.all flatD = true → d = .bool (if neg then !inF dx ys else inF dx ys) → rIn X.K neg vx (.ref p) H Q := fun ys vs p hs ha h1 h2 e => by
    obtain ⟨a1, a2⟩ := fl_dp h1 rx
    obtain ⟨b1, b2⟩ := fl_all h2 ha
    subst e
    refine ⟨p, vs, rfl, hs, a2, b2, ?_⟩
    have z : inV vx vs = inF dx ys := by unfold inF; rw [a1, b1]
    rw [z]
    exact q _ H F (Ext.refl sub) (.bl _)
  cases neg with
  | true =>
    simp only [if_true] at hd
    unfold gNotInF at hd
    split at hd
    · split at hd <;> cases hd
      rename_i hc
      cases ry with
      | tup h1 h2 => exact go _ _ _ (.inr h1) h2 hc.1 hc.2 rfl
    · split at hd <;> cases hd
      rename_i hc
      cases ry with
      | lst h1 h2 => exact go _ _ _ (.inl h1) h2 hc.1 hc.2 rfl
    · cases hd
  | false =>
    simp only [Bool.false_eq_true, if_false] at hd
    unfold gInF at hd
    split at hd
    · split at hd <;> cases hd
      rename_i hc
      cases ry with
      | tup h1 h2 => exact go _ _ _ (.inr h1) h2 hc.1 hc.2 rfl
    · split at hd <;> cases hd
      rename_i hc
      cases ry with
      | lst h1 h2 => exact go _ _ _ (.inl h1) h2 hc.1 hc.2 rfl
    · cases hd
theorem o_inF : DOp X G (compareOp .In) .vw .vw .fz gInF := ⟨_, op_in_seq, fun H F vx vy dx dy d Q sub kp hl rx ry hd q => inF_ok (neg := false) sub rx ry hd q⟩
theorem o_notInF : DOp X G (compareOp .NotIn) .vw .vw .fz gNotInF := ⟨_, op_notIn_seq, fun H F vx vy dx dy d Q sub kp hl rx ry hd q => inF_ok (neg := true) sub rx ry hd q⟩
/-! ### xs[::-1] -/
def gRev : D → Option D | .list xs => some (.list xs.reverse) | _ => none
def eRev (f : List C → Option D) : List C → Option D := fun env => (f env).bind gRev
theorem d_rev {kk : Nat} {p3 : Pos} (h : DE X G k e f) (hk : k.le .vl = true := by rfl) : DE X G .ow (.Subscript e (.Slice none none (some (.UnaryOp .USub (.Constant (.int 1) kk p1) p2)) p3) pos) (eRev f) := by
  obtain ⟨t, p, o⟩ := (h.conv hk).ex
  refine ⟨_, pe_revL p, fun σ H F fp env d Q R hf q => ?_⟩
  unfold eRev at hf
  cases z : f env with
  | none => rw [z] at hf; cases hf
  | some d1 =>
    rw [z] at hf
    have hf : gRev d1 = some d := hf
    unfold gRev at hf
    split at hf <;> cases hf
    refine o σ H F fp env _ _ R z fun v H1 F1 E1 r => ?_
    obtain ⟨a, vs, rfl, h1, h2⟩ := vl_list (G := G) E1.sub r
    refine ⟨a, vs, rfl, .inl (.inl h1), fun n nn => ?_⟩
    obtain ⟨E, r'⟩ := new_ow (G := G) E1.sub nn (DFAll_rev h2)
    exact q _ _ _ (E1.trans E) (r'.back E1.h)
/-! ### xs[i] += e -/
theorem get_list : PGet X (rIxL X.K) := by
  intro pins s σ H x y v u Q I rx ry h
  obtain ⟨p, xs, i, z, rfl, rfl, hq, he, q⟩ := h
  cases rx
  obtain ⟨t, rfl⟩ := ry
  obtain ⟨its, r, pl, hz⟩ := I.list hq
  obtain ⟨j, h1, h2, h3, h4, h5⟩ := atI_get he
  obtain ⟨w, ew, rw'⟩ := r.get h2
  have hl := r.length
  have hn := line63
  have fin : EP X pins σ Q w s := ⟨z, H, I, rw', q⟩
  by_cases h0 : 0 ≤ i
  · have hj : i.toNat = j := by
      rw [seqIndex_of h0 h5] at h1
      exact Option.some.inj h1
    exact wpAny_getItem_list pl.isList h0 (by omega) (by rw [hj]; simpa using ew) fin
  · have hj : (i + (its.toArray.size : Int)).toNat = j := by
      rw [seqIndex_neg (by omega) h4] at h1
      rw [List.size_toArray, ← hl]
      exact Option.some.inj h1
    exact wpAny_getItem_list_neg pl.isList (by omega) (by rw [List.size_toArray] <;> omega) (by omega) (by rw [hj]; simpa using ew) fin
def sAugIx (i : Nat) (g : D → D → Option D) (fi fe : List C → Option D) : List C → Out := fun env => match env[i]? with
  | some (.lst ds) => (match fi env with
    | some (.int j) => (match atI ds j with
      | some x => (match fe env with
        | some y => (match g x y with
          | some z => (match setAt ds j z with | some ds' => .nx (env.set i (.lst ds')) | none => .err)
          | none => .err)
        | none => .err)
      | none => .err)
    | _ => .err)
  | _ => .err
theorem ds_augIx {op : Operator} {g : D → D → Option D} {kb : RK} (i : Nat) (hv : PE X (.Name x p1) (tVar i)) (hi : DE X G k2 ei fi) (og : DOp X G (inplaceOp op) .vl kb .fz g) (h : DE X G k e fe) (hk : k.le kb = true := by rfl) (hb : kb.arg = true := by rfl) (hk2 : k2.le .vl = true := by rfl)
    (ha : ∀ ov iv new, augStore ei ov iv new = (do holding [new, ov, iv] (setItem ov iv new); release [new, ov, iv] []; pure .next) := by intros; rfl) : DS X G kr (.AugAssign (.Subscript (.Name x p1) ei p2) op e pos) (sAugIx i g fi fe) := by
  obtain ⟨t, p, o⟩ := (h.conv hk).ex
  obtain ⟨ti, pi, oi⟩ := (hi.conv hk2).ex
  obtain ⟨r, or, o2⟩ := og.ex
  refine ⟨_, ps_augS (tip := fun x y H Q => LenOk X.K H → r x y H Q) hv pi get_list p (opr_len or) set_list ha, fun σ H F fp env E R q => ?_⟩
  unfold sAugIx at q
  split at q
  · rename_i ds e1
    split at q
    · rename_i j ej
      split at q
      · rename_i dx ex
        split at q
        · rename_i dy ey
          split at q
          · rename_i dz ez
            split at q
            · rename_i ds' es
              obtain ⟨a, vs, q1, q2, q3, q4⟩ := slot_at R e1
              refine ⟨.ref a, q2, ?_⟩
              refine oi σ H F fp env _ _ R ej fun vi H1 F1 E1 ri => ?_
              have ei := vl_int (G := G) (H := H1) (F := F1) ri
              subst ei
              have R1 := R.ext E1
              obtain ⟨vx, evx, rvx⟩ := atI_rep (DFAll_mono E1.f _ _ q4) ex
              refine ⟨a, vs, j, vx, rfl, rfl, .inl (.inl (E1.h _ _ q3)), evx, ?_⟩
              refine o σ H1 F1 fp env dy _ R1 ey fun vy H2 F2 E2 ry hl => ?_
              have R2 := R1.ext E2
              refine o2 H2 F2 vx vy dx dy dz _ E2.sub R2.kpSame hl (.inl (DF_mono E2.f _ _ rvx)) (repK_A hb ry) ez fun v H3 F3 E3 rz => ?_
              have R3 := R2.ext E3
              unfold setAt at es
              cases y : ixN ds.length j with
              | none => rw [y] at es; cases es
              | some m =>
                rw [y] at es; cases es
                refine ⟨a, vs, j, m, rfl, rfl, E3.h _ _ (E2.h _ _ (E1.h _ _ q3)), by rw [DFAll_len q4]; exact y, ?_⟩
                exact q σ _ F3 fp (R3.write q1 e1 (c := .lst (ds.set m dz)) ⟨a, vs.set m v, rfl, by rw [q2]; rfl, upd_same, DFAll_set m (DFAll_mono ((E1.f.trans E2.f).trans E3.f) _ _ q4) rz⟩) ((E1.f.trans E2.f).trans E3.f)
            · exact q.elim
          · exact q.elim
        · exact q.elim
      · exact q.elim
    · exact q.elim
  · exact q.elim
/-! ### xs.clear() -/
def sClear (i : Nat) : List C → Out := fun env => match env[i]? with | some (.lst _) => .nx (env.set i (.lst [])) | _ => .err
theorem ds_clear {p3 : Pos} (i : Nat) (hbm : ∀ (r : V → List V → Hp → VK → Prop), MtM X "list.clear" r → PE X (.Call (.Attribute (.Name x p1) "clear" p2) [] [] p3) (tBM0 X.K "list" r (tVar i)) := by exact fun r hm => pe_bm0 PySem.F.plainAttrs_list PySem.F.slot_list_clear PySem.F.type_list_clear hm (pv _))
    (hsw : swapsWith (.Call (.Attribute (.Name x p1) "clear" p2) [] [] p3) none pos.line X.env = pure false := by rfl) : DS X G kr (.Expr (.Call (.Attribute (.Name x p1) "clear" p2) [] [] p3) pos) (sClear i) := by
  refine ⟨_, ps_expr (hbm _ mt_clear) hsw, fun σ H F fp env E R q => ?_⟩
  unfold sClear at q
  split at q
  · rename_i ds e1
    obtain ⟨a, vs, q1, q2, q3, q4⟩ := slot_at R e1
    refine ⟨.ref a, q2, .inl ⟨rfl, _, .inl (.inl q3)⟩, a, vs, rfl, rfl, q3, ?_⟩
    exact q σ _ F fp (R.write q1 e1 (c := .lst []) ⟨a, [], rfl, by rw [q2]; rfl, upd_same, .nil⟩) (Same.refl _)
  · exact q.elim
end
end DL
namespace DL
open PySem PySem.Spec L2
section
variable {X : Cx} {G : GC} {ka kb kr k1 : RK} {g1 g2 : D → D → Option D} {f : Value → Value → Sem Value} {tg iter e a : Expr} {pos : Pos}
/-! ### one rule of several kinds -/
def gOr (g1 g2 : D → D → Option D) : D → D → Option D := fun x y => match g1 x y with | some d => some d | none => g2 x y
theorem DOp.or (o1 : DOp X G f ka kb kr g1) (o2 : DOp X G f ka kb kr g2) : DOp X G f ka kb kr (gOr g1 g2) := by
  obtain ⟨r1, p1, q1⟩ := o1.ex
  obtain ⟨r2, p2, q2⟩ := o2.ex
  refine ⟨_, p1.or p2, fun H F vx vy dx dy d Q sub kp hl rx ry hd q => ?_⟩
  unfold gOr at hd
  split at hd
  · rename_i d' e
    cases hd
    exact .inl (q1 H F vx vy dx dy _ Q sub kp hl rx ry e q)
  · exact .inr (q2 H F vx vy dx dy d Q sub kp hl rx ry hd q)
theorem DOp.fz (o : DOp X G f ka kb .ow g1) : DOp X G f ka kb .fz g1 := by
  obtain ⟨r, p, q⟩ := o.ex
  refine ⟨r, p, fun H F vx vy dx dy d Q sub kp hl rx ry hd k => q H F vx vy dx dy d Q sub kp hl rx ry hd fun v H' F' E r => ?_⟩
  obtain ⟨a, vs, ds, rfl, rfl, h1, h2, h3, h4⟩ := r
  have m : Same F' (upd F' a (.lst vs)) := fun b x e => by rw [upd_ne (ne_of_none e h3)]; exact e
  refine k _ H' (upd F' a (.lst vs)) ⟨E.h, E.f.trans m, fun b x e => ?_, fun b x e => ?_⟩ (.lst upd_same (DFAll_mono m _ _ h4))
  · by_cases hb : b = a
    · subst hb; rw [upd_same] at e; rw [← e]; exact h2
    · rw [upd_ne hb] at e; exact E.sub _ _ e
  · by_cases hb : b = a
    · subst hb; exact .inr h1
    · rw [upd_ne hb] at e; exact E.new _ _ e
/-- the operands as for now -/
theorem repA_vw {K : PySem.W.Frag} {H F : Hp} {v : V} {d : D} (sub : Same F H) (r : RepA K G .vl H F v d) : RepA K G .vw H F v d := by
  rcases r with r | ⟨a, vs, ds, rfl, rfl, e3, e4⟩
  · exact Dp_mono sub _ _ (DF.dp _ _ r)
  · exact .lst (.inl (.inl e3)) (DpAll_mono sub _ _ (DFAll.dp _ _ e4))
theorem DOp.vl (o : DOp X G f .vw .vw kr g1) : DOp X G f .vl .vl kr g1 := by
  obtain ⟨r, p, q⟩ := o.ex
  exact ⟨r, p, fun H F vx vy dx dy d Q sub kp hl rx ry hd k => q H F vx vy dx dy d Q sub kp hl (repA_vw sub rx) (repA_vw sub ry) hd k⟩
def gAdd : D → D → Option D := gOr gAddI (gOr gAddS (gOr gAddL gAddT))
theorem o_add : DOp X G (binaryOp .Add) .vl .vl .fz gAdd := o_addI.or (o_addS.or (o_addL.fz.or o_addT))
/-- a text so many times -/
def strRep (x : Str) (k : Nat) : Str := ⟨(List.replicate k x.cps.toList).flatten.toArray⟩
theorem foldl_arr (c : Array Nat) : ∀ (k : Nat) (acc : List Nat), (List.replicate k c).foldl (· ++ ·) acc.toArray = (acc ++ (List.replicate k c.toList).flatten).toArray
  | 0, acc => by simp
  | k + 1, acc => by
    rw [List.replicate_succ, List.foldl_cons, List.replicate_succ, List.flatten_cons, ← List.append_assoc]
    have e : acc.toArray ++ c = (acc ++ c.toList).toArray := by
      apply Array.ext'
      simp
    rw [e]
    exact foldl_arr c k _
theorem op_mulS : OpR X (binaryOp .Mult) (fun x y H Q => ∃ z k, x = .str z ∧ y = .int k ∧ 0 ≤ k ∧ k ≤ 1000 ∧ z.length ≤ 1000 ∧ Q (.str (strRep z k.toNat)) H) := by
  intro pins s σ H x y v u Q I rx ry h
  obtain ⟨z, k, rfl, rfl, h0, h1, h2, q⟩ := h
  obtain ⟨t, rfl⟩ := rx
  obtain ⟨t', rfl⟩ := ry
  have hn : z.length * k.toNat ≤ 1000000 := Nat.le_trans (Nat.mul_le_mul h2 (by omega : k.toNat ≤ 1000)) (by decide)
  have fin : ∀ tk, EP X pins σ Q (.str (strRep z k.toNat) tk) { s with toks := s.toks + 1 } := fun tk => ⟨.str (strRep z k.toNat), H, I.tok _, ⟨tk, rfl⟩, q⟩
  refine P.mul_str ?_ (fun hk _ => ?_) (fun hk _ => ?_) ?_
  · rw [decide_eq_false (by omega), decide_eq_false (by omega)]; rfl
  · intro hc
    have hk' : 0 < k := by omega
    have a1 : (2 ^ 63 - 1) / k ≥ (2 ^ 63 - 1) / 1000 := by
      refine Int.le_ediv_of_mul_le hk' ?_
      have : (2 ^ 63 - 1) / 1000 * k ≤ (2 ^ 63 - 1) / 1000 * 1000 := Int.mul_le_mul_of_nonneg_left h1 (by decide)
      omega
    have a2 : ((2 : Int) ^ 63 - 1) / 1000 ≥ 1000 := by decide
    omega
  · show decide (z.length * k.toNat > sizeLine) = false
    exact decide_eq_false (by rw [sizeLine_eq]; omega)
  · split
    · rename_i hk
      have e : strRep z k.toNat = Str.empty := by
        have : k.toNat = 0 := by omega
        unfold strRep
        rw [this]; rfl
      refine ⟨by decide, ?_⟩
      have := fin s.toks
      rw [e] at this
      exact this
    · split
      · rename_i hk hc
        have e : strRep z k.toNat = z := by
          rcases Bool.or_eq_true_iff.mp hc with y | y
          · have : k.toNat = 1 := by
              have := beq_iff_eq.mp y
              omega
            unfold strRep
            rw [this]
            simp
          · have y' := beq_iff_eq.mp y
            unfold strRep
            have : z.cps.toList = [] := List.eq_nil_of_length_eq_zero (by rw [Array.length_toList]; exact y')
            rw [this]
            apply Str.ext'
            apply Array.ext'
            simp [this]
        show EP X pins σ Q (.str z t) s
        exact ⟨.str z, H, I, ⟨t, rfl⟩, by rw [e] at q; exact q⟩
      · have e : (⟨(List.replicate k.toNat z.cps).foldl (· ++ ·) #[]⟩ : Str) = strRep z k.toNat := by
          unfold strRep
          have := foldl_arr z.cps k.toNat []
          rw [List.nil_append] at this
          rw [← this]
        rw [e]
        refine ⟨?_, fin s.toks⟩
        unfold strRep Str.length
        rw [List.size_toArray, PyProof.Rows.lm_len_rep_flat, Array.length_toList, sizeLine_eq]
        have : k.toNat * z.cps.size ≤ 1000000 := by rw [Nat.mul_comm]; exact hn
        omega
def gMulS : D → D → Option D | .str x, .int k => if 0 ≤ k ∧ k ≤ 1000 ∧ x.length ≤ 1000 then some (.str (strRep x k.toNat)) else none | _, _ => none
theorem o_mulS : DOp X G (binaryOp .Mult) .vl .vl .fz gMulS := ⟨_, op_mulS, fun H F vx vy dx dy d Q sub kp hl rx ry hd q => by
  unfold gMulS at hd
  split at hd
  · split at hd <;> cases hd
    rename_i hc
    have e1 := vl_str rx
    have e2 := vl_int ry
    subst e1 e2
    exact ⟨_, _, rfl, rfl, hc.1, hc.2.1, hc.2.2, q _ H F (Ext.refl sub) (.str _)⟩
  · cases hd⟩
/-- scalars compared as such, all else as data -/
def gEq : D → D → Option D := gOr gEqS gEqD
def gNe : D → D → Option D := gOr gNeS gNeD
theorem eqS_vw {x y d : D} (h : gEqS x y = some d) : (∃ i, x = .int i) ∨ (∃ i, x = .str i) ∨ (∃ i, x = .bool i) := by
  unfold gEqS at h; split at h
  · exact .inl ⟨_, rfl⟩
  · exact .inr (.inl ⟨_, rfl⟩)
  · exact .inr (.inr ⟨_, rfl⟩)
  · cases h
theorem scal_vl {K : PySem.W.Frag} {H F : Hp} {v : V} {d : D} (hs : scalD d = true) (r : Dp K H v d) : RepA K G .vl H F v d := by
  cases r with
  | lst _ _ => cases hs
  | tup _ _ => cases hs
  | non => exact .inl .non
  | bl b => exact .inl (.bl b)
  | int i => exact .inl (.int i)
  | str x => exact .inl (.str x)
theorem o_eqSw : DOp X G (compareOp .Eq) .vw .vw .fz gEqS := by
  obtain ⟨r, p, q⟩ := (o_eqS (X := X) (G := G)).ex
  refine ⟨r, p, fun H F vx vy dx dy d Q sub kp hl rx ry hd k => q H F vx vy dx dy d Q sub kp hl (scal_vl ?_ rx) (scal_vl ?_ ry) hd k⟩
  · unfold gEqS at hd; split at hd <;> first | rfl | cases hd
  · unfold gEqS at hd; split at hd <;> first | rfl | cases hd
theorem o_neSw : DOp X G (compareOp .NotEq) .vw .vw .fz gNeS := by
  obtain ⟨r, p, q⟩ := (o_neS (X := X) (G := G)).ex
  refine ⟨r, p, fun H F vx vy dx dy d Q sub kp hl rx ry hd k => q H F vx vy dx dy d Q sub kp hl (scal_vl ?_ rx) (scal_vl ?_ ry) hd k⟩
  · unfold gNeS at hd; split at hd <;> first | rfl | cases hd
  · unfold gNeS at hd; split at hd <;> first | rfl | cases hd
theorem o_eq (hu : X.A.units + 64 < cLine) : DOp X G (compareOp .Eq) .vw .vw .fz gEq := o_eqSw.or (o_eqD hu)
theorem o_ne (hu : X.A.units + 64 < cLine) : DOp X G (compareOp .NotEq) .vw .vw .fz gNe := o_neSw.or (o_neD hu)
def gIn : D → D → Option D := gOr gInF gInL
def gNotIn : D → D → Option D := gOr gNotInF gNotInL
theorem o_in (hu : X.A.units + 65 < cLine) : DOp X G (compareOp .In) .vw .vw .fz gIn := o_inF.or (o_inL hu)
theorem o_notIn (hu : X.A.units + 65 < cLine) : DOp X G (compareOp .NotIn) .vw .vw .fz gNotIn := o_notInF.or (o_notInL hu)
def gMul : D → D → Option D := gOr gMulI (gOr gMulS (gOr gMulL gMulT))
theorem o_mul : DOp X G (binaryOp .Mult) .vl .vl .fz gMul := o_mulI.or (o_mulS.or (o_mulL.fz.or o_mulT))
/-- slices of any kind -/
def gSlS : D → Option Int → Option Int → Option D | .str z, l, u => if z.length ≤ sizeLine then some (.str (cutS z l u)) else none | _, _, _ => none
def gSl : D → Option Int → Option Int → Option D
  | .list xs, l, u => some (.list (cutD xs l u))
  | .tuple xs, l, u => some (.tuple (cutD xs l u))
  | .str z, l, u => if z.length ≤ sizeLine then some (.str (cutS z l u)) else none
  | _, _, _ => none
theorem d_sl {lo hi : Option Expr} {fa : List C → Option D} {fl fu : List C → Option (Option Int)} {p2 : Pos} (ha : DE X G k1 a fa) (hl : DP X G lo fl) (hu : DP X G hi fu) (h1 : k1.le .vl = true := by rfl) : DE X G .fz (.Subscript a (.Slice lo hi none p2) pos) (e3 gSl fa fl fu) :=
  d_slice (ka := .vl) (sl_list.or (sl_tupA.or sl_str)) (fun H F vx dx d l u Q sub kp hlen rx hd q => by
    unfold gSl at hd
    split at hd
    · cases hd
      obtain ⟨p, vs, rfl, h1, h2⟩ := vl_list sub rx
      refine .inl ⟨p, vs, rfl, .inl (.inl h1), fun n nn => ?_⟩
      have m : Same F (upd F n (.lst (cutV vs l u))) := fun b x e => by rw [upd_ne (ne_of_none e (sub.free nn))]; exact e
      exact q _ _ _ (Ext.frozen sub nn) (.lst upd_same (DFAll_mono m _ _ (cut_rep h2 l u)))
    · rename_i xs
      cases hd
      have fx : ∃ a vs, vx = .ref a ∧ SqT X.K F a vs ∧ DFAll X.K F vs xs := by
        rcases rx with rx | ⟨_, _, _, _, z, _⟩
        · cases rx with | tup h1 h2 => exact ⟨_, _, rfl, h1, h2⟩
        · cases z
      obtain ⟨p, vs, rfl, h1, h2⟩ := fx
      refine .inr (.inl ⟨p, vs, rfl, Same.seqT sub h1, fun hw => ?_, fun hw n nn => ?_⟩)
      · have e : cutV vs l u = vs := by
          unfold cutV
          rw [hw.1, hw.2]
          exact List.take_length
        have r := cut_rep h2 l u
        rw [e] at r
        exact q _ H F (Ext.refl sub) (.tup h1 r)
      · obtain ⟨E, r⟩ := new_tup sub nn (cut_rep h2 l u)
        exact q _ _ _ E r
    · split at hd <;> cases hd
      have e1 := vl_str rx
      subst e1
      exact .inr (.inr ⟨_, rfl, by assumption, q _ H F (Ext.refl sub) (.str _)⟩)
    · cases hd) ha hl hu h1
/-- a list, a tuple, a text gone through -/
def iAny (f : List C → Option D) : List C → Option (List D) := fun env => match f env with
  | some (.list ds) => some ds
  | some (.tuple ds) => some ds
  | some (.str z) => if z.length ≤ sizeLine then some (z.cps.toList.map fun c => .str ⟨#[c]⟩) else none
  | _ => none
theorem di_any {k : RK} {f : List C → Option D} (h : DE X G k e f) (hk : k.le .fz = true := by rfl) : DI X G tg e (iAny f) := by
  obtain ⟨w1, p1, o1⟩ := (di_seq (tg := tg) h hk).ex
  obtain ⟨w2, p2, o2⟩ := (di_str (tg := tg) (h.conv hk)).ex
  refine ⟨_, pi_or p1 p2, fun σ H F fp env items R Rl hf q => ?_⟩
  unfold iAny at hf
  split at hf
  · rename_i ds z
    cases hf
    exact .inl (o1 σ H F fp env _ R Rl (by unfold iSeq; rw [z]) q)
  · rename_i ds z
    cases hf
    exact .inl (o1 σ H F fp env _ R Rl (by unfold iSeq; rw [z]) q)
  · rename_i s z
    exact .inr (o2 σ H F fp env _ R Rl (by unfold iStrF; rw [z]; exact hf) q)
  · cases hf
end
/-- the built-ins' names are not the module's -/
def Free (mg : Str → Option Value) (x : Str) : Prop := mg x = none
end DL
set_option Elab.async false
set_option linter.all false
set_option maxRecDepth 100000
set_option maxHeartbeats 4000000
namespace DL
open PySem PySem.Spec L2
theorem hu64 {A : Around} {k : Nat} (hr : Room k A) : A.units + 64 < cLine := hr.units
theorem hu65 {A : Around} {k : Nat} (hr : Room k A) : A.units + 65 < cLine := by have := hr.un; omega
section
variable {X : Cx} {G : GC} {k kr : RK} {e a : Expr} {f fa : List C → Option D} {pos p pos' : Pos} {tg : Expr}
def gAddIS : D → D → Option D := gOr gAddI gAddS
theorem a_add : DOp X G (inplaceOp .Add) .vl .vl .fz gAddIS := a_addI.or a_addS
/-! ### is None -/
def isNoD : D → Bool | .none => true | _ => false
def eIsN (f : List C → Option D) : List C → Option D := fun env => (f env).map fun d => .bool (isNoD d)
def eNotN (f : List C → Option D) : List C → Option D := fun env => (f env).map fun d => .bool (!isNoD d)
theorem isN_dp {K : PySem.W.Frag} {H : Hp} {v : V} {d : D} (h : Dp K H v d) : decide (v = .non) = isNoD d := by
  cases h <;> rfl
theorem isN_ok {K : PySem.W.Frag} {H : Hp} {v : V} {d : D} (h : Dp K H v d) : (!decide (v = .non)) = (!isNoD d) := by
  cases h <;> rfl
theorem d_isN {j} (h : DE X G k e f) (hk : k.le .vw = true := by rfl) : DE X G .fz (.Compare e [.Is] [.Constant .none j pos'] pos) (eIsN f) := by
  obtain ⟨t, pt, o⟩ := (h.conv hk).ex
  refine ⟨_, pe_cmp (pc_isN pt) rfl, fun σ H F fp env d Q R hf q => ?_⟩
  unfold eIsN at hf
  cases z : f env with
  | none => rw [z] at hf; cases hf
  | some c =>
    rw [z] at hf; cases hf
    refine o σ H F fp env _ _ R z fun v H1 F1 E1 r => ?_
    rw [isN_dp r]
    exact q _ H1 F1 E1 (.bl _)
theorem d_notN {j} (h : DE X G k e f) (hk : k.le .vw = true := by rfl) : DE X G .fz (.Compare e [.IsNot] [.Constant .none j pos'] pos) (eNotN f) := by
  obtain ⟨t, pt, o⟩ := (h.conv hk).ex
  refine ⟨_, pe_cmp (pc_notN pt) rfl, fun σ H F fp env d Q R hf q => ?_⟩
  unfold eNotN at hf
  cases z : f env with
  | none => rw [z] at hf; cases hf
  | some c =>
    rw [z] at hf; cases hf
    refine o σ H F fp env _ _ R z fun v H1 F1 E1 r => ?_
    rw [isN_ok r]
    exact q _ H1 F1 E1 (.bl _)
theorem dt_isN {j} (h : DE X G k e f) (hk : k.le .vw = true := by rfl) : DTs X G (.Compare e [.Is] [.Constant .none j pos'] pos) (tB (eIsN f)) := by
  obtain ⟨t, pt, o⟩ := (h.conv hk).ex
  refine ⟨_, pt_cmp (pc_isN pt) rfl, fun σ H F fp env d Q R hf q => ?_⟩
  have hf := asB_some hf
  unfold eIsN at hf
  cases z : f env with
  | none => rw [z] at hf; cases hf
  | some c =>
    rw [z] at hf; cases hf
    refine o σ H F fp env _ _ R z fun v H1 F1 E1 r => ?_
    rw [isN_dp r]
    exact ⟨_, rfl, q H1 F1 E1⟩
theorem dt_notN {j} (h : DE X G k e f) (hk : k.le .vw = true := by rfl) : DTs X G (.Compare e [.IsNot] [.Constant .none j pos'] pos) (tB (eNotN f)) := by
  obtain ⟨t, pt, o⟩ := (h.conv hk).ex
  refine ⟨_, pt_cmp (pc_notN pt) rfl, fun σ H F fp env d Q R hf q => ?_⟩
  have hf := asB_some hf
  unfold eNotN at hf
  cases z : f env with
  | none => rw [z] at hf; cases hf
  | some c =>
    rw [z] at hf; cases hf
    refine o σ H F fp env _ _ R z fun v H1 F1 E1 r => ?_
    rw [isN_ok r]
    exact ⟨_, rfl, q H1 F1 E1⟩
/-! ### a borrowed list of plain things gone through -/
def iSeqB (f : List C → Option D) : List C → Option (List D) := fun env => match f env with | some (.list ds) => if ds.all scalD = true then some ds else none | _ => none
theorem scal_df {K : PySem.W.Frag} {H F : Hp} {v : V} {d : D} (hs : scalD d = true) (r : Dp K H v d) : DF K F v d := by
  cases r with
  | lst _ _ => cases hs
  | tup _ _ => cases hs
  | non => exact .non
  | bl b => exact .bl b
  | int i => exact .int i
  | str x => exact .str x
end
end DL
set_option Elab.async false
set_option linter.all false
set_option maxRecDepth 100000
set_option maxHeartbeats 4000000
/-! DLj: zip of a list or tuple with a list or tuple -/
namespace DL
open PySem PySem.Spec L2
def SqB (kd : Bool) (K : PySem.W.Frag) (H : Hp) (a : Addr) (xs : List V) : Prop := if kd = true then SqT K H a xs else SqL K H a xs
def IsB (kd : Bool) (h : Heap) (a : Addr) (its : Array Value) : Prop := if kd = true then h.IsTuple a its else h.IsList a its
def ItB (kd : Bool) (h : Heap) (i a : Addr) (n : Nat) : Prop := if kd = true then h.IsTupleIter i a n else h.IsListIter i a n
def itO (kd : Bool) (a : Addr) : Obj := if kd = true then ⟨.type "tuple_iterator", none, .fields #[.ref a, .int 0 0], #[]⟩ else ⟨.type "list_iterator", none, .fields #[.ref a, .int 0 0], #[]⟩
theorem begins_B (kd : Bool) (a : Addr) (its : Array Value) : Begins (.ref a) (itO kd a) fun h => IsB kd h a its := by
  cases kd
  · exact begins_list a its
  · exact begins_tuple a its
theorem itO_at {kd : Bool} {h : Heap} {i a : Addr} (e : h.get? i = some (itO kd a)) : ItB kd h i a 0 := by
  cases kd
  · exact ⟨_, e, rfl, rfl⟩
  · exact ⟨_, e, rfl, rfl⟩
theorem draws_B (kd : Bool) {P : Program} {w : World} {A : Around} (hh : A.handled = none) (i a : Addr) (hne : a ≠ i) (its : Array Value) :
    Draws P w A i [i, a] its.size (fun n v => its[n]? = some v) (fun n h => ItB kd h i a n ∧ IsB kd h a its) := by
  cases kd
  · exact Draws.list hh i a hne its
  · exact Draws.tuple hh i a hne its
theorem itB_keep {kd : Bool} {h h' : Heap} {i a : Addr} {n : Nat} (x : ItB kd h i a n) (k : ∀ o, h.get? i = some o → h'.get? i = some o) : ItB kd h' i a n := by
  cases kd
  · obtain ⟨o, e, p⟩ := (show h.IsListIter i a n from x); exact ⟨o, k o e, p⟩
  · obtain ⟨o, e, p⟩ := (show h.IsTupleIter i a n from x); exact ⟨o, k o e, p⟩
theorem itB_obj {kd : Bool} {h : Heap} {i a : Addr} {n : Nat} (x : ItB kd h i a n) : ∃ o, h.get? i = some o ∧ ∀ v, o.data ≠ .cell v := by
  cases kd
  · obtain ⟨o, e, _, d⟩ := (show h.IsListIter i a n from x); exact ⟨o, e, fun v q => by rw [d] at q; cases q⟩
  · obtain ⟨o, e, _, d⟩ := (show h.IsTupleIter i a n from x); exact ⟨o, e, fun v q => by rw [d] at q; cases q⟩
section
variable {X : Cx} {pins : List (Addr × Obj)} {σ : L2.St} {H : Hp} {s : Shared} {a : Addr} {xs ys : List V} {kd : Bool}
theorem seq_B (I : Inv X pins σ H s) (h : SqB kd X.K H a xs) : ∃ its : List Value, Vals xs its ∧ IsB kd s.heap a its.toArray := by
  cases kd
  · obtain ⟨its, r, p, _⟩ := I.list h
    exact ⟨its, r, p.isList⟩
  · obtain ⟨its, r, p, _⟩ := I.tuple h
    exact ⟨its, r, p⟩
theorem inj_B (I : Inv X pins σ H s) (h : SqB kd X.K H a xs) (h' : SqB kd X.K H a ys) : xs = ys := by
  cases kd
  · exact I.list_inj h h'
  · exact I.tuple_inj h h'
theorem isB_lt {h : Heap} {its : Array Value} (x : IsB kd h a its) : a < h.objs.size := by
  cases kd
  · obtain ⟨o, e, _⟩ := (show h.IsList a its from x); exact Heap.lt_size e
  · obtain ⟨o, e, _⟩ := (show h.IsTuple a its from x); exact Heap.lt_size e
end
/-- what the zip over a and b gives: new pairs, as long as both have items -/
def ItzM (K : PySem.W.Frag) (k1 k2 : Bool) (a b : Addr) (n1 n2 : Nat) : It where
  go := fun i H => ∃ (xs ys : List V) (x y : V), SqB k1 K H a xs ∧ SqB k2 K H b ys ∧ xs.length = n1 ∧ ys.length = n2 ∧ xs[i]? = some x ∧ ys[i]? = some y
  yld := fun i H v H' => ∃ T x y, v = .ref T ∧ H T = none ∧ H' = upd H T (.tup [x, y]) ∧ (∀ xs, SqB k1 K H a xs → xs[i]? = some x) ∧ ∀ ys, SqB k2 K H b ys → ys[i]? = some y
  stop := fun i H => ∃ xs ys : List V, SqB k1 K H a xs ∧ SqB k2 K H b ys ∧ xs.length = n1 ∧ ys.length = n2 ∧ (n1 ≤ i ∨ n2 ≤ i)
def tnM (k1 k2 : Bool) (a b z TI TO i1 i2 : Addr) (n1 n2 : Nat) (i : Nat) (h : Heap) : Prop :=
  IsZip h z TI TO .none ∧ IsTupOf2 h TI (.ref i1) (.ref i2) ∧ (∃ x y, IsTupOf2 h TO x y) ∧ ItB k1 h i1 a i ∧ ItB k2 h i2 b i ∧ i ≤ n1 ∧ i ≤ n2
theorem five {z TI TO i1 i2 c : Addr} (h : c ∈ [z, TI, TO, i1, i2]) : c = z ∨ c = TI ∨ c = TO ∨ c = i1 ∨ c = i2 := by simpa using h
theorem turn_M {P : Program} {w : World} {K : PySem.W.Frag} {elts : List Expr} {kk : Nat} {tpos : Pos} {k1 k2 : Bool} {a b z TI TO i1 i2 : Addr} {n1 n2 : Nat} (S : ZipSep2 z TI TO i1 i2 [i1, a] [i2, b]) (ha : a ≠ i1) (hb : b ≠ i2) :
    Turn P w K (.Tuple elts kk tpos) (ItzM K k1 k2 a b n1 n2) [z, TI, TO, i1, i2] z (tnM k1 k2 a b z TI TO i1 i2 n1 n2) where
  mem := List.mem_cons_self
  obj := fun i h st c hc => by
    obtain ⟨hz, hTI, ⟨x, y, hTO⟩, h1, h2, _, _⟩ := st
    rcases five hc with rfl | rfl | rfl | rfl | rfl
    · exact ⟨_, hz, fun v q => nomatch q⟩
    · exact ⟨_, hTI, fun v q => nomatch q⟩
    · exact ⟨_, hTO, fun v q => nomatch q⟩
    · exact itB_obj h1
    · exact itB_obj h2
  keep := fun i h h' st k => by
    obtain ⟨hz, hTI, ⟨x, y, hTO⟩, h1, h2, l1, l2⟩ := st
    exact ⟨k _ (by simp) _ hz, k _ (by simp) _ hTI, ⟨x, y, k _ (by simp) _ hTO⟩, itB_keep h1 (k _ (by simp)), itB_keep h2 (k _ (by simp)), l1, l2⟩
  item := by
    intro X eP ew eK hc i pins s σ H E I hf st hg
    subst eP ew eK
    obtain ⟨hz, hTI, ⟨x0, y0, hTO⟩, h1, h2, l1, l2⟩ := st
    obtain ⟨xs, ys, x, y, qx, qy, ex, ey, gx, gy⟩ := hg
    obtain ⟨us, r1, p1⟩ := seq_B I qx
    obtain ⟨ws, r2, p2⟩ := seq_B I qy
    obtain ⟨u, gu, ru⟩ := r1.get gx
    obtain ⟨v, gv, rv⟩ := r2.get gy
    have m1 : i < us.toArray.size := by
      rw [List.size_toArray]; exact (List.getElem?_eq_some_iff.mp gu).1
    have m2 : i < ws.toArray.size := by
      rw [List.size_toArray]; exact (List.getElem?_eq_some_iff.mp gv).1
    have hh : X.A.in1.handled = none := I.ok.hd hc
    have zl : z < s.heap.objs.size := Heap.lt_size hz
    refine wpAny_pyNext_zipD2_item S (draws_B k1 hh i1 a ha us.toArray) (draws_B k2 hh i2 b hb ws.toArray) hz hTI hTO ⟨h1, p1⟩ ⟨h2, p2⟩ m1 m2 fun x1 x2 h' tk y1 y2 z' o' t1 t2 hT _ hk => ?_
    have e1 : x1 = u := by
      have y1 : us.toArray[i]? = some x1 := y1
      rw [List.getElem?_toArray, gu] at y1; exact (Option.some.inj y1).symm
    have e2 : x2 = v := by
      have y2 : ws.toArray[i]? = some x2 := y2
      rw [List.getElem?_toArray, gv] at y2; exact (Option.some.inj y2).symm
    subst e1 e2
    refine ⟨_, rfl, wpAny_letOwnedTupleGo_zip (s := ⟨h', s.gens, s.drawn, tk, s.os⟩) z' fun h2' z2 sb => ?_⟩
    have hT2 : h2'.get? s.heap.objs.size = some ⟨.type "tuple", none, .seq #[x1, x2], #[]⟩ := (sb.2 _ (Nat.ne_of_gt zl)).trans hT
    have new : ObjOk X.prog X.w (upd H s.heap.objs.size (.tup [x, y])) h2' s.heap.objs.size (.tup [x, y]) :=
      ⟨by show 2 ≤ sizeLine; rw [sizeLine_eq]; decide, [x1, x2], .cons ru (.cons rv .nil), ⟨_, hT2, rfl, _, rfl⟩⟩
    have away : ∀ c o, c ∉ [z, TI, TO, i1, i2] → s.heap.get? c = some o → h2'.get? c = some o := fun c o hn q => by
      refine (sb.2 c fun e => hn (by simp [e])).trans (hk c o (fun e => hn (by simp [e])) (fun e => hn (by simp [e])) (fun e => hn (by simp [e])) (fun e => hn (by simp [e])) q)
    have J : Inv X pins σ (upd H s.heap.objs.size (.tup [x, y])) ⟨h2', s.gens, s.drawn, tk, s.os⟩ := I.turnedNew (t' := tk) away hf (Nat.le_refl _) new
    refine ⟨.ref s.heap.objs.size, _, J, rfl, ⟨_, x, y, rfl, I.hok.fresh (Nat.le_refl _), rfl, fun l hl => by rw [inj_B I hl qx]; exact gx, fun l hl => by rw [inj_B I hl qy]; exact gy⟩, ⟨z2, ?_, ⟨_, _, (sb.2 _ S.TOz).trans o'⟩, ?_, ?_, ?_, ?_⟩, fun c hcm => ?_⟩
    · exact (sb.2 _ S.TIz).trans (hk _ _ S.TIz S.TITO S.TIi1 S.TIi2 hTI)
    · exact itB_keep t1.1 fun o q => (sb.2 _ (Ne.symm S.zi1)).trans q
    · exact itB_keep t2.1 fun o q => (sb.2 _ (Ne.symm S.zi2)).trans q
    · rw [← ex]; exact (List.getElem?_eq_some_iff.mp gx).1
    · rw [← ey]; exact (List.getElem?_eq_some_iff.mp gy).1
    · have hlt : c < s.heap.objs.size := by
        rcases five hcm with rfl | rfl | rfl | rfl | rfl
        · exact zl
        · exact Heap.lt_size hTI
        · exact Heap.lt_size hTO
        · obtain ⟨o, e, _⟩ := itB_obj h1; exact Heap.lt_size e
        · obtain ⟨o, e, _⟩ := itB_obj h2; exact Heap.lt_size e
      rw [upd_ne (Nat.ne_of_lt hlt)]
      exact (hf c hcm).1
  done := by
    intro X eP ew eK hc i pins s σ H E I hf st hg
    subst eP ew eK
    obtain ⟨hz, hTI, ⟨x0, y0, hTO⟩, h1, h2, l1, l2⟩ := st
    obtain ⟨xs, ys, qx, qy, ex, ey, hend⟩ := hg
    obtain ⟨us, r1, p1⟩ := seq_B I qx
    obtain ⟨ws, r2, p2⟩ := seq_B I qy
    have m1 : us.toArray.size = n1 := by rw [List.size_toArray, ← r1.length, ex]
    have m2 : ws.toArray.size = n2 := by rw [List.size_toArray, ← r2.length, ey]
    have hh : X.A.in1.handled = none := I.ok.hd hc
    refine wpAny_pyNext_zipD2_end S (draws_B k1 hh i1 a ha us.toArray) (draws_B k2 hh i2 b hb ws.toArray) hz hTI hTO ⟨h1, p1⟩ ⟨h2, p2⟩ (by omega) (by omega) (by omega) fun h' tk hk => ⟨rfl, ?_⟩
    exact I.turnedL (t' := tk) (ch := [z, TI, TO, i1, i2]) (fun c o hn q => hk c o (fun e => hn (by simp [e])) (fun e => hn (by simp [e])) (fun e => hn (by simp [e])) (fun e => hn (by simp [e])) q) hf
  self := fun A i s Q E st h => wpAny_pyIter_zip st.1 h
def iZipX (K : PySem.W.Frag) (ta : TA) : TI := fun σ H R => ta σ H fun vs H1 => ∃ k1 k2 a b xs ys, vs = [.ref a, .ref b] ∧ SqB k1 K H1 a xs ∧ SqB k2 K H1 b ys ∧ R (ItzM K k1 k2 a b xs.length ys.length) H1
theorem pi_zipX {X : Cx} {e e2 : Expr} {ta : TA} {p pos tpos : Pos} {elts : List Expr} {kk : Nat} (hg : Gl X "zip") (hm : X.mg "zip" = none) (ha : PA X [e, e2] ta)
    (hs : starEach [e, e2] X.env = (false, eval e X.env) :: starEach [e2] X.env) (hpl : (backTo pos (starEach [e2] X.env)).any (·.1) = false) : PI X (.Tuple elts kk tpos) (.Call (.Name "zip" p) [e, e2] [] pos) (iZipX X.K ta) := by
  refine ⟨fun pins s σ H R I h => ?_⟩
  refine PyProof.Rows.Call_ (ld_blt I hg hm PyProof.Rows.boot_zip (PyProof.Rows.callWith_type1 (thn (ha.run pos pins s σ H _ I h) fun us s1 ⟨vs, H1, I1, r1, q1⟩ => ?_) hs hpl))
  obtain ⟨k1, k2, a, b, xs, ys, rfl, qx, qy, q⟩ := q1
  obtain ⟨us1, m1, p1⟩ := seq_B I1 qx
  obtain ⟨us2, m2, p2⟩ := seq_B I1 qy
  rcases r1 with _ | ⟨⟨⟩, _ | ⟨⟨⟩, _ | _⟩⟩
  have la := isB_lt p1
  have lb := isB_lt p2
  have new : ∀ c, c ∈ [s1.heap.objs.size + 4, s1.heap.objs.size + 2, s1.heap.objs.size + 3, s1.heap.objs.size, s1.heap.objs.size + 1] → FpOk X pins H1 c := fun c hcm => by
    have le : s1.heap.objs.size ≤ c := by
      rcases five hcm with rfl | rfl | rfl | rfl | rfl
      · exact Nat.le_add_right _ _
      · exact Nat.le_add_right _ _
      · exact Nat.le_add_right _ _
      · exact Nat.le_refl _
      · exact Nat.le_add_right _ _
    exact I1.fpOk le (I1.hok.fresh le)
  refine zip_begins2 (begins_B k1 a us1.toArray) (begins_B k2 b us2.toArray) p1 p2 fun h' hz hTI hTO g1 g2 _ hk => wpAny_pyIter_zip hz ?_
  have I2 : Inv X pins σ H1 { s1 with heap := h' } := I1.kept (t' := s1.toks) hk
  have S := zip_sep2 (N := s1.heap.objs.size) (fp1 := [a]) (fp2 := [b]) (fun c hc => by rw [List.mem_singleton.mp hc]; exact la) (fun c hc => by rw [List.mem_singleton.mp hc]; exact lb)
  exact ⟨_, _, _, _, H1, rfl, I2, turn_M S (Nat.ne_of_lt la) (Nat.ne_of_lt (Nat.lt_succ_of_lt lb)), ⟨hz, hTI, ⟨_, _, hTO⟩, itO_at g1, itO_at g2, Nat.zero_le _, Nat.zero_le _⟩, new, q⟩
/-- list or tuple -/
def sqD : D → Option (Bool × List D) | .list xs => some (false, xs) | .tuple xs => some (true, xs) | _ => none
def iZipG (f g : List C → Option D) : List C → Option (List D) := fun env => ((f env).bind sqD).bind fun x => ((g env).bind sqD).bind fun y => some (zipD x.2 y.2)
theorem sqD_df {K : PySem.W.Frag} {F : Hp} {v : V} {d : D} {k : Bool} {ds : List D} (e : sqD d = some (k, ds)) (r : DF K F v d) : ∃ a vs, v = .ref a ∧ SqB k K F a vs ∧ DFAll K F vs ds := by
  unfold sqD at e
  split at e <;> cases e
  · cases r with | lst h1 h2 => exact ⟨_, _, rfl, .inl (.inl h1), h2⟩
  · cases r with | tup h1 h2 => exact ⟨_, _, rfl, h1, h2⟩
theorem sqB_mono {K : PySem.W.Frag} {H H' : Hp} {k : Bool} {a : Addr} {vs : List V} (s : Same H H') (h : SqB k K H a vs) : SqB k K H' a vs := by
  cases k
  · exact s.seq h
  · exact Same.seqT s h
theorem lenB {K : PySem.W.Frag} {H : Hp} {k : Bool} {a : Addr} {vs : List V} (l : LenOk K H) (h : SqB k K H a vs) : vs.length ≤ sizeLine := by
  cases k
  · exact l a vs (.inl h)
  · exact l a vs (.inr h)
theorem di_zipG {X : Cx} {G : GC} {e e2 : Expr} {k k2 : RK} {f f2 : List C → Option D} {p pos : Pos} {elts : List Expr} {kk : Nat} {tpos : Pos} (hg : Gl X "zip") (hm : X.mg "zip" = none) (h : DE X G k e f) (h2 : DE X G k2 e2 f2) (hk : k.le .fz = true := by rfl) (hk2 : k2.le .fz = true := by rfl)
    (hs : starEach [e, e2] X.env = (false, eval e X.env) :: starEach [e2] X.env := by rfl) (hs2 : starEach [e2] X.env = [(false, eval e2 X.env)] := by rfl) (hpl : (backTo pos (starEach [e2] X.env)).any (·.1) = false := by rfl) :
    DI X G (.Tuple elts kk tpos) (.Call (.Name "zip" p) [e, e2] [] pos) (iZipG f f2) := by
  obtain ⟨t, pt, o⟩ := (h.conv hk).ex
  obtain ⟨t2, pt2, o2⟩ := (h2.conv hk2).ex
  refine ⟨_, pi_zipX hg hm (pa_cons pt (pa_cons pt2 pa_nil hs2) hs) hs hpl, fun σ H F fp env items R Rl hf q => ?_⟩
  unfold iZipG at hf
  cases z1 : f env with
  | none => rw [z1] at hf; cases hf
  | some d1 =>
    rw [z1, Option.bind_some] at hf
    cases y1 : sqD d1 with
    | none => rw [y1] at hf; cases hf
    | some x1 =>
      rw [y1, Option.bind_some] at hf
      cases z2 : f2 env with
      | none => rw [z2] at hf; cases hf
      | some d2 =>
        rw [z2, Option.bind_some] at hf
        cases y2 : sqD d2 with
        | none => rw [y2] at hf; cases hf
        | some x2 =>
          rw [y2, Option.bind_some] at hf
          cases hf
          obtain ⟨ka, xs⟩ := x1
          obtain ⟨kb, ys⟩ := x2
          refine o σ H F fp env _ _ Rl z1 fun v H1 F1 E1 r => ?_
          refine o2 σ H1 F1 fp env _ _ (Rl.ext E1) z2 fun v2 H2 F2 E2 r2 => ?_
          obtain ⟨a, vs, rfl, s1, m1⟩ := sqD_df y1 (DF_mono E2.f _ _ r)
          obtain ⟨b, ws, rfl, s2, m2⟩ := sqD_df y2 r2
          have n1 := DFAll_len m1
          have n2 := DFAll_len m2
          refine ⟨ka, kb, a, b, vs, ws, rfl, sqB_mono E2.sub s1, sqB_mono E2.sub s2, q _ H2 F2 (E1.trans E2) (fun i H3 F3 t1 t2 => ⟨fun d hd => ?_, fun hl => ?_⟩) fun ln => ?_⟩
          · obtain ⟨c1, c2, g1, g2, rfl⟩ := zipD_get hd
            obtain ⟨v, hv, rv⟩ := DFAll_get m1 g1
            obtain ⟨w, hw, rw'⟩ := DFAll_get m2 g2
            have ea := sqB_mono (t1.trans t2) s1
            have eb := sqB_mono (t1.trans t2) s2
            refine ⟨⟨vs, ws, v, w, ea, eb, rfl, rfl, hv, hw⟩, fun x H4 ⟨T, x1, x2, ex, nT, eH, j1, j2⟩ => ?_⟩
            have i1 := j1 vs ea; rw [hv] at i1; cases i1
            have i2 := j2 ws eb; rw [hw] at i2; cases i2
            subst ex eH
            obtain ⟨E, r'⟩ := pair_new t2 nT (DF_mono t1 _ _ rv) (DF_mono t1 _ _ rw')
            exact ⟨_, E, r'⟩
          · rw [zipD_len] at hl
            dsimp only at hl
            exact ⟨vs, ws, sqB_mono (t1.trans t2) s1, sqB_mono (t1.trans t2) s2, rfl, rfl, by omega⟩
          · have z9 := lenB ln (sqB_mono E2.sub s1)
            rw [zipD_len]; dsimp only; omega
end DL
set_option Elab.async false
set_option linter.all false
set_option maxRecDepth 100000
set_option maxHeartbeats 4000000
/-! DLk: range of numbers of any size -/
namespace DL
open PySem PySem.Spec L2
theorem turn_long {P : Program} {w : World} {K : PySem.W.Frag} {tg : Expr} (it : Addr) (lo : Int) (n : Nat) : Turn P w K tg (Itr lo n) [it] it (fun i h => IsLongIter h it (lo + (i : Nat) * 1) ((n : Int) - (i : Nat)) 1) where
  mem := List.mem_cons_self
  obj := fun i h st b hb => by
    rw [List.mem_singleton.mp hb]
    exact ⟨_, st, fun v z => nomatch z⟩
  keep := fun i h h' st k => k it List.mem_cons_self _ st
  item := by
    intro X eP ew eK hc i pins s σ H E I hf st hg
    subst eP ew eK
    obtain ⟨f0, f1, f2, f3, f4, f5⟩ := hf it List.mem_cons_self
    refine (Walks.longrange (prog := X.prog) (w := X.w) (I.ok.hd hc) it lo 1 n).item i s _ _ hg st fun v h' tk hv st' kk => ?_
    obtain ⟨t, rfl⟩ := hv
    have J1 : Inv X pins σ H ⟨h', s.gens, s.drawn, tk, s.os⟩ := I.turned (fun c o1 hc1 e1 => kk c o1 (by simpa using hc1) e1) f0 f1 f3 f4 f5
    refine ⟨_, rfl, go_of (s := { s with heap := h', toks := tk }) (n := "longrange_iterator") st' rfl rfl (by decide) ⟨.int (lo + i), H, J1, ⟨t, by rw [Int.mul_one]⟩, ⟨rfl, rfl⟩, st', fun b hb => (hf b hb).1⟩⟩
  done := by
    intro X eP ew eK hc i pins s σ H E I hf st hg
    subst eP ew eK
    obtain ⟨f0, f1, f2, f3, f4, f5⟩ := hf it List.mem_cons_self
    have hg' : n ≤ i := hg
    exact wpAny_pyNext_long_end (I.ok.hd hc) st (by omega) fun h' eb => ⟨rfl, I.turned (t' := s.toks) (fun b o hb e => eb b o hb e) f0 f1 f3 f4 f5⟩
  self := fun _ _ _ _ _ st h => wpAny_pyIter_longiter st h
section
variable {X : Cx} {tg : Expr}
theorem size_one (lo hi : Int) : (((hi - lo).toNat : Nat) : Int) - ((0 : Nat) : Int) = Builtin.Range.rangeSize lo hi 1 := by
  rw [rangeSize_one]; split <;> omega
theorem range_any {pins : List (Addr × Obj)} {σ : L2.St} {H : Hp} {s : Shared} {R : It → Hp → Prop} {E : Value → Shared → Prop} {lo hi : Int} {t u v : Tok} {tk : Nat} (I : Inv X pins σ H s)
    (q : R (Itr lo (hi - lo).toNat) H) : wpAny (model X.prog X.w) X.A (pyIter (.ref s.heap.objs.size)) (PIE X pins σ tg R) E { s with heap := s.heap.push ⟨.type "range", none, .fields #[.int lo t, .int hi u, .int 1 v], #[]⟩, toks := tk } := by
  have J1 : Inv X pins σ H { s with heap := s.heap.push ⟨.type "range", none, .fields #[.int lo t, .int hi u, .int 1 v], #[]⟩, toks := tk } := I.kept fun b o e => Heap.get?_push_of_some _ e
  have e1 : lo + ((0 : Nat) : Int) * 1 = lo := by simp
  cases sm : Builtin.Range.small lo hi 1 with
  | true =>
    refine wpAny_pyIter_range (IsRange.new ..) sm ?_
    refine ⟨_, [(s.heap.push ⟨.type "range", none, .fields #[.int lo t, .int hi u, .int 1 v], #[]⟩).objs.size], _, _, H, rfl, J1.kept (t' := tk) fun b o e => Heap.get?_push_of_some _ e, turn_range _ lo (hi - lo).toNat, ?_, fun b hb => ?_, q⟩
    · show IsRangeIter _ _ (lo + ((0 : Nat) : Int) * 1) ((((hi - lo).toNat : Nat) : Int) - ((0 : Nat) : Int)) (1 : Int)
      rw [e1, size_one]; exact Heap.get?_push_size _ rfl
    · rw [List.mem_singleton.mp hb]
      exact J1.fpOk (Nat.le_refl _) (J1.hok.fresh (Nat.le_refl _))
  | false =>
    refine wpAny_pyIter_longrange (IsRange.new ..) sm ?_
    refine ⟨_, [(s.heap.push ⟨.type "range", none, .fields #[.int lo t, .int hi u, .int 1 v], #[]⟩).objs.size], _, _, H, rfl, J1.kept (t' := tk) fun b o e => Heap.get?_push_of_some _ e, turn_long _ lo (hi - lo).toNat, ?_, fun b hb => ?_, q⟩
    · show IsLongIter _ _ (lo + ((0 : Nat) : Int) * 1) ((((hi - lo).toNat : Nat) : Int) - ((0 : Nat) : Int)) 1
      rw [e1, size_one]; exact Heap.get?_push_size _ rfl
    · rw [List.mem_singleton.mp hb]
      exact J1.fpOk (Nat.le_refl _) (J1.hok.fresh (Nat.le_refl _))
def iRngA (ta : TA) : TI := fun σ H R => ta σ H fun vs H1 => ∃ i j : Int, vs = [.int i, .int j] ∧ R (Itr i (j - i).toNat) H1
theorem pi_rangeA {a b : Expr} {ta : TA} {p pos : Pos} (hg : Gl X "range") (hm : X.mg "range" = none) (ha : PA X [a, b] ta) (hs : starEach [a, b] X.env = [(false, eval a X.env), (false, eval b X.env)]) (hs2 : starEach [b] X.env = [(false, eval b X.env)]) :
    PI X tg (.Call (.Name "range" p) [a, b] [] pos) (iRngA ta) := by
  refine ⟨fun pins s σ H R I h => ?_⟩
  refine PyProof.Rows.Call_ (ld_blt I hg hm PyProof.Rows.boot_range (PyProof.Rows.callWith_type1 (thn (ha.run pos pins s σ H _ I h) fun us s1 ⟨vs, H1, I1, r1, q1⟩ => ?_) (by rw [hs, hs2]) (by rw [hs2]; rfl)))
  obtain ⟨i, j, rfl, q⟩ := q1
  rcases r1 with _ | ⟨⟨t, rfl⟩, _ | ⟨⟨t', rfl⟩, _ | _⟩⟩
  exact call_range_2 (range_any I1 q)
end
def iRng2A (f g : List C → Option D) : List C → Option (List D) := fun env => match f env with
  | some (.int i) => (match g env with | some (.int j) => if j - i ≤ 16777216 then some (rng i (j - i).toNat) else none | _ => none)
  | _ => none
theorem di_rangeA {X : Cx} {G : GC} {tg e e2 : Expr} {k k2 : RK} {f f2 : List C → Option D} {p pos : Pos} (hg : Gl X "range") (hm : X.mg "range" = none) (h : DE X G k e f) (h2 : DE X G k2 e2 f2) (hk : k.le .vl = true := by rfl) (hk2 : k2.le .vl = true := by rfl)
    (hs : starEach [e, e2] X.env = [(false, eval e X.env), (false, eval e2 X.env)] := by rfl) (hs2 : starEach [e2] X.env = [(false, eval e2 X.env)] := by rfl) : DI X G tg (.Call (.Name "range" p) [e, e2] [] pos) (iRng2A f f2) := by
  obtain ⟨t, pt, o⟩ := (h.conv hk).ex
  obtain ⟨t2, pt2, o2⟩ := (h2.conv hk2).ex
  refine ⟨_, pi_rangeA hg hm (pa_cons pt (pa_cons pt2 pa_nil hs2) (by rw [hs, hs2])) hs hs2, fun σ H F fp env items R Rl hf q => ?_⟩
  unfold iRng2A at hf
  split at hf
  · rename_i i z
    split at hf
    · rename_i j z2
      split at hf
      · cases hf
        rename_i hb
        refine o σ H F fp env _ _ Rl z fun v H1 F1 E1 r => ?_
        have ev := vl_int (G := G) (H := H1) (F := F1) r
        subst ev
        refine o2 σ H1 F1 fp env _ _ (Rl.ext E1) z2 fun v H2 F2 E2 r => ?_
        have ev := vl_int (G := G) (H := H2) (F := F2) r
        subst ev
        exact ⟨i, j, rfl, q _ H2 F2 (E1.trans E2) (walk_rng i _) fun _ => by rw [rng_len, sizeLine_eq]; omega⟩
      · cases hf
    · cases hf
  · cases hf
end DL
set_option Elab.async false
set_option linter.all false
set_option maxRecDepth 100000
set_option maxHeartbeats 4000000
/-! DLl: a dict whose keys are nested tuples: made, asked, stored -/
namespace DL
open PySem PySem.Spec L2
section
variable {X : Cx} {pins : List (Addr × Obj)} {σ : L2.St} {H : Hp} {s : Shared}
mutual
theorem nested_is (I : Inv X pins σ H s) : ∀ (d : D) (v : V) (u : Value) (k : NestedKey), Dp X.K H v d → RelV v u → keyN d = some k → NestedIs s.heap k u
  | .none, _, u, k, h, r, e => by
    cases h; cases e; cases r; exact .none
  | .bool b, _, u, k, h, r, e => by
    cases h; cases e; cases r; exact .bool rfl
  | .int i, _, u, k, h, r, e => by
    cases h; cases e
    obtain ⟨t, rfl⟩ := r
    exact .int i t
  | .str x, _, u, k, h, r, e => by
    cases h; cases e
    obtain ⟨t, rfl⟩ := r
    exact .text x t
  | .tuple ds, _, u, k, h, r, e => by
    cases h with
    | tup hs ha =>
      unfold keyN at e
      cases z : keyNs ds with
      | none => rw [z] at e; cases e
      | some ks =>
        rw [z] at e; cases e
        cases r
        obtain ⟨its, rv, p, _⟩ := I.tuple hs
        obtain ⟨o, eo, ec, n, ed⟩ := p
        exact .tup eo ec ed (by
          rw [List.toList_toArray]
          exact nested_all I ds _ _ _ ha rv z)
  | .list _, _, _, _, _, _, e => by unfold keyN at e; cases e
  | .dict _, _, _, _, _, _, e => by unfold keyN at e; cases e
theorem nested_all (I : Inv X pins σ H s) : ∀ (ds : List D) (vs : List V) (us : List Value) (ks : List NestedKey), DpAll X.K H vs ds → Vals vs us → keyNs ds = some ks → NestedAll s.heap ks us
  | [], _, us, ks, h, r, e => by
    cases h; cases e; cases r; exact .nil
  | d :: ds, _, us, ks, h, r, e => by
    cases h with
    | cons h1 h2 =>
      unfold keyNs at e
      cases z1 : keyN d with
      | none => rw [z1] at e; cases e
      | some k =>
        cases z2 : keyNs ds with
        | none => rw [z1, z2] at e; cases e
        | some ks2 =>
          rw [z1, z2] at e; cases e
          cases r with
          | cons r1 r2 => exact .cons (nested_is I d _ _ _ h1 r1 z1) (nested_all I ds _ _ _ h2 r2 z2)
end
theorem dn_stay {w : World} {a : Addr} {xs : List (NestedKey × Addr × Value)} {h1 h2 : Heap} (p : xs.length ≤ sizeLine ∧ (a == sysModules) = false ∧
    ∃ o es ep, h1.get? a = some o ∧ o.ExactDict ∧ o.data = .dict es ep ∧ es.toList = xs.map (fun x => (⟨x.1.hash w, .ref x.2.1, x.2.2⟩ : DictEntry)) ∧ (xs.map (·.1)).Nodup) (k : ∀ o, h1.get? a = some o → h2.get? a = some o) :
    xs.length ≤ sizeLine ∧ (a == sysModules) = false ∧ ∃ o es ep, h2.get? a = some o ∧ o.ExactDict ∧ o.data = .dict es ep ∧ es.toList = xs.map (fun x => (⟨x.1.hash w, .ref x.2.1, x.2.2⟩ : DictEntry)) ∧ (xs.map (·.1)).Nodup := by
  obtain ⟨z1, z2, o, es, ep, e, r⟩ := p
  exact ⟨z1, z2, o, es, ep, k o e, r⟩
theorem pe_dnew {pos : Pos} : PE X (.Dict [] [] pos) (fun _ H Q => ∀ p, H p = none → Q (.ref p) (upd H p (dnO X.w p []))) := ⟨fun pins s σ H Q I h =>
  wpAny_Dict_empty ⟨.ref s.heap.objs.size, _, I.laid (a := s.heap.objs.size) (o := dnO X.w s.heap.objs.size []) (t' := s.toks) (fun _ _ q => Heap.get?_push_of_some _ q) (Nat.le_refl _)
    ⟨⟨Nat.zero_le _, beq_eq_false_iff_ne.mpr (Ne.symm (Nat.ne_of_lt I.big)), _, #[], 0, Heap.get?_push_size _ rfl, ⟨rfl, rfl, rfl⟩, rfl, rfl, List.nodup_nil⟩, ⟨_, Heap.get?_push_size _ rfl⟩, fun h1 h2 p k => dn_stay p k⟩, rfl, h _ (I.hok.fresh (Nat.le_refl _))⟩⟩
/-- what stands in the dict at a -/
theorem dn_of (I : Inv X pins σ H s) {a : Addr} {xs : List (NestedKey × Addr × Value)} (ha : H a = some (dnO X.w a xs)) (hk : ∀ e, e ∈ xs → e.1.depth ≤ 8 ∧ ∃ d, keyN d = some e.1 ∧ Dp X.K H (.ref e.2.1) d) :
    xs.length ≤ sizeLine ∧ (a == sysModules) = false ∧ s.heap.DictOfH (nestedKind X.prog X.w) a xs := by
  obtain ⟨⟨z, hd, o, es, ep, ho, h1, h2, h3, h4⟩, _, _⟩ := I.hok a _ ha
  refine ⟨z, hd, o, es, ep, ho, h1, h2, h3, fun e he => ?_, h4⟩
  obtain ⟨k8, d, kd, r⟩ := hk e he
  exact ⟨nested_is I d _ _ _ r rfl kd, k8⟩
theorem at_any (xs : List (NestedKey × Addr × Value)) (k : NestedKey) : (atKey xs k).isSome = xs.any fun e => decide (e.1 = k) := by
  unfold atKey
  rw [Option.isSome_map, Bool.eq_iff_iff, List.find?_isSome, List.any_eq_true]
theorem op_notIn_dn (hu : X.A.units + 9 < cLine) : OpR X (compareOp .NotIn) (fun x y H Q => ∃ (p : Addr) (d : D) (k : NestedKey) (a : Addr) (xs : List (NestedKey × Addr × Value)), x = .ref p ∧ Dp X.K H (.ref p) d ∧ keyN d = some k ∧ k.depth ≤ 8 ∧ y = .ref a ∧ H a = some (dnO X.w a xs) ∧
    (∀ e, e ∈ xs → e.1.depth ≤ 8 ∧ ∃ d, keyN d = some e.1 ∧ Dp X.K H (.ref e.2.1) d) ∧ Q (.bl (!(xs.any fun e => decide (e.1 = k)))) H) := by
  intro pins s σ H x y v u Q I rx ry h
  obtain ⟨p, d, k, a, xs, rfl, hp, hk, h8, rfl, ha, hx, q⟩ := h
  cases rx
  cases ry
  obtain ⟨z, hd, D1⟩ := dn_of I ha hx
  refine notIn_keyed (knd := nestedKind X.prog X.w) (k := k) (kvs := pairsH xs) (by show X.A.units + 1 + 8 < cLine; omega) ⟨nested_is I d _ _ _ hp rfl hk, h8⟩ hd ⟨xs, D1, rfl⟩ ?_
  refine ⟨.bl (!(xs.any fun e => decide (e.1 = k))), H, I.tok _, ?_, q⟩
  rw [valueAt_pairsH, Option.isSome_map, at_any]; rfl
theorem set_dn (hu : X.A.units + 9 < cLine) : PSet X (fun o i v H Q => ∃ (p : Addr) (d : D) (k : NestedKey) (a : Addr) (xs : List (NestedKey × Addr × Value)), o = .ref a ∧ i = .ref p ∧ v = .bl true ∧ Dp X.K H (.ref p) d ∧ keyN d = some k ∧ k.depth ≤ 8 ∧ H a = some (dnO X.w a xs) ∧
    (∀ e, e ∈ xs → e.1.depth ≤ 8 ∧ ∃ d, keyN d = some e.1 ∧ Dp X.K H (.ref e.2.1) d) ∧ (xs.any fun e => decide (e.1 = k)) = false ∧ xs.length < 16000000 ∧ Q (upd H a (dnO X.w a (xs ++ [(k, p, .bool true)])))) := by
  intro pins s σ H o i v ov iv u Q I ro ri rv h
  obtain ⟨p, d, k, a, xs, rfl, rfl, rfl, hp, hk, h8, ha, hx, nk, ln, q⟩ := h
  cases ro
  cases ri
  cases rv
  obtain ⟨z, hd, D1⟩ := dn_of I ha hx
  refine wpAny_setItem_heap (knd := nestedKind X.prog X.w) (k := k) (hsz := z) (by show X.A.units + 1 + 8 < cLine; omega) ⟨nested_is I d _ _ _ hp rfl hk, h8⟩ D1 fun h' D2 sb => ?_
  have na : atKey xs k = none := by
    have := at_any xs k
    rw [nk] at this
    cases y : atKey xs k with
    | none => rfl
    | some _ => rw [y] at this; cases this
  rw [storedH_new na] at D2
  obtain ⟨o, es, ep, ho, h1, h2, h3, _, h4⟩ := D2
  have ln' : (xs ++ [(k, p, Value.bool true)]).length ≤ sizeLine := by
    rw [List.length_append, List.length_singleton, sizeLine_eq]; omega
  have new : ObjOk X.prog X.w (upd H a (dnO X.w a (xs ++ [(k, p, Value.bool true)]))) h' a (dnO X.w a (xs ++ [(k, p, Value.bool true)])) := ⟨⟨ln', hd, o, es, ep, ho, h1, h2, h3, h4⟩, ⟨o, ho⟩, fun h1 h2 p k => dn_stay p k⟩
  exact ⟨_, d_write I (by rw [ha]; exact True.intro) sb ⟨o, ho⟩ new, q⟩
end
/-! ### the rules over data -/
section
variable {X : Cx} {G : GC} {kr k k1 : RK} {e : Expr} {fe : List C → Option D} {pos p1 p2 pos' : Pos} {x y : Str}
def sDictN (i : Nat) : List C → Out := fun env => .nx (env.set i (.dN []))
theorem ds_dictN (i : Nat) (hN : X.N.Nodup) (hi : X.N[i]? = some x) (hw : G.w = some X.w) (hx : Loc X.env.scope x := by first | exact .inl rfl | exact .inr rfl) (hs : swapsWith (.Dict [] [] p1) (some (.Name x pos')) pos.line X.env = pure false := by rfl)
    (hf : X.fn x = true ∨ X.env.scope.names.lookup x = some .local := by first | exact .inl rfl | exact .inr rfl | assumption) : DS X G kr (.Assign [.Name x pos'] (.Dict [] [] p1) pos) (sDictN i) := by
  refine ⟨_, ps_set hN hi hx pe_dnew hs hf, fun σ H F fp env E R q => ?_⟩
  intro a na
  have E1 : Ext H F (upd H a (dnO X.w a [])) F := Ext.laid R.sub na
  have R1 := R.ext E1
  refine q _ _ F _ (R1.put (i := i) (v := .ref a) (c := .dN []) (l := [a]) ⟨a, X.w, [], rfl, rfl, hw, upd_same, .nil⟩ (fun b hb => ?_) (fun b hb j hj hm => ?_)) (Same.refl _)
  · rw [List.mem_singleton.mp hb]
    exact ⟨R.sub.free na, (by rw [upd_same]; intro z; cases z), R.h0 na⟩
  · rw [List.mem_singleton.mp hb] at hm
    exact (R.own j a hm).2.1 na
def okK (d : D) : Bool := match d, keyN d with | .tuple _, some k => decide (k.depth ≤ 8) | _, _ => false
def hasK (ks : List D) (d : D) : Bool := ks.any fun k => decide (keyN k = keyN d)
def tNotInN (f : List C → Option D) (i : Nat) : List C → Option Bool := fun env => match env[i]? with
  | some (.dN ks) => (match f env with | some d => if okK d = true then some (!hasK ks d) else none | none => none)
  | _ => none
theorem keyAll_mem {K : PySem.W.Frag} {G : GC} {H F : Hp} (sub : Same F H) : ∀ {xs : List (NestedKey × Addr × Value)} {ks : List D}, KeyAll K F xs ks → ∀ e, e ∈ xs → e.1.depth ≤ 8 ∧ ∃ d, keyN d = some e.1 ∧ Dp K H (.ref e.2.1) d
  | _, _, .nil, _, h => nomatch h
  | _, _, .cons a b c t, e, h => by
    rcases List.mem_cons.mp h with rfl | h
    · exact ⟨b, _, a, Dp_mono sub _ _ (DF.dp _ _ c)⟩
    · exact keyAll_mem (G := G) sub t e h
theorem keyAll_any0 {K : PySem.W.Frag} {F : Hp} {k : NestedKey} : ∀ {xs : List (NestedKey × Addr × Value)} {ks : List D}, KeyAll K F xs ks → (xs.any fun e => decide (e.1 = k)) = ks.any fun d => decide (keyN d = some k)
  | _, _, .nil => rfl
  | _, _, .cons a b c t => by
    rw [List.any_cons, List.any_cons, keyAll_any0 t, a]
    congr 1
    exact decide_eq_decide.mpr ⟨fun e => congrArg some e, fun e => Option.some.inj e⟩
theorem keyAll_any {K : PySem.W.Frag} {F : Hp} {d : D} {k : NestedKey} (hk : keyN d = some k) {xs : List (NestedKey × Addr × Value)} {ks : List D} (h : KeyAll K F xs ks) : (xs.any fun e => decide (e.1 = k)) = hasK ks d := by
  unfold hasK
  rw [keyAll_any0 h, hk]
theorem keyAll_len {K : PySem.W.Frag} {F : Hp} : ∀ {xs : List (NestedKey × Addr × Value)} {ks : List D}, KeyAll K F xs ks → xs.length = ks.length
  | _, _, .nil => rfl
  | _, _, .cons a b c t => by rw [List.length_cons, List.length_cons, keyAll_len t]
theorem keyAll_snoc {K : PySem.W.Frag} {F : Hp} {k : NestedKey} {p : Addr} {v : Value} {d : D} (a : keyN d = some k) (b : k.depth ≤ 8) (c : DF K F (.ref p) d) : ∀ {xs : List (NestedKey × Addr × Value)} {ks : List D}, KeyAll K F xs ks → KeyAll K F (xs ++ [(k, p, v)]) (ks ++ [d])
  | _, _, .nil => .cons a b c .nil
  | _, _, .cons a1 b1 c1 t => .cons a1 b1 c1 (keyAll_snoc a b c t)
theorem okK_of {d : D} (h : okK d = true) : ∃ ds k, d = .tuple ds ∧ keyN d = some k ∧ k.depth ≤ 8 := by
  unfold okK at h
  split at h
  · rename_i ds k e
    exact ⟨ds, k, rfl, e, of_decide_eq_true h⟩
  · cases h
theorem slot_dn {K : PySem.W.Frag} {env : List C} {σ : L2.St} {H F : Hp} {fp : Nat → List Addr} {i : Nat} {ks : List D} (R : Rel K G env σ H F fp) (e : env[i]? = some (.dN ks)) : ∃ a w xs, fp i = [a] ∧ σ[i]? = some (some (.ref a)) ∧ G.w = some w ∧ H a = some (dnO w a xs) ∧ KeyAll K F xs ks := by
  obtain ⟨a, w, xs, q1, q2, q5, q3, q4⟩ := R.slot i _ e
  cases z : σ[i]? with
  | none => rw [z] at q2; cases q2
  | some o =>
    rw [z] at q2
    have e2 : o = some (.ref a) := q2
    subst e2
    exact ⟨a, w, xs, q1, rfl, q5, q3, q4⟩
theorem dt_notInN (i : Nat) (hu : X.A.units + 9 < cLine) (hw : G.w = some X.w) (h : DE X G k e fe) (hv : PE X (.Name x p1) (tVar i)) (hk : k.le .fz = true := by rfl) : DTs X G (.Compare e [.NotIn] [.Name x p1] pos) (tNotInN fe i) := by
  obtain ⟨t, p, o⟩ := (h.conv hk).ex
  refine ⟨_, pt_cmpR (op_notIn_dn hu) p hv rfl, fun σ H F fp env b Q R hf q => ?_⟩
  unfold tNotInN at hf
  split at hf
  · rename_i ks e1
    split at hf
    · rename_i d ed
      split at hf
      · rename_i ok
        cases hf
        obtain ⟨ds, kk, rfl, hk1, h8⟩ := okK_of ok
        refine o σ H F fp env _ _ R ed fun v H1 F1 E1 r => ?_
        have R1 := R.ext E1
        obtain ⟨a, w, xs, q1, q2, q5, q3, q4⟩ := slot_dn R1 e1
        rw [hw] at q5
        cases q5
        have r' : DF X.K F1 v (.tuple ds) := r
        obtain ⟨pa, rfl⟩ : ∃ pa, v = .ref pa := by cases r'; exact ⟨_, rfl⟩
        refine ⟨.ref a, q2, pa, _, kk, a, xs, rfl, Dp_mono E1.sub _ _ (DF.dp _ _ r'), hk1, h8, rfl, q3, keyAll_mem (G := G) E1.sub q4, ?_⟩
        rw [keyAll_any hk1 q4]
        exact ⟨_, rfl, q H1 F1 E1⟩
      · cases hf
    · cases hf
  · cases hf
def sPutN (i : Nat) (f : List C → Option D) : List C → Out := fun env => match env[i]? with
  | some (.dN ks) => (match f env with | some d => if okK d = true ∧ hasK ks d = false ∧ ks.length < 16000000 then .nx (env.set i (.dN (ks ++ [d]))) else .err | none => .err)
  | _ => .err
theorem ds_putN {ei : Expr} {fi : List C → Option D} {j} {p3 : Pos} (i : Nat) (hu : X.A.units + 9 < cLine) (hw : G.w = some X.w) (hv : PE X (.Name x p1) (tVar i)) (hi : DE X G k1 ei fi) (hk2 : k1.le .fz = true := by rfl)
    (ha : ∀ v, assign (.Subscript (.Name x p1) ei p2) X.env v = (do
      let ov ← holding [v] (eval (.Name x p1) X.env)
      let iv ← holding [v, ov] (eval ei X.env)
      standAt p2
      holding [v, ov, iv] (setItem ov iv v)
      release [v, ov, iv] []) := by intro _; rfl)
    (hs : swapsWithSole [.Subscript (.Name x p1) ei p2] (.Constant (.bool true) j p3) pos.line X.env = pure false := by rfl) (hsw : swappedStores [.Subscript (.Name x p1) ei p2] (.Constant (.bool true) j p3) X.env = pure none := by rfl)
    (h1 : (assignEach [.Subscript (.Name x p1) ei p2] X.env).map (·.2) = [assign (.Subscript (.Name x p1) ei p2) X.env] := by rfl) : DS X G kr (.Assign [.Subscript (.Name x p1) ei p2] (.Constant (.bool true) j p3) pos) (sPutN i fi) := by
  obtain ⟨ti, pi, oi⟩ := (hi.conv hk2).ex
  refine ⟨_, ps_asg pe_bl (pg_sub hv pi (set_dn hu) ha) hs hsw h1, fun σ H F fp env E R q => ?_⟩
  unfold sPutN at q
  split at q
  · rename_i ks e1
    split at q
    · rename_i d ed
      split at q
      · rename_i ok
        obtain ⟨ds, kk, rfl, hk1, h8⟩ := okK_of ok.1
        obtain ⟨a, w, xs, q1, q2, q5, q3, q4⟩ := slot_dn R e1
        rw [hw] at q5
        cases q5
        refine ⟨.ref a, q2, ?_⟩
        refine oi σ H F fp env _ _ R ed fun v H1 F1 E1 r => ?_
        have R1 := R.ext E1
        have r' : DF X.K F1 v (.tuple ds) := r
        obtain ⟨pa, rfl⟩ : ∃ pa, v = .ref pa := by cases r'; exact ⟨_, rfl⟩
        have q4' := q4.mono E1.f
        refine ⟨pa, _, kk, a, xs, rfl, rfl, rfl, Dp_mono E1.sub _ _ (DF.dp _ _ r'), hk1, h8, E1.h _ _ q3, keyAll_mem (G := G) E1.sub q4', ?_, ?_, ?_⟩
        · rw [keyAll_any hk1 q4']; exact ok.2.1
        · rw [keyAll_len q4']; exact ok.2.2
        · exact q σ _ F1 fp (R1.write q1 e1 (c := .dN (ks ++ [.tuple ds])) ⟨a, X.w, _, rfl, by rw [q2]; rfl, hw, upd_same, keyAll_snoc hk1 h8 r' q4'⟩) E1.f
      · exact q.elim
    · exact q.elim
  · exact q.elim
end
theorem hu9 {A : Around} {k : Nat} (hr : Room k A) : A.units + 9 < cLine := by have := hr.un; omega
/-! ### // and % by any number but nought -/
section
variable {X : Cx} {G : GC}
def gDivA : D → D → Option D | .int i, .int j => if j ≠ 0 ∧ j.natAbs.log2 < 9000 then some (.int (i.fdiv j)) else none | _, _ => none
def gModA : D → D → Option D | .int i, .int j => if j ≠ 0 then some (.int (i.fmod j)) else none | _, _ => none
theorem op_fdivA : OpR X (binaryOp .FloorDiv) (rI (fun _ j => j ≠ 0 ∧ j.natAbs.log2 < 9000) fun i j => .int (i.fdiv j)) := opI fun _ _ _ _ _ _ _ hc q => PyProof.Rows.floordiv_int hc.1 q (.inl (PyProof.noPylong_of_log2 hc.2))
theorem o_divA : DOp X G (binaryOp .FloorDiv) .vl .vl .fz gDivA := dop_int (C := fun _ j => j ≠ 0 ∧ j.natAbs.log2 < 9000) (r' := fun i j => .int (i.fdiv j)) op_fdivA (fun x y d h => by
  unfold gDivA at h
  split at h
  · split at h <;> cases h
    exact ⟨_, _, rfl, rfl, by assumption, rfl⟩
  · cases h) fun _ _ _ _ => .int _
theorem o_modA : DOp X G (binaryOp .Mod) .vl .vl .fz gModA := dop_int (C := fun _ j => j ≠ 0) (r' := fun i j => .int (i.fmod j)) op_modN (fun x y d h => by
  unfold gModA at h
  split at h
  · split at h <;> cases h
    exact ⟨_, _, rfl, rfl, by assumption, rfl⟩
  · cases h) fun _ _ _ _ => .int _
end
end DL
set_option Elab.async false
set_option linter.all false
set_option maxRecDepth 100000
set_option maxHeartbeats 4000000
/-! DLm: list(range(n)) -/
namespace DL
open PySem PySem.Spec L2
section
variable {X : Cx} {G : GC} {k : RK} {e : Expr} {f : List C → Option D} {p p2 pos pos2 : Pos}
def eListRg (f : List C → Option D) : List C → Option D := fun env => match f env with
  | some (.int j) => if -(2 ^ 62) ≤ j ∧ j ≤ 16777216 then some (.list (rng 0 j.toNat)) else none
  | _ => none
theorem rg_all {K : PySem.W.Frag} {F : Hp} : ∀ l : List Nat, DFAll K F (l.map fun i : Nat => V.int (0 + (i : Int))) (l.map fun i : Nat => PyData.int (0 + (i : Int)))
  | [] => .nil
  | i :: l => .cons (.int _) (rg_all l)
theorem d_listRg (hc : X.calm = true) (hg : Gl X "list") (hm : X.mg "list" = none) (hg2 : Gl X "range") (hm2 : X.mg "range" = none) (h : DE X G k e f) (hk : k.le .vl = true := by rfl)
    (na2 : starEach [e] X.env = (false, eval e X.env) :: starEach [] X.env := by rfl)
    (na : starEach [.Call (.Name "range" p2) [e] [] pos2] X.env = (false, eval (.Call (.Name "range" p2) [e] [] pos2) X.env) :: starEach [] X.env := by rfl) :
    DE X G .ow (.Call (.Name "list" p) [.Call (.Name "range" p2) [e] [] pos2] [] pos) (eListRg f) := by
  obtain ⟨t, pt, o⟩ := (h.conv hk).ex
  refine ⟨_, pe_listRg hc hg hm (prg_1 hg2 hm2 pt na2) na, fun σ H F fp env d Q R hf q => ?_⟩
  unfold eListRg at hf
  split at hf
  · rename_i j z
    split at hf
    · cases hf
      rename_i hb
      refine o σ H F fp env _ _ R z fun v H1 F1 E1 r => ?_
      have ev := vl_int (G := G) (H := H1) (F := F1) r
      subst ev
      refine ⟨j, rfl, ⟨by omega, by omega, hb.1, by omega, by omega⟩, fun n nn => ?_⟩
      have ra : DFAll X.K F1 (rgV 0 j) (rng 0 j.toNat) := by
        unfold rgV rng
        rw [Int.sub_zero]
        exact rg_all _
      obtain ⟨E, r'⟩ := new_ow (G := G) E1.sub nn ra
      exact q _ _ _ (E1.trans E) (r'.back E1.h)
    · cases hf
  · cases hf
end
end DL
set_option Elab.async false
set_option linter.all false
set_option maxRecDepth 100000
set_option maxHeartbeats 4000000
/-! DLn: a list of one's own read as a frozen one for one expression; a list of one's own handed to another name -/
namespace DL
open PySem PySem.Spec L2
section
variable {X : Cx} {G : GC} {kr k : RK} {e iter tg elt : Expr} {fe : List C → Option D} {ft : List C → Option Bool} {pos : Pos}
def flatO : Option D → Option D
  | some (.list es) => if es.all flatD = true then some (.list es) else none
  | _ => none
def eThaw (t : Nat) (fl : List C → Option D) : List C → Option D := fun env => match env[t]? with
  | some (.lst ds) => flatO (fl (env.set t (.val (.list ds))))
  | _ => none
def tThaw (t : Nat) (ft : List C → Option Bool) : List C → Option Bool := fun env => match env[t]? with
  | some (.lst ds) => ft (env.set t (.val (.list ds)))
  | _ => none
theorem flat_any {K : PySem.W.Frag} {F F' : Hp} : ∀ {vs : List V} {es : List D}, es.all flatD = true → DFAll K F vs es → DFAll K F' vs es
  | [], [], _, _ => .nil
  | v :: vs, d :: es, hf, .cons h1 h2 => by
    rw [List.all_cons, Bool.and_eq_true] at hf
    refine .cons ?_ (flat_any hf.2 h2)
    cases h1 with
    | lst _ _ => cases hf.1
    | tup _ _ => cases hf.1
    | int i => exact .int i
    | str i => exact .str i
    | bl i => exact .bl i
    | non => exact .non
theorem thaw_ok {tlc : TE} {fl : List C → Option D} (t : Nat) (ok : ∀ (σ : L2.St) (H F : Hp) (fp : Nat → List Addr) (env : List C) (d : D) (Q : VK), Rel X.K G env σ H F fp → fl env = some d → (∀ v H' F', Ext H F H' F' → RepK X.K G .ow H H' F' v d → Q v H') → tlc σ H Q) :
    ∀ (σ : L2.St) (H F : Hp) (fp : Nat → List Addr) (env : List C) (d : D) (Q : VK), Rel X.K G env σ H F fp → eThaw t fl env = some d → (∀ v H' F', Ext H F H' F' → RepK X.K G .ow H H' F' v d → Q v H') → tlc σ H Q := fun σ H F fp env d Q R hf q => by
  unfold eThaw at hf
  split at hf
  · rename_i ds z
    obtain ⟨F1, R1, s1, _⟩ := R.freeze z
    unfold flatO at hf
    split at hf
    · rename_i es z2
      split at hf <;> cases hf
      rename_i hfl
      refine ok σ H F1 _ _ _ _ R1 z2 fun v H' F' E' r => ?_
      obtain ⟨a, vs, ds', rfl, ed, h1, h2, h3, h4⟩ := r
      cases ed
      exact q _ H' F ⟨E'.h, Same.refl _, fun b x eb => E'.h _ _ (R.sub _ _ eb), fun _ _ eb => .inl eb⟩ ⟨a, vs, _, rfl, rfl, h1, h2, R.sub.free h1, flat_any hfl h4⟩
    · cases hf
  · cases hf
theorem dt_thaw (t : Nat) (h : DTs X G e ft) : DTs X G e (tThaw t ft) := by
  obtain ⟨tt, pt, o⟩ := h.ex
  refine ⟨tt, pt, fun σ H F fp env b Q R hf q => ?_⟩
  unfold tThaw at hf
  split at hf
  · rename_i ds z
    obtain ⟨F1, R1, s1, _⟩ := R.freeze z
    exact o σ H F1 _ _ b _ R1 hf fun H' F' E' => q H' F ⟨E'.h, Same.refl _, fun b x eb => E'.h _ _ (R.sub _ _ eb), fun _ _ eb => .inl eb⟩
  · cases hf
theorem ds_setLcT {y : Str} {py spos : Pos} {is : List Nat} {fi : List C → Option (List D)} {g : D → List C → Option (List C)} {ifs : List Expr} {scope : Scope} (t : Nat) (i : Nat) (own : List (Str × Nat)) (hc : X.calm = true) (hN : X.N.Nodup) (hy : X.N[i]? = some y) (hyl : X.env.scope.names.lookup y = some .local)
    (hsw : swapsWith (.ListComp elt [⟨tg, iter, ifs, 0⟩] scope pos) (some (.Name y py)) spos.line X.env = pure true) (hi : DI X G tg iter fi) (N : List Str) (sc : Scope) (ok : blkC N sc scope own = true)
    (hg : ∀ (s : Shared) (H : Hp) (C : Addr) (cl : List (Str × Addr)) (fp : List Addr), DG (X.blk s H scope (compEnvC scope cl C X.env) fp) G is tg g) (ht : ∀ (s : Shared) (H : Hp) (C : Addr) (cl : List (Str × Addr)) (fp : List Addr), DIf (X.blk s H scope (compEnvC scope cl C X.env) fp) G ifs ft)
    (he : ∀ (s : Shared) (H : Hp) (C : Addr) (cl : List (Str × Addr)) (fp : List Addr), DE (X.blk s H scope (compEnvC scope cl C X.env) fp) G k elt fe) (hk : k.le .fz = true := by rfl) (his : ∀ i, i ∈ is → i ∈ own.map (·.2) := by decide) (hs : ∀ x, foldedSetIterable iter X.env x = pure x := by intro _; rfl) (hN2 : X.N = N := by rfl) (hs2 : X.env.scope = sc := by rfl) :
    DS X G kr (.Assign [.Name y py] (.ListComp elt [⟨tg, iter, ifs, 0⟩] scope pos) spos) (sSetL i (eThaw t (eLc (own.map (·.2)) fi g ft fe))) := by
  obtain ⟨wi, pw, ow⟩ := hi.ex
  refine ⟨_, ps_setLc (g := tgD X.K G is g) (tt := tDT X.K G ft) (te := tD X.K G .fz fe) hc hN hy hyl hsw (pi_len pw) (blkOk_by (by rw [hN2, hs2]; exact ok)) (fun s H C cl fp => (hg s H C cl fp).canon) (fun s H C cl fp => (ht s H C cl fp).run) (fun s H C cl fp => ((he s H C cl fp).conv hk).canon) hs, ?_⟩
  exact setLc_ok (wi := wi) (own := true) (thaw_ok t fun σ H F fp env d Q R hf q => lc_ok ow his R hf q)
/-- x = y, both lists of one's own: y's is x's, y isn't read any more -/
def sMove (i j : Nat) : List C → Out := fun env => match env[j]? with
  | some (.lst ds) => .nx ((env.set j .und).set i (.lst ds))
  | _ => .err
theorem ds_move {x y : Str} {px py : Pos} (i j : Nat) (hN : X.N.Nodup) (hi : X.N[i]? = some x) (h : PE X (.Name y py) (tVar j)) (hx : Loc X.env.scope x := by first | exact .inl rfl | exact .inr rfl) (hs : swapsWith (.Name y py) (some (.Name x px)) pos.line X.env = pure false := by rfl)
    (hf : X.fn x = true ∨ X.env.scope.names.lookup x = some .local := by first | exact .inl rfl | exact .inr rfl | assumption) : DS X G kr (.Assign [.Name x px] (.Name y py) pos) (sMove i j) := by
  refine ⟨_, ps_set hN hi hx h hs hf, fun σ H F fp env E R q => ?_⟩
  unfold sMove at q
  split at q
  · rename_i ds z
    obtain ⟨a, vs, q1, q2, q3, q4⟩ := R.slot j _ z
    obtain ⟨h1, h2, h3⟩ := R.own j a (by rw [q1]; exact List.mem_singleton.mpr rfl)
    cases zz : σ[j]? with
    | none => rw [zz] at q2; cases q2
    | some o =>
      rw [zz] at q2
      have e2 : o = some (.ref a) := q2
      subst e2
      refine ⟨.ref a, zz, ?_⟩
      refine q _ H F _ ((R.drop j).put (i := i) (v := .ref a) (c := .lst ds) (l := [a]) ⟨a, vs, rfl, rfl, q3, q4⟩ (fun b hb => ?_) (fun b hb m hm hb2 => ?_)) (Same.refl _)
      · rw [List.mem_singleton.mp hb]; exact ⟨h1, h2, R.h00 z rfl (by rw [q1]; exact List.mem_singleton.mpr rfl)⟩
      · rw [List.mem_singleton.mp hb] at hb2
        by_cases hm2 : m = j
        · subst hm2; rw [fset_at] at hb2; cases hb2
        · rw [fset_ne hm2] at hb2
          exact hm2 (R.dj m j a hb2 (by rw [q1]; exact List.mem_singleton.mpr rfl))
  · exact q.elim
end
end DL
set_option Elab.async false
set_option linter.all false
set_option maxRecDepth 100000
set_option maxHeartbeats 4000000
/-! DLo: enumerate of a list or tuple -/
namespace DL
open PySem PySem.Spec L2
open Sem (wp)
theorem meets_enum1 {v : Value} {ob : Obj} {J : Heap → Prop} (B : Begins v ob J) :
    Meets (Builtin.«enumerate.__new__» ⟨[.type "enumerate", v], []⟩) (fun _ R u => J u.heap ∧
      R (.ok (.ret (.ref (u.heap.push ob).objs.size))) { u with heap := (u.heap.push ob).push ⟨.type "enumerate", none, .fields #[.none, .bool false, .ref u.heap.objs.size, rawInt 0, .none, .none], #[]⟩ }) :=
  .of_wp fun pr ww A R u z => by
    obtain ⟨hp, gn, dr, tk, os⟩ := u
    obtain ⟨j1, z⟩ := z
    have hsb := sub_enumerate
    have go1 : ∀ {A' : Around} {E Q : Value → Shared → Prop}, Q (.ref hp.objs.size) ⟨hp.push ob, gn, dr, tk, os⟩ → wpAny (model pr ww) A' (pyIter v) Q E ⟨hp, gn, dr, tk, os⟩ := fun q => B.iter pr ww _ _ ⟨hp, gn, dr, tk, os⟩ _ j1 q
    wp_walk using go1
    refine wpAny_stack_any fun _ => wpAny_pure ?_
    split
    · rename_i cc _ _ _ _ _
      cases (cc == Value.type "enumerate") <;> (wp_walk using go1; exact ⟨_, rfl, z⟩)
    · wp_walk using go1
      exact ⟨_, rfl, z⟩
theorem call_enumB {P : Program} {w : World} {A : Around} {E : Value → Shared → Prop} {u : Shared} {v : Value} {ob : Obj} {J : Heap → Prop} {Q : Value → Shared → Prop} (B : Begins v ob J) (j : J u.heap)
    (h : ∀ h', IsEnum h' (u.heap.objs.size + 1) u.heap.objs.size 0 .none → h'.get? u.heap.objs.size = some ob → h'.objs.size = u.heap.objs.size + 2 → (∀ b o, u.heap.get? b = some o → h'.get? b = some o) → Q (.ref (u.heap.objs.size + 1)) { u with heap := h' }) :
    wpAny (model P w) A (call (.type "enumerate") [v]) Q E u := by
  have hz : (u.heap.push ob).objs.size = u.heap.objs.size + 1 := Heap.size_push ..
  refine callType_new F.called_enumerate (by decide) (F.typeCall_enumerate_1 _) (F.newCall_enumerate_1 _) (fun obj => F.args_object_init_2 obj _) F.entry_enumerate_new (meets_enum1 B) ⟨j, ?_⟩
  show _ ∧ _
  rw [hz]
  have en : IsEnum ((u.heap.push ob).push ⟨.type "enumerate", none, .fields #[.none, .bool false, .ref u.heap.objs.size, rawInt 0, .none, .none], #[]⟩) (u.heap.objs.size + 1) u.heap.objs.size 0 .none := by
    have y := Heap.get?_push_size (u.heap.push ob) (o := ⟨.type "enumerate", none, .fields #[.none, .bool false, .ref u.heap.objs.size, rawInt 0, .none, .none], #[]⟩) rfl
    rw [hz] at y
    exact y
  exact ⟨⟨_, en, rfl⟩, h _ en (Heap.get?_push_of_some _ (Heap.get?_push_size _ B.free)) (by rw [Heap.size_push, hz]) fun b o x => Heap.get?_push_of_some _ (Heap.get?_push_of_some _ x)⟩
/-- the list or tuple at a, each item in a new pair with its place -/
def IteB (K : PySem.W.Frag) (kd : Bool) (a : Addr) (m : Nat) : It where
  go := fun i H => ∃ (xs : List V) (x : V), SqB kd K H a xs ∧ xs.length = m ∧ xs[i]? = some x
  yld := fun i H v H' => ∃ T x, v = .ref T ∧ H T = none ∧ H' = upd H T (.tup [.int (i : Nat), x]) ∧ ∀ xs, SqB kd K H a xs → xs[i]? = some x
  stop := fun i H => ∃ xs : List V, SqB kd K H a xs ∧ xs.length = m ∧ m ≤ i
theorem turn_enumB {P : Program} {w : World} {K : PySem.W.Frag} {elts : List Expr} {kk m : Nat} {tp : Pos} {kd : Bool} {a e it : Addr} (hne : e ≠ it) (hea : e ≠ a) (hia : a ≠ it) :
    Turn P w K (.Tuple elts kk tp) (IteB K kd a m) [e, it] e (fun i h => (∃ old, IsEnum h e it ((i : Nat) : Int) old) ∧ ItB kd h it a i ∧ i ≤ m) where
  mem := List.mem_cons_self
  obj := fun i h st b hb => by
    obtain ⟨⟨old, he⟩, hi, _⟩ := st
    rcases List.mem_cons.mp hb with rfl | hb
    · exact ⟨_, he, fun v q => nomatch q⟩
    · rw [List.mem_singleton.mp hb]; exact itB_obj hi
  keep := fun i h h' st k => by
    obtain ⟨⟨old, he⟩, hi, l⟩ := st
    exact ⟨⟨old, k e (by simp) _ he⟩, itB_keep hi (k it (by simp)), l⟩
  item := by
    intro X eP ew eK hc i pins s σ H E J hf st hg
    subst eP ew eK
    obtain ⟨⟨old, he⟩, hi, lm⟩ := st
    obtain ⟨xs, x, hq, hm, hx⟩ := hg
    obtain ⟨us, ru, pu⟩ := seq_B J hq
    obtain ⟨u, gu, rx⟩ := ru.get hx
    have lt : i < us.toArray.size := by
      rw [List.size_toArray]; exact (List.getElem?_eq_some_iff.mp gu).1
    have hh : X.A.in1.handled = none := J.ok.hd hc
    have el : e < s.heap.objs.size := Heap.lt_size he
    have il : it < s.heap.objs.size := by obtain ⟨o, z, _⟩ := itB_obj hi; exact Heap.lt_size z
    refine wpAny_pyNext_enum_itemC (draws_B kd hh it a hia us.toArray) he ⟨hi, pu⟩ lt hne (fun z => ?_) fun y h' tk hy ho hs' hT hz hk => ?_
    · rcases List.mem_cons.mp z with z | z
      · exact hne z
      · exact hea (List.mem_singleton.mp z)
    · have ey : y = u := by
        have hy : us.toArray[i]? = some y := hy
        rw [List.getElem?_toArray, gu] at hy; exact (Option.some.inj hy).symm
      subst ey
      refine ⟨_, rfl, wpAny_letOwnedTupleGo_enum (s := ⟨h', s.gens, s.drawn, tk + 1, s.os⟩) ho fun h2 he2 sb => ?_⟩
      have hT2 : h2.get? s.heap.objs.size = some ⟨.type "tuple", none, .seq #[.int i tk, y], #[]⟩ := (sb.2 _ (Nat.ne_of_gt el)).trans hT
      have nw : ObjOk X.prog X.w (upd H s.heap.objs.size (.tup [.int (i : Nat), x])) h2 s.heap.objs.size (.tup [.int (i : Nat), x]) := ⟨by show 2 ≤ sizeLine; decide, [.int i tk, y], .cons ⟨_, rfl⟩ (.cons rx .nil), ⟨_, hT2, rfl, _, rfl⟩⟩
      have J1 : Inv X pins σ (upd H s.heap.objs.size (.tup [.int (i : Nat), x])) ⟨h2, s.gens, s.drawn, tk + 1, s.os⟩ :=
        J.turnedNew (t' := tk + 1) (ch := [e, it]) (fun b ob hb q => (sb.2 b (fun z => hb (by simp [z]))).trans (hk b ob (fun z => hb (by simp [z])) (fun z => hb (by simp [z])) q)) hf (Nat.le_refl _) nw
      refine ⟨.ref s.heap.objs.size, _, J1, rfl, ⟨_, x, rfl, J.hok.fresh (Nat.le_refl _), rfl, fun l hl => by rw [inj_B J hl hq]; exact hx⟩, ⟨⟨y, ?_⟩, itB_keep hs'.1 fun o q => (sb.2 it (Ne.symm hne)).trans q, ?_⟩, fun b hb => ?_⟩
      · have z : ((i + 1 : Nat) : Int) = (i : Int) + 1 := by omega
        rw [z]; exact he2
      · have := (List.getElem?_eq_some_iff.mp hx).1
        omega
      · have hb' : b < s.heap.objs.size := by
          rcases List.mem_cons.mp hb with rfl | hb
          · exact el
          · rw [List.mem_singleton.mp hb]; exact il
        rw [upd_ne (Nat.ne_of_lt hb')]
        exact (hf b hb).1
  done := by
    intro X eP ew eK hc i pins s σ H E J hf st hg
    subst eP ew eK
    obtain ⟨⟨old, he⟩, hi, lm⟩ := st
    obtain ⟨xs, hq, hm, hend⟩ := hg
    obtain ⟨us, ru, pu⟩ := seq_B J hq
    have ms : us.toArray.size = m := by rw [List.size_toArray, ← ru.length, hm]
    have im : i = us.toArray.size := by omega
    subst im
    have hh : X.A.in1.handled = none := J.ok.hd hc
    obtain ⟨f0, f1, f2, f3, f4, f5⟩ := hf it (by simp)
    exact wpAny_pyNext_enum_endD (draws_B kd hh it a hia us.toArray) he ⟨hi, pu⟩ fun h' eb => ⟨rfl, J.turned (t' := s.toks) (fun b o hb q => eb b o hb q) f0 f1 f3 f4 f5⟩
  self := fun A i s Q E st h => wpAny_pyIter_enum st.1.choose_spec h
def iEnumX (K : PySem.W.Frag) (ta : TA) : TI := fun σ H R => ta σ H fun vs H1 => ∃ kd a xs, vs = [.ref a] ∧ SqB kd K H1 a xs ∧ R (IteB K kd a xs.length) H1
theorem pi_enumX {X : Cx} {e : Expr} {ta : TA} {p pos tpos : Pos} {elts : List Expr} {kk : Nat} (hg : Gl X "enumerate") (hm : X.mg "enumerate" = none) (ha : PA X [e] ta) (hs : starEach [e] X.env = [(false, eval e X.env)]) :
    PI X (.Tuple elts kk tpos) (.Call (.Name "enumerate" p) [e] [] pos) (iEnumX X.K ta) := by
  refine ⟨fun pins s σ H R J h => ?_⟩
  refine PyProof.Rows.Call_ (ld_blt J hg hm PyProof.Rows.boot_enumerate (PyProof.Rows.callWith_type1 (thn (ha.run pos pins s σ H _ J h) fun us s1 ⟨vs, H1, J1, r1, q1⟩ => ?_) hs rfl))
  obtain ⟨kd, a, xs, rfl, qx, q⟩ := q1
  obtain ⟨us1, m1, p1⟩ := seq_B J1 qx
  rcases r1 with _ | ⟨⟨⟩, _ | _⟩
  have la := isB_lt p1
  refine call_enumB (begins_B kd a us1.toArray) p1 fun h' he g1 _ hk => wpAny_pyIter_enum he ?_
  have J2 : Inv X pins σ H1 { s1 with heap := h' } := J1.kept (t' := s1.toks) hk
  refine ⟨s1.heap.objs.size + 1, [s1.heap.objs.size + 1, s1.heap.objs.size], _, _, H1, rfl, J2, turn_enumB (it := s1.heap.objs.size) (Nat.succ_ne_self _) (Nat.ne_of_gt (Nat.lt_succ_of_lt la)) (Nat.ne_of_lt la), ⟨⟨.none, he⟩, itO_at g1, Nat.zero_le _⟩, fun b hb => ?_, q⟩
  have hle : s1.heap.objs.size ≤ b := by
    rcases List.mem_cons.mp hb with rfl | hb
    · exact Nat.le_add_right _ _
    · rw [List.mem_singleton.mp hb]; exact Nat.le_refl _
  exact J1.fpOk hle (J1.hok.fresh hle)
def iEnumG (f : List C → Option D) : List C → Option (List D) := fun env => ((f env).bind sqD).bind fun x => some (enumD x.2)
theorem di_enumG {X : Cx} {G : GC} {e : Expr} {k : RK} {f : List C → Option D} {p pos tpos : Pos} {elts : List Expr} {kk : Nat} (hg : Gl X "enumerate") (hm : X.mg "enumerate" = none) (h : DE X G k e f) (hk : k.le .fz = true := by rfl) (hs : starEach [e] X.env = [(false, eval e X.env)] := by rfl) :
    DI X G (.Tuple elts kk tpos) (.Call (.Name "enumerate" p) [e] [] pos) (iEnumG f) := by
  obtain ⟨t, pt, o⟩ := (h.conv hk).ex
  refine ⟨_, pi_enumX hg hm (pa_cons pt pa_nil hs) hs, fun σ H F fp env items R Rl hf q => ?_⟩
  unfold iEnumG at hf
  cases z1 : f env with
  | none => rw [z1] at hf; cases hf
  | some d1 =>
    rw [z1, Option.bind_some] at hf
    cases y1 : sqD d1 with
    | none => rw [y1] at hf; cases hf
    | some x1 =>
      rw [y1, Option.bind_some] at hf
      cases hf
      obtain ⟨ka, xs⟩ := x1
      refine o σ H F fp env _ _ Rl z1 fun v H1 F1 E1 r => ?_
      obtain ⟨a, vs, rfl, s1, m1⟩ := sqD_df y1 r
      have n1 := DFAll_len m1
      refine ⟨ka, a, vs, rfl, sqB_mono E1.sub s1, q _ H1 F1 E1 (fun i H3 F3 t1 t2 => ⟨fun d hd => ?_, fun hl => ?_⟩) fun ln => ?_⟩
      · obtain ⟨c1, g1, rfl⟩ := enumD_get hd
        obtain ⟨v, hv, rv⟩ := DFAll_get m1 g1
        have ea := sqB_mono (t1.trans t2) s1
        refine ⟨⟨vs, v, ea, rfl, hv⟩, fun x H4 ⟨T, x1, ex, nT, eH, j1⟩ => ?_⟩
        have i1 := j1 vs ea; rw [hv] at i1; cases i1
        subst ex eH
        obtain ⟨E, r'⟩ := pair_new t2 nT (.int (i : Nat)) (DF_mono t1 _ _ rv)
        exact ⟨_, E, r'⟩
      · rw [enumD_len] at hl
        dsimp only at hl
        exact ⟨vs, sqB_mono (t1.trans t2) s1, rfl, by omega⟩
      · have z9 := lenB ln (sqB_mono E1.sub s1)
        rw [enumD_len]; dsimp only; omega
end DL
set_option Elab.async false
set_option linter.all false
set_option maxRecDepth 100000
set_option maxHeartbeats 4000000
set_option exponentiation.threshold 500
/-! DM: the meanings reckoned: each combinator at a frame, as equations for simp -/
namespace DL
open PySem PySem.Spec L2

section
variable {env : List C} {f g : List C → Out} {fe fa fb : List C → Option D} {ft f1 f2 : List C → Option Bool} {fs : List C → Option (List D)} {fi : List C → Option (List D)} {i j n : Nat} {d x y : D} {ds xs ys : List D} {e : List C}
/-! ### plain ones, told as equations (not by unfolding) -/
theorem ev_bs {α β : Type} {x : α} {f : α → Option β} : (some x).bind f = f x := (rfl)
theorem ev_bn {α β : Type} {f : α → Option β} : (none : Option α).bind f = none := (rfl)
theorem ev_ms {α β : Type} {x : α} {f : α → β} : (some x).map f = some (f x) := (rfl)
theorem ev_mn {α β : Type} {f : α → β} : (none : Option α).map f = none := (rfl)
theorem ev_g0 {α : Type} {a : α} {l : List α} : (a :: l)[0]? = some a := (rfl)
theorem ev_gs {α : Type} {a : α} {l : List α} {n : Nat} : (a :: l)[n + 1]? = l[n]? := (rfl)
theorem ev_s0 {α : Type} {a b : α} {l : List α} : (a :: l).set 0 b = b :: l := (rfl)
theorem ev_ss {α : Type} {a b : α} {l : List α} {n : Nat} : (a :: l).set (n + 1) b = a :: l.set n b := (rfl)
theorem ev_bn1 : (!true) = false := (rfl)
theorem ev_bn2 : (!false) = true := (rfl)
/-! ### statements -/
def oSeq (o : Out) (g : List C → Out) : Out := match o with | .nx e => g e | o => o
theorem ev_seq : sSeq f g env = oSeq (f env) g := by unfold sSeq oSeq; cases f env <;> rfl
theorem ev_seq_nx : oSeq (.nx e) g = g e := (rfl)
theorem ev_seq_rt : oSeq (.rt d) g = .rt d := (rfl)
theorem ev_seq_bk : oSeq (.bk e) g = .bk e := (rfl)
theorem ev_seq_ct : oSeq (.ct e) g = .ct e := (rfl)
theorem ev_nil : sNil env = .nx env := (rfl)
theorem ev_brk : sBrk env = .bk env := (rfl)
theorem ev_cnt : sCnt env = .ct env := (rfl)
def oIf (c : Option Bool) (f g : List C → Out) (env : List C) : Out := match c with | some true => f env | some false => g env | none => .err
theorem ev_if : sIf ft f g env = oIf (ft env) f g env := (rfl)
theorem ev_if_t : oIf (some true) f g env = f env := (rfl)
theorem ev_if_f : oIf (some false) f g env = g env := (rfl)
theorem if_dec {p : Prop} [Decidable p] : oIf (some (decide p)) f g env = if p then f env else g env := by
  by_cases h : p
  · rw [decide_eq_true h, if_pos h]; rfl
  · rw [decide_eq_false h, if_neg h]; rfl
def oSet (o : Option D) (i : Nat) (env : List C) : Out := match o with | some d => .nx (env.set i (.val d)) | none => .err
theorem ev_set : sSet i fe env = oSet (fe env) i env := (rfl)
theorem ev_oset : oSet (some d) i env = .nx (env.set i (.val d)) := (rfl)
def oSetL (o : Option D) (i : Nat) (env : List C) : Out := match o with | some (.list ds) => .nx (env.set i (.lst ds)) | _ => .err
theorem ev_setL : sSetL i fe env = oSetL (fe env) i env := (rfl)
theorem ev_osetL : oSetL (some (.list ds)) i env = .nx (env.set i (.lst ds)) := (rfl)
def oDrop (o : Option D) (env : List C) : Out := match o with | some _ => .nx env | none => .err
theorem ev_drop : sDrop fe env = oDrop (fe env) env := (rfl)
theorem ev_odrop : oDrop (some d) env = .nx env := (rfl)
def oRet (o : Option D) : Out := match o with | some d => .rt d | none => .err
theorem ev_ret : sRet fe env = oRet (fe env) := (rfl)
theorem ev_oret : oRet (some d) = .rt d := (rfl)
theorem ev_retN : sRetN env = .rt .none := (rfl)
def oRetL (o : Option C) : Out := match o with | some (.lst ds) => .rt (.list ds) | _ => .err
theorem ev_retL : sRetL i env = oRetL env[i]? := (rfl)
theorem ev_oretL : oRetL (some (.lst ds)) = .rt (.list ds) := (rfl)
def oRun (o : Out) : Option D := match o with | .rt d => some d | _ => none
def oRunN (o : Out) : Option D := match o with | .rt d => some d | .nx _ => some .none | _ => none
theorem ev_run {ks : List RK} {b : List C → Out} : runP ks n b ds = oRun (b (cells ks ds ++ List.replicate (n - ds.length) .und)) := (rfl)
theorem ev_runN {ks : List RK} {b : List C → Out} : runN ks n b ds = oRunN (b (cells ks ds ++ List.replicate (n - ds.length) .und)) := (rfl)
theorem ev_orun : oRun (.rt d) = some d := (rfl)
theorem ev_orunN : oRunN (.rt d) = some d := (rfl)
theorem ev_orunN_nx : oRunN (.nx e) = some .none := (rfl)
def oFz (c : Option C) (i : Nat) (g : List C → Out) (env : List C) : Out := match c with | some (.lst ds) => g (env.set i (.val (.list ds))) | some (.val _) => g env | _ => .err
theorem ev_fz : sFz i g env = oFz env[i]? i g env := (rfl)
theorem ev_fz_l : oFz (some (.lst ds)) i g env = g (env.set i (.val (.list ds))) := (rfl)
theorem ev_fz_v : oFz (some (.val d)) i g env = g env := (rfl)
def oApp (c : Option C) (o : Option D) (i : Nat) (env : List C) : Out := match c with
  | some (.lst ds) => (match o with | some d => if ds.length < 16000000 then .nx (env.set i (.lst (ds ++ [d]))) else .err | none => .err)
  | _ => .err
theorem ev_app : sApp i fe env = oApp env[i]? (fe env) i env := (rfl)
theorem ev_app_s (h : (ds.length : Int) < 16000000) : oApp (some (.lst ds)) (some d) i env = .nx (env.set i (.lst (ds ++ [d]))) := if_pos (by omega)
def oClear (c : Option C) (i : Nat) (env : List C) : Out := match c with | some (.lst _) => .nx (env.set i (.lst [])) | _ => .err
theorem ev_clear : sClear i env = oClear env[i]? i env := (rfl)
theorem ev_clear_s : oClear (some (.lst ds)) i env = .nx (env.set i (.lst [])) := (rfl)
def oNx (o : Option (List C)) : Out := match o with | some e => .nx e | none => .err
theorem ev_oNx : oNx (some e) = .nx e := (rfl)
def oAsg (o : Option D) (h : D → List C → Option (List C)) (env : List C) : Out := match o with | some d => oNx (h d env) | none => .err
theorem ev_asg {h : D → List C → Option (List C)} : sAsg h fe env = oAsg (fe env) h env := by unfold sAsg oAsg oNx; cases fe env <;> rfl
theorem ev_asg_s {h : D → List C → Option (List C)} : oAsg (some d) h env = oNx (h d env) := (rfl)
def oPar (o : Option (List D)) (i j : Nat) (env : List C) : Out := match o with | some [x, y] => .nx ((env.set i (.val x)).set j (.val y)) | _ => .err
theorem ev_par : sPar i j fs env = oPar (fs env) i j env := (rfl)
theorem ev_par_s : oPar (some [x, y]) i j env = .nx ((env.set i (.val x)).set j (.val y)) := (rfl)
def oAug (c : Option C) (o : Option D) (h : D → D → Option D) (i : Nat) (env : List C) : Out := match c with
  | some (.val x) => oSet (o.bind fun y => h x y) i env
  | _ => .err
theorem ev_aug {h : D → D → Option D} : sAug i h fe env = oAug env[i]? (fe env) h i env := by
  unfold sAug oAug
  cases env[i]? with
  | none => rfl
  | some c =>
    cases c <;> try rfl
    rename_i x
    cases fe env with
    | none => rfl
    | some y =>
      show (match h x y with | some z => Out.nx _ | none => Out.err) = oSet (h x y) i env
      cases h x y <;> rfl
theorem ev_aug_s {h : D → D → Option D} : oAug (some (.val x)) (some y) h i env = oSet (h x y) i env := (rfl)
def oSetIx (c : Option C) (oi o : Option D) (i : Nat) (env : List C) : Out := match c with
  | some (.lst ds) => (match o with
    | some d => (match oi with
      | some (.int j) => oSetL ((setAt ds j d).map .list) i env
      | _ => .err)
    | none => .err)
  | _ => .err
theorem ev_setIx {fj : List C → Option D} : sSetIx i fj fe env = oSetIx env[i]? (fj env) (fe env) i env := by
  unfold sSetIx oSetIx
  cases env[i]? with
  | none => rfl
  | some c =>
    cases c <;> try rfl
    rename_i ds
    cases fe env with
    | none => rfl
    | some d =>
      cases fj env with
      | none => rfl
      | some k =>
        cases k <;> try rfl
        rename_i k
        dsimp only
        cases setAt ds k d <;> rfl
theorem ev_setIx_s {k : Int} : oSetIx (some (.lst ds)) (some (.int k)) (some d) i env = oSetL ((setAt ds k d).map .list) i env := (rfl)
def oAugIx (c : Option C) (oi o : Option D) (h : D → D → Option D) (i : Nat) (env : List C) : Out := match c with
  | some (.lst ds) => (match oi with
    | some (.int j) => (match atI ds j with
      | some x => (match o with
        | some y => (match h x y with
          | some z => (match setAt ds j z with | some ds' => .nx (env.set i (.lst ds')) | none => .err)
          | none => .err)
        | none => .err)
      | none => .err)
    | _ => .err)
  | _ => .err
theorem ev_augIx {h : D → D → Option D} {fj : List C → Option D} : sAugIx i h fj fe env = oAugIx env[i]? (fj env) (fe env) h i env := by
  unfold sAugIx oAugIx
  rfl
theorem augIx_s {h : D → D → Option D} {k : Int} {z : D} {ds' : List D} (e1 : atI ds k = some x) (e2 : h x y = some z) (e3 : setAt ds k z = some ds') : oAugIx (some (.lst ds)) (some (.int k)) (some y) h i env = .nx (env.set i (.lst ds')) := by
  unfold oAugIx
  simp only [e1, e2, e3]
theorem ev_dictN : sDictN i env = .nx (env.set i (.dN [])) := (rfl)
def oNotInN (c : Option C) (o : Option D) : Option Bool := match c with
  | some (.dN ks) => (match o with | some d => if okK d = true then some (!hasK ks d) else none | none => none)
  | _ => none
theorem ev_notInN : tNotInN fe i env = oNotInN env[i]? (fe env) := (rfl)
theorem ev_oNotInN (h : okK d = true) : oNotInN (some (.dN ds)) (some d) = some (!hasK ds d) := if_pos h
def oPutN (c : Option C) (o : Option D) (i : Nat) (env : List C) : Out := match c with
  | some (.dN ks) => (match o with | some d => if okK d = true ∧ hasK ks d = false ∧ ks.length < 16000000 then .nx (env.set i (.dN (ks ++ [d]))) else .err | none => .err)
  | _ => .err
theorem ev_putN : sPutN i fe env = oPutN env[i]? (fe env) i env := (rfl)
theorem ev_oPutN (h1 : okK d = true) (h2 : hasK ds d = false) (h3 : (ds.length : Int) < 16000000) : oPutN (some (.dN ds)) (some d) i env = .nx (env.set i (.dN (ds ++ [d]))) := if_pos ⟨h1, h2, by omega⟩
def oFor (o : Option (List D)) (h : D → List C → Option (List C)) (b : List C → Out) (env : List C) : Out := match o with | some items => forF h b items env | none => .err
theorem ev_for {h : D → List C → Option (List C)} {b : List C → Out} : sFor fi h b env = oFor (fi env) h b env := (rfl)
theorem ev_ofor {h : D → List C → Option (List C)} {b : List C → Out} : oFor (some ds) h b env = forF h b ds env := (rfl)
/-! ### names -/
def rdV (c : Option C) : Option D := match c with | some (.val d) => some d | _ => none
def rdL (c : Option C) : Option D := match c with | some (.val d) => some d | some (.lst ds) => some (.list ds) | _ => none
def rdB (c : Option C) : Option D := match c with | some (.val d) => some d | some (.brw d) => some d | _ => none
theorem ev_V : eV i env = rdV env[i]? := (rfl)
theorem ev_L : eL i env = rdL env[i]? := (rfl)
theorem ev_B : eB i env = rdB env[i]? := (rfl)
theorem ev_rdV : rdV (some (.val d)) = some d := (rfl)
theorem ev_rdLv : rdL (some (.val d)) = some d := (rfl)
theorem ev_rdLl : rdL (some (.lst ds)) = some (.list ds) := (rfl)
theorem ev_rdBv : rdB (some (.val d)) = some d := (rfl)
theorem ev_rdBb : rdB (some (.brw d)) = some d := (rfl)
theorem ev_C : eC d env = some d := (rfl)
/-! ### expressions -/
def o2 (g : D → D → Option D) (a b : Option D) : Option D := match a, b with | some x, some y => g x y | _, _ => none
theorem ev_e2 {g : D → D → Option D} : e2 g fa fb env = o2 g (fa env) (fb env) := by unfold e2 o2; cases fa env <;> cases fb env <;> rfl
theorem ev_o2 {g : D → D → Option D} : o2 g (some x) (some y) = g x y := (rfl)
theorem ev_e1 {g : List D → Option D} : e1 g fs env = (fs env).bind g := (rfl)
def o3 (g : D → Option Int → Option Int → Option D) (a : Option D) (l u : Option (Option Int)) : Option D := match a, l, u with | some x, some l, some u => g x l u | _, _, _ => none
theorem ev_e3 {g : D → Option Int → Option Int → Option D} {fl fu : List C → Option (Option Int)} : e3 g fa fl fu env = o3 g (fa env) (fl env) (fu env) := by
  unfold e3 o3; cases fa env <;> cases fl env <;> cases fu env <;> rfl
theorem ev_o3 {g : D → Option Int → Option Int → Option D} {l u : Option Int} : o3 g (some x) (some l) (some u) = g x l u := (rfl)
theorem ev_pN : pN env = some none := (rfl)
def oPS (o : Option D) : Option (Option Int) := match o with | some (.int i) => some (some i) | _ => none
theorem ev_pS : pS fe env = oPS (fe env) := (rfl)
theorem ev_oPS {k : Int} : oPS (some (.int k)) = some (some k) := (rfl)
def oCons (o : Option D) (os : Option (List D)) : Option (List D) := match o, os with | some d, some ds => some (d :: ds) | _, _ => none
theorem ev_aNil : aNil env = some [] := (rfl)
theorem ev_aCons : aCons fe fs env = oCons (fe env) (fs env) := by unfold aCons oCons; cases fe env <;> cases fs env <;> rfl
theorem ev_oCons : oCons (some d) (some ds) = some (d :: ds) := (rfl)
theorem ev_tup : eTup fs env = (fs env).map .tuple := (rfl)
def oLst (o : Option (List D)) : Option D := o.map .list
theorem ev_lst : eLst fs env = oLst (fs env) := (rfl)
theorem ev_oLst : oLst (some ds) = some (.list ds) := (rfl)
def oScal (o : Option D) : Option D := match o with | some d => if scalD d then some d else none | none => none
theorem ev_scal : eScal fe env = oScal (fe env) := (rfl)
theorem ev_scal_i {k : Int} : oScal (some (.int k)) = some (.int k) := (rfl)
theorem ev_scal_s {k : Str} : oScal (some (.str k)) = some (.str k) := (rfl)
theorem ev_scal_b {k : Bool} : oScal (some (.bool k)) = some (.bool k) := (rfl)
def oNeg (o : Option D) : Option D := match o with | some (.int i) => some (.int (-i)) | _ => none
theorem ev_neg : eNeg fe env = oNeg (fe env) := (rfl)
theorem ev_oNeg {k : Int} : oNeg (some (.int k)) = some (.int (-k)) := (rfl)
theorem ev_tB : tB fe env = asB (fe env) := (rfl)
theorem ev_asB {b : Bool} : asB (some (.bool b)) = some b := (rfl)
theorem ev_tNot : tNotF ft env = (ft env).map (!·) := (rfl)
def oAnd (c : Option Bool) (g : List C → Option Bool) (env : List C) : Option Bool := match c with | some true => g env | some false => some false | none => none
def oOr (c : Option Bool) (g : List C → Option Bool) (env : List C) : Option Bool := match c with | some true => some true | some false => g env | none => none
theorem ev_tAnd : tAndF f1 f2 env = oAnd (f1 env) f2 env := by
  unfold tAndF oAnd
  cases f1 env with
  | none => rfl
  | some b => cases b <;> rfl
theorem ev_tOr : tOrF f1 f2 env = oOr (f1 env) f2 env := by
  unfold tOrF oOr
  cases f1 env with
  | none => rfl
  | some b => cases b <;> rfl
theorem ev_oAnd_t : oAnd (some true) f1 env = f1 env := (rfl)
theorem ev_oAnd_f : oAnd (some false) f1 env = some false := (rfl)
theorem ev_oOr_t : oOr (some true) f1 env = some true := (rfl)
theorem ev_oOr_f : oOr (some false) f1 env = f1 env := (rfl)
theorem oAnd_b {b c : Bool} (h : f1 env = some c) : oAnd (some b) f1 env = some (b && c) := by cases b <;> simp [oAnd, h]
theorem oOr_b {b c : Bool} (h : f1 env = some c) : oOr (some b) f1 env = some (b || c) := by cases b <;> simp [oOr, h]
def oAndD (c : Option Bool) (g : List C → Option D) (env : List C) : Option D := match c with | some true => g env | some false => some (.bool false) | none => none
def oOrD (c : Option Bool) (g : List C → Option D) (env : List C) : Option D := match c with | some true => some (.bool true) | some false => g env | none => none
theorem ev_eAnd : eAnd fa fb env = oAndD (asB (fa env)) fb env := by
  unfold eAnd oAndD
  cases asB (fa env) with
  | none => rfl
  | some b => cases b <;> rfl
theorem ev_eOr : eOr fa fb env = oOrD (asB (fa env)) fb env := by
  unfold eOr oOrD
  cases asB (fa env) with
  | none => rfl
  | some b => cases b <;> rfl
theorem ev_oAndD_t : oAndD (some true) fb env = fb env := (rfl)
theorem ev_oAndD_f : oAndD (some false) fb env = some (.bool false) := (rfl)
theorem ev_oOrD_t : oOrD (some true) fb env = some (.bool true) := (rfl)
theorem ev_oOrD_f : oOrD (some false) fb env = fb env := (rfl)
def oNot (o : Option Bool) : Option D := o.map fun c => .bool (!c)
theorem ev_eNot : eNot fe env = oNot (asB (fe env)) := (rfl)
theorem ev_oNot {b : Bool} : oNot (some b) = some (.bool (!b)) := (rfl)
def oIsi (T : String) (o : Option D) : Option D := o.bind fun d => (kitB (tyD d) T).map .bool
theorem ev_isi {T : String} : eIsi T fe env = oIsi T (fe env) := (rfl)
theorem ev_isi_ii {k : Int} : oIsi "int" (some (.int k)) = some (.bool true) := by
  show (kitB "int" "int").map PyData.bool = _
  rw [show kitB "int" "int" = some true by decide +kernel]; rfl
theorem ev_isi_ib {k : Int} : oIsi "bool" (some (.int k)) = some (.bool false) := by
  show (kitB "int" "bool").map PyData.bool = _
  rw [show kitB "int" "bool" = some false by decide +kernel]; rfl
theorem ev_isi_il {k : Int} : oIsi "list" (some (.int k)) = some (.bool false) := by
  show (kitB "int" "list").map PyData.bool = _
  rw [show kitB "int" "list" = some false by decide +kernel]; rfl
theorem ev_isi_it {k : Int} : oIsi "tuple" (some (.int k)) = some (.bool false) := by
  show (kitB "int" "tuple").map PyData.bool = _
  rw [show kitB "int" "tuple" = some false by decide +kernel]; rfl
theorem ev_isi_is {k : Int} : oIsi "str" (some (.int k)) = some (.bool false) := by
  show (kitB "int" "str").map PyData.bool = _
  rw [show kitB "int" "str" = some false by decide +kernel]; rfl
theorem ev_isi_ll : oIsi "list" (some (.list ds)) = some (.bool true) := by
  show (kitB "list" "list").map PyData.bool = _
  rw [show kitB "list" "list" = some true by decide +kernel]; rfl
theorem ev_isi_lt : oIsi "tuple" (some (.list ds)) = some (.bool false) := by
  show (kitB "list" "tuple").map PyData.bool = _
  rw [show kitB "list" "tuple" = some false by decide +kernel]; rfl
theorem ev_isi_li : oIsi "int" (some (.list ds)) = some (.bool false) := by
  show (kitB "list" "int").map PyData.bool = _
  rw [show kitB "list" "int" = some false by decide +kernel]; rfl
theorem ev_isi_lb : oIsi "bool" (some (.list ds)) = some (.bool false) := by
  show (kitB "list" "bool").map PyData.bool = _
  rw [show kitB "list" "bool" = some false by decide +kernel]; rfl
theorem ev_isi_tt : oIsi "tuple" (some (.tuple ds)) = some (.bool true) := by
  show (kitB "tuple" "tuple").map PyData.bool = _
  rw [show kitB "tuple" "tuple" = some true by decide +kernel]; rfl
theorem ev_isi_tl : oIsi "list" (some (.tuple ds)) = some (.bool false) := by
  show (kitB "tuple" "list").map PyData.bool = _
  rw [show kitB "tuple" "list" = some false by decide +kernel]; rfl
theorem ev_isi_ss {k : Str} : oIsi "str" (some (.str k)) = some (.bool true) := by
  show (kitB "str" "str").map PyData.bool = _
  rw [show kitB "str" "str" = some true by decide +kernel]; rfl
theorem ev_isi_bb {k : Bool} : oIsi "bool" (some (.bool k)) = some (.bool true) := by
  show (kitB "bool" "bool").map PyData.bool = _
  rw [show kitB "bool" "bool" = some true by decide +kernel]; rfl
theorem ev_isi_bi {k : Bool} : oIsi "int" (some (.bool k)) = some (.bool true) := by
  show (kitB "bool" "int").map PyData.bool = _
  rw [show kitB "bool" "int" = some true by decide +kernel]; rfl
def oIsN (o : Option D) : Option D := o.map fun d => .bool (isNoD d)
def oNotN (o : Option D) : Option D := o.map fun d => .bool (!isNoD d)
theorem ev_isN : eIsN fe env = oIsN (fe env) := (rfl)
theorem ev_notN : eNotN fe env = oNotN (fe env) := (rfl)
theorem ev_oIsN_n : oIsN (some .none) = some (.bool true) := (rfl)
theorem ev_oIsN_i {k : Int} : oIsN (some (.int k)) = some (.bool false) := (rfl)
theorem ev_oIsN_l : oIsN (some (.list ds)) = some (.bool false) := (rfl)
theorem ev_oIsN_t : oIsN (some (.tuple ds)) = some (.bool false) := (rfl)
theorem ev_oNotN_n : oNotN (some .none) = some (.bool false) := (rfl)
theorem ev_oNotN_i {k : Int} : oNotN (some (.int k)) = some (.bool true) := (rfl)
theorem ev_oNotN_l : oNotN (some (.list ds)) = some (.bool true) := (rfl)
theorem ev_oNotN_t : oNotN (some (.tuple ds)) = some (.bool true) := (rfl)
theorem ev_rev : eRev fe env = (fe env).bind gRev := (rfl)
theorem ev_gRev : gRev (.list xs) = some (.list xs.reverse) := (rfl)
/-! ### what is walked, targets -/
def oAny (o : Option D) : Option (List D) := match o with
  | some (.list ds) => some ds
  | some (.tuple ds) => some ds
  | some (.str z) => if z.length ≤ sizeLine then some (z.cps.toList.map fun c => .str ⟨#[c]⟩) else none
  | _ => none
theorem ev_iAny : iAny fe env = oAny (fe env) := (rfl)
theorem ev_oAny_l : oAny (some (.list ds)) = some ds := (rfl)
theorem ev_oAny_t : oAny (some (.tuple ds)) = some ds := (rfl)
def oSeqB (o : Option D) : Option (List D) := match o with | some (.list ds) => if ds.all scalD = true then some ds else none | _ => none
theorem ev_iSeqB : iSeqB fe env = oSeqB (fe env) := (rfl)
theorem scal_ints : ∀ ns : List Int, (ns.map PyData.int).all scalD = true
  | [] => rfl
  | _ :: ns => scal_ints ns
theorem ev_oSeqB {ns : List Int} : oSeqB (some (.list (ns.map .int))) = some (ns.map .int) := if_pos (scal_ints ns)
def oEnum (o : Option D) : Option (List D) := match o with | some (.list ds) => some (enumD ds) | _ => none
theorem ev_iEnum : iEnumF fe env = oEnum (fe env) := (rfl)
theorem ev_oEnum : oEnum (some (.list ds)) = some (enumD ds) := (rfl)
def oZip (a b : Option D) : Option (List D) := (a.bind sqD).bind fun x => (b.bind sqD).bind fun y => some (zipD x.2 y.2)
theorem ev_iZip : iZipG fa fb env = oZip (fa env) (fb env) := (rfl)
theorem ev_oZip_ll : oZip (some (.list xs)) (some (.list ys)) = some (zipD xs ys) := (rfl)
theorem ev_oZip_tt : oZip (some (.tuple xs)) (some (.tuple ys)) = some (zipD xs ys) := (rfl)
theorem ev_oZip_lt : oZip (some (.list xs)) (some (.tuple ys)) = some (zipD xs ys) := (rfl)
theorem ev_oZip_tl : oZip (some (.tuple xs)) (some (.list ys)) = some (zipD xs ys) := (rfl)
def oRng1 (o : Option D) : Option (List D) := match o with | some (.int j) => if -(2 ^ 62) ≤ j ∧ j ≤ 16777216 then some (rng 0 j.toNat) else none | _ => none
theorem ev_iRng1 : iRng1F fe env = oRng1 (fe env) := (rfl)
theorem ev_rng1_s {k : Int} (h1 : -(2 ^ 62) ≤ k) (h2 : k ≤ 16777216) : oRng1 (some (.int k)) = some (rng 0 k.toNat) := if_pos ⟨h1, h2⟩
def oRng2 (a b : Option D) : Option (List D) := match a, b with
  | some (.int i), some (.int j) => if j - i ≤ 16777216 then some (rng i (j - i).toNat) else none
  | _, _ => none
theorem ev_iRng2 : iRng2A fa fb env = oRng2 (fa env) (fb env) := by
  unfold iRng2A oRng2
  cases fa env with
  | none => rfl
  | some a => cases a <;> (cases fb env with
    | none => rfl
    | some b => cases b <;> rfl)
theorem ev_rng2_s {k l : Int} (h5 : l - k ≤ 16777216) : oRng2 (some (.int k)) (some (.int l)) = some (rng k (l - k).toNat) := if_pos h5
theorem ev_tgN : tgN i d env = some (env.set i (.val d)) := (rfl)
theorem ev_tgNil : tgNil [] env = some env := (rfl)
theorem ev_tgCons {h : D → List C → Option (List C)} {k : List D → List C → Option (List C)} : tgCons h k (d :: ds) env = (h d env).bind (k ds) := (rfl)
theorem ev_tgT {k : List D → List C → Option (List C)} : tgT k (.tuple ds) env = k ds env := (rfl)
theorem ev_wipe_nil : wipeE env [] = env := (rfl)
theorem ev_wipe_cons {vs : List Nat} : wipeE env (i :: vs) = (wipeE env vs).set i .und := (rfl)
def oLc (o : Option (List D)) (h : D → List C → Option (List C)) (tt : List C → Option Bool) (fe : List C → Option D) (env : List C) : Option D := match o with | some items => (lcF h tt fe env items).map .list | none => none
theorem ev_lc {vs : List Nat} {h : D → List C → Option (List C)} : eLc vs fi h ft fe env = oLc (fi env) h ft fe (wipeE env vs) := by
  unfold eLc oLc; cases fi env <;> rfl
theorem ev_oLc {h : D → List C → Option (List C)} : oLc (some ds) h ft fe env = (lcF h ft fe env ds).map .list := (rfl)
end

/-! ### values -/
section
variable {i j k : Int} {s t : Str} {xs ys : List D} {b c : Bool}
def Md (i : Int) : Prop := i.natAbs < 2 ^ 400000
theorem Md.of_lt (h1 : -(2 ^ 200) < i) (h2 : i < 2 ^ 200) : Md i := by
  have h3 : i.natAbs < 2 ^ 200 := by omega
  exact Nat.lt_of_lt_of_le h3 (Nat.pow_le_pow_right (by decide) (by decide))
theorem log2_lt {n k : Nat} (hk : 0 < k) (h : n < 2 ^ k) : n.log2 < k := by
  by_cases h0 : n = 0
  · subst h0; exact hk
  · exact (Nat.log2_lt h0).mpr h
theorem ev_add : gAdd (.int i) (.int j) = some (.int (i + j)) := (rfl)
theorem ev_addIS : gAddIS (.int i) (.int j) = some (.int (i + j)) := (rfl)
theorem ev_add_ll (h : (xs.length : Int) + ys.length ≤ 16777216) : gAdd (.list xs) (.list ys) = some (.list (xs ++ ys)) := by
  have : gAddL (.list xs) (.list ys) = some (.list (xs ++ ys)) := if_pos (by rw [sizeLine_eq]; omega)
  unfold gAdd gOr
  rw [this]; rfl
theorem ev_add_tt (h : (xs.length : Int) + ys.length ≤ 16777216) : gAdd (.tuple xs) (.tuple ys) = some (.tuple (xs ++ ys)) := by
  have : gAddT (.tuple xs) (.tuple ys) = some (.tuple (xs ++ ys)) := if_pos (by rw [sizeLine_eq]; omega)
  unfold gAdd gOr
  rw [this]; rfl
theorem ev_addL (h : (xs.length : Int) + ys.length ≤ 16777216) : gAddL (.list xs) (.list ys) = some (.list (xs ++ ys)) := if_pos (by rw [sizeLine_eq]; omega)
theorem flat_rep {α : Type} (x : α) : ∀ n : Nat, (List.replicate n [x]).flatten = List.replicate n x
  | 0 => rfl
  | n + 1 => by rw [List.replicate_succ, List.replicate_succ, List.flatten_cons, flat_rep x n]; rfl
theorem mulL_if {k : Int} : gMulL (.list xs) (.int k) = if k < 2 ^ 63 ∧ -(2 ^ 63) ≤ k ∧ xs.length * k.toNat ≤ sizeLine then some (.list (List.replicate k.toNat xs).flatten) else none := rfl
theorem gOr_s {g1 g2 : D → D → Option D} {x y d : D} (h : g1 x y = some d) : gOr g1 g2 x y = some d := by unfold gOr; rw [h]
theorem gOr_n {g1 g2 : D → D → Option D} {x y d : D} (h : g1 x y = none) (h2 : g2 x y = some d) : gOr g1 g2 x y = some d := by unfold gOr; rw [h]; exact h2
theorem mulI_l {y : D} : gMulI (.list xs) y = none := by cases y <;> rfl
theorem mulS_l {y : D} : gMulS (.list xs) y = none := by cases y <;> rfl
theorem ev_repL {x : D} {n : Nat} (h : ((n : Nat) : Int) ≤ 1000000) : gMulL (.list [x]) (.int (n : Nat)) = some (.list (List.replicate n x)) := by
  have c : ((n : Nat) : Int) < 2 ^ 63 ∧ -(2 ^ 63) ≤ ((n : Nat) : Int) ∧ [x].length * ((n : Nat) : Int).toNat ≤ sizeLine := ⟨by omega, by omega, by rw [sizeLine_eq, Int.toNat_natCast]; show 1 * n ≤ _; omega⟩
  rw [mulL_if, if_pos c, Int.toNat_natCast, flat_rep]
theorem ev_rep {x : D} {n : Nat} (h : ((n : Nat) : Int) ≤ 1000000) : gMul (.list [x]) (.int (n : Nat)) = some (.list (List.replicate n x)) := by
  have e := ev_repL (x := x) h
  show gOr gMulI (gOr gMulS (gOr gMulL gMulT)) (.list [x]) (.int (n : Nat)) = _
  exact gOr_n mulI_l (gOr_n mulS_l (gOr_s e))
theorem ev_sub : gSub (.int i) (.int j) = some (.int (i - j)) := (rfl)
theorem ev_mul (h1 : Md i) (h2 : Md j) : gMul (.int i) (.int j) = some (.int (i * j)) := by
  have a1 := log2_lt (by decide) h1
  have a2 := log2_lt (by decide) h2
  have : gMulI (.int i) (.int j) = some (.int (i * j)) := if_pos (by omega)
  unfold gMul gOr
  rw [this]
theorem ev_mod (h : 0 < j) : gMod (.int i) (.int j) = some (.int (i % j)) := if_pos h
theorem ev_div (h : 0 < j) (h2 : j < 2 ^ 250) : gDiv (.int i) (.int j) = some (.int (i / j)) := if_pos ⟨h, by
  have : j.natAbs < 2 ^ 250 := by omega
  have := log2_lt (by decide) this
  omega⟩
theorem ev_modA (h : 0 < j) : gModA (.int i) (.int j) = some (.int (i % j)) := by
  show (if j ≠ 0 then some (PyData.int (i.fmod j)) else none) = _
  rw [if_pos (by omega), Int.fmod_eq_emod_of_nonneg _ (by omega)]
theorem ev_divA (h : 0 < j) (h2 : j < 2 ^ 250) : gDivA (.int i) (.int j) = some (.int (i / j)) := by
  have a : j.natAbs < 2 ^ 250 := by omega
  have b := log2_lt (by decide) a
  show (if j ≠ 0 ∧ j.natAbs.log2 < 9000 then some (PyData.int (i.fdiv j)) else none) = _
  rw [if_pos ⟨by omega, by omega⟩, Int.fdiv_eq_ediv_of_nonneg _ (by omega)]
theorem ev_pow (h0 : 0 ≤ j) (h1 : j ≤ 1000000) (h2 : i.natAbs < 2 ^ 64) : gPow (.int i) (.int j) = some (.int (i ^ j.toNat)) := if_pos ⟨h0, h1, h2⟩
theorem ev_lt : gLt (.int i) (.int j) = some (.bool (decide (i < j))) := (rfl)
theorem ev_le : gLe (.int i) (.int j) = some (.bool (decide (i ≤ j))) := (rfl)
theorem ev_gt : gGt (.int i) (.int j) = some (.bool (decide (j < i))) := (rfl)
theorem ev_ge : gGe (.int i) (.int j) = some (.bool (decide (j ≤ i))) := (rfl)
theorem ev_eq : gEq (.int i) (.int j) = some (.bool (decide (i = j))) := (rfl)
theorem ev_ne : gNe (.int i) (.int j) = some (.bool (!decide (i = j))) := (rfl)
theorem ev_eqs : gEq (.str s) (.str t) = some (.bool (decide (s = t))) := (rfl)
theorem ev_nes : gNe (.str s) (.str t) = some (.bool (!decide (s = t))) := (rfl)
theorem ev_eqb : gEq (.bool b) (.bool c) = some (.bool (decide (b = c))) := (rfl)
theorem ev_neb : gNe (.bool b) (.bool c) = some (.bool (!decide (b = c))) := (rfl)
theorem ev_len : gLen [.list xs] = some (.int xs.length) := (rfl)
theorem ev_lenT : gLen [.tuple xs] = some (.int xs.length) := (rfl)
theorem ev_list : gList [.list xs] = some (.list xs) := (rfl)
theorem ev_listT : gList [.tuple xs] = some (.list xs) := (rfl)
theorem ev_tuple : gTuple [.list xs] = some (.tuple xs) := (rfl)
theorem ev_tupleT : gTuple [.tuple xs] = some (.tuple xs) := (rfl)
theorem ev_abs : gAbs [.int i] = some (.int (if i < 0 then -i else i)) := (rfl)
theorem ev_int : gInt [.int i] = some (.int i) := (rfl)
theorem ev_intb : gInt [.bool b] = some (.int (if b then 1 else 0)) := (rfl)
theorem ev_sum {ns : List Int} : gSum [.list (ns.map .int)] = some (.int ns.sum) := by
  unfold gSum; simp only [allInt_map, Option.map_some]
theorem ev_sum0 : gSum [.list []] = some (.int 0) := (rfl)
theorem ev_max2 : gMax2 [.int i, .int j] = some (.int (if j > i then j else i)) := (rfl)
theorem ev_min2 : gMin2 [.int i, .int j] = some (.int (if j < i then j else i)) := (rfl)
theorem ev_sl {l u : Option Int} : gSl (.list xs) l u = some (.list (cutD xs l u)) := (rfl)
theorem ev_slT {l u : Option Int} : gSl (.tuple xs) l u = some (.tuple (cutD xs l u)) := (rfl)
theorem ev_slL {l u : Option Int} : gSlL (.list xs) l u = some (.list (cutD xs l u)) := (rfl)
theorem ev_slB {ns : List Int} {l u : Option Int} : gSlB (.list (ns.map .int)) l u = some (.list ((cutD ns l u).map .int)) := by
  unfold gSlB; simp only [allInt_map, Option.map_some]
theorem ev_ix : gIxS (.list xs) (.int i) = atI xs i := (rfl)
theorem ev_ixT : gIxS (.tuple xs) (.int i) = atI xs i := (rfl)
theorem ev_ixB : gIxB (.list xs) (.int i) = atI xs i := (rfl)
theorem ev_ixBT : gIxB (.tuple xs) (.int i) = atI xs i := (rfl)
theorem ixN_pos {n : Nat} (h0 : 0 ≤ i) (h1 : i < n) : ixN n i = some i.toNat := by
  unfold ixN
  rw [if_pos h0, if_pos (by omega)]
theorem ev_at (h0 : 0 ≤ i) (h1 : i < xs.length) : atI xs i = xs[i.toNat]? := by
  unfold atI
  rw [ixN_pos h0 h1]; rfl
theorem ev_atm {α : Type} {f : α → D} {l : List α} (h0 : 0 ≤ i) (h1 : i < l.length) : atI (l.map f) i = (l[i.toNat]?).map f := by
  rw [ev_at h0 (by rw [List.length_map]; exact h1), List.getElem?_map]
theorem at_map {α : Type} {f : α → D} {l : List α} {m : Nat} (h : m < l.length) : atI (l.map f) (m : Int) = some (f l[m]) := by
  rw [ev_atm (by omega) (by omega), Int.toNat_natCast, List.getElem?_eq_getElem h]; rfl
theorem at_neg1 (h : 0 < xs.length) : atI xs (-1) = xs[xs.length - 1]? := by
  unfold atI ixN
  rw [if_neg (by decide), if_pos (by omega), Option.bind_some]
  have : (-1 + (xs.length : Int)).toNat = xs.length - 1 := by omega
  rw [this]
theorem ev_setAt {d : D} (h0 : 0 ≤ i) (h1 : i < xs.length) : setAt xs i d = some (xs.set i.toNat d) := by
  unfold setAt
  rw [ixN_pos h0 h1]; rfl
theorem cut_take {α : Type} {l : List α} (h : 0 ≤ i) : cutD l none (some i) = l.take i.toNat := by
  unfold cutD
  have e0 : HT.sIx l.length 0 none = 0 := rfl
  rw [e0, List.drop_zero, Nat.sub_zero]
  unfold HT.sIx
  have : ¬ i < 0 := by omega
  simp only [this, if_false]
  by_cases hl : i.toNat ≤ l.length
  · first
      | rw [Nat.min_eq_left hl]
      | (congr 1; omega)
  · rw [List.take_of_length_le (by omega), List.take_of_length_le (by omega)]
end

/-! ### sizes -/
def Sz (k : Nat) (i : Int) : Prop := i.natAbs < 2 ^ k
section
variable {a b k : Nat} {i j : Int}
theorem Sz.mono (h : Sz a i) (hab : a ≤ b) : Sz b i := Nat.lt_of_lt_of_le h (Nat.pow_le_pow_right (by decide) hab)
theorem Sz.mul (h1 : Sz a i) (h2 : Sz b j) : Sz (a + b) (i * j) := by
  unfold Sz at *
  rw [Int.natAbs_mul, Nat.pow_add]
  exact Nat.mul_lt_mul_of_lt_of_le h1 (Nat.le_of_lt h2) (Nat.pow_pos (by decide))
theorem Sz.add (h1 : Sz a i) (h2 : Sz a j) : Sz (a + 1) (i + j) := by
  unfold Sz at *
  rw [Nat.pow_succ]
  omega
theorem Sz.sub (h1 : Sz a i) (h2 : Sz a j) : Sz (a + 1) (i - j) := by
  unfold Sz at *
  rw [Nat.pow_succ]
  omega
theorem Sz.md (h : Sz k i) (hk : k ≤ 400000 := by decide) : Md i := Nat.lt_of_lt_of_le h (Nat.pow_le_pow_right (by decide) hk)
theorem Sz.le (h : Sz k i) (hj : j.natAbs ≤ i.natAbs) : Sz k j := Nat.lt_of_le_of_lt hj h
theorem Sz.of (h1 : -(2 ^ k) < i) (h2 : i < 2 ^ k) : Sz k i := by
  unfold Sz
  have e : ((2 ^ k : Nat) : Int) = (2 : Int) ^ k := by norm_cast
  omega
theorem divF (h : j ≠ 0) (h2 : Sz 8000 j) : gDivA (.int i) (.int j) = some (.int (i.fdiv j)) := by
  have b := log2_lt (by decide) h2
  show (if j ≠ 0 ∧ j.natAbs.log2 < 9000 then some (PyData.int (i.fdiv j)) else none) = _
  rw [if_pos ⟨h, by omega⟩]
theorem modF (h : j ≠ 0) : gModA (.int i) (.int j) = some (.int (i.fmod j)) := if_pos h
theorem ev_divAZ (h : 0 < j) (h2 : Sz 8000 j) : gDivA (.int i) (.int j) = some (.int (i / j)) := by
  rw [divF (by omega) h2, Int.fdiv_eq_ediv_of_nonneg _ (by omega)]
theorem ev_divZ (h : 0 < j) (h2 : Sz 8000 j) : gDiv (.int i) (.int j) = some (.int (i / j)) := if_pos ⟨h, by
  have := log2_lt (by decide) h2
  omega⟩
end
/-! ### loops -/
theorem forF_run {g : D → List C → Option (List C)} {b : List C → Out} (J : Out → Prop) : ∀ (items : List D) (env : List C) (I : Nat → List C → Prop), I 0 env →
    (∀ i d env, items[i]? = some d → I i env → ∃ e, g d env = some e ∧ (match b e with | .nx e' => I (i + 1) e' | .ct e' => I (i + 1) e' | .bk e' => J (.nx e') | .rt d => J (.rt d) | .err => False | .rx e t => J (.rx e t))) →
    (∀ e, I items.length e → J (.nx e)) → J (forF g b items env)
  | [], env, I, h0, hs, he => he env h0
  | d :: ds, env, I, h0, hs, he => by
    obtain ⟨e, h1, h2⟩ := hs 0 d env rfl h0
    unfold forF
    rw [h1]
    dsimp only
    have next : ∀ e', I 1 e' → J (forF g b ds e') := fun e' h => forF_run J ds e' (fun i => I (i + 1)) h (fun i d env hd hI => hs (i + 1) d env (by simpa using hd) hI) (fun e h => he e (by simpa using h))
    cases z : b e with
    | nx e' => rw [z] at h2; exact next e' h2
    | ct e' => rw [z] at h2; exact next e' h2
    | bk e' => rw [z] at h2; exact h2
    | rt d => rw [z] at h2; exact h2
    | err => rw [z] at h2; exact h2.elim
    | rx _ _ => rw [z] at h2; exact h2
def onNx (o : Out) (P : List C → Prop) : Prop := match o with | .nx e => P e | _ => False
theorem ev_onNx {e : List C} {P : List C → Prop} : onNx (.nx e) P = P e := (rfl)
theorem onNx_ok {o : Out} {P : List C → Prop} (h : onNx o P) : ∃ e, o = .nx e ∧ P e := by
  cases o <;> first | exact ⟨_, rfl, h⟩ | exact h.elim
theorem forF_inv {g : D → List C → Option (List C)} {b : List C → Out} {items : List D} {env : List C} (I : Nat → List C → Prop) (h0 : I 0 env)
    (hs : ∀ i d env, items[i]? = some d → I i env → ∃ e, g d env = some e ∧ onNx (b e) (I (i + 1))) : ∃ e, forF g b items env = .nx e ∧ I items.length e :=
  forF_run (fun o => ∃ e, o = .nx e ∧ I items.length e) items env I h0 (fun i d env hd hI => by
    obtain ⟨e, h1, h2⟩ := hs i d env hd hI
    obtain ⟨e', h3, h4⟩ := onNx_ok h2
    exact ⟨e, h1, by rw [h3]; exact h4⟩) fun e h => ⟨e, rfl, h⟩
def natAt (i : Nat) (env : List C) : Nat := match env[i]? with | some (.val (.int k)) => k.toNat | _ => 0
def absAt (i : Nat) (env : List C) : Nat := match env[i]? with | some (.val (.int k)) => k.natAbs | _ => 0
theorem ev_while {env : List C} {fu : List C → Nat} {c : List C → Option Bool} {b : List C → Out} : sWhile fu c b env = whileF c b (fu env) env := (rfl)
theorem whileF_inv {c : List C → Option Bool} {b : List C → Out} (I : List C → Prop) (μ : List C → Nat) (hs : ∀ env, I env → c env = some false ∨ (c env = some true ∧ onNx (b env) fun e => I e ∧ μ e < μ env)) :
    ∀ (n : Nat) (env : List C), I env → μ env < n → ∃ e, whileF c b n env = .nx e ∧ I e ∧ c e = some false
  | 0, _, _, h => absurd h (Nat.not_lt_zero _)
  | n + 1, env, hI, hn => by
    rcases hs env hI with h | ⟨h, h2⟩
    · refine ⟨env, ?_, hI, h⟩
      unfold whileF
      rw [h]
    · obtain ⟨e', h3, h4, h5⟩ := onNx_ok h2
      obtain ⟨e, g1, g2⟩ := whileF_inv I μ hs n e' h4 (by omega)
      refine ⟨e, ?_, g2⟩
      unfold whileF
      rw [h, h3]
      exact g1
theorem rng_get {lo : Int} {n i : Nat} {d : D} (h : (rng lo n)[i]? = some d) : i < n ∧ d = .int (lo + i) := by
  have hi : i < n := by
    have := (List.getElem?_eq_some_iff.mp h).1
    rw [rng_len] at this; exact this
  unfold rng at h
  rw [List.getElem?_map, List.getElem?_range hi] at h
  cases h
  exact ⟨hi, rfl⟩
theorem forF_rng {lo : Int} {n : Nat} {v : Nat} {b : List C → Out} {env : List C} (I : Nat → List C → Prop) (h0 : I 0 env)
    (hs : ∀ i env, i < n → I i env → onNx (b (env.set v (.val (.int (lo + i))))) (I (i + 1))) : ∃ e, forF (tgN v) b (rng lo n) env = .nx e ∧ I n e := by
  have := forF_inv (g := tgN v) (b := b) (items := rng lo n) (env := env) I h0 fun i d env hd hI => by
    obtain ⟨hi, rfl⟩ := rng_get hd
    exact ⟨_, rfl, hs i env hi hI⟩
  rwa [rng_len] at this
/-- a loop that returns r at the first turn where p fails -/
theorem forF_find {g : D → List C → Option (List C)} {b : List C → Out} {items : List D} {env : List C} (p : Nat → Bool) (r : D) (I : Nat → List C → Prop) (h0 : I 0 env)
    (hs : ∀ i d env, items[i]? = some d → I i env → ∃ e, g d env = some e ∧ ((p i = true ∧ onNx (b e) (I (i + 1))) ∨ (p i = false ∧ b e = .rt r))) :
    (∃ e, forF g b items env = .nx e ∧ I items.length e ∧ ∀ i, i < items.length → p i = true) ∨ (forF g b items env = .rt r ∧ ∃ i, i < items.length ∧ p i = false) :=
  forF_run (fun o => (∃ e, o = .nx e ∧ I items.length e ∧ ∀ i, i < items.length → p i = true) ∨ (o = .rt r ∧ ∃ i, i < items.length ∧ p i = false)) items env (fun i env => I i env ∧ ∀ k, k < i → p k = true) ⟨h0, fun k h => absurd h (Nat.not_lt_zero _)⟩ (fun i d env hd hI => by
    obtain ⟨e, h1, h2⟩ := hs i d env hd hI.1
    refine ⟨e, h1, ?_⟩
    rcases h2 with ⟨h2, h3⟩ | ⟨h2, h3⟩
    · obtain ⟨e', h4, h5⟩ := onNx_ok h3
      rw [h4]
      refine ⟨h5, fun k hk => ?_⟩
      by_cases hk' : k = i
      · rw [hk']; exact h2
      · exact hI.2 k (by omega)
    · rw [h3]
      exact .inr ⟨rfl, i, (List.getElem?_eq_some_iff.mp hd).1, h2⟩) fun e h => .inl ⟨e, rfl, h.1, h.2⟩
theorem forF_rngF {lo : Int} {n : Nat} {v : Nat} {b : List C → Out} {env : List C} (p : Nat → Bool) (r : D) (I : Nat → List C → Prop) (h0 : I 0 env)
    (hs : ∀ i env, i < n → I i env → (p i = true ∧ onNx (b (env.set v (.val (.int (lo + i))))) (I (i + 1))) ∨ (p i = false ∧ b (env.set v (.val (.int (lo + i)))) = .rt r)) :
    (∃ e, forF (tgN v) b (rng lo n) env = .nx e ∧ I n e ∧ ∀ i, i < n → p i = true) ∨ (forF (tgN v) b (rng lo n) env = .rt r ∧ ∃ i, i < n ∧ p i = false) := by
  have := forF_find (g := tgN v) (b := b) (items := rng lo n) (env := env) p r I h0 fun i d env hd hI => by
    obtain ⟨hi, rfl⟩ := rng_get hd
    exact ⟨_, rfl, hs i env hi hI⟩
  rwa [rng_len] at this
theorem lcF_map {α : Type} {g : D → List C → Option (List C)} {tt : List C → Option Bool} {fe : List C → Option D} {env : List C} (t : α → D) (h : α → D) : ∀ (l : List α), (∀ a ∈ l, ∃ e, g (t a) env = some e ∧ tt e = some true ∧ fe e = some (h a)) → lcF g tt fe env (l.map t) = some (l.map h)
  | [], _ => rfl
  | a :: l, hl => by
    obtain ⟨e, h1, h2, h3⟩ := hl a List.mem_cons_self
    rw [List.map_cons]
    unfold lcF
    rw [h1, Option.bind_some, h2, Option.bind_some, if_pos rfl, h3, Option.bind_some, lcF_map t h l fun b hb => hl b (List.mem_cons_of_mem _ hb)]
    rfl
theorem lcF_filt {α : Type} {g : D → List C → Option (List C)} {tt : List C → Option Bool} {fe : List C → Option D} {env : List C} (t : α → D) (p : α → Bool) (h : α → D) : ∀ (l : List α), (∀ a ∈ l, ∃ e, g (t a) env = some e ∧ tt e = some (p a) ∧ (p a = true → fe e = some (h a))) → lcF g tt fe env (l.map t) = some ((l.filter p).map h)
  | [], _ => rfl
  | a :: l, hl => by
    obtain ⟨e, h1, h2, h3⟩ := hl a List.mem_cons_self
    rw [List.map_cons]
    unfold lcF
    rw [h1, Option.bind_some, h2, Option.bind_some, lcF_filt t p h l fun b hb => hl b (List.mem_cons_of_mem _ hb), List.filter_cons]
    cases z : p a with
    | true => rw [if_pos rfl, h3 z]; rfl
    | false => rfl
theorem rng_map (lo : Int) (n : Nat) : rng lo n = (List.range n).map fun i => .int (lo + (i : Nat)) := rfl
theorem enum_map {α : Type} (t : α → D) (l : List α) : enumD (l.map t) = l.zipIdx.map fun p => .tuple [.int (p.2 : Nat), t p.1] := by
  apply List.ext_getElem?
  intro i
  unfold enumD
  rw [List.getElem?_zipWith, List.getElem?_map, List.getElem?_map, List.getElem?_zipIdx, List.length_map]
  by_cases h : i < l.length
  · rw [List.getElem?_range h, List.getElem?_eq_getElem h]
    simp
  · rw [List.getElem?_eq_none (by rw [List.length_range]; omega), List.getElem?_eq_none (by omega : l.length ≤ i)]
    rfl
theorem zip_map {α β : Type} (t : α → D) (u : β → D) (l : List α) (m : List β) : zipD (l.map t) (m.map u) = (l.zip m).map fun p => .tuple [t p.1, u p.2] := by
  unfold zipD
  rw [List.zipWith_map]
  rw [List.zip, List.map_zipWith]
/-! ### data of one kind -/
section
variable {α : Type}
theorem layAll_map (t : α → D) (h : ∀ a, (t a).canLay0 = true) : ∀ l : List α, PyData.canLayAll0 (l.map t) = true
  | [] => by simp only [List.map_nil, PyData.canLayAll0]
  | a :: l => by simp only [List.map_cons, PyData.canLayAll0, h a, layAll_map t h l, Bool.and_self]
theorem depthAll_mapD (t : α → D) {k : Nat} (h : ∀ a, (t a).depth ≤ k) : ∀ l : List α, PyData.depthAll (l.map t) ≤ k
  | [] => Nat.zero_le _
  | a :: l => by
    rw [List.map_cons, PyData.depthAll]
    exact Nat.max_le.mpr ⟨h a, depthAll_mapD t h l⟩
theorem shaped_list (t : α → D) (h : ∀ a, (t a).canLay0 = true) {k : Nat} (hk : k < 64) (hd : ∀ a, (t a).depth ≤ k) (l : List α) : SeqAt.shaped (.list (l.map t)) = true := by
  unfold SeqAt.shaped
  have := depthAll_mapD t hd l
  simp only [PyData.canLay0, PyData.depth, layAll_map t h l, Bool.true_and, decide_eq_true_eq]
  exact decide_eq_true (Nat.succ_le_of_lt (Nat.lt_of_le_of_lt this hk))
theorem shaped_tuple (t : α → D) (h : ∀ a, (t a).canLay0 = true) {k : Nat} (hk : k < 64) (hd : ∀ a, (t a).depth ≤ k) (l : List α) : SeqAt.shaped (.tuple (l.map t)) = true := by
  unfold SeqAt.shaped
  have := depthAll_mapD t hd l
  simp only [PyData.canLay0, PyData.depth, layAll_map t h l, Bool.true_and, decide_eq_true_eq]
  exact decide_eq_true (Nat.succ_le_of_lt (Nat.lt_of_le_of_lt this hk))
theorem shaped_ints (ns : List Int) : SeqAt.shaped (.list (ns.map .int)) = true := shaped_list (k := 0) PyData.int (fun _ => rfl) (by decide) (fun _ => Nat.le_refl _) ns
theorem ev_eq_li {ns ms : List Int} : gEq (.list (ns.map .int)) (.list (ms.map .int)) = some (.bool (decide (ns = ms))) := by
  have e : gEqD (.list (ns.map .int)) (.list (ms.map .int)) = some (.bool (decide (ns = ms))) := by
    unfold gEqD
    rw [if_pos ⟨shaped_ints ns, shaped_ints ms⟩]
    have := PySem.W.Datum.eqv ns ms
    rw [show PyData.eqv (.list (ns.map .int)) (.list (ms.map .int)) = decide (ns = ms) from this]
  show (match gEqS (.list (ns.map .int)) (.list (ms.map .int)) with | some d => some d | none => gEqD (.list (ns.map .int)) (.list (ms.map .int))) = _
  exact e
theorem ev_ne_li {ns ms : List Int} : gNe (.list (ns.map .int)) (.list (ms.map .int)) = some (.bool (!decide (ns = ms))) := by
  have e : gNeD (.list (ns.map .int)) (.list (ms.map .int)) = some (.bool (!decide (ns = ms))) := by
    unfold gNeD
    rw [if_pos ⟨shaped_ints ns, shaped_ints ms⟩]
    have := PySem.W.Datum.eqv ns ms
    rw [show PyData.eqv (.list (ns.map .int)) (.list (ms.map .int)) = decide (ns = ms) from this]
  show (match gNeS (.list (ns.map .int)) (.list (ms.map .int)) with | some d => some d | none => gNeD (.list (ns.map .int)) (.list (ms.map .int))) = _
  exact e
theorem eqD_self {x : D} (h : SeqAt.shaped x = true) : gEqD x x = some (.bool true) := by
  unfold gEqD
  rw [if_pos ⟨h, h⟩]
  unfold SeqAt.shaped at h
  rw [Bool.and_eq_true] at h
  rw [PySem.SeqAt.eqv_refl_plain x (PySem.PyData.plain_of_canLay0 x h.1)]
theorem neD_self {x : D} (h : SeqAt.shaped x = true) : gNeD x x = some (.bool false) := by
  unfold gNeD
  rw [if_pos ⟨h, h⟩]
  unfold SeqAt.shaped at h
  rw [Bool.and_eq_true] at h
  rw [PySem.SeqAt.eqv_refl_plain x (PySem.PyData.plain_of_canLay0 x h.1)]; rfl
theorem eqS_l {xs : List D} {y : D} : gEqS (.list xs) y = none := by cases y <;> rfl
theorem neS_l {xs : List D} {y : D} : gNeS (.list xs) y = none := by cases y <;> rfl
theorem eqS_t {xs : List D} {y : D} : gEqS (.tuple xs) y = none := by cases y <;> rfl
theorem neS_t {xs : List D} {y : D} : gNeS (.tuple xs) y = none := by cases y <;> rfl
theorem ev_eq_self {xs : List D} (h : SeqAt.shaped (.list xs) = true) : gEq (.list xs) (.list xs) = some (.bool true) := gOr_n eqS_l (eqD_self h)
theorem ev_ne_self {xs : List D} (h : SeqAt.shaped (.list xs) = true) : gNe (.list xs) (.list xs) = some (.bool false) := gOr_n neS_l (neD_self h)
theorem ev_eq_selfT {xs : List D} (h : SeqAt.shaped (.tuple xs) = true) : gEq (.tuple xs) (.tuple xs) = some (.bool true) := gOr_n eqS_t (eqD_self h)
theorem ev_ne_selfT {xs : List D} (h : SeqAt.shaped (.tuple xs) = true) : gNe (.tuple xs) (.tuple xs) = some (.bool false) := gOr_n neS_t (neD_self h)
theorem ev_ne_nil {ns : List Int} : gNe (.list (ns.map .int)) (.list []) = some (.bool (!decide (ns = []))) := ev_ne_li (ms := [])
theorem ev_eq_nil {ns : List Int} : gEq (.list (ns.map .int)) (.list []) = some (.bool (decide (ns = []))) := ev_eq_li (ms := [])
theorem range_set (f : Nat → Int) (u p : Nat) (v : Int) : ((List.range u).map f).set p v = (List.range u).map fun k => if k = p then v else f k := by
  apply List.ext_getElem?
  intro k
  rw [List.getElem?_map, List.getElem?_set]
  by_cases hk : k < u
  · rw [List.getElem?_range hk]
    by_cases e : p = k
    · subst e
      rw [if_pos rfl, if_pos (by rw [List.length_map, List.length_range]; exact hk)]
      show some v = some (if p = p then v else f p)
      rw [if_pos rfl]
    · rw [if_neg e, List.getElem?_map, List.getElem?_range hk]
      show some (f k) = some (if k = p then v else f k)
      rw [if_neg (Ne.symm e)]
  · rw [List.getElem?_eq_none (by rw [List.length_range]; omega : (List.range u).length ≤ k)]
    split
    · rw [if_neg (by rw [List.length_map, List.length_range]; omega)]; rfl
    · rw [List.getElem?_map, List.getElem?_eq_none (by rw [List.length_range]; omega)]; rfl
/-! sorted -/
theorem sorted_gen {t : α → D} {le : α → α → Bool} {l : List α} (h1 : ∀ a b, W.alike (t a) (t b) = true) (h2 : (∀ a, isTup1 (t a) = true) ∨ (∀ a, notNT (t a) = true)) (h3 : ∀ a, (t a).depth ≤ 60) (hle : ∀ a b, W.dataLe false (fun d : D => d) (t a) (t b) = le a b) :
    gSorted [.list (l.map t)] = some (.list ((l.mergeSort le).map t)) := by
  have a1 : alikeB (l.map t) = true := by
    unfold alikeB
    simp only [List.all_map, List.all_eq_true, Function.comp]
    exact fun a _ b _ => h1 a b
  have a2 : sortableB (l.map t) = true := by
    unfold sortableB
    rw [Bool.or_eq_true]
    rcases h2 with h2 | h2
    · left; simp only [List.all_map, List.all_eq_true, Function.comp]; exact fun a _ => h2 a
    · right; simp only [List.all_map, List.all_eq_true, Function.comp]; exact fun a _ => h2 a
  have a3 : ((l.map t).all fun d => decide (d.depth ≤ 60)) = true := by
    simp only [List.all_map, List.all_eq_true, Function.comp, decide_eq_true_eq]; exact fun a _ => h3 a
  have e : gSorted [.list (l.map t)] = some (.list ((l.map t).mergeSort (W.dataLe false fun d => d))) := if_pos ⟨a1, a2, a3⟩
  rw [e, ← W.sort_maps t (fun a _ b _ => (hle a b).symm)]
theorem ev_sorted_i {ns : List Int} : gSorted [.list (ns.map .int)] = some (.list ((ns.mergeSort fun a b => decide (a ≤ b)).map .int)) :=
  sorted_gen (fun _ _ => by simp [W.alike]) (.inr fun _ => rfl) (fun _ => Nat.zero_le _) fun a b => congrFun (congrFun (W.dataLe_int (fun x : Int => x)) a) b
end
/-! ### list(range(n)), in a list of numbers -/
def oListRg (o : Option D) : Option D := match o with
  | some (.int j) => if -(2 ^ 62) ≤ j ∧ j ≤ 16777216 then some (.list (rng 0 j.toNat)) else none
  | _ => none
theorem ev_listRg {f : List C → Option D} {env : List C} : eListRg f env = oListRg (f env) := (rfl)
theorem ev_oListRg {k : Int} (h1 : -(2 ^ 62) ≤ k) (h2 : k ≤ 16777216) : oListRg (some (.int k)) = some (.list (rng 0 k.toNat)) := if_pos ⟨h1, h2⟩
theorem flat_ints (ns : List Int) : (ns.map PyData.int).all flatD = true := by
  rw [List.all_eq_true]
  intro d hd
  obtain ⟨n, _, rfl⟩ := List.mem_map.mp hd
  rfl
theorem ev_in_ii {i : Int} {ns : List Int} : gIn (.int i) (.list (ns.map .int)) = some (.bool (decide (i ∈ ns))) := by
  refine gOr_s ?_
  refine (show gInF (.int i) (.list (ns.map .int)) = if flatD (.int i) = true ∧ (ns.map PyData.int).all flatD = true then some (.bool (inF (.int i) (ns.map .int))) else none from rfl).trans ?_
  rw [if_pos ⟨rfl, flat_ints ns⟩]
  unfold inF inV
  rw [List.map_map, List.any_map]
  congr 2
  rw [Bool.eq_iff_iff, List.any_eq_true, decide_eq_true_eq]
  constructor
  · rintro ⟨y, hy, e⟩
    have : y = i := by simpa [flV, eqV] using e
    rw [← this]; exact hy
  · intro h
    exact ⟨i, h, by simp [flV, eqV]⟩
/-! ### read as frozen for once, handed on -/
def oThaw (c : Option C) (fl : List C → Option D) (t : Nat) (env : List C) : Option D := match c with | some (.lst ds) => flatO (fl (env.set t (.val (.list ds)))) | _ => none
theorem ev_thaw {t : Nat} {fl : List C → Option D} {env : List C} : eThaw t fl env = oThaw env[t]? fl t env := (rfl)
theorem ev_oThaw {t : Nat} {fl : List C → Option D} {env : List C} {ds : List D} : oThaw (some (.lst ds)) fl t env = flatO (fl (env.set t (.val (.list ds)))) := (rfl)
theorem ev_flatO {ns : List Int} : flatO (some (.list (ns.map .int))) = some (.list (ns.map .int)) := if_pos (flat_ints ns)
def otThaw (c : Option C) (fl : List C → Option Bool) (t : Nat) (env : List C) : Option Bool := match c with | some (.lst ds) => fl (env.set t (.val (.list ds))) | _ => none
theorem ev_tThaw {t : Nat} {fl : List C → Option Bool} {env : List C} : tThaw t fl env = otThaw env[t]? fl t env := (rfl)
theorem ev_otThaw {t : Nat} {fl : List C → Option Bool} {env : List C} {ds : List D} : otThaw (some (.lst ds)) fl t env = fl (env.set t (.val (.list ds))) := (rfl)
def oMove (c : Option C) (i j : Nat) (env : List C) : Out := match c with | some (.lst ds) => .nx ((env.set j .und).set i (.lst ds)) | _ => .err
theorem ev_move {i j : Nat} {env : List C} : sMove i j env = oMove env[j]? i j env := (rfl)
theorem ev_oMove {i j : Nat} {env : List C} {ds : List D} : oMove (some (.lst ds)) i j env = .nx ((env.set j .und).set i (.lst ds)) := (rfl)
def oEnumG (o : Option D) : Option (List D) := (o.bind sqD).bind fun x => some (enumD x.2)
theorem ev_iEnumG {fe : List C → Option D} {env : List C} : iEnumG fe env = oEnumG (fe env) := (rfl)
theorem ev_oEnumG_l {ds : List D} : oEnumG (some (.list ds)) = some (enumD ds) := (rfl)
theorem ev_oEnumG_t {ds : List D} : oEnumG (some (.tuple ds)) = some (enumD ds) := (rfl)
end DL
set_option Elab.async false
set_option linter.all false
set_option maxRecDepth 100000
set_option maxHeartbeats 4000000
/-! DPa: things of one's own as trees: a place in one, what is written there -/
namespace DL
open PySem PySem.Spec L2

def T.sub : List Nat → T → Option T
  | [], t => some t
  | j :: p, .n _ ts => (ts[j]?).bind (T.sub p)
  | _ :: _, .d _ => none
def T.put : List Nat → T → T → T
  | [], _, u => u
  | j :: p, .n s ts, u => .n s (match ts[j]? with | some t => ts.set j (T.put p t u) | none => ts)
  | _ :: _, .d x, _ => .d x
section
variable {K : PySem.W.Frag} {ow : Option World} {H F : Hp} {G : GC} {env : List C} {σ : L2.St} {fp : Nat → List Addr}
theorem ORs_len : ∀ {ts : List T} {vs : List V} {l : List Addr}, ORs K ow H F vs ts l → vs.length = ts.length
  | [], _, _, h => by cases h; rfl
  | t :: ts, _, _, h => by
    cases h with
    | cons h1 h2 => rw [List.length_cons, List.length_cons, ORs_len h2]
theorem ORs_at : ∀ {ts : List T} {vs : List V} {l : List Addr} {j : Nat} {t : T}, ORs K ow H F vs ts l → ts[j]? = some t → ∃ v lt l1 l2, l = l1 ++ (lt ++ l2) ∧ vs[j]? = some v ∧ OR K ow H F v t lt ∧
    ∀ (H' F' : Hp) (v' : V) (t' : T) (lt' : List Addr), Same F F' → (∀ b o, b ∈ l1 ++ l2 → H b = some o → H' b = some o) → OR K ow H' F' v' t' lt' → ORs K ow H' F' (vs.set j v') (ts.set j t') (l1 ++ (lt' ++ l2))
  | [], _, _, j, t, h, e => by simp at e
  | t0 :: ts, _, _, 0, t, h, e => by
    cases h with
    | @cons v _ lt m vs _ h1 h2 =>
      simp at e; subst e
      refine ⟨v, lt, [], m, rfl, rfl, h1, fun H' F' v' t' lt' f k r => ?_⟩
      show ORs K ow H' F' (v' :: vs) (t' :: ts) (lt' ++ m)
      exact .cons r (ORs_mono f _ _ _ k h2)
  | t0 :: ts, _, _, j + 1, t, h, e => by
    cases h with
    | @cons v _ l0 m vs _ h1 h2 =>
      obtain ⟨v', lt, l1, l2, rfl, g1, g2, g3⟩ := ORs_at h2 (by simpa using e)
      refine ⟨v', lt, l0 ++ l1, l2, by simp, by simpa using g1, g2, fun H' F' v' t' lt' f k r => ?_⟩
      have := ORs.cons (OR_mono f _ _ _ (fun b o hb => k b o (by simp [hb])) h1) (g3 H' F' v' t' lt' f (fun b o hb => k b o (by simp at hb ⊢; rcases hb with hb | hb <;> simp [hb])) r)
      simpa using this
theorem set_same {α : Type} {l : List α} {j : Nat} {x : α} (h : l[j]? = some x) : l.set j x = l := by
  obtain ⟨hj, rfl⟩ := List.getElem?_eq_some_iff.mp h
  exact List.set_getElem_self hj
theorem slot_own (R : Rel K G env σ H F fp) {i : Nat} {m : Option Nat} {t : T} (e : env[i]? = some (.own m t)) : ∃ v, σ[i]? = some (some v) ∧ OR K G.w H F v t (fp i) ∧ ∀ j, m = some j → ∃ a l, G.Ws[j]? = some (a, l) ∧ v = .ref a ∧ ∀ b, b ∈ fp i → b ∈ l ∨ G.H0 b = none := by
  obtain ⟨v, q1, q2, q3⟩ := R.slot i _ e
  cases z : σ[i]? with
  | none => rw [z] at q1; cases q1
  | some o =>
    rw [z] at q1
    have e2 : o = some v := q1
    subst e2
    exact ⟨v, rfl, q2, q3⟩
end
end DL
set_option Elab.async false
set_option linter.all false
set_option maxRecDepth 100000
set_option maxHeartbeats 4000000
/-! DPb: places in things of one's own: names, attributes, items; what is read there -/
namespace DL
open PySem PySem.Spec L2

abbrev IP := Nat × List Nat
def nodeAt (env : List C) (ip : IP) : Option T := match env[ip.1]? with
  | some (.own _ t) => T.sub ip.2 t
  | _ => none
def putAt (env : List C) (ip : IP) (u : T) : List C := match env[ip.1]? with
  | some (.own m t) => env.set ip.1 (.own m (T.put ip.2 t u))
  | _ => env
theorem T.sub_snoc : ∀ {p : List Nat} {t : T} {s : Shp} {ts : List T} {j : Nat} {u : T}, T.sub p t = some (.n s ts) → ts[j]? = some u → T.sub (p ++ [j]) t = some u
  | [], t, s, ts, j, u, h, e => by cases h; show (ts[j]?).bind (T.sub []) = some u; rw [e]; rfl
  | k :: p, .d _, s, ts, j, u, h, e => by cases h
  | k :: p, .n s' ts', s, ts, j, u, h, e => by
    unfold T.sub at h
    show (ts'[k]?).bind (T.sub (p ++ [j])) = some u
    cases z : ts'[k]? with
    | none => rw [z] at h; cases h
    | some t' =>
      rw [z] at h
      exact T.sub_snoc (p := p) h e
theorem T.put_snoc : ∀ {p : List Nat} {t : T} {s : Shp} {ts : List T} {j : Nat} {u u' : T}, T.sub p t = some (.n s ts) → ts[j]? = some u → T.put (p ++ [j]) t u' = T.put p t (.n s (ts.set j u'))
  | [], t, s, ts, j, u, u', h, e => by
    cases h
    show T.n s (match ts[j]? with | some t => ts.set j (T.put [] t u') | none => ts) = .n s (ts.set j u')
    rw [e]; rfl
  | k :: p, .d _, s, ts, j, u, u', h, e => by cases h
  | k :: p, .n s' ts', s, ts, j, u, u', h, e => by
    unfold T.sub at h
    cases z : ts'[k]? with
    | none => rw [z] at h; cases h
    | some t' =>
      rw [z] at h
      show T.n s' (match ts'[k]? with | some t => ts'.set k (T.put (p ++ [j]) t u') | none => ts') = T.n s' (match ts'[k]? with | some t => ts'.set k (T.put p t (.n s (ts.set j u'))) | none => ts')
      rw [z]
      dsimp only
      rw [T.put_snoc (p := p) h e]
theorem nodeAt_of {env : List C} {ip : IP} {u : T} (h : nodeAt env ip = some u) : ∃ m t, env[ip.1]? = some (.own m t) ∧ T.sub ip.2 t = some u := by
  unfold nodeAt at h
  split at h
  · rename_i m t e; exact ⟨m, t, e, h⟩
  · cases h
/-- a place in a thing at v0, l its addresses: the value there, its addresses, and what may be written there -/
structure Lens (K : PySem.W.Frag) (ow : Option World) (H F : Hp) (v0 : V) (t : T) (l : List Addr) (p : List Nat) (u : T) (v : V) (lu : List Addr) : Prop where
  rep : OR K ow H F v u lu
  mem : ∀ b, b ∈ lu → b ∈ l
  upd : ∀ (H' F' : Hp) (u' : T) (lu' : List Addr), Same F F' → (∀ b o, b ∈ l → b ∉ lu → H b = some o → H' b = some o) → OR K ow H' F' v u' lu' → (∀ b, b ∈ lu' → b ∈ lu ∨ b ∉ l) →
    ∃ l', OR K ow H' F' v0 (T.put p t u') l' ∧ ∀ b, b ∈ l' → b ∈ l ∨ b ∈ lu'
section
variable {K : PySem.W.Frag} {ow : Option World} {H F H1 F1 : Hp} {v0 v : V} {t u : T} {l lu : List Addr} {p : List Nat}
theorem Lens.root (h : OR K ow H F v0 t l) : Lens K ow H F v0 t l [] t v0 l := ⟨h, fun _ h => h, fun H' F' u' lu' f k r n => ⟨lu', r, fun b hb => .inr hb⟩⟩
theorem Lens.mono (L : Lens K ow H F v0 t l p u v lu) (f : Same F F1) (k : ∀ b o, b ∈ l → H b = some o → H1 b = some o) : Lens K ow H1 F1 v0 t l p u v lu :=
  ⟨OR_mono f _ _ _ (fun b o hb => k b o (L.mem b hb)) L.rep, L.mem, fun H' F' u' lu' f' k' r n => L.upd H' F' u' lu' (f.trans f') (fun b o hl hn e => k' b o hl hn (k b o hl e)) r n⟩
theorem Lens.child {s : Shp} {ts : List T} {j : Nat} {tj : T} (L : Lens K ow H F v0 t l p (.n s ts) v lu) (hs : T.sub p t = some (.n s ts)) (e : ts[j]? = some tj) :
    ∃ a vs own w lt, v = .ref a ∧ NR K ow H F s a vs own ∧ ORs K ow H F vs ts (lu.drop own.length) ∧ vs[j]? = some w ∧ Lens K ow H F v0 t l (p ++ [j]) tj w lt := by
  obtain ⟨rep, mem, upd⟩ := L
  cases rep with
  | @n _ a vs _ own l0 h1 h2 h3 =>
    have hd : (own ++ l0).drop own.length = l0 := by simp
    obtain ⟨w, lt, l1, l2, rfl, g1, g2, g3⟩ := ORs_at h2 e
    refine ⟨a, vs, own, w, lt, rfl, h1, by rw [hd]; exact h2, g1, g2, fun b hb => mem b (by simp [hb]), fun H' F' u' lu' f k r n => ?_⟩
    have nd : ∀ b, b ∈ lt → b ∉ own ∧ b ∉ l1 ∧ b ∉ l2 := fun b hb => by
      simp only [List.nodup_append, List.mem_append] at h3
      grind
    have o1 := g3 H' F' w u' lu' f (fun b o hb => k b o (mem b (by simp at hb ⊢; grind)) (fun hl => by have := nd b hl; simp at hb; grind)) r
    rw [set_same g1] at o1
    have nl : ∀ b, b ∈ lu' → b ∉ own ∧ b ∉ l1 ∧ b ∉ l2 := fun b hb => by
      rcases n b hb with y | y
      · exact nd b y
      · have h := fun (z : b ∈ own ++ (l1 ++ (lt ++ l2))) => y (mem b z)
        simp at h; grind
    have nd2 : (own ++ (l1 ++ (lu' ++ l2))).Nodup := by
      have nl' := r.nodup
      simp only [List.nodup_append, List.mem_append] at h3 ⊢
      grind
    obtain ⟨l', r', q⟩ := upd H' F' (.n s (ts.set j u')) (own ++ (l1 ++ (lu' ++ l2))) f (fun b o hl hn => k b o hl (fun hl => hn (by simp [hl])))
      (.n (h1.mono (fun b o hb => k b o (mem b (by simp [hb])) (fun hl => (nd b hl).1 hb)) f) o1 nd2) (fun b hb => by
        by_cases hb' : b ∈ lu'
        · exact (n b hb').imp_left fun z => by simp [z]
        · exact .inl (by simp at hb ⊢; grind))
    refine ⟨l', ?_, fun b hb => ?_⟩
    · rw [T.put_snoc hs e]; exact r'
    · rcases q b hb with z | z
      · exact .inl z
      · by_cases hb' : b ∈ lu'
        · exact .inr hb'
        · exact .inl (mem b (by simp at z ⊢; grind))
end
structure Place (K : PySem.W.Frag) (G : GC) (env : List C) (σ : L2.St) (H F : Hp) (fp : Nat → List Addr) (ip : IP) (u : T) (v : V) (lu : List Addr) : Prop where
  ex : ∃ m t v0, env[ip.1]? = some (.own m t) ∧ T.sub ip.2 t = some u ∧ σ[ip.1]? = some (some v0) ∧ Lens K G.w H F v0 t (fp ip.1) ip.2 u v lu
section
variable {K : PySem.W.Frag} {G : GC} {env : List C} {σ : L2.St} {H F H1 F1 : Hp} {fp : Nat → List Addr} {ip : IP} {u : T} {v : V} {lu : List Addr}
theorem Place.rep (P : Place K G env σ H F fp ip u v lu) : OR K G.w H F v u lu := let ⟨_, _, _, _, _, _, L⟩ := P.ex; L.rep
theorem Place.mem (P : Place K G env σ H F fp ip u v lu) {b : Addr} (hb : b ∈ lu) : b ∈ fp ip.1 := let ⟨_, _, _, _, _, _, L⟩ := P.ex; L.mem b hb
theorem Place.node (P : Place K G env σ H F fp ip u v lu) : nodeAt env ip = some u := by
  obtain ⟨m, t, v0, e, hs, _⟩ := P.ex
  unfold nodeAt; rw [e]; exact hs
theorem Rel.place (R : Rel K G env σ H F fp) {i : Nat} {m : Option Nat} {t : T} (e : env[i]? = some (.own m t)) : ∃ v, σ[i]? = some (some v) ∧ Place K G env σ H F fp (i, []) t v (fp i) := by
  obtain ⟨v0, s1, s2, s3⟩ := slot_own R e
  exact ⟨v0, s1, ⟨m, t, v0, e, rfl, s1, Lens.root s2⟩⟩
theorem Place.ext (P : Place K G env σ H F fp ip u v lu) (E : Ext H F H1 F1) : Place K G env σ H1 F1 fp ip u v lu := by
  obtain ⟨m, t, v0, e, hs, s, L⟩ := P.ex
  exact ⟨m, t, v0, e, hs, s, L.mono E.f fun b o _ => E.h b o⟩
theorem Place.child {s : Shp} {ts : List T} {j : Nat} {t : T} (P : Place K G env σ H F fp ip (.n s ts) v lu) (e : ts[j]? = some t) :
    ∃ a vs own w lt, v = .ref a ∧ NR K G.w H F s a vs own ∧ ORs K G.w H F vs ts (lu.drop own.length) ∧ vs[j]? = some w ∧ Place K G env σ H F fp (ip.1, ip.2 ++ [j]) t w lt := by
  obtain ⟨m, t0, v0, e0, hs, s, L⟩ := P.ex
  obtain ⟨a, vs, own, w, lt, h1, h2, h3, h4, L'⟩ := L.child hs e
  exact ⟨a, vs, own, w, lt, h1, h2, h3, h4, ⟨m, t0, v0, e0, T.sub_snoc hs e, s, L'⟩⟩
/-- a place is written -/
theorem Rel.write2 (R : Rel K G env σ H F fp) (P : Place K G env σ H F fp ip u v lu) {H' F' : Hp} {u' : T} {lu' : List Addr} (f : Same F F') (sub : Same F' H') (nw : ∀ a o, F' a = some o → F a = some o ∨ H a = none) (k : ∀ b o, b ∉ lu → H b = some o → H' b = some o) (al : ∀ b, b ∈ lu → H' b ≠ none)
    (r : OR K G.w H' F' v u' lu') (n : ∀ b, b ∈ lu' → (b ∈ lu ∨ ((∀ j, b ∉ fp j) ∧ G.H0 b = none)) ∧ F' b = none ∧ H' b ≠ none) : ∃ fp', Rel K G (putAt env ip u') σ H' F' fp' ∧ (∀ j, j ≠ ip.1 → fp' j = fp j) ∧ ∀ b, b ∈ fp' ip.1 → b ∈ fp ip.1 ∨ b ∈ lu' := by
  obtain ⟨i, p⟩ := ip
  obtain ⟨m, t, v0, e, hs, s1, L⟩ := P.ex
  dsimp only at *
  have a3 := L.mem
  obtain ⟨v0', s1', _, s3⟩ := slot_own R e
  rw [s1] at s1'; cases s1'
  obtain ⟨l', r', hl'⟩ := L.upd H' F' u' lu' f (fun b o _ => k b o) r (fun b hb => (n b hb).1.imp_right fun z => z.1 i)
  unfold putAt
  rw [e]
  dsimp only
  have al2 : ∀ b, H b ≠ none → H' b ≠ none := fun b hb => by
    by_cases hl : b ∈ lu
    · exact al b hl
    · cases q : H b with
      | none => exact absurd q hb
      | some o => rw [k b o hl q]; intro z; cases z
  have fn : ∀ j b, b ∈ fp j → F' b = none := fun j b hb => by
    cases q : F' b with
    | none => rfl
    | some o =>
      rcases nw b o q with z | z
      · rw [(R.own j b hb).1] at z; cases z
      · exact absurd z (R.own j b hb).2.1
  have hi := (List.getElem?_eq_some_iff.mp e).1
  refine ⟨fset fp i l', ?_, fun j hj => fset_ne hj, fun b hb => by rw [fset_at] at hb; exact hl' b hb⟩
  exact {
    len := by rw [List.length_set]; exact R.len
    slot := fun j c ej => by
      by_cases hj : j = i
      · subst hj
        rw [fset_at]
        rw [List.getElem?_set_self hi] at ej; cases ej
        refine ⟨v0, by rw [s1]; rfl, r', fun jj hj => ?_⟩
        obtain ⟨ra, rl, h1, h2, h3⟩ := s3 jj hj
        refine ⟨ra, rl, h1, h2, fun b hb => ?_⟩
        rcases hl' b hb with z | z
        · exact h3 b z
        · rcases (n b z).1 with y | y
          · exact h3 b (a3 b y)
          · exact .inr y.2
      · rw [List.getElem?_set_ne (Ne.symm hj)] at ej
        rw [fset_ne hj]
        have q := R.slot j c ej
        have kk : ∀ b o, b ∈ fp j → H b = some o → H' b = some o := fun b o hb => k b o fun hl => hj (R.dj j i b hb (a3 b hl))
        cases c with
        | und => exact q
        | val d => obtain ⟨y1, w, y2, y3⟩ := q; exact ⟨y1, w, y2, DF_mono f _ _ y3⟩
        | brw d => exact q
        | lst ds => obtain ⟨b, vs, y1, y2, y3, y4⟩ := q; exact ⟨b, vs, y1, y2, kk _ _ (by rw [y1]; exact List.mem_singleton.mpr rfl) y3, DFAll_mono f _ _ y4⟩
        | dK ds => obtain ⟨b, vs, y1, y2, y3, y4⟩ := q; exact ⟨b, vs, y1, y2, kk _ _ (by rw [y1]; exact List.mem_singleton.mpr rfl) y3, y4.mono f⟩
        | dT ds => obtain ⟨b, vs, y1, y2, y3, y4⟩ := q; exact ⟨b, vs, y1, y2, kk _ _ (by rw [y1]; exact List.mem_singleton.mpr rfl) y3, y4.mono f⟩
        | dN ds => obtain ⟨b, w, xs, y1, y2, y5, y3, y4⟩ := q; exact ⟨b, w, xs, y1, y2, y5, kk _ _ (by rw [y1]; exact List.mem_singleton.mpr rfl) y3, y4.mono f⟩
        | pin _ => exact q
        | ro b t2 => obtain ⟨y0, w, l, y1, y2, y3⟩ := q; exact ⟨y0, w, l, y1, OR_mono f _ _ _ (fun _ _ _ z => z) y2, fun hb a vs ha hk => f _ _ (y3 hb a vs ha hk)⟩
        | own m2 t2 => obtain ⟨w, y1, y2, y3⟩ := q; exact ⟨w, y1, OR_mono f _ _ _ kk y2, y3⟩
    dj := fun j k2 b h1 h2 => by
      have hh : ∀ j, j ≠ i → b ∈ l' → b ∈ fp j → False := fun j hj h1 h2 => by
        rcases hl' b h1 with z | z
        · exact hj (R.dj j i b h2 z)
        · rcases (n b z).1 with y | y
          · exact hj (R.dj j i b h2 (a3 b y))
          · exact y.1 j h2
      by_cases hj : j = i
      · by_cases hk : k2 = i
        · exact hj.trans hk.symm
        · subst hj; rw [fset_at] at h1; rw [fset_ne hk] at h2
          exact (hh k2 hk h1 h2).elim
      · by_cases hk : k2 = i
        · subst hk; rw [fset_at] at h2; rw [fset_ne hj] at h1
          exact (hh j hj h2 h1).elim
        · rw [fset_ne hj] at h1; rw [fset_ne hk] at h2
          exact R.dj j k2 b h1 h2
    own := fun j b hb => by
      by_cases hj : j = i
      · subst hj
        rw [fset_at] at hb
        have old : b ∈ fp j → F' b = none ∧ H' b ≠ none ∧ (G.H0 b = none ∨ (b ∈ G.W ∧ ∃ c, (env.set j (.own m (T.put p t u')))[j]? = some c ∧ c.mu = true)) := fun z => by
          obtain ⟨g1, g2, g3⟩ := R.own j b z
          refine ⟨fn j b z, al2 b g2, g3.imp_right fun ⟨w1, c, w2, w3⟩ => ⟨w1, _, List.getElem?_set_self hi, ?_⟩⟩
          rw [e] at w2; cases w2
          cases m with
          | none => cases w3
          | some _ => rfl
        rcases hl' b hb with z | z
        · exact old z
        · obtain ⟨n1, n2, n3⟩ := n b z
          rcases n1 with y | y
          · exact old (a3 b y)
          · exact ⟨n2, n3, .inl y.2⟩
      · rw [fset_ne hj] at hb
        obtain ⟨g1, g2, g3⟩ := R.own j b hb
        exact ⟨fn j b hb, al2 b g2, by rw [List.getElem?_set_ne (Ne.symm hj)]; exact g3⟩
    sub := sub
    new := fun a o q => by
      rcases nw a o q with z | z
      · exact R.new a o z
      · exact .inr (R.h0 z)
    old := R.old.trans f
    keep := fun a o q hw => by
      refine k a o (fun hl => ?_) (R.keep a o q hw)
      rcases (R.own i a (a3 a hl)).2.2 with z | z
      · rw [z] at q; cases q
      · exact hw z.1
    alive := fun a q => al2 a (R.alive a q) }
theorem nodeAt_child {s : Shp} {ts : List T} {j : Nat} {t : T} (hn : nodeAt env ip = some (.n s ts)) (e : ts[j]? = some t) : nodeAt env (ip.1, ip.2 ++ [j]) = some t := by
  obtain ⟨m, t0, e0, hs⟩ := nodeAt_of hn
  unfold nodeAt
  rw [e0]
  exact T.sub_snoc hs e
end
/-- an expression that is a place -/
structure DPl (X : Cx) (G : GC) (e : Expr) (g : List C → Option IP) : Prop where
  ex : ∃ t, PE X e t ∧ ∀ (σ : L2.St) (H F : Hp) (fp : Nat → List Addr) (env : List C) (ip : IP) (u : T) (Q : VK), Rel X.K G env σ H F fp → g env = some ip → nodeAt env ip = some u →
    (∀ v lu H' F', Ext H F H' F' → Place X.K G env σ H' F' fp ip u v lu → Q v H') → t σ H Q
section
variable {X : Cx} {G : GC} {e : Expr} {g : List C → Option IP} {pos : Pos} {k : RK} {f fi : List C → Option D}
def pNm (i : Nat) : List C → Option IP := fun _ => some (i, [])
theorem dp_name {x : Str} (i : Nat) (h : PE X (.Name x pos) (tVar i)) : DPl X G (.Name x pos) (pNm i) := by
  refine ⟨_, h, fun σ H F fp env ip u Q R hg hn q => ?_⟩
  cases hg
  obtain ⟨m, t, e, hs⟩ := nodeAt_of hn
  cases hs
  obtain ⟨v, s1, P⟩ := R.place e
  exact ⟨v, s1, q v _ H F (Ext.refl R.sub) P⟩
/-- the item of a sequence, of a dict by its key -/
def pChild (g : List C → Option IP) (sel : List C → Shp → Nat → Option Nat) : List C → Option IP := fun env => match g env with
  | some ip => (match nodeAt env ip with | some (.n s ts) => (match sel env s ts.length with | some j => if j < ts.length then some (ip.1, ip.2 ++ [j]) else none | none => none) | _ => none)
  | none => none
theorem pChild_of {sel : List C → Shp → Nat → Option Nat} {env : List C} {ip : IP} {u : T} (hg : pChild g sel env = some ip) (hn : nodeAt env ip = some u) : ∃ ip0 s ts j, g env = some ip0 ∧ nodeAt env ip0 = some (.n s ts) ∧ sel env s ts.length = some j ∧ ts[j]? = some u ∧ ip = (ip0.1, ip0.2 ++ [j]) := by
  unfold pChild at hg
  split at hg
  · rename_i ip0 h0
    split at hg
    · rename_i s ts h1
      split at hg
      · rename_i j h2
        split at hg <;> cases hg
        rename_i hj
        have := nodeAt_child h1 (List.getElem?_eq_getElem hj)
        rw [this] at hn; cases hn
        exact ⟨ip0, s, ts, j, h0, h1, h2, List.getElem?_eq_getElem hj, rfl⟩
      · cases hg
    · cases hg
  · cases hg
/-- the class's facts -/
structure ClOk (K : PySem.W.Frag) (c : Str) : Prop where
  ex : ∃ C, PySem.W.nsIn K mainGlobals c = some (some (.ref C)) ∧ Cls K C
def NoAt (K : PySem.W.Frag) (c f : Str) : Prop := ∀ C, PySem.W.nsIn K mainGlobals c = some (some (.ref C)) → NoAttr K C f
def fIx (f : Str) : List Str → Option Nat
  | [] => none
  | g :: r => if g = f then some 0 else (fIx f r).map (· + 1)
theorem fIx_zip {f : Str} : ∀ {fs : List Str} {vs : List V} {j : Nat} {w : V}, fIx f fs = some j → vs[j]? = some w → (fs.zip vs).lookup f = some w
  | [], _, _, _, h, _ => by cases h
  | g :: r, [], _, _, _, e => by simp at e
  | g :: r, v :: vs, j, w, h, e => by
    unfold fIx at h
    rw [List.zip_cons_cons, List.lookup_cons]
    by_cases hg : g = f
    · rw [if_pos hg] at h; cases h
      simp at e
      subst hg
      simp [e]
    · rw [if_neg hg] at h
      have hb : (f == g) = false := beq_eq_false_iff_ne.mpr (Ne.symm hg)
      rw [hb]
      cases z : fIx f r with
      | none => rw [z] at h; cases h
      | some k =>
        rw [z] at h; cases h
        exact fIx_zip z (by simpa using e)
def selF (c f : Str) : List C → Shp → Nat → Option Nat := fun _ s _ => match s with | .o c' fs => if c' = c then fIx f fs else none | _ => none
def pF (c f : Str) (g : List C → Option IP) : List C → Option IP := pChild g (selF c f)
theorem dp_attr {f : Str} (c : Str) (h : DPl X G e g) (hc : ClOk X.K c) (hf : NoAt X.K c f) (hb : attributeBase e f X.env (eval e X.env) = eval e X.env := by rfl) : DPl X G (.Attribute e f pos) (pF c f g) := by
  obtain ⟨t, pt, o⟩ := h.ex
  refine ⟨_, pe_fld pt hb, fun σ H F fp env ip u Q R hg hn q => ?_⟩
  obtain ⟨ip0, s, ts, j, h0, h1, h2, h3, rfl⟩ := pChild_of hg hn
  unfold selF at h2
  split at h2
  · rename_i c' fs
    split at h2
    · rename_i hcc
      subst hcc
      refine o σ H F fp env ip0 _ _ R h0 h1 fun v lu H1 F1 E1 P => ?_
      obtain ⟨a, vs, own, w, lt, rfl, nr, _, hw, P'⟩ := P.child h3
      obtain ⟨l, C, dx, rfl, n1, n2, n3⟩ := nr
      obtain ⟨C', hC, cls⟩ := hc.ex
      rw [n1] at hC; cases hC
      exact ⟨a, C, dx, _, w, rfl, n2, cls, hf C n1, fIx_zip h2 hw, q w lt H1 F1 E1 P'⟩
    · cases h2
  · cases h2
def selI (fi : List C → Option D) : List C → Shp → Nat → Option Nat := fun env s n => match s with
  | .l => (match fi env with | some (.int i) => ixN n i | _ => none)
  | .t => (match fi env with | some (.int i) => ixN n i | _ => none)
  | _ => none
def pI (fi : List C → Option D) (g : List C → Option IP) : List C → Option IP := pChild g (selI fi)
theorem ORs_vlen {K : PySem.W.Frag} {ow : Option World} {H F : Hp} {ts : List T} {vs : List V} {l : List Addr} (h : ORs K ow H F vs ts l) : vs.length = ts.length := ORs_len h
theorem dp_ix {i : Expr} (h : DPl X G e g) (hi : DE X G k i fi) (hs : PlainIx i) (hk : k.le .vl = true := by rfl) : DPl X G (.Subscript e i pos) (pI fi g) := by
  obtain ⟨t, pt, o⟩ := h.ex
  obtain ⟨ti, pi, oi⟩ := (hi.conv hk).ex
  refine ⟨_, pe_ix ix_seq pt pi hs, fun σ H F fp env ip u Q R hg hn q => ?_⟩
  obtain ⟨ip0, s, ts, j, h0, h1, h2, h3, rfl⟩ := pChild_of hg hn
  have go : ∀ i, fi env = some (.int i) → ixN ts.length i = some j → (s = .l ∨ s = .t) → tOp (rIx X.K) t ti σ H Q := fun i h4 h5 hs => by
    refine o σ H F fp env ip0 _ _ R h0 h1 fun v lu H1 F1 E1 P => ?_
    refine oi σ H1 F1 fp env _ _ (R.ext E1) h4 fun vi H2 F2 E2 ri => ?_
    have ei := vl_int (G := G) (H := H2) (F := F2) ri
    subst ei
    have P2 := P.ext E2
    obtain ⟨a, vs, own, w, lt, rfl, nr, os, hw, P'⟩ := P2.child h3
    have hl := ORs_len os
    have ha : atI vs i = some w := by unfold atI; rw [hl, h5]; exact hw
    rcases hs with rfl | rfl
    · exact .inl ⟨a, vs, i, w, rfl, rfl, .inl (.inl nr.2), ha, q w lt H2 F2 (E1.trans E2) P'⟩
    · have st : SqT X.K H2 a vs := by
        rcases nr with ⟨_, h⟩ | ⟨_, h⟩
        · exact .inl (.inl h)
        · exact Same.seqT E2.sub h
      exact .inr (.inl ⟨a, vs, i, w, rfl, rfl, st, ha, q w lt H2 F2 (E1.trans E2) P'⟩)
  unfold selI at h2
  split at h2
  · split at h2
    · rename_i i h4; exact go i h4 h2 (.inl rfl)
    · cases h2
  · split at h2
    · rename_i i h4; exact go i h4 h2 (.inr rfl)
    · cases h2
  · cases h2
/-- what is read at a place: frozen data; a list of frozen data; all as it is now -/
def eLeaf (g : List C → Option IP) : List C → Option D := fun env => match g env with
  | some ip => (match nodeAt env ip with | some (.d x) => some x | _ => none)
  | none => none
theorem d_leaf (h : DPl X G e g) : DE X G .fz e (eLeaf g) := by
  obtain ⟨t, pt, o⟩ := h.ex
  refine ⟨t, pt, fun σ H F fp env d Q R hf q => ?_⟩
  unfold eLeaf at hf
  split at hf
  · rename_i ip h0
    split at hf
    · rename_i x h1
      cases hf
      refine o σ H F fp env ip _ _ R h0 h1 fun v lu H1 F1 E1 P => ?_
      cases P.rep with
      | d r => exact q v H1 F1 E1 r
    · cases hf
  · cases hf
def flatT : List T → Option (List D)
  | [] => some []
  | .d x :: r => (flatT r).map (x :: ·)
  | .n _ _ :: _ => none
theorem flatT_rep {K : PySem.W.Frag} {ow : Option World} {H F : Hp} : ∀ {ts : List T} {ds : List D} {vs : List V} {l : List Addr}, flatT ts = some ds → ORs K ow H F vs ts l → DFAll K F vs ds ∧ l = []
  | [], ds, vs, l, h, r => by cases h; cases r; exact ⟨.nil, rfl⟩
  | .d x :: ts, ds, vs, l, h, r => by
    unfold flatT at h
    cases z : flatT ts with
    | none => rw [z] at h; cases h
    | some ds' =>
      rw [z] at h; cases h
      cases r with
      | cons r1 r2 =>
        cases r1 with
        | d r1 =>
          obtain ⟨a, b⟩ := flatT_rep z r2
          exact ⟨.cons r1 a, by rw [b]; rfl⟩
  | .n _ _ :: ts, ds, vs, l, h, r => by cases h
theorem rep_flatT {K : PySem.W.Frag} {ow : Option World} {H F : Hp} : ∀ {ds : List D} {vs : List V}, DFAll K F vs ds → ORs K ow H F vs (ds.map T.d) []
  | [], _, h => by cases h; exact .nil
  | d :: ds, _, h => by
    cases h with
    | cons h1 h2 =>
      have := ORs.cons (.d h1) (rep_flatT (ow := ow) (H := H) h2)
      simpa using this
def eFlat (g : List C → Option IP) : List C → Option D := fun env => match g env with
  | some ip => (match nodeAt env ip with | some (.n .l ts) => (flatT ts).map .list | some (.d x) => some x | _ => none)
  | none => none
theorem d_flat (h : DPl X G e g) : DE X G .vl e (eFlat g) := by
  obtain ⟨t, pt, o⟩ := h.ex
  refine ⟨t, pt, fun σ H F fp env d Q R hf q => ?_⟩
  unfold eFlat at hf
  split at hf
  · rename_i ip h0
    split at hf
    · rename_i ts h1
      cases z : flatT ts with
      | none => rw [z] at hf; cases hf
      | some ds =>
        rw [z] at hf; cases hf
        refine o σ H F fp env ip _ _ R h0 h1 fun v lu H1 F1 E1 P => ?_
        cases P.rep with
        | @n _ a vs _ own l h2 h3 h4 => exact q _ H1 F1 E1 (.inr ⟨a, vs, ds, rfl, rfl, h2.2, (flatT_rep z h3).1⟩)
    · rename_i x h1
      cases hf
      refine o σ H F fp env ip _ _ R h0 h1 fun v lu H1 F1 E1 P => ?_
      cases P.rep with
      | d r => exact q v H1 F1 E1 (.inl r)
    · cases hf
  · cases hf
mutual
def viewT : T → Option D
  | .d x => some x
  | .n .l ts => (viewTs ts).map .list
  | .n .t ts => (viewTs ts).map .tuple
  | .n _ _ => none
def viewTs : List T → Option (List D)
  | [] => some []
  | t :: r => (viewT t).bind fun x => (viewTs r).map (x :: ·)
end
mutual
theorem view_rep {K : PySem.W.Frag} {ow : Option World} {H F : Hp} (sub : Same F H) : ∀ (t : T) (v : V) (d : D) (l : List Addr), viewT t = some d → OR K ow H F v t l → Dp K H v d
  | .d x, v, d, l, h, r => by
    unfold viewT at h; cases h
    cases r with
    | d r => exact Dp_mono sub _ _ (DF.dp _ _ r)
  | .n s ts, v, d, l, h, r => by
    cases r with
    | n r1 r2 r3 =>
      cases s with
      | l =>
        unfold viewT at h
        cases z : viewTs ts with
        | none => rw [z] at h; cases h
        | some ds => rw [z] at h; cases h; exact .lst (.inl (.inl r1.2)) (view_reps sub ts _ _ _ z r2)
      | t =>
        unfold viewT at h
        cases z : viewTs ts with
        | none => rw [z] at h; cases h
        | some ds => rw [z] at h; cases h; exact .tup (by
          rcases r1 with ⟨_, h⟩ | ⟨_, h⟩
          · exact .inl (.inl h)
          · exact Same.seqT sub h) (view_reps sub ts _ _ _ z r2)
      | k ks => unfold viewT at h; cases h
      | q ks => unfold viewT at h; cases h
      | o c fs => unfold viewT at h; cases h
theorem view_reps {K : PySem.W.Frag} {ow : Option World} {H F : Hp} (sub : Same F H) : ∀ (ts : List T) (vs : List V) (ds : List D) (l : List Addr), viewTs ts = some ds → ORs K ow H F vs ts l → DpAll K H vs ds
  | [], vs, ds, l, h, r => by unfold viewTs at h; cases h; cases r; exact .nil
  | t :: ts, vs, ds, l, h, r => by
    cases r with
    | cons r1 r2 =>
      unfold viewTs at h
      cases z : viewT t with
      | none => rw [z] at h; cases h
      | some x =>
        cases z2 : viewTs ts with
        | none => rw [z, z2] at h; cases h
        | some xs =>
          rw [z, z2] at h; cases h
          exact .cons (view_rep sub t _ _ _ z r1) (view_reps sub ts _ _ _ z2 r2)
end
def eView (g : List C → Option IP) : List C → Option D := fun env => match g env with
  | some ip => (match nodeAt env ip with | some t => viewT t | _ => none)
  | none => none
theorem d_view (h : DPl X G e g) : DE X G .vw e (eView g) := by
  obtain ⟨t, pt, o⟩ := h.ex
  refine ⟨t, pt, fun σ H F fp env d Q R hf q => ?_⟩
  unfold eView at hf
  split at hf
  · rename_i ip h0
    split at hf
    · rename_i u h1
      refine o σ H F fp env ip _ _ R h0 h1 fun v lu H1 F1 E1 P => ?_
      exact q v H1 F1 E1 (view_rep E1.sub _ _ _ _ hf P.rep)
    · cases hf
  · cases hf
end
end DL
set_option Elab.async false
set_option linter.all false
set_option maxRecDepth 100000
set_option maxHeartbeats 4000000
/-! DPc: expressions that make things of one's own; expressions that write; statements over them -/
namespace DL
open PySem PySem.Spec L2

/-- no slot's, new since H -/
def Fresh (H H' F' : Hp) (l : List Addr) : Prop := ∀ b, b ∈ l → H b = none ∧ F' b = none ∧ H' b ≠ none
structure DN (X : Cx) (G : GC) (e : Expr) (f : List C → Option T) : Prop where
  ex : ∃ t, PE X e t ∧ ∀ (σ : L2.St) (H F : Hp) (fp : Nat → List Addr) (env : List C) (u : T) (Q : VK), Rel X.K G env σ H F fp → f env = some u →
    (∀ v H' F' l, Ext H F H' F' → OR X.K G.w H' F' v u l → Fresh H H' F' l → Q v H') → t σ H Q
structure DNs (X : Cx) (G : GC) (es : List Expr) (f : List C → Option (List T)) : Prop where
  ex : ∃ t, PA X es t ∧ ∀ (σ : L2.St) (H F : Hp) (fp : Nat → List Addr) (env : List C) (us : List T) (Q : List V → Hp → Prop), Rel X.K G env σ H F fp → f env = some us →
    (∀ vs H' F' l, Ext H F H' F' → ORs X.K G.w H' F' vs us l → Fresh H H' F' l → l.Nodup → Q vs H') → t σ H Q
section
variable {X : Cx} {G : GC} {e : Expr} {es : List Expr} {k : RK} {f : List C → Option D} {fn : List C → Option T} {fs : List C → Option (List T)} {pos : Pos}
theorem Fresh.ext {H H1 F1 H' F' : Hp} {l : List Addr} (h : Fresh H H1 F1 l) (E : Ext H1 F1 H' F') : Fresh H H' F' l := fun b hb => by
  obtain ⟨h1, h2, h3⟩ := h b hb
  refine ⟨h1, ?_, ?_⟩
  · cases q : F' b with
    | none => rfl
    | some o =>
      rcases E.new b o q with z | z
      · rw [h2] at z; cases z
      · exact absurd z h3
  · cases q : H1 b with
    | none => exact absurd q h3
    | some o => rw [E.h _ _ q]; intro z; cases z
theorem Fresh.back {H H1 H' F' : Hp} {l : List Addr} (h : Fresh H1 H' F' l) (s : Same H H1) : Fresh H H' F' l := fun b hb => ⟨s.free (h b hb).1, (h b hb).2⟩
def nD (f : List C → Option D) : List C → Option T := fun env => (f env).map T.d
def nL (f : List C → Option D) : List C → Option T := fun env => match f env with | some (.list ds) => some (.n .l (ds.map T.d)) | _ => none
theorem dn_fz (h : DE X G k e f) (hk : k.le .fz = true := by rfl) : DN X G e (nD f) := by
  obtain ⟨t, pt, o⟩ := (h.conv hk).ex
  refine ⟨t, pt, fun σ H F fp env u Q R hf q => ?_⟩
  unfold nD at hf
  cases z : f env with
  | none => rw [z] at hf; cases hf
  | some d =>
    rw [z] at hf; cases hf
    exact o σ H F fp env d Q R z fun v H' F' E r => q v H' F' [] E (.d r) (fun _ m => nomatch m)
theorem dn_ow (h : DE X G .ow e f) : DN X G e (nL f) := by
  obtain ⟨t, pt, o⟩ := h.ex
  refine ⟨t, pt, fun σ H F fp env u Q R hf q => ?_⟩
  unfold nL at hf
  split at hf
  · rename_i ds z
    cases hf
    refine o σ H F fp env _ Q R z fun v H' F' E r => ?_
    obtain ⟨a, vs, ds', rfl, ed, h1, h2, h3, h4⟩ := r
    cases ed
    refine q _ H' F' ([a] ++ []) E (.n ⟨rfl, h2⟩ (rep_flatT h4) (by simp)) fun b hb => ?_
    have e : b = a := by simpa using hb
    subst e
    exact ⟨h1, h3, by rw [h2]; intro z; cases z⟩
  · cases hf
def nsNil : List C → Option (List T) := fun _ => some []
def nsCons (f : List C → Option T) (g : List C → Option (List T)) : List C → Option (List T) := fun env => match f env with
  | some u => (match g env with | some us => some (u :: us) | none => none)
  | none => none
theorem dns_nil : DNs X G [] nsNil := ⟨_, pa_nil, fun σ H F fp env ds Q R hf q => by cases hf; exact q [] H F [] (Ext.refl R.sub) .nil (fun _ m => nomatch m) List.nodup_nil⟩
theorem fresh_apart {H H1 F1 H2 F2 : Hp} {l m : List Addr} (h1 : Fresh H H1 F1 l) (h2 : Fresh H1 H2 F2 m) (n1 : l.Nodup) (n2 : m.Nodup) : (l ++ m).Nodup := by
  rw [List.nodup_append]
  refine ⟨n1, n2, fun a ha b hb e => ?_⟩
  subst e
  exact (h1 a ha).2.2 (h2 a hb).1
theorem dns_cons (h : DN X G e fn) (ht : DNs X G es fs) (hs : starEach (e :: es) X.env = (false, eval e X.env) :: starEach es X.env := by rfl) : DNs X G (e :: es) (nsCons fn fs) := by
  obtain ⟨t, pt, o⟩ := h.ex
  obtain ⟨t2, pt2, o2⟩ := ht.ex
  refine ⟨_, pa_cons pt pt2 hs, fun σ H F fp env ds Q R hf q => ?_⟩
  unfold nsCons at hf
  split at hf
  · rename_i u z
    split at hf
    · rename_i us z2
      cases hf
      refine o σ H F fp env u _ R z fun v H1 F1 l E1 r1 f1 => ?_
      refine o2 σ H1 F1 fp env us _ (R.ext E1) z2 fun vs H2 F2 m E2 r2 f2 n2 => ?_
      refine q (v :: vs) H2 F2 (l ++ m) (E1.trans E2) (.cons (OR_mono E2.f _ _ _ (fun b o _ => E2.h b o) r1) r2) (fun b hb => ?_) (fresh_apart f1 f2 r1.nodup n2)
      rcases List.mem_append.mp hb with z | z
      · exact f1.ext E2 b z
      · exact f2.back E1.h b z
    · cases hf
  · cases hf
def nLst (fs : List C → Option (List T)) : List C → Option T := fun env => (fs env).map (.n .l)
def nTup (fs : List C → Option (List T)) : List C → Option T := fun env => (fs env).map (.n .t)
theorem laid_node {K : PySem.W.Frag} {ow : Option World} {H0 H F : Hp} {s : Shp} {p : Addr} {o : HO} {vs : List V} {us : List T} {l : List Addr} (np : H p = none) (sub : Same F H) (r : ORs K ow H F vs us l) (fr : Fresh H0 H F l) (nd : l.Nodup) (s0 : Same H0 H) (nr : NR K ow (upd H p o) F s p vs [p]) :
    OR K ow (upd H p o) F (.ref p) (.n s us) (p :: l) ∧ Fresh H0 (upd H p o) F (p :: l) := by
  have ne : ∀ b, b ∈ l → b ≠ p := fun b hb z => (fr b hb).2.2 (by rw [z]; exact np)
  refine ⟨.n (own := [p]) nr (ORs_mono (Same.refl _) _ _ _ (fun b o hb e => by rw [upd_ne (ne b hb)]; exact e) r) (by simpa using ⟨fun h => ne p h rfl, nd⟩), fun b hb => ?_⟩
  rcases List.mem_cons.mp hb with rfl | hb
  · exact ⟨s0.free np, sub.free np, by rw [upd_same]; intro z; cases z⟩
  · obtain ⟨h1, h2, h3⟩ := fr b hb
    exact ⟨h1, h2, by rw [upd_ne (ne b hb)]; exact h3⟩
theorem dn_lst (h : DNs X G es fs) (hn : es.length ≤ 1000 := by decide) (hl : ∀ env us, fs env = some us → us.length ≤ 1000) : DN X G (.List es pos) (nLst fs) := by
  obtain ⟨t, pt, o⟩ := h.ex
  refine ⟨_, pe_lst pt, fun σ H F fp env u Q R hf q => ?_⟩
  unfold nLst at hf
  cases z : fs env with
  | none => rw [z] at hf; cases hf
  | some us =>
    rw [z] at hf; cases hf
    refine o σ H F fp env us _ R z fun vs H1 F1 l E1 r fr nd => ?_
    refine ⟨line1000 (by rw [ORs_len r]; exact hl _ _ z), fun p np => ?_⟩
    obtain ⟨r', fr'⟩ := laid_node (s := .l) (o := .lst vs) np E1.sub r fr nd E1.h ⟨rfl, upd_same⟩
    exact q _ _ F1 _ (E1.trans (Ext.laid E1.sub np)) r' fr'
theorem dn_tup {x1} (h : DNs X G es fs) (hl : ∀ env us, fs env = some us → us.length ≤ 1000) : DN X G (.Tuple es x1 pos) (nTup fs) := by
  obtain ⟨t, pt, o⟩ := h.ex
  refine ⟨_, pe_tup pt, fun σ H F fp env u Q R hf q => ?_⟩
  unfold nTup at hf
  cases z : fs env with
  | none => rw [z] at hf; cases hf
  | some us =>
    rw [z] at hf; cases hf
    refine o σ H F fp env us _ R z fun vs H1 F1 l E1 r fr nd => ?_
    refine ⟨line1000 (by rw [ORs_len r]; exact hl _ _ z), fun p np => ?_⟩
    obtain ⟨r', fr'⟩ := laid_node (s := .t) (o := .tup vs) np E1.sub r fr nd E1.h (.inl ⟨rfl, upd_same⟩)
    exact q _ _ F1 _ (E1.trans (Ext.laid E1.sub np)) r' fr'
theorem nsNil_len {env : List C} {us : List T} (h : nsNil env = some us) : us.length = 0 := by cases h; rfl
theorem nsCons_len {n : Nat} (hl : ∀ env us, fs env = some us → us.length = n) (env : List C) (us : List T) (h : nsCons fn fs env = some us) : us.length = n + 1 := by
  unfold nsCons at h
  split at h
  · split at h
    · rename_i us' z
      cases h
      rw [List.length_cons, hl _ _ z]
    · cases h
  · cases h
def nDictK : List C → Option T := fun _ => some (.n (.k []) [])
def nDictQ : List C → Option T := fun _ => some (.n (.q []) [])
theorem dn_dictK : DN X G (.Dict [] [] pos) nDictK := by
  refine ⟨_, pe_dnewK, fun σ H F fp env u Q R hf q => ?_⟩
  cases hf
  intro p np
  obtain ⟨r', fr'⟩ := laid_node (K := X.K) (ow := G.w) (H0 := H) (s := .k []) (o := .dK []) (vs := []) (us := []) (l := []) np R.sub .nil (fun _ m => nomatch m) List.nodup_nil (Same.refl _) ⟨rfl, rfl, upd_same⟩
  exact q _ _ F _ (Ext.laid R.sub np) r' fr'
theorem dn_dictQ (hw : G.w = some X.w) : DN X G (.Dict [] [] pos) nDictQ := by
  refine ⟨_, pe_dnew, fun σ H F fp env u Q R hf q => ?_⟩
  cases hf
  intro p np
  obtain ⟨r', fr'⟩ := laid_node (K := X.K) (ow := G.w) (H0 := H) (s := .q []) (o := dnO X.w p []) (vs := []) (us := []) (l := []) np R.sub .nil (fun _ m => nomatch m) List.nodup_nil (Same.refl _) ⟨rfl, X.w, [], hw, upd_same, .nil⟩
  exact q _ _ F _ (Ext.laid R.sub np) r' fr'
end

/-! ### expressions that may write -/
structure DX (X : Cx) (G : GC) (e : Expr) (g : List C → Option (List C × T)) : Prop where
  ex : ∃ t, PE X e t ∧ ∀ (σ : L2.St) (H F : Hp) (fp : Nat → List Addr) (env env' : List C) (u : T) (Q : VK), Rel X.K G env σ H F fp → g env = some (env', u) →
    (∀ v H' F' fp' l, Rel X.K G env' σ H' F' fp' → Same F F' → New X.K G H' F' fp' v u l → Q v H') → t σ H Q
structure DTX (X : Cx) (G : GC) (e : Expr) (g : List C → Option (List C × Bool)) : Prop where
  ex : ∃ t, PT X e t ∧ ∀ (σ : L2.St) (H F : Hp) (fp : Nat → List Addr) (env env' : List C) (b : Bool) (Q : Bool → Hp → Prop), Rel X.K G env σ H F fp → g env = some (env', b) →
    (∀ H' F' fp', Rel X.K G env' σ H' F' fp' → Same F F' → Q b H') → t σ H Q
section
variable {X : Cx} {G : GC} {kr k : RK} {e a b : Expr} {sts sts2 : List Stmt} {f : List C → Option D} {fn : List C → Option T} {g : List C → Option (List C × T)} {gt : List C → Option (List C × Bool)} {pos pos' : Pos} {x : Str}
theorem Rel.fresh {K : PySem.W.Frag} {env : List C} {σ : L2.St} {H F H' F' : Hp} {fp : Nat → List Addr} {l : List Addr} {v : V} {u : T} (R : Rel K G env σ H F fp) (E : Ext H F H' F') (r : OR K G.w H' F' v u l) (fr : Fresh H H' F' l) : New K G H' F' fp v u l where
  rep := r
  own := fun a ha => ⟨(fr a ha).2.1, (fr a ha).2.2, R.h0 (fr a ha).1⟩
  dj := fun a ha j hj => (R.own j a hj).2.1 (fr a ha).1
def xN (f : List C → Option T) : List C → Option (List C × T) := fun env => (f env).map fun u => (env, u)
theorem dx_of (h : DN X G e fn) : DX X G e (xN fn) := by
  obtain ⟨t, pt, o⟩ := h.ex
  refine ⟨t, pt, fun σ H F fp env env' u Q R hf q => ?_⟩
  unfold xN at hf
  cases z : fn env with
  | none => rw [z] at hf; cases hf
  | some u' =>
    rw [z] at hf; cases hf
    exact o σ H F fp env _ Q R z fun v H' F' l E r fr => q v H' F' fp l (R.ext E) E.f (R.fresh E r fr)
/-- x = e -/
def toC : T → C
  | .d x => .val x
  | u => .own none u
theorem Rel.putX {K : PySem.W.Frag} {env : List C} {σ : L2.St} {H F : Hp} {fp : Nat → List Addr} {l : List Addr} {v : V} {u : T} (R : Rel K G env σ H F fp) (n : New K G H F fp v u l) (i : Nat) : ∃ fp', Rel K G (env.set i (toC u)) (σ.set i (some v)) H F fp' := by
  cases u with
  | d x =>
    cases n.rep with
    | d r => exact ⟨_, R.put (i := i) (v := v) (c := .val x) (l := []) ⟨rfl, v, rfl, r⟩ (fun _ m => nomatch m) (fun _ m => nomatch m)⟩
  | n s ts =>
    exact ⟨_, R.put (i := i) (v := v) (c := .own none (.n s ts)) (l := l) ⟨v, rfl, n.rep, fun _ h => nomatch h⟩ (fun a ha => n.own a ha) (fun a ha j _ => n.dj a ha j)⟩
def sSetX (i : Nat) (g : List C → Option (List C × T)) : List C → Out := fun env => match g env with | some (env', u) => .nx (env'.set i (toC u)) | none => .err
theorem ds_setX {x : Str} (i : Nat) (hN : X.N.Nodup) (hi : X.N[i]? = some x) (h : DX X G e g) (hx : Loc X.env.scope x := by first | exact .inl rfl | exact .inr rfl) (hs : swapsWith e (some (.Name x pos')) pos.line X.env = pure false := by rfl)
    (hf : X.fn x = true ∨ X.env.scope.names.lookup x = some .local := by first | exact .inl rfl | exact .inr rfl | assumption) : DS X G kr (.Assign [.Name x pos'] e pos) (sSetX i g) := by
  obtain ⟨t, p, o⟩ := h.ex
  refine ⟨_, ps_set hN hi hx p hs hf, fun σ H F fp env E R q => ?_⟩
  unfold sSetX at q
  cases z : g env with
  | none => rw [z] at q; exact q.elim
  | some eu =>
    obtain ⟨env', u⟩ := eu
    rw [z] at q
    refine o σ H F fp env env' u _ R z fun v H' F' fp' l R' s n => ?_
    obtain ⟨fp2, R2⟩ := R'.putX n i
    exact q _ H' F' _ R2 s
/-- a flat list, given to a name that is a plain list from then on -/
def toL : T → Option C
  | .n .l ts => (flatT ts).map .lst
  | _ => none
def sSetXL (i : Nat) (g : List C → Option (List C × T)) : List C → Out := fun env => match g env with | some (env', u) => (match toL u with | some c => .nx (env'.set i c) | none => .err) | none => .err
theorem ds_setXL {x : Str} (i : Nat) (hN : X.N.Nodup) (hi : X.N[i]? = some x) (h : DX X G e g) (hx : Loc X.env.scope x := by first | exact .inl rfl | exact .inr rfl) (hs : swapsWith e (some (.Name x pos')) pos.line X.env = pure false := by rfl)
    (hf : X.fn x = true ∨ X.env.scope.names.lookup x = some .local := by first | exact .inl rfl | exact .inr rfl | assumption) : DS X G kr (.Assign [.Name x pos'] e pos) (sSetXL i g) := by
  obtain ⟨t, p, o⟩ := h.ex
  refine ⟨_, ps_set hN hi hx p hs hf, fun σ H F fp env E R q => ?_⟩
  unfold sSetXL at q
  cases z : g env with
  | none => rw [z] at q; exact q.elim
  | some eu =>
    obtain ⟨env', u⟩ := eu
    rw [z] at q
    dsimp only at q
    refine o σ H F fp env env' u _ R z fun v H' F' fp' l R' s n => ?_
    cases u with
    | d x => exact q.elim
    | n s' ts =>
      cases s' with
      | l =>
        have q : Post X.K G kr F E (match (flatT ts).map C.lst with | some c => Out.nx (env'.set i c) | none => .err) := q
        cases z2 : flatT ts with
        | none => rw [z2] at q; exact q.elim
        | some ds =>
          rw [z2] at q
          obtain ⟨rep, own, dj⟩ := n
          cases rep with
          | @n _ a vs _ ow l0 h1 h2 h3 =>
            obtain ⟨rfl, h1⟩ := h1
            obtain ⟨g1, rfl⟩ := flatT_rep z2 h2
            exact q _ H' F' _ (R'.put (i := i) (v := .ref a) (c := .lst ds) (l := [a]) ⟨a, vs, rfl, rfl, h1, g1⟩ (fun b hb => own b (by simpa using hb)) (fun b hb j _ => dj b (by simpa using hb) j)) s
      | _ => exact q.elim
/-- e, for what it does -/
def sDropX (g : List C → Option (List C × T)) : List C → Out := fun env => match g env with | some (env', _) => .nx env' | none => .err
theorem ds_exprX (h : DX X G e g) (hs : swapsWith e none pos.line X.env = pure false := by rfl) : DS X G kr (.Expr e pos) (sDropX g) := by
  obtain ⟨t, p, o⟩ := h.ex
  refine ⟨_, ps_expr p hs, fun σ H F fp env E R q => ?_⟩
  unfold sDropX at q
  cases z : g env with
  | none => rw [z] at q; exact q.elim
  | some eu =>
    obtain ⟨env', u⟩ := eu
    rw [z] at q
    exact o σ H F fp env env' u _ R z fun v H' F' fp' l R' s n => q σ H' F' fp' R' s
/-- return e -/
def sRetX (g : List C → Option (List C × T)) : List C → Out := fun env => match g env with | some (env', u) => .rx env' u | none => .err
theorem ds_retX (h : DX X G e g) : DS X G kr (.Return (some e) pos) (sRetX g) := by
  obtain ⟨t, p, o⟩ := h.ex
  refine ⟨_, ps_ret p, fun σ H F fp env E R q => ?_⟩
  unfold sRetX at q
  cases z : g env with
  | none => rw [z] at q; exact q.elim
  | some eu =>
    obtain ⟨env', u⟩ := eu
    rw [z] at q
    exact o σ H F fp env env' u _ R z fun v H' F' fp' l R' s n => q v σ H' F' fp' l R' n
def sRetXN : List C → Out := fun env => .rx env (.d .none)
theorem ds_retXN : DS X G kr (.Return none pos) sRetXN := ⟨_, ps_retN, fun σ H F fp env E R q => q _ σ H F fp [] R ⟨.d .non, (fun _ m => nomatch m), (fun _ m => nomatch m)⟩⟩
/-- return of a thing of one's own by its name -/
def sRetO (i : Nat) : List C → Out := fun env => match env[i]? with
  | some (.own none u) => .rx (env.set i .und) u
  | some (.lst ds) => .rx (env.set i .und) (.n .l (ds.map T.d))
  | some (.val d) => .rx env (.d d)
  | _ => .err
theorem ds_retO {x : Str} (i : Nat) (h : PE X (.Name x pos') (tVar i)) : DS X G kr (.Return (some (.Name x pos')) pos) (sRetO i) := by
  refine ⟨_, ps_ret h, fun σ H F fp env E R q => ?_⟩
  unfold sRetO at q
  split at q
  · rename_i u e
    obtain ⟨v, s1, s2, _⟩ := slot_own R e
    refine ⟨v, s1, q v σ H F _ (fp i) (R.drop i) ⟨s2, fun a ha => ⟨(R.own i a ha).1, (R.own i a ha).2.1, R.h00 e rfl ha⟩, fun a ha j hj => ?_⟩⟩
    by_cases hji : j = i
    · subst hji; rw [fset_at] at hj; cases hj
    · rw [fset_ne hji] at hj; exact hji (R.dj j i a hj ha)
  · rename_i ds e
    obtain ⟨a, vs, q1, q2, q3, q4⟩ := slot_at R e
    refine ⟨.ref a, q2, q _ σ H F _ ([a] ++ []) (R.drop i) ⟨.n ⟨rfl, q3⟩ (rep_flatT q4) (by simp), fun b hb => ?_, fun b hb j hj => ?_⟩⟩
    · have hb' : b ∈ fp i := by rw [q1]; simpa using hb
      exact ⟨(R.own i b hb').1, (R.own i b hb').2.1, R.h00 e rfl hb'⟩
    · have hb' : b ∈ fp i := by rw [q1]; simpa using hb
      by_cases hji : j = i
      · subst hji; rw [fset_at] at hj; cases hj
      · rw [fset_ne hji] at hj; exact hji (R.dj j i b hj hb')
  · rename_i d e
    obtain ⟨_, v, e1, r⟩ := R.slot i _ e
    cases z : σ[i]? with
    | none => rw [z] at e1; cases e1
    | some o =>
      rw [z] at e1
      have e2 : o = some v := e1
      subst e2
      exact ⟨v, z, q v σ H F fp [] R ⟨.d r, (fun _ m => nomatch m), (fun _ m => nomatch m)⟩⟩
  · exact q.elim
/-! tests -/
def txP (ft : List C → Option Bool) : List C → Option (List C × Bool) := fun env => (ft env).map fun b => (env, b)
theorem dtx_of {ft : List C → Option Bool} (h : DTs X G e ft) : DTX X G e (txP ft) := by
  obtain ⟨t, p, o⟩ := h.ex
  refine ⟨t, p, fun σ H F fp env env' b Q R hf q => ?_⟩
  unfold txP at hf
  cases z : ft env with
  | none => rw [z] at hf; cases hf
  | some c =>
    rw [z] at hf; cases hf
    exact o σ H F fp env _ Q R z fun H' F' E => q H' F' fp (R.ext E) E.f
def txB (g : List C → Option (List C × T)) : List C → Option (List C × Bool) := fun env => match g env with | some (env', .d (.bool b)) => some (env', b) | _ => none
theorem dtx_val (h : DX X G e g) (he : ∀ whole, isTrue e X.env whole = (do let v ← whole; standAt e.pos; holding [v] (truthy v)) := by intro _; rfl) : DTX X G e (txB g) := by
  obtain ⟨t, p, o⟩ := h.ex
  refine ⟨_, pt_val p he, fun σ H F fp env env' b Q R hf q => ?_⟩
  unfold txB at hf
  split at hf
  · rename_i e' c z
    cases hf
    refine o σ H F fp env _ _ _ R z fun v H' F' fp' l R' s n => ⟨_, ?_, q H' F' fp' R' s⟩
    cases n.rep with
    | d r => cases r; rfl
  · cases hf
def txNot (gt : List C → Option (List C × Bool)) : List C → Option (List C × Bool) := fun env => match gt env with | some (env', b) => some (env', !b) | none => none
theorem dtx_not (h : DTX X G a gt) : DTX X G (.UnaryOp .Not a pos) (txNot gt) := by
  obtain ⟨t, p, o⟩ := h.ex
  refine ⟨_, pt_not p, fun σ H F fp env env' b Q R hf q => ?_⟩
  unfold txNot at hf
  split at hf
  · rename_i e' c z
    cases hf
    exact o σ H F fp env _ _ _ R z fun H' F' fp' R' s => q H' F' fp' R' s
  · cases hf
/-- a comparison, what may write at the left -/
def txCmp (g2 : D → D → Option D) (g : List C → Option (List C × T)) (f : List C → Option D) : List C → Option (List C × Bool) := fun env => match g env with
  | some (env', .d x) => (match f env' with | some y => (match g2 x y with | some (.bool b) => some (env', b) | _ => none) | none => none)
  | _ => none
theorem fz_A {K : PySem.W.Frag} {G : GC} {H F : Hp} {ka : RK} {v : V} {d : D} (sub : Same F H) (h : RK.fz.le ka = true) (r : DF K F v d) : RepA K G ka H F v d := by
  cases ka with
  | vw => exact Dp_mono sub _ _ (DF.dp _ _ r)
  | vl => exact .inl r
  | sv => exact Dp_mono stb_f _ _ (DF.dp _ _ r)
  | fz => exact r
  | ow => cases h
theorem dtx_cmp {op : CmpOp} {ka kb : RK} {g2 : D → D → Option D} (o : DOp X G (compareOp op) ka kb .fz g2) (ha : DX X G a g) (hb : DE X G k b f) (hm : behindInMarks op b = false) (hk : k.le kb = true := by rfl) (hba : kb.arg = true := by rfl) (hka : RK.fz.le ka = true := by rfl) (hkar : ka.arg = true := by rfl) : DTX X G (.Compare a [op] [b] pos) (txCmp g2 g f) := by
  obtain ⟨r, or, o2⟩ := o.ex
  obtain ⟨ta, pa, oa⟩ := ha.ex
  obtain ⟨tb, pb, ob⟩ := (hb.conv hk).ex
  refine ⟨_, pt_cmpR (opr_len or) pa pb hm, fun σ H F fp env env' b Q R hf q => ?_⟩
  unfold txCmp at hf
  split at hf
  · rename_i e' x z
    split at hf
    · rename_i y z2
      split at hf
      · rename_i c z3
        cases hf
        refine oa σ H F fp env _ _ _ R z fun v H1 F1 fp1 l R1 s1 n => ?_
        refine ob σ H1 F1 fp1 _ _ _ R1 z2 fun vy H2 F2 E2 ry hl => ?_
        have rx : DF X.K F1 v x := by
          cases n.rep with
          | d r => exact r
        refine o2 H2 F2 v vy x y _ _ E2.sub ((R1.ext E2).kpSame) hl (fz_A E2.sub hka (DF_mono E2.f _ _ rx)) (repK_A hba ry) z3 fun v3 H3 F3 E3 r3 => ⟨_, ?_, q H3 F3 fp1 ((R1.ext E2).ext E3) (s1.trans (E2.f.trans E3.f))⟩
        cases r3; rfl
      · cases hf
    · cases hf
  · cases hf
structure DWX (X : Cx) (G : GC) (e : Expr) (g : List C → Option (List C × Bool)) : Prop where
  ex : ∃ t, PW X e t ∧ ∀ (σ : L2.St) (H F : Hp) (fp : Nat → List Addr) (env env' : List C) (b : Bool) (Q : Bool → Hp → Prop), Rel X.K G env σ H F fp → g env = some (env', b) →
    (∀ H' F' fp', Rel X.K G env' σ H' F' fp' → Same F F' → Q b H') → t σ H Q
theorem DWX.t (h : DWX X G e gt) : DTX X G e gt := let ⟨t, p, o⟩ := h.ex; ⟨t, p.pt, o⟩
def txAnd (f g : List C → Option (List C × Bool)) : List C → Option (List C × Bool) := fun env => match f env with | some (env', true) => g env' | some (env', false) => some (env', false) | none => none
def txOr (f g : List C → Option (List C × Bool)) : List C → Option (List C × Bool) := fun env => match f env with | some (env', true) => some (env', true) | some (env', false) => g env' | none => none
variable {g1 g2 : List C → Option (List C × Bool)} {rest : List Expr}
theorem dwx_and1 (h : DTX X G a g1) : DWX X G (.BoolOp .And [a] pos) g1 := let ⟨t, p, o⟩ := h.ex; ⟨t, pw_and1 p, o⟩
theorem dwx_or1 (h : DTX X G a g1) : DWX X G (.BoolOp .Or [a] pos) g1 := let ⟨t, p, o⟩ := h.ex; ⟨t, pw_or1 p, o⟩
theorem dwx_and (h : DTX X G a g1) (h2 : DWX X G (.BoolOp .And (b :: rest) pos) g2) : DWX X G (.BoolOp .And (a :: b :: rest) pos) (txAnd g1 g2) := by
  obtain ⟨t, p, o⟩ := h.ex
  obtain ⟨t2, p2, o2⟩ := h2.ex
  refine ⟨_, pw_and p p2, fun σ H F fp env env' d Q R hf q => ?_⟩
  unfold txAnd at hf
  split at hf
  · rename_i e1 z
    exact o σ H F fp env _ _ _ R z fun H1 F1 fp1 R1 s1 => iteT (o2 σ H1 F1 fp1 _ _ _ _ R1 hf fun H' F' fp' R' s => q H' F' fp' R' (s1.trans s))
  · rename_i e1 z
    cases hf
    exact o σ H F fp env _ _ _ R z fun H1 F1 fp1 R1 s1 => iteF (q H1 F1 fp1 R1 s1)
  · cases hf
theorem dwx_or (h : DTX X G a g1) (h2 : DWX X G (.BoolOp .Or (b :: rest) pos) g2) : DWX X G (.BoolOp .Or (a :: b :: rest) pos) (txOr g1 g2) := by
  obtain ⟨t, p, o⟩ := h.ex
  obtain ⟨t2, p2, o2⟩ := h2.ex
  refine ⟨_, pw_or p p2, fun σ H F fp env env' d Q R hf q => ?_⟩
  unfold txOr at hf
  split at hf
  · rename_i e1 z
    cases hf
    exact o σ H F fp env _ _ _ R z fun H1 F1 fp1 R1 s1 => iteT (q H1 F1 fp1 R1 s1)
  · rename_i e1 z
    exact o σ H F fp env _ _ _ R z fun H1 F1 fp1 R1 s1 => iteF (o2 σ H1 F1 fp1 _ _ _ _ R1 hf fun H' F' fp' R' s => q H' F' fp' R' (s1.trans s))
  · cases hf
def sIfX (gt : List C → Option (List C × Bool)) (f g : List C → Out) : List C → Out := fun env => match gt env with | some (env', true) => f env' | some (env', false) => g env' | none => .err
theorem ds_ifX {f g : List C → Out} (hc : DTX X G e gt) (ha : DSs X G kr sts f) (hb : DSs X G kr sts2 g) : DS X G kr (.If e sts sts2 pos) (sIfX gt f g) := by
  obtain ⟨tc, pc, oc⟩ := hc.ex
  obtain ⟨ta, pa, oa⟩ := ha.ex
  obtain ⟨tb, pb, ob⟩ := hb.ex
  refine ⟨_, ps_if pc pa pb, fun σ H F fp env E R q => ?_⟩
  unfold sIfX at q
  split at q
  · rename_i e' z
    exact oc σ H F fp env _ _ _ R z fun H' F' fp' R' s => iteT (oa σ H' F' fp' _ E R' (Post.mono s q))
  · rename_i e' z
    exact oc σ H F fp env _ _ _ R z fun H' F' fp' R' s => iteF (ob σ H' F' fp' _ E R' (Post.mono s q))
  · exact q.elim
end
end DL
set_option Elab.async false
set_option linter.all false
set_option maxRecDepth 100000
set_option maxHeartbeats 4000000
/-! DPd: stores at places -/
namespace DL
open PySem PySem.Spec L2
section
variable {K : PySem.W.Frag} {ow : Option World} {G : GC} {env : List C} {σ : L2.St} {H F H1 F1 : Hp} {fp : Nat → List Addr} {ip : IP} {v : V} {lu : List Addr} {s : Shp} {ts : List T}
theorem NR.root {H F : Hp} {a : Addr} {vs : List V} {own : List Addr} (h : NR K ow H F s a vs own) : a ∈ own ∧ own.Nodup → a ∈ own := fun h => h.1
theorem NR.mem {H F : Hp} {a : Addr} {vs : List V} {own : List Addr} (h : NR K ow H F s a vs own) (hs : s ≠ .t) : a ∈ own := by
  cases s with
  | l => obtain ⟨rfl, _⟩ := h; simp
  | t => exact absurd rfl hs
  | k ks => obtain ⟨rfl, _⟩ := h; simp
  | q ks => obtain ⟨rfl, _⟩ := h; simp
  | o c fs => obtain ⟨_, _, _, rfl, _⟩ := h; simp
/-- the node at a place is written at its root -/
theorem Rel.store (R : Rel K G env σ H F fp) (P : Place K G env σ H F fp ip (.n s ts) v lu) (hs : s ≠ .t := by intro h; cases h) : ∃ a vs own l0, v = .ref a ∧ NR K G.w H F s a vs own ∧ ORs K G.w H F vs ts l0 ∧ (own ++ l0).Nodup ∧ (∀ b, b ∈ own ++ l0 → b ∈ fp ip.1) ∧
    ∀ (o' : HO) (s' : Shp) (vs' : List V) (ts' : List T) (l0' : List Addr), NR K G.w (upd H a o') F s' a vs' own → ORs K G.w H F vs' ts' l0' → (own ++ l0').Nodup → (∀ b, b ∈ l0' → b ∈ l0 ∨ ((∀ j, b ∉ fp j) ∧ G.H0 b = none ∧ F b = none ∧ H b ≠ none)) →
      ∃ fp', Rel K G (putAt env ip (.n s' ts')) σ (upd H a o') F fp' := by
  have hrep := P.rep
  have hmem := fun b => @Place.mem _ _ _ _ _ _ _ _ _ _ _ P b
  cases hrep with
  | @n _ a vs _ own l0 h1 h2 h3 =>
    refine ⟨a, vs, own, l0, rfl, h1, h2, h3, fun b hb => hmem b hb, fun o' s' vs' ts' l0' n1 n2 n3 n4 => ?_⟩
    have ao := h1.mem hs
    have na : a ∉ l0' := fun h => by
      rw [List.nodup_append] at n3
      exact n3.2.2 a ao a h rfl
    have fa : F a = none := (R.own ip.1 a (hmem a (by simp [ao]))).1
    obtain ⟨fp', R', _⟩ := R.write2 P (F' := F) (H' := upd H a o') (u' := .n s' ts') (lu' := own ++ l0') (Same.refl _) (fun b x e => by rw [upd_ne (fun z => by rw [z, fa] at e; cases e)]; exact R.sub b x e) (fun _ _ e => .inl e)
      (fun b o hb e => by rw [upd_ne (fun z => hb (by rw [z]; simp [ao]))]; exact e) (fun b hb => by
        by_cases z : b = a
        · rw [z, upd_same]; intro y; cases y
        · rw [upd_ne z]; exact (R.own ip.1 b (hmem b hb)).2.1)
      (.n n1 (ORs_mono (Same.refl _) _ _ _ (fun b o hb e => by rw [upd_ne (fun z => na (by rw [← z]; exact hb))]; exact e) n2) n3) (fun b hb => by
        have al : H b ≠ none → upd H a o' b ≠ none := fun h => by
          by_cases z : b = a
          · rw [z, upd_same]; intro y; cases y
          · rw [upd_ne z]; exact h
        have old : b ∈ own ++ l0 → (b ∈ own ++ l0 ∨ ((∀ j, b ∉ fp j) ∧ G.H0 b = none)) ∧ F b = none ∧ upd H a o' b ≠ none := fun z => by
          obtain ⟨g1, g2, _⟩ := R.own ip.1 b (hmem b z)
          exact ⟨.inl z, g1, al g2⟩
        rcases List.mem_append.mp hb with z | z
        · exact old (by simp [z])
        · rcases n4 b z with y | ⟨y1, y2, y3, y4⟩
          · exact old (by simp [y])
          · exact ⟨.inr ⟨y1, y2⟩, y3, al y4⟩)
    exact ⟨fp', R'⟩
theorem New.ext {v : V} {t : T} {l : List Addr} (n : New K G H F fp v t l) (E : Ext H F H1 F1) : New K G H1 F1 fp v t l where
  rep := OR_mono E.f _ _ _ (fun b o _ => E.h b o) n.rep
  own := fun b hb => by
    obtain ⟨h1, h2, h3⟩ := n.own b hb
    refine ⟨?_, ?_, h3⟩
    · cases q : F1 b with
      | none => rfl
      | some o =>
        rcases E.new b o q with z | z
        · rw [h1] at z; cases z
        · exact absurd z h2
    · cases q : H b with
      | none => exact absurd q h2
      | some o => rw [E.h _ _ q]; intro z; cases z
  dj := n.dj
theorem ORs_snoc {v : V} {u : T} {ln : List Addr} : ∀ {ts : List T} {vs : List V} {l : List Addr}, ORs K ow H F vs ts l → OR K ow H F v u ln → ORs K ow H F (vs ++ [v]) (ts ++ [u]) (l ++ ln)
  | [], _, _, h, r => by cases h; have := ORs.cons r (.nil (K := K) (ow := ow) (H := H) (F := F)); simpa using this
  | t :: ts, _, _, h, r => by
    cases h with
    | cons h1 h2 => have := ORs.cons h1 (ORs_snoc h2 r); simpa using this
theorem set_child {vs : List V} {own l0 ln : List Addr} {j : Nat} {t u : T} {v' : V} (os : ORs K ow H F vs ts l0) (e : ts[j]? = some t) (nd : (own ++ l0).Nodup) (r : OR K ow H F v' u ln) (ap : ∀ b, b ∈ ln → b ∉ own ++ l0) :
    ∃ l0', ORs K ow H F (vs.set j v') (ts.set j u) l0' ∧ (own ++ l0').Nodup ∧ ∀ b, b ∈ l0' → b ∈ l0 ∨ b ∈ ln := by
  obtain ⟨w, lt, l1, l2, rfl, g1, g2, g3⟩ := ORs_at os e
  refine ⟨_, g3 H F v' u ln (Same.refl _) (fun _ _ _ h => h) r, ?_, fun b hb => by simp at hb ⊢; grind⟩
  have := r.nodup
  simp only [List.nodup_append, List.mem_append] at nd ap ⊢
  grind
theorem snoc_nodup {own l0 ln : List Addr} (nd : (own ++ l0).Nodup) (n2 : ln.Nodup) (ap : ∀ b, b ∈ ln → b ∉ own ++ l0) : (own ++ (l0 ++ ln)).Nodup := by
  simp only [List.nodup_append, List.mem_append] at nd ap ⊢
  grind
end
/-- what the record of attributes becomes -/
def putO (f : Str) (u : T) (c : Str) (fs : List Str) (ts : List T) : T := match fIx f fs with
  | some j => .n (.o c fs) (ts.set j u)
  | none => .n (.o c (fs ++ [f])) (ts ++ [u])
theorem putF_some {f : Str} {y : V} : ∀ {fs : List Str} {vs : List V} {j : Nat}, fs.length = vs.length → fIx f fs = some j → putF f y (fs.zip vs) = fs.zip (vs.set j y)
  | [], _, _, _, h => by cases h
  | g :: r, [], _, hl, _ => by cases hl
  | g :: r, v :: vs, j, hl, h => by
    unfold fIx at h
    rw [List.zip_cons_cons]
    unfold putF
    by_cases hg : g = f
    · rw [if_pos hg] at h ⊢; cases h
      rfl
    · rw [if_neg hg] at h ⊢
      cases z : fIx f r with
      | none => rw [z] at h; cases h
      | some k =>
        rw [z] at h; cases h
        rw [putF_some (by simpa using hl) z]
        rfl
theorem putF_none {f : Str} {y : V} : ∀ {fs : List Str} {vs : List V}, fs.length = vs.length → fIx f fs = none → putF f y (fs.zip vs) = (fs ++ [f]).zip (vs ++ [y])
  | [], [], _, _ => rfl
  | [], _ :: _, hl, _ => by cases hl
  | g :: r, [], hl, _ => by cases hl
  | g :: r, v :: vs, hl, h => by
    unfold fIx at h
    rw [List.zip_cons_cons]
    unfold putF
    by_cases hg : g = f
    · rw [if_pos hg] at h; cases h
    · rw [if_neg hg] at h ⊢
      cases z : fIx f r with
      | some k => rw [z] at h; cases h
      | none =>
        rw [putF_none (by simpa using hl) z]
        rfl
theorem fIx_lt {f : Str} : ∀ {fs : List Str} {j : Nat}, fIx f fs = some j → j < fs.length
  | [], _, h => by cases h
  | g :: r, j, h => by
    unfold fIx at h
    by_cases hg : g = f
    · rw [if_pos hg] at h; cases h; simp
    · rw [if_neg hg] at h
      cases z : fIx f r with
      | none => rw [z] at h; cases h
      | some k => rw [z] at h; cases h; have := fIx_lt z; simpa using this
section
variable {X : Cx} {G : GC} {kr k k2 : RK} {e ei o : Expr} {f fi fe : List C → Option D} {g : List C → Option (List C × T)} {gp : List C → Option IP} {pos p1 p2 p3 pos' : Pos}
theorem attr_store {K : PySem.W.Frag} {env : List C} {σ : L2.St} {H F : Hp} {fp : Nat → List Addr} {ip : IP} {c : Str} {fs : List Str} {ts : List T} {v y : V} {lu ln : List Addr} {u : T} {fn : Str} (R : Rel K G env σ H F fp) (P : Place K G env σ H F fp ip (.n (.o c fs) ts) v lu) (n : New K G H F fp y u ln) :
    ∃ a C dx vs, v = .ref a ∧ fs.length = vs.length ∧ PySem.W.nsIn K mainGlobals c = some (some (.ref C)) ∧ H a = some (.ins C dx (fs.zip vs)) ∧ ∃ fp', Rel K G (putAt env ip (putO fn u c fs ts)) σ (upd H a (.ins C dx (putF fn y (fs.zip vs)))) F fp' := by
  obtain ⟨a, vs, own, l0, rfl, nr, os, nd, mem, st⟩ := R.store P
  obtain ⟨hl, C, dx, rfl, n1, n2, n3⟩ := nr
  have hda : dx ≠ a := fun z => by rw [z] at nd; simp at nd
  have ap : ∀ b, b ∈ ln → b ∉ [a, dx] ++ l0 := fun b hb hm => n.dj b hb ip.1 (mem b hm)
  have nw : ∀ b, b ∈ ln → ((∀ j, b ∉ fp j) ∧ G.H0 b = none ∧ F b = none ∧ H b ≠ none) := fun b hb => ⟨fun j => n.dj b hb j, (n.own b hb).2.2, (n.own b hb).1, (n.own b hb).2.1⟩
  refine ⟨a, C, dx, vs, rfl, hl, n1, n2, ?_⟩
  unfold putO
  cases z : fIx fn fs with
  | some j =>
    have hj : j < ts.length := by rw [← ORs_len os, ← hl]; exact fIx_lt z
    obtain ⟨l0', o1, o2, o3⟩ := set_child os (List.getElem?_eq_getElem hj) nd n.rep ap
    rw [putF_some hl z]
    exact st _ (.o c fs) (vs.set j y) _ l0' ⟨by rw [List.length_set]; exact hl, C, dx, rfl, n1, upd_same, by rw [upd_ne hda]; exact n3⟩ o1 o2 fun b hb => (o3 b hb).imp_right (nw b)
  | none =>
    rw [putF_none hl z]
    exact st _ (.o c (fs ++ [fn])) (vs ++ [y]) _ (l0 ++ ln) ⟨by simp [hl], C, dx, rfl, n1, upd_same, by rw [upd_ne hda]; exact n3⟩ (ORs_snoc os n.rep) (snoc_nodup nd n.rep.nodup ap) fun b hb => (List.mem_append.mp hb).imp_right (nw b)
/-- P.f = e -/
def sFldP (c fn : Str) (gp : List C → Option IP) (g : List C → Option (List C × T)) : List C → Out := fun env => match g env with
  | some (env1, u) => (match gp env1 with
    | some ip => (match nodeAt env1 ip with
      | some (.n (.o c' fs) ts) => if c' = c ∧ fs.length < 1000 then .nx (putAt env1 ip (putO fn u c fs ts)) else .err
      | _ => .err)
    | none => .err)
  | none => .err
theorem ds_fldP {fn : Str} (c : Str) (ho : DPl X G o gp) (h : DX X G e g) (hc : ClOk X.K c) (hf : NoAt X.K c fn) (hs : swapsWith e (some (.Attribute o fn pos')) pos.line X.env = pure false := by rfl) : DS X G kr (.Assign [.Attribute o fn pos'] e pos) (sFldP c fn gp g) := by
  obtain ⟨tv, pv, ov⟩ := h.ex
  obtain ⟨ta, pa, oa⟩ := ho.ex
  refine ⟨_, ps_fld pa pv hs, fun σ H F fp env E R q => ?_⟩
  unfold sFldP at q
  split at q
  · rename_i env1 u z
    split at q
    · rename_i ip z1
      split at q
      · rename_i c' fs ts z2
        split at q
        · rename_i hcc
          obtain ⟨rfl, hl⟩ := hcc
          refine ov σ H F fp env env1 u _ R z fun y H1 F1 fp1 ln R1 s1 n1 => ?_
          refine oa σ H1 F1 fp1 env1 ip _ _ R1 z1 z2 fun v lu H2 F2 E2 P => ?_
          obtain ⟨a, C, dx, vs, rfl, hlv, nC, ha, fp', R'⟩ := attr_store (fn := fn) (R1.ext E2) P (n1.ext E2)
          obtain ⟨C', hC, cls⟩ := hc.ex
          rw [nC] at hC; cases hC
          refine ⟨a, C, dx, _, rfl, ha, cls, hf C nC, ?_, q σ _ F2 fp' R' (s1.trans E2.f)⟩
          rw [List.length_zip]; omega
        · exact q.elim
      · exact q.elim
    · exact q.elim
  · exact q.elim
/-- P.f op= e -/
def sFldAugP (c fn : Str) (g2 : D → D → Option D) (gp : List C → Option IP) (fe : List C → Option D) : List C → Out := fun env => match gp env with
  | some ip => (match nodeAt env ip with
    | some (.n (.o c' fs) ts) => (match fIx fn fs with
      | some j => (match ts[j]? with
        | some (.d x) => (match fe env with
          | some y => (match g2 x y with | some z => if c' = c ∧ fs.length < 1000 then .nx (putAt env ip (putO fn (.d z) c fs ts)) else .err | none => .err)
          | none => .err)
        | _ => .err)
      | none => .err)
    | _ => .err)
  | none => .err
theorem ds_fldAugP {fn : Str} {op : Operator} {g2 : D → D → Option D} {kb : RK} (c : Str) (ho : DPl X G o gp) (og : DOp X G (inplaceOp op) .vl kb .fz g2) (h : DE X G k e fe) (hc : ClOk X.K c) (hf : NoAt X.K c fn) (hk : k.le kb = true := by rfl) (hb : kb.arg = true := by rfl) : DS X G kr (.AugAssign (.Attribute o fn pos') op e pos) (sFldAugP c fn g2 gp fe) := by
  obtain ⟨tv, pv, ov⟩ := (h.conv hk).ex
  obtain ⟨ta, pa, oa⟩ := ho.ex
  obtain ⟨r, or, o2⟩ := og.ex
  refine ⟨_, ps_fldaug (rd := fun x y H Q => LenOk X.K H → r x y H Q) pa pv (opr_len or), fun σ H F fp env E R q => ?_⟩
  unfold sFldAugP at q
  split at q
  · rename_i ip z1
    split at q
    · rename_i c' fs ts z2
      split at q
      · rename_i j zj
        split at q
        · rename_i x0 zx
          split at q
          · rename_i dy zy
            split at q
            · rename_i dz zz
              split at q
              · rename_i hcc
                obtain ⟨rfl, hl⟩ := hcc
                refine oa σ H F fp env ip _ _ R z1 z2 fun v lu H1 F1 E1 P => ?_
                obtain ⟨C', hC, cls⟩ := hc.ex
                have R1 := R.ext E1
                obtain ⟨a, vs, own, w, lt, rfl, nr, os, hw, P'⟩ := P.child zx
                obtain ⟨hlv, C, dx, rfl, n1, n2, n3⟩ := nr
                rw [n1] at hC; cases hC
                have rx : DF X.K F1 w x0 := by
                  cases P'.rep with
                  | d r => exact r
                refine ⟨a, C', dx, _, w, rfl, n2, cls, hf C' n1, fIx_zip zj hw, ?_⟩
                refine ov σ H1 F1 fp env dy _ R1 zy fun vy H2 F2 E2 ry hln => ?_
                have R2 := R1.ext E2
                refine o2 H2 F2 w vy x0 dy dz _ E2.sub R2.kpSame hln (.inl (DF_mono E2.f _ _ rx)) (repK_A hb ry) zz fun vz H3 F3 E3 rz => ?_
                have nz : New X.K G H3 F3 fp vz (.d dz) [] := ⟨.d rz, (fun _ m => nomatch m), (fun _ m => nomatch m)⟩
                obtain ⟨a', C2, dx2, vs2, ea, hlv2, nC, ha, fp', R'⟩ := attr_store (fn := fn) (R2.ext E3) ((P.ext E2).ext E3) nz
                cases ea
                have nC2 := n1
                rw [nC] at n1; cases n1
                refine ⟨dx2, _, ha, ?_, q σ _ F3 fp' R' ((E1.f.trans E2.f).trans E3.f)⟩
                rw [List.length_zip]; omega
              · exact q.elim
            · exact q.elim
          · exact q.elim
        · exact q.elim
      · exact q.elim
    · exact q.elim
  · exact q.elim
theorem or_l {K : PySem.W.Frag} {ow : Option World} {H F : Hp} {v : V} {ts : List T} {l : List Addr} (h : OR K ow H F v (.n .l ts) l) : ∃ a vs, v = .ref a ∧ H a = some (.lst vs) := by
  cases h with
  | n r1 r2 r3 => exact ⟨_, _, rfl, r1.2⟩
theorem item_store {K : PySem.W.Frag} {env : List C} {σ : L2.St} {H F : Hp} {fp : Nat → List Addr} {ip : IP} {ts : List T} {v y : V} {lu ln : List Addr} {u : T} (R : Rel K G env σ H F fp) (P : Place K G env σ H F fp ip (.n .l ts) v lu) (n : New K G H F fp y u ln) :
    ∃ a vs, v = .ref a ∧ vs.length = ts.length ∧ H a = some (.lst vs) ∧ (∀ m, m < ts.length → ∃ fp', Rel K G (putAt env ip (.n .l (ts.set m u))) σ (upd H a (.lst (vs.set m y))) F fp') ∧ ∃ fp', Rel K G (putAt env ip (.n .l (ts ++ [u]))) σ (upd H a (.lst (vs ++ [y]))) F fp' := by
  obtain ⟨a, vs, own, l0, rfl, nr, os, nd, mem, st⟩ := R.store P
  obtain ⟨rfl, hH⟩ := nr
  have ap : ∀ b, b ∈ ln → b ∉ [a] ++ l0 := fun b hb hm => n.dj b hb ip.1 (mem b hm)
  have nw : ∀ b, b ∈ ln → ((∀ j, b ∉ fp j) ∧ G.H0 b = none ∧ F b = none ∧ H b ≠ none) := fun b hb => ⟨fun j => n.dj b hb j, (n.own b hb).2.2, (n.own b hb).1, (n.own b hb).2.1⟩
  refine ⟨a, vs, rfl, ORs_len os, hH, fun m hm => ?_, ?_⟩
  · obtain ⟨l0', o1, o2, o3⟩ := set_child os (List.getElem?_eq_getElem hm) nd n.rep ap
    exact st _ .l _ _ l0' ⟨rfl, upd_same⟩ o1 o2 fun b hb => (o3 b hb).imp_right (nw b)
  · exact st _ .l _ _ (l0 ++ ln) ⟨rfl, upd_same⟩ (ORs_snoc os n.rep) (snoc_nodup nd n.rep.nodup ap) fun b hb => (List.mem_append.mp hb).imp_right (nw b)
/-- P[i] = e -/
def sIxP (gp : List C → Option IP) (fi : List C → Option D) (g : List C → Option (List C × T)) : List C → Out := fun env => match g env with
  | some (env1, u) => (match gp env1 with
    | some ip => (match nodeAt env1 ip with
      | some (.n .l ts) => (match fi env1 with
        | some (.int j) => (match ixN ts.length j with | some m => .nx (putAt env1 ip (.n .l (ts.set m u))) | none => .err)
        | _ => .err)
      | _ => .err)
    | none => .err)
  | none => .err
theorem ixN_lt {n : Nat} {i : Int} {m : Nat} (h : ixN n i = some m) : m < n := by
  unfold ixN at h
  grind
theorem ds_ixP (ho : DPl X G o gp) (hi : DE X G k2 ei fi) (h : DX X G e g) (hk2 : k2.le .vl = true := by rfl)
    (ha : ∀ v, assign (.Subscript o ei p2) X.env v = (do
      let ov ← holding [v] (eval o X.env)
      let iv ← holding [v, ov] (eval ei X.env)
      standAt p2
      holding [v, ov, iv] (setItem ov iv v)
      release [v, ov, iv] []) := by intro _; rfl)
    (hs : swapsWithSole [.Subscript o ei p2] e pos.line X.env = pure false := by rfl) (hw : swappedStores [.Subscript o ei p2] e X.env = pure none := by rfl)
    (h1 : (assignEach [.Subscript o ei p2] X.env).map (·.2) = [assign (.Subscript o ei p2) X.env] := by rfl) : DS X G kr (.Assign [.Subscript o ei p2] e pos) (sIxP gp fi g) := by
  obtain ⟨tv, pv, ov⟩ := h.ex
  obtain ⟨ta, pa, oa⟩ := ho.ex
  obtain ⟨ti, pi, oi⟩ := (hi.conv hk2).ex
  refine ⟨_, ps_asg pv (pg_sub pa pi set_list ha) hs hw h1, fun σ H F fp env E R q => ?_⟩
  unfold sIxP at q
  split at q
  · rename_i env1 u z
    split at q
    · rename_i ip z1
      split at q
      · rename_i ts z2
        split at q
        · rename_i j zj
          split at q
          · rename_i m zm
            refine ov σ H F fp env env1 u _ R z fun y H1 F1 fp1 ln R1 s1 n1 => ?_
            refine oa σ H1 F1 fp1 env1 ip _ _ R1 z1 z2 fun v lu H2 F2 E2 P => ?_
            have R2 := R1.ext E2
            refine oi σ H2 F2 fp1 env1 _ _ R2 zj fun vi H3 F3 E3 ri => ?_
            have ei := vl_int (G := G) (H := H3) (F := F3) ri
            subst ei
            obtain ⟨a, vs, rfl, hl, hH, st, _⟩ := item_store (R2.ext E3) (P.ext E3) ((n1.ext E2).ext E3)
            obtain ⟨fp', R'⟩ := st m (ixN_lt zm)
            exact ⟨a, vs, j, m, rfl, rfl, hH, by rw [hl]; exact zm, q σ _ F3 fp' R' ((s1.trans E2.f).trans E3.f)⟩
          · exact q.elim
        · exact q.elim
      · exact q.elim
    · exact q.elim
  · exact q.elim
/-- P[i] op= e, the item frozen -/
def sAugP (g2 : D → D → Option D) (gp : List C → Option IP) (fi fe : List C → Option D) : List C → Out := fun env => match gp env with
  | some ip => (match nodeAt env ip with
    | some (.n .l ts) => (match fi env with
      | some (.int j) => (match ixN ts.length j with
        | some m => (match ts[m]? with
          | some (.d x) => (match fe env with
            | some y => (match g2 x y with | some z => .nx (putAt env ip (.n .l (ts.set m (.d z)))) | none => .err)
            | none => .err)
          | _ => .err)
        | none => .err)
      | _ => .err)
    | _ => .err)
  | none => .err
theorem ds_augP {op : Operator} {g2 : D → D → Option D} {kb : RK} (ho : DPl X G o gp) (hi : DE X G k2 ei fi) (og : DOp X G (inplaceOp op) .vl kb .fz g2) (h : DE X G k e fe) (hk : k.le kb = true := by rfl) (hb : kb.arg = true := by rfl) (hk2 : k2.le .vl = true := by rfl)
    (ha : ∀ ov iv new, augStore ei ov iv new = (do holding [new, ov, iv] (setItem ov iv new); release [new, ov, iv] []; pure .next) := by intros; rfl) : DS X G kr (.AugAssign (.Subscript o ei p2) op e pos) (sAugP g2 gp fi fe) := by
  obtain ⟨tv, pv, ov⟩ := (h.conv hk).ex
  obtain ⟨ta, pa, oa⟩ := ho.ex
  obtain ⟨ti, pi, oi⟩ := (hi.conv hk2).ex
  obtain ⟨r, or, o2⟩ := og.ex
  refine ⟨_, ps_augS (tip := fun x y H Q => LenOk X.K H → r x y H Q) pa pi get_list pv (opr_len or) set_list ha, fun σ H F fp env E R q => ?_⟩
  unfold sAugP at q
  split at q
  · rename_i ip z1
    split at q
    · rename_i ts z2
      split at q
      · rename_i j zj
        split at q
        · rename_i m zm
          split at q
          · rename_i dx zx
            split at q
            · rename_i dy zy
              split at q
              · rename_i dz zz
                refine oa σ H F fp env ip _ _ R z1 z2 fun v lu H1 F1 E1 P => ?_
                have R1 := R.ext E1
                refine oi σ H1 F1 fp env _ _ R1 zj fun vi H2 F2 E2 ri => ?_
                have ei := vl_int (G := G) (H := H2) (F := F2) ri
                subst ei
                have R2 := R1.ext E2
                have P2 := P.ext E2
                obtain ⟨a, vs, own, w, lt, rfl, nr, os, hw, P'⟩ := P2.child zx
                obtain ⟨rfl, n2⟩ := nr
                have hl := ORs_len os
                have rx : DF X.K F2 w dx := by
                  cases P'.rep with
                  | d r => exact r
                refine ⟨a, vs, j, w, rfl, rfl, .inl (.inl n2), by unfold atI; rw [hl, zm]; exact hw, ?_⟩
                refine ov σ H2 F2 fp env dy _ R2 zy fun vy H3 F3 E3 ry hln => ?_
                have R3 := R2.ext E3
                refine o2 H3 F3 w vy _ dy dz _ E3.sub R3.kpSame hln (.inl (DF_mono E3.f _ _ rx)) (repK_A hb ry) zz fun vz H4 F4 E4 rz => ?_
                have nz : New X.K G H4 F4 fp vz (.d dz) [] := ⟨.d rz, (fun _ m => nomatch m), (fun _ m => nomatch m)⟩
                obtain ⟨a', vs', ea, hl', hH, st, _⟩ := item_store (R3.ext E4) ((P2.ext E3).ext E4) nz
                cases ea
                obtain ⟨fp', R'⟩ := st m (ixN_lt zm)
                exact ⟨a, vs', j, m, rfl, rfl, hH, by rw [hl']; exact zm, q σ _ F4 fp' R' (((E1.f.trans E2.f).trans E3.f).trans E4.f)⟩
              · exact q.elim
            · exact q.elim
          · exact q.elim
        · exact q.elim
      · exact q.elim
    · exact q.elim
  · exact q.elim
/-- P.append(e), e without writes -/
def xAppP (gp : List C → Option IP) (fn : List C → Option T) : List C → Option (List C × T) := fun env => match gp env with
  | some ip => (match nodeAt env ip with
    | some (.n .l ts) => (match fn env with | some u => if ts.length < 16000000 then some (putAt env ip (.n .l (ts ++ [u])), .d .none) else none | none => none)
    | _ => none)
  | none => none
theorem dx_appP {fn : List C → Option T} (ho : DPl X G o gp) (h : DN X G e fn) (hs : starEach [e] X.env = [(false, eval e X.env)] := by rfl)
    (hbm : ∀ (r : V → List V → Hp → VK → Prop) (to : TE) (t : TA), MtM X "list.append" r → PE X o to → PA X [e] t → PE X (.Call (.Attribute o "append" p2) [e] [] p3) (tBM X.K "list" r to t) := by exact fun r to t hm ho ha => pe_bm PySem.F.plainAttrs_list PySem.F.slot_list_append PySem.F.type_list_append hm ho ha) : DX X G (.Call (.Attribute o "append" p2) [e] [] p3) (xAppP gp fn) := by
  obtain ⟨tv, pv, ov⟩ := h.ex
  obtain ⟨ta, pa, oa⟩ := ho.ex
  refine ⟨_, hbm _ _ _ mt_append pa (pa_cons pv pa_nil hs), fun σ H F fp env env' u Q R hg q => ?_⟩
  unfold xAppP at hg
  split at hg
  · rename_i ip z1
    split at hg
    · rename_i ts z2
      split at hg
      · rename_i u' zu
        split at hg <;> cases hg
        rename_i hlen
        refine oa σ H F fp env ip _ _ R z1 z2 fun v lu H1 F1 E1 P => ?_
        have R1 := R.ext E1
        have hrep := P.rep
        refine ⟨?_, ?_⟩
        · cases hrep with
          | n r1 r2 r3 => exact .inl ⟨rfl, _, .inl (.inl r1.2)⟩
        refine ov σ H1 F1 fp env u' _ R1 zu fun y H2 F2 ln E2 ry fr => ?_
        have R2 := R1.ext E2
        obtain ⟨a, vs, rfl, hl, hH, _, fp', R'⟩ := item_store R2 (P.ext E2) (R1.fresh E2 ry fr)
        refine ⟨a, vs, y, rfl, rfl, hH, by rw [hl, sizeLine_eq]; omega, ?_⟩
        exact q .non _ F2 fp' [] R' (E1.f.trans E2.f) ⟨.d .non, (fun _ m => nomatch m), (fun _ m => nomatch m)⟩
      · cases hg
    · cases hg
  · cases hg
/-- xs.append(e), xs a name, e may write -/
def xAppX (i : Nat) (g : List C → Option (List C × T)) : List C → Option (List C × T) := fun env => match nodeAt env (i, []), g env with
  | some (.n .l _), some (env1, u) => (match nodeAt env1 (i, []) with
    | some (.n .l ts) => if ts.length < 16000000 then some (putAt env1 (i, []) (.n .l (ts ++ [u])), .d .none) else none
    | _ => none)
  | _, _ => none
theorem dx_appX {x : Str} (i : Nat) (hv : PE X (.Name x p1) (tVar i)) (h : DX X G e g) (hs : starEach [e] X.env = [(false, eval e X.env)] := by rfl)
    (hbm : ∀ (r : V → List V → Hp → VK → Prop) (t : TA), MtM X "list.append" r → PA X [e] t → PE X (.Call (.Attribute (.Name x p1) "append" p2) [e] [] p3) (tBM X.K "list" r (tVar i) t) := by exact fun r t hm ha => pe_bm PySem.F.plainAttrs_list PySem.F.slot_list_append PySem.F.type_list_append hm (pv _) ha) : DX X G (.Call (.Attribute (.Name x p1) "append" p2) [e] [] p3) (xAppX i g) := by
  obtain ⟨tv, pv, ov⟩ := h.ex
  refine ⟨_, hbm _ _ mt_append (pa_cons pv pa_nil hs), fun σ H F fp env env' u Q R hg q => ?_⟩
  unfold xAppX at hg
  split at hg
  · rename_i z0 zg _ env1 u' z1 z2
    obtain ⟨m0, t0, e0, hs0⟩ := nodeAt_of z1
    obtain ⟨v0, s0, P0⟩ := R.place e0
    cases hs0
    split at hg
    · rename_i ts z3
      split at hg <;> cases hg
      rename_i hlen
      have hr0 := P0.rep
      refine ⟨v0, s0, ?_, ?_⟩
      · obtain ⟨a, vs, rfl, hH⟩ := or_l hr0
        exact .inl ⟨rfl, _, .inl (.inl hH)⟩
      refine ov σ H F fp env env1 u' _ R z2 fun y H1 F1 fp1 ln R1 s1 n1 => ?_
      obtain ⟨m1, t1, e1, hs1⟩ := nodeAt_of z3
      obtain ⟨v1, s1', P1⟩ := R1.place e1
      rw [s0] at s1'
      cases s1'
      cases hs1
      obtain ⟨a, vs, rfl, hl, hH, _, fp', R'⟩ := item_store R1 P1 n1
      refine ⟨a, vs, y, rfl, rfl, hH, by rw [hl, sizeLine_eq]; omega, ?_⟩
      exact q .non _ F1 fp' [] R' s1 ⟨.d .non, (fun _ m => nomatch m), (fun _ m => nomatch m)⟩
    · cases hg
  · cases hg
/-- P.clear() -/
def xClearP (gp : List C → Option IP) : List C → Option (List C × T) := fun env => match gp env with
  | some ip => (match nodeAt env ip with
    | some (.n .l ts) => some (putAt env ip (.n .l []), .d .none)
    | some (.d (.list [])) => some (env, .d .none)
    | _ => none)
  | none => none
theorem dx_clearP (ho : DPl X G o gp) (hbm : ∀ (r : V → List V → Hp → VK → Prop) (to : TE), MtM X "list.clear" r → PE X o to → PE X (.Call (.Attribute o "clear" p2) [] [] p3) (tBM0 X.K "list" r to) := by exact fun r to hm ho => pe_bm0 PySem.F.plainAttrs_list PySem.F.slot_list_clear PySem.F.type_list_clear hm ho) : DX X G (.Call (.Attribute o "clear" p2) [] [] p3) (xClearP gp) := by
  obtain ⟨ta, pa, oa⟩ := ho.ex
  refine ⟨_, hbm _ _ mt_clear pa, fun σ H F fp env env' u Q R hg q => ?_⟩
  unfold xClearP at hg
  split at hg
  · rename_i ip z1
    split at hg
    · rename_i ts z2
      cases hg
      refine oa σ H F fp env ip _ _ R z1 z2 fun v lu H1 F1 E1 P => ?_
      have R1 := R.ext E1
      obtain ⟨a, vs, own, l0, rfl, nr, os, nd, mem, st⟩ := R1.store P
      obtain ⟨rfl, hH⟩ := nr
      obtain ⟨fp', R'⟩ := st (.lst []) .l [] [] [] ⟨rfl, upd_same⟩ .nil (by simp) (fun _ m => nomatch m)
      refine ⟨.inl ⟨rfl, _, .inl (.inl hH)⟩, a, vs, rfl, rfl, hH, ?_⟩
      exact q .non _ F1 fp' [] R' E1.f ⟨.d .non, (fun _ m => nomatch m), (fun _ m => nomatch m)⟩
    · rename_i z2
      cases hg
      refine oa σ H F fp env ip _ _ R z1 z2 fun v lu H1 F1 E1 P => ?_
      have R1 := R.ext E1
      cases P.rep with
      | d r =>
        cases r with
        | @lst a xs _ hF ra =>
          cases ra
          have hH : H1 a = some (.lst []) := E1.sub _ _ hF
          have hu : upd H1 a (.lst []) = H1 := by
            funext b
            by_cases hb : b = a
            · subst hb; rw [upd_same, hH]
            · rw [upd_ne hb]
          refine ⟨.inl ⟨rfl, _, .inl (.inl hH)⟩, a, [], rfl, rfl, hH, ?_⟩
          rw [hu]
          exact q .non _ F1 fp [] R1 E1.f ⟨.d .non, (fun _ m => nomatch m), (fun _ m => nomatch m)⟩
    · cases hg
  · cases hg
end
end DL
set_option Elab.async false
set_option linter.all false
set_option maxRecDepth 100000
set_option maxHeartbeats 4000000
/-! DPe: dicts of one's own whose keys are tuples -/
namespace DL
open PySem PySem.Spec L2
/-- where a key stands -/
def kIx : List D → D → Option Nat
  | [], _ => none
  | x :: r, y => if keyN x = keyN y then some 0 else (kIx r y).map (· + 1)
section
variable {K : PySem.W.Frag} {F H : Hp}
theorem keysQ_at {d : D} {k : NestedKey} (hk : keyN d = some k) : ∀ {xs : List (NestedKey × Addr × Value)} {ds : List D} {vs : List V} {j : Nat}, KeysQ K F xs ds vs → kIx ds d = some j → ∃ q v, atKey xs k = some q ∧ vs[j]? = some v ∧ RelV v q.2
  | _, _, _, _, .nil, h => nomatch h
  | _, x :: r, _, j, @KeysQ.cons _ _ k0 p u v _ xs _ vs a b c rv t, h => by
    unfold kIx at h
    by_cases e : keyN x = keyN d
    · rw [if_pos e] at h; cases h
      rw [a, hk] at e; cases e
      exact ⟨(p, u), v, by simp [atKey], rfl, rv⟩
    · rw [if_neg e] at h
      cases z : kIx r d with
      | none => rw [z] at h; cases h
      | some m =>
        rw [z] at h; cases h
        obtain ⟨q, v', h1, h2, h3⟩ := keysQ_at hk t z
        refine ⟨q, v', ?_, by simpa using h2, h3⟩
        have : ¬ k0 = k := fun y => e (by rw [a, hk, y])
        simpa [atKey, List.find?_cons, this] using h1
theorem keysQ_none {d : D} {k : NestedKey} (hk : keyN d = some k) : ∀ {xs : List (NestedKey × Addr × Value)} {ds : List D} {vs : List V}, KeysQ K F xs ds vs → kIx ds d = none → atKey xs k = none
  | _, _, _, .nil, h => rfl
  | _, _, _, @KeysQ.cons _ _ k0 p u v x xs r vs a b c rv t, h => by
    unfold kIx at h
    by_cases e : keyN x = keyN d
    · rw [if_pos e] at h; cases h
    · rw [if_neg e] at h
      cases z : kIx r d with
      | some m => rw [z] at h; cases h
      | none =>
        have h1 := keysQ_none hk t z
        have : ¬ k0 = k := fun y => e (by rw [a, hk, y])
        simpa [atKey, List.find?_cons, this] using h1
theorem keysQ_erase {d : D} {k : NestedKey} (hk : keyN d = some k) : ∀ {ds : List D} {xs : List (NestedKey × Addr × Value)} {vs : List V} {j : Nat}, (xs.map (·.1)).Nodup → KeysQ K F xs ds vs → kIx ds d = some j → KeysQ K F (withoutH xs k) (ds.eraseIdx j) (vs.eraseIdx j)
  | [], _, _, _, _, _, h => nomatch h
  | x :: r, _, _, j, nd, kq, h => by
    cases kq with
    | @cons k0 p u v _ xs _ vs a b c rv t =>
      unfold kIx at h
      rw [List.map_cons, List.nodup_cons] at nd
      by_cases e : keyN x = keyN d
      · rw [if_pos e] at h; cases h
        rw [a, hk] at e; cases e
        have : withoutH ((k, p, u) :: xs) k = xs := by
          have h2 := withoutH_of_not_mem xs k nd.1
          unfold withoutH at h2 ⊢
          simpa using h2
        rw [this]
        exact t
      · rw [if_neg e] at h
        cases z : kIx r d with
        | none => rw [z] at h; cases h
        | some m =>
          rw [z] at h; cases h
          have ne : k0 ≠ k := fun y => e (by rw [a, hk, y])
          have : withoutH ((k0, p, u) :: xs) k = (k0, p, u) :: withoutH xs k := by
            unfold withoutH; simp [ne]
          rw [this]
          exact .cons a b c rv (keysQ_erase hk nd.2 t z)
theorem keysQ_snoc {k : NestedKey} {p : Addr} {u : Value} {v : V} {d : D} (a : keyN d = some k) (b : k.depth ≤ 8) (c : DF K F (.ref p) d) (r : RelV v u) : ∀ {xs : List (NestedKey × Addr × Value)} {ds : List D} {vs : List V}, KeysQ K F xs ds vs → KeysQ K F (xs ++ [(k, p, u)]) (ds ++ [d]) (vs ++ [v])
  | _, _, _, .nil => .cons a b c r .nil
  | _, _, _, .cons a1 b1 c1 r1 t => .cons a1 b1 c1 r1 (keysQ_snoc a b c r t)
theorem keysQ_mem (sub : Same F H) : ∀ {xs : List (NestedKey × Addr × Value)} {ds : List D} {vs : List V}, KeysQ K F xs ds vs → ∀ e, e ∈ xs → e.1.depth ≤ 8 ∧ ∃ d, keyN d = some e.1 ∧ Dp K H (.ref e.2.1) d
  | _, _, _, .nil, _, h => nomatch h
  | _, _, _, .cons a b c r t, e, h => by
    rcases List.mem_cons.mp h with rfl | h
    · exact ⟨b, _, a, Dp_mono sub _ _ (DF.dp _ _ c)⟩
    · exact keysQ_mem sub t e h
theorem keysQ_len : ∀ {xs : List (NestedKey × Addr × Value)} {ds : List D} {vs : List V}, KeysQ K F xs ds vs → xs.length = ds.length ∧ vs.length = ds.length
  | _, _, _, .nil => ⟨rfl, rfl⟩
  | _, _, _, .cons a b c r t => by
    obtain ⟨h1, h2⟩ := keysQ_len t
    exact ⟨by rw [List.length_cons, List.length_cons, h1], by rw [List.length_cons, List.length_cons, h2]⟩
theorem keysQ_refs : ∀ {xs : List (NestedKey × Addr × Value)} {ds : List D} {vs : List V}, KeysQ K F xs ds vs → DFAll K F (xs.map fun e => V.ref e.2.1) ds
  | _, _, _, .nil => .nil
  | _, _, _, .cons a b c r t => .cons c (keysQ_refs t)
end
/-- a key: a tuple that stands, and what it is -/
structure IsKeyD (K : PySem.W.Frag) (H : Hp) (p : Addr) (d : D) (k : NestedKey) : Prop where
  dp : Dp K H (.ref p) d
  key : keyN d = some k
  deep : k.depth ≤ 8
def KeysOk (K : PySem.W.Frag) (H : Hp) (xs : List (NestedKey × Addr × Value)) : Prop := ∀ e, e ∈ xs → e.1.depth ≤ 8 ∧ ∃ d, keyN d = some e.1 ∧ Dp K H (.ref e.2.1) d
section
variable {X : Cx} {o e ek : Expr} {td ty : TE} {pos apos cpos : Pos} {pins : List (Addr × Obj)} {σ : L2.St} {H : Hp} {s : Shared}
theorem dn_type (I : Inv X pins σ H s) {a : Addr} {xs : List (NestedKey × Addr × Value)} (ha : H a = some (dnO X.w a xs)) : s.TypeIs (.ref a) "dict" ∧ (∃ ob, s.heap.get? a = some ob ∧ ob.dict = none) ∧ (xs.map (·.1)).Nodup := by
  obtain ⟨⟨z, hd, ob, es, ep, ho, h1, h2, h3, h4⟩, _, _⟩ := I.hok a _ ha
  exact ⟨⟨ob, ho, h1.1⟩, ⟨ob, ho, h1.2.1⟩, h4⟩
def rGetQ (X : Cx) : R2 := fun x y H Q => ∃ a p d k xs q v, x = .ref a ∧ y = .ref p ∧ IsKeyD X.K H p d k ∧ H a = some (dnO X.w a xs) ∧ KeysOk X.K H xs ∧ atKey xs k = some q ∧ RelV v q.2 ∧ Q v H
theorem pe_getQ (hu : X.A.units + 9 < cLine) (ho : PE X o td) (hi : PE X ek ty) (hs : NoSl ek) : PE X (.Subscript o ek pos) (tOp (rGetQ X) td ty) := by
  refine ⟨fun pins s σ H Q I h => ?_⟩
  refine subD_of (T := "dict") (id := "dict.__getitem__") PySem.F.slot_dict_getitem.lookup hs (thn (ho.run pins s σ H _ I h) fun u s1 ⟨x, H1, I1, rx, q1⟩ => thn (hi.run pins s1 σ H1 _ I1 q1) fun iv s2 ⟨y, H2, I2, ry, q2⟩ => ?_)
  obtain ⟨a, p, d, k, xs, q, v, rfl, rfl, kd, ha, hx, hq, rv, fin⟩ := q2
  cases rx
  cases ry
  obtain ⟨z, hd, D1⟩ := dn_of I2 ha hx
  exact ⟨(dn_type I2 ha).1, wpAny_getItem_heap (knd := nestedKind X.prog X.w) (by show X.A.units + 1 + 8 < cLine; omega) ⟨nested_is I2 d _ _ _ kd.dp rfl kd.key, kd.deep⟩ D1 hq ⟨v, H2, I2.tok _, rv, fin⟩⟩
theorem op_in_dn (hu : X.A.units + 9 < cLine) : OpR X (compareOp .In) (fun x y H Q => ∃ (p : Addr) (d : D) (k : NestedKey) (a : Addr) (xs : List (NestedKey × Addr × Value)), x = .ref p ∧ IsKeyD X.K H p d k ∧ y = .ref a ∧ H a = some (dnO X.w a xs) ∧ KeysOk X.K H xs ∧ Q (.bl (atKey xs k).isSome) H) := by
  intro pins s σ H x y v u Q I rx ry h
  obtain ⟨p, d, k, a, xs, rfl, kd, rfl, ha, hx, q⟩ := h
  cases rx
  cases ry
  obtain ⟨z, hd, D1⟩ := dn_of I ha hx
  exact wpAny_in_heap (knd := nestedKind X.prog X.w) (by show X.A.units + 1 + 8 < cLine; omega) ⟨nested_is I d _ _ _ kd.dp rfl kd.key, kd.deep⟩ hd D1 ⟨.bl _, H, I.tok _, rfl, q⟩
theorem op_nin_dn (hu : X.A.units + 9 < cLine) : OpR X (compareOp .NotIn) (fun x y H Q => ∃ (p : Addr) (d : D) (k : NestedKey) (a : Addr) (xs : List (NestedKey × Addr × Value)), x = .ref p ∧ IsKeyD X.K H p d k ∧ y = .ref a ∧ H a = some (dnO X.w a xs) ∧ KeysOk X.K H xs ∧ Q (.bl (!(atKey xs k).isSome)) H) := by
  intro pins s σ H x y v u Q I rx ry h
  obtain ⟨p, d, k, a, xs, rfl, kd, rfl, ha, hx, q⟩ := h
  cases rx
  cases ry
  obtain ⟨z, hd, D1⟩ := dn_of I ha hx
  exact PyProof.Rows.wpAny_notIn_heap (knd := nestedKind X.prog X.w) (by show X.A.units + 1 + 8 < cLine; omega) ⟨nested_is I d _ _ _ kd.dp rfl kd.key, kd.deep⟩ hd D1 ⟨.bl _, H, I.tok _, rfl, q⟩
theorem dn_new {a : Addr} {xs : List (NestedKey × Addr × Value)} {H' : Hp} {h' : Heap} (hl : xs.length ≤ sizeLine) (hd : (a == sysModules) = false) (D2 : h'.DictOfH (nestedKind X.prog X.w) a xs) : ObjOk X.prog X.w H' h' a (dnO X.w a xs) ∧ ∃ q, h'.get? a = some q := by
  obtain ⟨ob, es, ep, ho, h1, h2, h3, _, h4⟩ := D2
  exact ⟨⟨⟨hl, hd, ob, es, ep, ho, h1, h2, h3, h4⟩, ⟨ob, ho⟩, fun h1 h2 p k => dn_stay p k⟩, ob, ho⟩
/-- d[k] = v, the key new -/
theorem set_dnQ (hu : X.A.units + 9 < cLine) : PSet X (fun o i v H Q => ∃ (p : Addr) (d : D) (k : NestedKey) (a : Addr) (xs : List (NestedKey × Addr × Value)), o = .ref a ∧ i = .ref p ∧ IsKeyD X.K H p d k ∧ H a = some (dnO X.w a xs) ∧ KeysOk X.K H xs ∧ atKey xs k = none ∧ xs.length < 16000000 ∧
    ∀ u, RelV v u → Q (upd H a (dnO X.w a (xs ++ [(k, p, u)])))) := by
  intro pins s σ H o i v ov iv u Q I ro ri rv h
  obtain ⟨p, d, k, a, xs, rfl, rfl, kd, ha, hx, na, ln, q⟩ := h
  cases ro
  cases ri
  obtain ⟨z, hd, D1⟩ := dn_of I ha hx
  refine wpAny_setItem_heap (knd := nestedKind X.prog X.w) (k := k) (hsz := z) (by show X.A.units + 1 + 8 < cLine; omega) ⟨nested_is I d _ _ _ kd.dp rfl kd.key, kd.deep⟩ D1 fun h' D2 sb => ?_
  rw [storedH_new na] at D2
  obtain ⟨new, ex⟩ := dn_new (H' := upd H a (dnO X.w a (xs ++ [(k, p, u)]))) (by rw [List.length_append, List.length_singleton, sizeLine_eq]; omega) hd D2
  exact ⟨_, d_write I (by rw [ha]; exact True.intro) sb ex new, q u rv⟩
/-- a call of a method of such a dict -/
def tBMQ (X : Cx) (r : V → List V → Hp → VK → Prop) (to : TE) (t : TA) : TE := fun σ H Q => to σ H fun x H1 => (∃ a xs, x = .ref a ∧ H1 a = some (dnO X.w a xs)) ∧ t σ H1 fun vs H2 => r x vs H2 Q
theorem pe_bmQ {e : Expr} {es : List Expr} {to : TE} {t : TA} {name : Str} {id : String} {r : V → List V → Hp → VK → Prop} (pa : PlainAttrs "dict") (slot : Slot "dict" name id) (hty : typeOf (.builtin id) = pure (.type "method_descriptor")) (hm : MtR X id r) (ho : PE X o to) (ha : PA X (e :: es) t)
    (hbase : attributeBase o name X.env (eval o X.env) = eval o X.env := by rfl)
    (hfew : ((backTo cpos (starEach (e :: es) X.env)).all (fun x => !x.1) && (backToKw cpos (keywordEach [] X.env)).all (fun x => x.1.isSome) && decide ((e :: es).length + ([] : List Keyword).length + (if ([] : List Keyword).isEmpty then 0 else 1) < 30)) = true := by rfl)
    (hline : (apos.endLine == cpos.line) = true := by rfl) (hs : starEach (e :: es) X.env = (false, eval e X.env) :: starEach es X.env := by rfl) (hplain : (backTo cpos (starEach es X.env)).any (·.1) = false := by rfl) :
    PE X (.Call (.Attribute o name apos) (e :: es) [] cpos) (tBMQ X r to t) := by
  refine ⟨fun pins s σ H Q I h => ?_⟩
  refine wpAny_Call_method_late hbase hfew hline rfl (thn (ho.run pins s σ H _ I h) fun v s1 ⟨x, H1, I1, r1, ty, q1⟩ => ?_)
  obtain ⟨a, xs, rfl, hH⟩ := ty
  cases r1
  obtain ⟨h1, h2, _⟩ := dn_type I1 hH
  refine ⟨"dict", id, pa, slot, hty, h1, fun b e => by cases e; exact h2, ?_⟩
  have hA := ha.run cpos pins s1 σ H1 _ I1 q1
  rw [hs] at hA ⊢
  refine Calls.callWith_builtin (by show (false || (backTo cpos (starEach es X.env)).any (·.1)) = false; rw [hplain] <;> rfl) (Calls.evalArgs_plain ?_)
  exact thn hA fun us s2 ⟨vs, H2, I2, r2, q2⟩ => hm pins s2 σ H2 (.ref a) vs _ us Q I2 rfl r2 q2
/-- d.pop(k), the key there -/
def rPopQ (X : Cx) : V → List V → Hp → VK → Prop := fun x vs H Q => ∃ a p d k xs q v, x = .ref a ∧ vs = [.ref p] ∧ IsKeyD X.K H p d k ∧ H a = some (dnO X.w a xs) ∧ KeysOk X.K H xs ∧ atKey xs k = some q ∧ RelV v q.2 ∧ ((xs.map (·.1)).Nodup → Q v (upd H a (dnO X.w a (withoutH xs k))))
theorem without_len (xs : List (NestedKey × Addr × Value)) (k : NestedKey) : (withoutH xs k).length ≤ xs.length := by
  unfold withoutH; exact List.length_filter_le _ _
theorem mt_popQ (hu : X.A.units + 9 < cLine) : MtR X "dict.pop" (rPopQ X) := by
  intro pins s σ H x vs v us Q I rx rs h
  obtain ⟨a, p, d, k, xs, q, v0, rfl, rfl, kd, ha, hx, hq, rv, fin⟩ := h
  cases rx
  obtain ⟨u, rfl, ru⟩ := vals1 rs
  cases ru
  obtain ⟨z, hd, D1⟩ := dn_of I ha hx
  refine call_pop_heap (knd := nestedKind X.prog X.w) (k := k) (hsz := z) (.inl rfl) (PySem.F.args_dict_pop_2 _ _) (by show X.A.units + 1 + 8 < cLine; omega) ⟨nested_is I d _ _ _ kd.dp rfl kd.key, kd.deep⟩ hd D1 hq fun h' D2 sb => ?_
  obtain ⟨new, ex⟩ := dn_new (H' := upd H a (dnO X.w a (withoutH xs k))) (Nat.le_trans (without_len xs k) z) hd D2
  exact ⟨v0, _, d_write I (by rw [ha]; exact True.intro) sb ex new, rv, fin (dn_type I ha).2.2⟩
/-- d.pop(k, x) -/
def rPopQ2 (X : Cx) : V → List V → Hp → VK → Prop := fun x vs H Q => ∃ a p d k xs w, x = .ref a ∧ vs = [.ref p, w] ∧ IsKeyD X.K H p d k ∧ H a = some (dnO X.w a xs) ∧ KeysOk X.K H xs ∧
  ((∃ q v, atKey xs k = some q ∧ RelV v q.2 ∧ ((xs.map (·.1)).Nodup → Q v (upd H a (dnO X.w a (withoutH xs k))))) ∨ (atKey xs k = none ∧ Q w H))
theorem mt_popQ2 (hu : X.A.units + 9 < cLine) : MtR X "dict.pop" (rPopQ2 X) := by
  intro pins s σ H x vs v us Q I rx rs h
  obtain ⟨a, p, d, k, xs, w, rfl, rfl, kd, ha, hx, fin⟩ := h
  cases rx
  obtain ⟨u1, u2, rfl, r1, r2⟩ := vals2 rs
  cases r1
  obtain ⟨z, hd, D1⟩ := dn_of I ha hx
  rcases fin with ⟨q, v0, hq, rv, fin⟩ | ⟨hn, fin⟩
  · refine call_pop_heap (knd := nestedKind X.prog X.w) (k := k) (hsz := z) (.inr ⟨_, rfl⟩) (PySem.F.args_dict_pop_3 _ _ _) (by show X.A.units + 1 + 8 < cLine; omega) ⟨nested_is I d _ _ _ kd.dp rfl kd.key, kd.deep⟩ hd D1 hq fun h' D2 sb => ?_
    obtain ⟨new, ex⟩ := dn_new (H' := upd H a (dnO X.w a (withoutH xs k))) (Nat.le_trans (without_len xs k) z) hd D2
    exact ⟨v0, _, d_write I (by rw [ha]; exact True.intro) sb ex new, rv, fin (dn_type I ha).2.2⟩
  · exact call_pop_default_heap (knd := nestedKind X.prog X.w) (hsz := z) (by show X.A.units + 1 + 8 < cLine; omega) ⟨nested_is I d _ _ _ kd.dp rfl kd.key, kd.deep⟩ hd D1 hn fun tk => ⟨w, H, I.tok tk, r2, fin⟩
/-- d.setdefault(k, x) -/
def rSetdQ (X : Cx) : V → List V → Hp → VK → Prop := fun x vs H Q => ∃ a p d k xs w, x = .ref a ∧ vs = [.ref p, w] ∧ IsKeyD X.K H p d k ∧ H a = some (dnO X.w a xs) ∧ KeysOk X.K H xs ∧
  ((∃ q v, atKey xs k = some q ∧ RelV v q.2 ∧ Q v H) ∨ (atKey xs k = none ∧ xs.length < 16000000 ∧ ∀ u, RelV w u → Q w (upd H a (dnO X.w a (xs ++ [(k, p, u)])))))
theorem mt_setdQ (hu : X.A.units + 9 < cLine) : MtR X "dict.setdefault" (rSetdQ X) := by
  intro pins s σ H x vs v us Q I rx rs h
  obtain ⟨a, p, d, k, xs, w, rfl, rfl, kd, ha, hx, fin⟩ := h
  cases rx
  obtain ⟨u1, u2, rfl, r1, r2⟩ := vals2 rs
  cases r1
  obtain ⟨z, hd, D1⟩ := dn_of I ha hx
  refine call_setdefault_heap (knd := nestedKind X.prog X.w) (k := k) (hsz := z) (by show X.A.units + 1 + 8 < cLine; omega) ⟨nested_is I d _ _ _ kd.dp rfl kd.key, kd.deep⟩ hd D1 (fun q' hq' => ?_) fun hn h' D2 sb => ?_
  · rcases fin with ⟨q, v0, hq, rv, fin⟩ | ⟨hn, _⟩
    · rw [hq] at hq'; cases hq'
      exact ⟨v0, H, I.tok _, rv, fin⟩
    · rw [hn] at hq'; cases hq'
  · rcases fin with ⟨q, v0, hq, _⟩ | ⟨_, ln, fin⟩
    · rw [hn] at hq; cases hq
    · rw [storedH_new hn] at D2
      obtain ⟨new, ex⟩ := dn_new (H' := upd H a (dnO X.w a (xs ++ [(k, p, u2)]))) (by rw [List.length_append, List.length_singleton, sizeLine_eq]; omega) hd D2
      exact ⟨w, _, d_write I (by rw [ha]; exact True.intro) sb ex new, r2, fin u2 r2⟩
/-- sorted(d) -/
def rSortQ (X : Cx) : List V → Hp → VK → Prop := fun vs H Q => ∃ (F : Hp) (a : Addr) (xs : List (NestedKey × Addr × Value)) (ds : List D), vs = [.ref a] ∧ Same F H ∧ H a = some (dnO X.w a xs) ∧ KeysOk X.K H xs ∧ DFAll X.K F (xs.map fun e => V.ref e.2.1) ds ∧ alikeB ds = true ∧ sortableB ds = true ∧ (ds.all fun d => decide (d.depth ≤ 60)) = true ∧
  ∀ p ws, H p = none → DFAll X.K F ws (ds.mergeSort (W.dataLe false fun d => d)) → Q (.ref p) (upd H p (.lst ws))
theorem vals_refs : ∀ {as : List Addr}, Vals (as.map V.ref) (as.map Value.ref)
  | [] => .nil
  | a :: as => .cons rfl vals_refs
theorem sortable_of {ds : List D} (h2 : sortableB ds = true) : W.Sortable ds := by
  unfold sortableB at h2
  rcases Bool.or_eq_true_iff.mp h2 with z | z
  · left
    intro d hd
    have y := List.all_eq_true.mp z d hd
    cases d with
    | tuple xs =>
      cases xs with
      | nil => cases y
      | cons x r => exact ⟨x, r, rfl⟩
    | _ => cases y
  · right
    intro d hd
    have y := List.all_eq_true.mp z d hd
    cases d with
    | none => cases y
    | tuple xs => cases y
    | _ => exact ⟨(fun z => nomatch z), (fun _ z => nomatch z)⟩
theorem call_sortQ (hc : X.calm = true) (hu : X.A.units + 64 < cLine) : CallR X (.builtin "sorted") (rSortQ X) := by
  intro pins s σ H vs us Q I r h
  obtain ⟨F, a, xs, ds, rfl, sub, ha, hx, hd0, h1, hsb, h3, q⟩ := h
  obtain ⟨u, rfl, ru⟩ := vals1 r
  cases ru
  obtain ⟨z, hd, D1⟩ := dn_of I ha hx
  obtain ⟨es, ep, hr, hsz, he⟩ := D1.raw
  have hh : X.A.handled = none := I.ok.hd hc
  have hll : ds.length = xs.length := by rw [← DFAll_len hd0, List.length_map]
  refine PySem.Calls.call_function_entry PyProof.Rows.kind_sorted PyProof.Rows.plain_sorted PyProof.Rows.entry_sorted (PyProof.Rows.args_sorted1 _) ?_
  unfold Builtin.«sorted»
  refine wpAny_bind ?_
  refine wpAny_pure ?_
  refine wpAny_bind (PySem.W.kdu_collect (KdlSrc.rawDict hd) hh hr (by rw [hsz]; exact z) fun h' tk acc keeps items => ?_)
  have hal : acc.toList.length = xs.length := by rw [Array.length_toList, items.1, hsz]
  have hacc : acc.toList = (xs.map fun e => e.2.1).map Value.ref := by
    apply List.ext_getElem?
    intro j
    cases zj : xs[j]? with
    | none =>
      have hj := List.getElem?_eq_none_iff.mp zj
      rw [List.getElem?_eq_none (by omega), List.getElem?_eq_none (by simp; omega)]
    | some y =>
      have hj : j < acc.toList.length := by rw [hal]; exact (List.getElem?_eq_some_iff.mp zj).1
      have e1 := List.getElem?_eq_getElem hj
      obtain ⟨hi, e2⟩ := items.2 j _ (by rw [← Array.getElem?_toList]; exact e1)
      obtain ⟨y', g1, g2, _⟩ := he j hi
      rw [zj] at g1; cases g1
      rw [e1, e2, g2, List.getElem?_map, List.getElem?_map, zj]; rfl
  refine wpAny_bind (wpAny_newList ?_ (by rw [hal]; exact z))
  rw [hacc]
  generalize hrefs : (xs.map fun e => e.2.1) = refs at hacc
  have hrl : refs.length = xs.length := by rw [← hrefs, List.length_map]
  have hd1 : DFAll X.K F (refs.map V.ref) ds := by
    have : (xs.map fun e => V.ref e.2.1) = refs.map V.ref := by rw [← hrefs, List.map_map]; rfl
    rw [← this]; exact hd0
  have hob : (h'.push { cls := .type "list", data := .seq (refs.map Value.ref).toArray }).get? h'.objs.size = some (PyProof.Rows.seqObj "list" (refs.map Value.ref).toArray 0) := Heap.get?_push_size _ rfl
  have kc : ∀ b o, b ≠ h'.objs.size → h'.get? b = some o → (h'.push { cls := .type "list", data := .seq (refs.map Value.ref).toArray }).get? b = some o := fun b o _ e => Heap.get?_push_of_some _ e
  have kb : ∀ b o, s.heap.get? b = some o → (h'.push { cls := .type "list", data := .seq (refs.map Value.ref).toArray }).get? b = some o := fun b o e => Heap.get?_push_of_some _ (keeps b o e)
  have ne0 : ∀ b o, s.heap.get? b = some o → b ≠ h'.objs.size := fun b o e => Nat.ne_of_lt (Heap.lt_size (keeps b o e))
  have I1 : Inv X pins σ H { s with heap := h' } := I.kept (t' := s.toks) keeps
  have hn0 : H h'.objs.size = none := I1.hok.fresh (Nat.le_refl _)
  generalize hh2 : h'.push { cls := .type "list", data := .seq (refs.map Value.ref).toArray } = h2 at hob kb kc ⊢
  obtain ⟨e1, e2, e3, e4⟩ := sort_in I sub hd1 (vals_refs (as := refs))
  have hlen : (ds.zip (refs.map V.ref)).length = xs.length := by rw [List.length_zip, List.length_map, hrl, hll, Nat.min_self]
  have e2' : W.EachIs (fun u (b : D × V) => ∃ as, Reads h2 u b.1 as ∧ h'.objs.size ∉ as) (refs.map Value.ref) (ds.zip (refs.map V.ref)) := e2.mono fun u b ⟨as, ra⟩ => ⟨as, PyProof.Rows.Reads.keeps kb ra, fun hm => by
    obtain ⟨ob, hb⟩ := PyProof.On.reads_mem_get ra _ hm
    exact ne0 _ _ hb rfl⟩
  refine wpAny_bind (wpAny_holding ?_)
  refine wpAny_mono (W.list_sort_data (s := { s with heap := h2, toks := tk }) (enc := Prod.fst) (bs := ds.zip (refs.map V.ref)) (R := fun u b => RelV b.2 u)
    (Q := fun _ s' => ∃ out : List Value, out.length = (ds.zip (refs.map V.ref)).length ∧ W.EachIs (fun u (b : D × V) => RelV b.2 u) out ((ds.zip (refs.map V.ref)).mergeSort (W.dataLe false Prod.fst)) ∧ s' = { s with heap := PyProof.Rows.sortedHeap h2 h'.objs.size (refs.map Value.ref) (List.toArray out), toks := tk }) hob e1
    e2' ?_ ?_ (by rw [hlen]; exact z) ?_ fun out ho heq => ⟨out, ho, heq, rfl⟩) (fun r' s' hs' => ?_) fun _ _ e => e
  · rw [e4]
    intro d hd d' hd'
    exact List.all_eq_true.mp (List.all_eq_true.mp h1 d hd) d' hd'
  · rw [e4]
    exact sortable_of hsb
  · intro b hb
    have hm : b.1 ∈ ds := (List.of_mem_zip hb).1
    have y := of_decide_eq_true (List.all_eq_true.mp h3 b.1 hm)
    show X.A.units + 1 + 1 + b.1.depth < cLine
    omega
  · obtain ⟨out, ho, heq, rfl⟩ := hs'
    have hmem : ∀ b, b ∈ (ds.zip (refs.map V.ref)).mergeSort (W.dataLe false Prod.fst) → DF X.K F b.2 b.1 := fun b hb => e3 b (List.mem_mergeSort.mp hb)
    obtain ⟨o1, o2⟩ := sort_out heq hmem
    have em : ((ds.zip (refs.map V.ref)).mergeSort (W.dataLe false Prod.fst)).map Prod.fst = ds.mergeSort (W.dataLe false fun d => d) :=
      (W.sort_maps (r := W.dataLe false Prod.fst) (s := W.dataLe false fun d => d) Prod.fst (fun _ _ _ _ => rfl)).trans (by rw [e4])
    rw [em] at o2
    obtain ⟨eF, heF⟩ := PyProof.Rows.sortedHeap_at (vs := refs.map Value.ref) (out := List.toArray out) hob
    have I2 := I1.take (o := .lst (((ds.zip (refs.map V.ref)).mergeSort (W.dataLe false Prod.fst)).map Prod.snd)) (h' := PyProof.Rows.sortedHeap h2 h'.objs.size (refs.map Value.ref) (List.toArray out)) (t' := tk) (fun b ob hb e => (PyProof.Rows.sortedHeap_old hb (Heap.lt_size (kc b ob hb e))).trans (kc b ob hb e)) (I1.fpOk (Nat.le_refl _) hn0)
      ⟨by rw [List.length_map, List.length_mergeSort, hlen]; exact z, out, eF, o1, heF⟩
    exact wpAny_pure ⟨_, rfl, .ref h'.objs.size, _, I2, rfl, q _ _ hn0 o2⟩
end
end DL
set_option Elab.async false
set_option linter.all false
set_option maxRecDepth 100000
set_option maxHeartbeats 4000000
/-! DPf: dicts of one's own whose keys are tuples, at places -/
namespace DL
open PySem PySem.Spec L2
section
variable {X : Cx} {G : GC} {kr k k2 : RK} {e ei ek o : Expr} {es : List Expr} {f fi fk fe : List C → Option D} {fs : List C → Option (List D)} {g : List C → Option (List C × T)} {gp : List C → Option IP} {pos p1 p2 p3 pos' : Pos}
theorem df_ref {K : PySem.W.Frag} {F : Hp} {v : V} {d : D} (h : DF K F v d) (ok : okK d = true) : ∃ p k, v = .ref p ∧ keyN d = some k ∧ k.depth ≤ 8 := by
  obtain ⟨ds, k, rfl, h1, h2⟩ := okK_of ok
  cases h with
  | tup _ _ => exact ⟨_, k, rfl, h1, h2⟩
def selK (fk : List C → Option D) : List C → Shp → Nat → Option Nat := fun env s _ => match s with
  | .q ks => (match fk env with | some d => if okK d = true then kIx ks d else none | none => none)
  | _ => none
def pK (fk : List C → Option D) (g : List C → Option IP) : List C → Option IP := pChild g (selK fk)
theorem dp_key (hu : X.A.units + 9 < cLine) (hw : G.w = some X.w) (h : DPl X G e gp) (hi : DE X G k ek fk) (hs : NoSl ek := by exact fun _ _ => rfl) (hk : k.le .fz = true := by rfl) : DPl X G (.Subscript e ek pos) (pK fk gp) := by
  obtain ⟨t, pt, o⟩ := h.ex
  obtain ⟨ti, pi, oi⟩ := (hi.conv hk).ex
  refine ⟨_, pe_getQ hu pt pi hs, fun σ H F fp env ip u Q R hg hn q => ?_⟩
  obtain ⟨ip0, s, ts, j, h0, h1, h2, h3, rfl⟩ := pChild_of hg hn
  unfold selK at h2
  split at h2
  · rename_i ks
    split at h2
    · rename_i d hd
      split at h2
      · rename_i ok
        refine o σ H F fp env ip0 _ _ R h0 h1 fun v lu H1 F1 E1 P => ?_
        refine oi σ H1 F1 fp env d _ (R.ext E1) hd fun vk H2 F2 E2 rk => ?_
        have P2 := P.ext E2
        obtain ⟨a, vs, own, w, lt, rfl, nr, os, hwv, P'⟩ := P2.child h3
        obtain ⟨rfl, w0, xs, e0, hH, kq⟩ := nr
        rw [hw] at e0; cases e0
        obtain ⟨p, kk, rfl, k1, k2⟩ := df_ref rk ok
        obtain ⟨q', v', a1, a2, a3⟩ := keysQ_at k1 kq h2
        rw [hwv] at a2; cases a2
        exact ⟨a, p, d, kk, xs, q', w, rfl, rfl, ⟨Dp_mono E2.sub _ _ (DF.dp _ _ rk), k1, k2⟩, hH, keysQ_mem E2.sub kq, a1, a3, q w lt H2 F2 (E1.trans E2) P'⟩
      · cases h2
    · cases h2
  · cases h2
/-- in, not in -/
def tInQ (fk : List C → Option D) (gp : List C → Option IP) : List C → Option Bool := fun env => match gp env with
  | some ip => (match nodeAt env ip with
    | some (.n (.q ks) _) => (match fk env with | some d => if okK d = true then some (kIx ks d).isSome else none | none => none)
    | _ => none)
  | none => none
theorem atKey_some {K : PySem.W.Frag} {F : Hp} {d : D} {k : NestedKey} (hk : keyN d = some k) {xs : List (NestedKey × Addr × Value)} {ds : List D} {vs : List V} (h : KeysQ K F xs ds vs) : (atKey xs k).isSome = (kIx ds d).isSome := by
  cases z : kIx ds d with
  | none => rw [keysQ_none hk h z]; rfl
  | some j =>
    obtain ⟨q, v, h1, _⟩ := keysQ_at hk h z
    rw [h1]; rfl
theorem inQ_ok {t tk : TE} (b : Bool) (oa : ∀ (σ : L2.St) (H F : Hp) (fp : Nat → List Addr) (env : List C) (ip : IP) (u : T) (Q : VK), Rel X.K G env σ H F fp → gp env = some ip → nodeAt env ip = some u → (∀ v lu H' F', Ext H F H' F' → Place X.K G env σ H' F' fp ip u v lu → Q v H') → t σ H Q)
    (ok : ∀ (σ : L2.St) (H F : Hp) (fp : Nat → List Addr) (env : List C) (d : D) (Q : VK), Rel X.K G env σ H F fp → fk env = some d → (∀ v H' F', Ext H F H' F' → RepK X.K G .fz H H' F' v d → Q v H') → tk σ H Q) (hw : G.w = some X.w)
    {σ : L2.St} {H F : Hp} {fp : Nat → List Addr} {env : List C} {c : Bool} {Q : Bool → Hp → Prop} (R : Rel X.K G env σ H F fp) (hf : tInQ fk gp env = some c) (q : ∀ H' F', Ext H F H' F' → Q (b ^^ c) H') :
    tOp (fun x y H Q => ∃ (p : Addr) (d : D) (k : NestedKey) (a : Addr) (xs : List (NestedKey × Addr × Value)), x = .ref p ∧ IsKeyD X.K H p d k ∧ y = .ref a ∧ H a = some (dnO X.w a xs) ∧ KeysOk X.K H xs ∧ Q (.bl (b ^^ (atKey xs k).isSome)) H) tk t σ H (fun x H' => ∃ k, x = .bl k ∧ Q k H') := by
  unfold tInQ at hf
  split at hf
  · rename_i ip z1
    split at hf
    · rename_i ks ts z2
      split at hf
      · rename_i d zd
        split at hf <;> cases hf
        rename_i okd
        refine ok σ H F fp env d _ R zd fun vk H1 F1 E1 rk => ?_
        refine oa σ H1 F1 fp env ip _ _ (R.ext E1) z1 z2 fun v lu H2 F2 E2 P => ?_
        obtain ⟨p, kk, rfl, k1, k2⟩ := df_ref rk okd
        have hr := P.rep
        cases hr with
        | @n _ a vs _ own l r1 r2 r3 =>
          obtain ⟨rfl, w0, xs, e0, hH, kq⟩ := r1
          rw [hw] at e0; cases e0
          refine ⟨p, d, kk, a, xs, rfl, ⟨Dp_mono E2.h _ _ (Dp_mono E1.sub _ _ (DF.dp _ _ rk)), k1, k2⟩, rfl, hH, keysQ_mem E2.sub kq, _, rfl, ?_⟩
          rw [atKey_some k1 kq]
          exact q H2 F2 (E1.trans E2)
      · cases hf
    · cases hf
  · cases hf
theorem dt_inQ (hu : X.A.units + 9 < cLine) (hw : G.w = some X.w) (h : DE X G k ek fk) (ho : DPl X G o gp) (hm : behindInMarks .In o = false := by rfl) (hk : k.le .fz = true := by rfl) : DTs X G (.Compare ek [.In] [o] pos) (tInQ fk gp) := by
  obtain ⟨tk, pk, ok⟩ := (h.conv hk).ex
  obtain ⟨t, pt, oa⟩ := ho.ex
  refine ⟨_, pt_cmpR (op_in_dn hu) pk pt hm, fun σ H F fp env c Q R hf q => ?_⟩
  have := inQ_ok (b := false) (Q := Q) oa ok hw R hf (fun H' F' E => by rw [Bool.false_xor]; exact q H' F' E)
  simp only [Bool.false_xor] at this
  exact this
def tNotInQ (fk : List C → Option D) (gp : List C → Option IP) : List C → Option Bool := fun env => (tInQ fk gp env).map (!·)
theorem dt_notInQ (hu : X.A.units + 9 < cLine) (hw : G.w = some X.w) (h : DE X G k ek fk) (ho : DPl X G o gp) (hm : behindInMarks .NotIn o = false := by rfl) (hk : k.le .fz = true := by rfl) : DTs X G (.Compare ek [.NotIn] [o] pos) (tNotInQ fk gp) := by
  obtain ⟨tk, pk, ok⟩ := (h.conv hk).ex
  obtain ⟨t, pt, oa⟩ := ho.ex
  refine ⟨_, pt_cmpR (op_nin_dn hu) pk pt hm, fun σ H F fp env c Q R hf q => ?_⟩
  unfold tNotInQ at hf
  cases z : tInQ fk gp env with
  | none => rw [z] at hf; cases hf
  | some c' =>
    rw [z] at hf; cases hf
    have := inQ_ok (b := true) (Q := Q) oa ok hw R z (fun H' F' E => by rw [Bool.true_xor]; exact q H' F' E)
    simp only [Bool.true_xor] at this
    exact this
theorem ors_erase {K : PySem.W.Frag} {ow : Option World} {H F : Hp} {x : D} : ∀ {ts : List T} {vs : List V} {l : List Addr} {j : Nat}, ORs K ow H F vs ts l → ts[j]? = some (.d x) → ORs K ow H F (vs.eraseIdx j) (ts.eraseIdx j) l ∧ ∃ v, vs[j]? = some v ∧ DF K F v x
  | [], _, _, j, h, e => by simp at e
  | t :: ts, _, _, 0, h, e => by
    cases h with
    | cons h1 h2 =>
      simp at e; subst e
      cases h1 with
      | d r => exact ⟨h2, _, rfl, r⟩
  | t :: ts, _, _, j + 1, h, e => by
    cases h with
    | cons h1 h2 =>
      obtain ⟨g1, g2⟩ := ors_erase h2 (by simpa using e)
      exact ⟨.cons h1 g1, by simpa using g2⟩
/-- the dict at a place -/
theorem q_store {K : PySem.W.Frag} {w : World} {env : List C} {σ : L2.St} {H F : Hp} {fp : Nat → List Addr} {ip : IP} {ks : List D} {ts : List T} {v : V} {lu : List Addr} (hw : G.w = some w) (R : Rel K G env σ H F fp) (P : Place K G env σ H F fp ip (.n (.q ks) ts) v lu) :
    ∃ a vs xs, v = .ref a ∧ vs.length = ts.length ∧ H a = some (dnO w a xs) ∧ KeysQ K F xs ks vs ∧ (∃ l0, ORs K G.w H F vs ts l0) ∧
      (∀ d k j x, keyN d = some k → kIx ks d = some j → ts[j]? = some (.d x) → (xs.map (·.1)).Nodup → ∃ v', vs[j]? = some v' ∧ DF K F v' x ∧ ∃ fp', Rel K G (putAt env ip (.n (.q (ks.eraseIdx j)) (ts.eraseIdx j))) σ (upd H a (dnO w a (withoutH xs k))) F fp') ∧
      (∀ d k p u y tu ln, keyN d = some k → k.depth ≤ 8 → DF K F (.ref p) d → RelV y u → New K G H F fp y tu ln → ∃ fp', Rel K G (putAt env ip (.n (.q (ks ++ [d])) (ts ++ [tu]))) σ (upd H a (dnO w a (xs ++ [(k, p, u)]))) F fp') := by
  obtain ⟨a, vs, own, l0, rfl, nr, os, nd, mem, st⟩ := R.store P
  obtain ⟨rfl, w0, xs, e0, hH, kq⟩ := nr
  rw [hw] at e0; cases e0
  refine ⟨a, vs, xs, rfl, ORs_len os, hH, kq, ⟨l0, os⟩, fun d k j x hk hj hx hn => ?_, fun d k p u y tu ln hk h8 hd rv n => ?_⟩
  · obtain ⟨o1, v', h1, h2⟩ := ors_erase os hx
    exact ⟨v', h1, h2, st _ (.q (ks.eraseIdx j)) _ _ l0 ⟨rfl, w, _, hw, upd_same, keysQ_erase hk hn kq hj⟩ o1 nd fun b hb => .inl hb⟩
  · have ap : ∀ b, b ∈ ln → b ∉ [a] ++ l0 := fun b hb hm => n.dj b hb ip.1 (mem b hm)
    exact st _ (.q (ks ++ [d])) _ _ (l0 ++ ln) ⟨rfl, w, _, hw, upd_same, keysQ_snoc hk h8 hd rv kq⟩ (ORs_snoc os n.rep) (snoc_nodup nd n.rep.nodup ap) fun b hb => (List.mem_append.mp hb).imp_right fun hb => ⟨fun j => n.dj b hb j, (n.own b hb).2.2, (n.own b hb).1, (n.own b hb).2.1⟩
/-- P.pop(k) -/
def xPopQ (gp : List C → Option IP) (fs : List C → Option (List D)) : List C → Option (List C × T) := fun env => match gp env with
  | some ip => (match nodeAt env ip with
    | some (.n (.q ks) ts) => (match fs env with
      | some [d] => if okK d = true then (match kIx ks d with
        | some j => (match ts[j]? with | some (.d x) => some (putAt env ip (.n (.q (ks.eraseIdx j)) (ts.eraseIdx j)), .d x) | _ => none)
        | none => none) else none
      | _ => none)
    | _ => none)
  | none => none
theorem new_d {K : PySem.W.Frag} {H F : Hp} {fp : Nat → List Addr} {v : V} {x : D} (r : DF K F v x) : New K G H F fp v (.d x) [] := ⟨.d r, (fun _ m => nomatch m), (fun _ m => nomatch m)⟩
theorem dx_popQ (hu : X.A.units + 9 < cLine) (hw : G.w = some X.w) (ho : DPl X G o gp) (h : DA X G [.fz] [ek] fs)
    (hbm : ∀ (r : V → List V → Hp → VK → Prop) (to : TE) (t : TA), MtR X "dict.pop" r → PE X o to → PA X [ek] t → PE X (.Call (.Attribute o "pop" p2) [ek] [] p3) (tBMQ X r to t) := by exact fun r to t hm ho ha => pe_bmQ PySem.F.plainAttrs_dict PySem.F.slot_dict_pop PySem.F.type_dict_pop hm ho ha) : DX X G (.Call (.Attribute o "pop" p2) [ek] [] p3) (xPopQ gp fs) := by
  obtain ⟨t, pt, oa⟩ := ho.ex
  obtain ⟨tk, pk, ok⟩ := h.ex
  refine ⟨_, hbm _ _ _ (mt_popQ hu) pt pk, fun σ H F fp env env' u Q R hg q => ?_⟩
  unfold xPopQ at hg
  split at hg
  · rename_i ip z1
    split at hg
    · rename_i ks ts z2
      split at hg
      · rename_i d zd
        split at hg
        · rename_i okd
          split at hg
          · rename_i j zj
            split at hg
            · rename_i x zx
              cases hg
              refine oa σ H F fp env ip _ _ R z1 z2 fun v lu H1 F1 E1 P => ?_
              have R1 := R.ext E1
              have hr := P.rep
              refine ⟨?_, ok σ H1 F1 fp env _ _ R1 zd fun vks H2 F2 E2 rks => ?_⟩
              · obtain ⟨a, vs, xs, rfl, _, hH, _⟩ := q_store hw R1 P
                exact ⟨a, xs, rfl, hH⟩
              obtain ⟨vk, d', rfl, ed, rk⟩ := rep1 rks
              cases ed
              have R2 := R1.ext E2
              obtain ⟨a, vs, xs, rfl, hl, hH, kq, _, er, _⟩ := q_store hw R2 (P.ext E2)
              obtain ⟨p, kk, rfl, k1, k2⟩ := df_ref rk okd
              obtain ⟨q', v', a1, a2, a3⟩ := keysQ_at k1 kq zj
              refine ⟨a, p, d, kk, xs, q', v', rfl, rfl, ⟨Dp_mono E2.sub _ _ (DF.dp _ _ rk), k1, k2⟩, hH, keysQ_mem E2.sub kq, a1, a3, fun hn => ?_⟩
              obtain ⟨v2, b1, b2, fp', R'⟩ := er d kk j x k1 zj zx hn
              rw [a2] at b1; cases b1
              exact q v' _ F2 fp' [] R' (E1.f.trans E2.f) (new_d b2)
            · cases hg
          · cases hg
        · cases hg
      · cases hg
    · cases hg
  · cases hg
/-- P.pop(k, x) -/
def xPopQ2 (gp : List C → Option IP) (fs : List C → Option (List D)) : List C → Option (List C × T) := fun env => match gp env with
  | some ip => (match nodeAt env ip with
    | some (.n (.q ks) ts) => (match fs env with
      | some [d, y] => if okK d = true then (match kIx ks d with
        | some j => (match ts[j]? with | some (.d x) => some (putAt env ip (.n (.q (ks.eraseIdx j)) (ts.eraseIdx j)), .d x) | _ => none)
        | none => some (env, .d y)) else none
      | _ => none)
    | _ => none)
  | none => none
theorem dx_popQ2 {e2 : Expr} (hu : X.A.units + 9 < cLine) (hw : G.w = some X.w) (ho : DPl X G o gp) (h : DA X G [.fz, .fz] [ek, e2] fs)
    (hbm : ∀ (r : V → List V → Hp → VK → Prop) (to : TE) (t : TA), MtR X "dict.pop" r → PE X o to → PA X [ek, e2] t → PE X (.Call (.Attribute o "pop" p2) [ek, e2] [] p3) (tBMQ X r to t) := by exact fun r to t hm ho ha => pe_bmQ PySem.F.plainAttrs_dict PySem.F.slot_dict_pop PySem.F.type_dict_pop hm ho ha) : DX X G (.Call (.Attribute o "pop" p2) [ek, e2] [] p3) (xPopQ2 gp fs) := by
  obtain ⟨t, pt, oa⟩ := ho.ex
  obtain ⟨tk, pk, ok⟩ := h.ex
  refine ⟨_, hbm _ _ _ (mt_popQ2 hu) pt pk, fun σ H F fp env env' u Q R hg q => ?_⟩
  unfold xPopQ2 at hg
  split at hg
  · rename_i ip z1
    split at hg
    · rename_i ks ts z2
      split at hg
      · rename_i d y zd
        split at hg
        · rename_i okd
          have go : (∀ H2 F2, Ext H F H2 F2 → ∀ (p : Addr) (vy : V) (kk : NestedKey) (lu : List Addr) (v : V), Place X.K G env σ H2 F2 fp ip (.n (.q ks) ts) v lu → DF X.K F2 (.ref p) d → keyN d = some kk → kk.depth ≤ 8 → DF X.K F2 vy y → rPopQ2 X v [.ref p, vy] H2 Q) → tBMQ X (rPopQ2 X) t tk σ H Q := fun go => by
            refine oa σ H F fp env ip _ _ R z1 z2 fun v lu H1 F1 E1 P => ?_
            have R1 := R.ext E1
            refine ⟨?_, ok σ H1 F1 fp env _ _ R1 zd fun vks H2 F2 E2 rks => ?_⟩
            · obtain ⟨a, vs, xs, rfl, _, hH, _⟩ := q_store hw R1 P
              exact ⟨a, xs, rfl, hH⟩
            obtain ⟨vk, d', vy, y', rfl, ed, rk, ry⟩ := rep2 rks
            cases ed
            obtain ⟨p, kk, rfl, k1, k2⟩ := df_ref rk okd
            exact go H2 F2 (E1.trans E2) p vy kk lu v (P.ext E2) rk k1 k2 ry
          refine go fun H2 F2 E2 p vy kk lu v P rk k1 k2 ry => ?_
          have R2 := R.ext E2
          obtain ⟨a, vs, xs, rfl, hl, hH, kq, _, er, _⟩ := q_store hw R2 P
          refine ⟨a, p, d, kk, xs, vy, rfl, rfl, ⟨Dp_mono E2.sub _ _ (DF.dp _ _ rk), k1, k2⟩, hH, keysQ_mem E2.sub kq, ?_⟩
          split at hg
          · rename_i j zj
            split at hg
            · rename_i x zx
              cases hg
              obtain ⟨q', v', a1, a2, a3⟩ := keysQ_at k1 kq zj
              refine .inl ⟨q', v', a1, a3, fun hn => ?_⟩
              obtain ⟨v2, b1, b2, fp', R'⟩ := er d kk j x k1 zj zx hn
              rw [a2] at b1; cases b1
              exact q v' _ F2 fp' [] R' E2.f (new_d b2)
            · cases hg
          · rename_i zj
            cases hg
            exact .inr ⟨keysQ_none k1 kq zj, q vy _ F2 fp [] R2 E2.f (new_d ry)⟩
        · cases hg
      · cases hg
    · cases hg
  · cases hg
/-- P.setdefault(k, x) -/
def xSetdQ (gp : List C → Option IP) (fs : List C → Option (List D)) : List C → Option (List C × T) := fun env => match gp env with
  | some ip => (match nodeAt env ip with
    | some (.n (.q ks) ts) => (match fs env with
      | some [d, y] => if okK d = true then (match kIx ks d with
        | some j => (match ts[j]? with | some (.d x) => some (env, .d x) | _ => none)
        | none => if ts.length < 16000000 then some (putAt env ip (.n (.q (ks ++ [d])) (ts ++ [.d y])), .d y) else none) else none
      | _ => none)
    | _ => none)
  | none => none
theorem ors_df {K : PySem.W.Frag} {ow : Option World} {H F : Hp} {x : D} {ts : List T} {vs : List V} {l : List Addr} {j : Nat} (h : ORs K ow H F vs ts l) (e : ts[j]? = some (.d x)) : ∃ v, vs[j]? = some v ∧ DF K F v x := (ors_erase h e).2
theorem dx_setdQ {e2 : Expr} (hu : X.A.units + 9 < cLine) (hw : G.w = some X.w) (ho : DPl X G o gp) (h : DA X G [.fz, .fz] [ek, e2] fs)
    (hbm : ∀ (r : V → List V → Hp → VK → Prop) (to : TE) (t : TA), MtR X "dict.setdefault" r → PE X o to → PA X [ek, e2] t → PE X (.Call (.Attribute o "setdefault" p2) [ek, e2] [] p3) (tBMQ X r to t) := by exact fun r to t hm ho ha => pe_bmQ PySem.F.plainAttrs_dict PySem.F.slot_dict_setdefault PySem.F.type_dict_setdefault hm ho ha) : DX X G (.Call (.Attribute o "setdefault" p2) [ek, e2] [] p3) (xSetdQ gp fs) := by
  obtain ⟨t, pt, oa⟩ := ho.ex
  obtain ⟨tk, pk, ok⟩ := h.ex
  refine ⟨_, hbm _ _ _ (mt_setdQ hu) pt pk, fun σ H F fp env env' u Q R hg q => ?_⟩
  unfold xSetdQ at hg
  split at hg
  · rename_i ip z1
    split at hg
    · rename_i ks ts z2
      split at hg
      · rename_i d y zd
        split at hg
        · rename_i okd
          refine oa σ H F fp env ip _ _ R z1 z2 fun v lu H1 F1 E1 P => ?_
          have R1 := R.ext E1
          refine ⟨?_, ok σ H1 F1 fp env _ _ R1 zd fun vks H2 F2 E2 rks => ?_⟩
          · obtain ⟨a, vs, xs, rfl, _, hH, _⟩ := q_store hw R1 P
            exact ⟨a, xs, rfl, hH⟩
          obtain ⟨vk, d', vy, y', rfl, ed, rk, ry⟩ := rep2 rks
          cases ed
          obtain ⟨p, kk, rfl, k1, k2⟩ := df_ref rk okd
          have R2 := R1.ext E2
          have P2 := P.ext E2
          obtain ⟨a, vs, xs, rfl, hl, hH, kq, ⟨l0, os⟩, er, ad⟩ := q_store hw R2 P2
          refine ⟨a, p, d, kk, xs, vy, rfl, rfl, ⟨Dp_mono E2.sub _ _ (DF.dp _ _ rk), k1, k2⟩, hH, keysQ_mem E2.sub kq, ?_⟩
          split at hg
          · rename_i j zj
            split at hg
            · rename_i x zx
              cases hg
              obtain ⟨q', v', a1, a2, a3⟩ := keysQ_at k1 kq zj
              obtain ⟨w0, c1, c2⟩ := ors_df os zx
              rw [a2] at c1; cases c1
              exact .inl ⟨q', v', a1, a3, q v' _ F2 fp [] R2 (E1.f.trans E2.f) (new_d c2)⟩
            · cases hg
          · rename_i zj
            split at hg <;> cases hg
            rename_i hlen
            refine .inr ⟨keysQ_none k1 kq zj, by rw [(keysQ_len kq).1, ← (keysQ_len kq).2, hl]; exact hlen, fun u hu => ?_⟩
            obtain ⟨fp', R'⟩ := ad d kk p u vy (.d y) [] k1 k2 rk hu (new_d ry)
            exact q vy _ F2 fp' [] R' (E1.f.trans E2.f) (new_d ry)
        · cases hg
      · cases hg
    · cases hg
  · cases hg
/-- P[k] = e, the key new -/
def sPutQ (gp : List C → Option IP) (fk : List C → Option D) (g : List C → Option (List C × T)) : List C → Out := fun env => match g env with
  | some (env1, u) => (match gp env1 with
    | some ip => (match nodeAt env1 ip with
      | some (.n (.q ks) ts) => (match fk env1 with
        | some d => if okK d = true ∧ ts.length < 16000000 then (match kIx ks d with | none => .nx (putAt env1 ip (.n (.q (ks ++ [d])) (ts ++ [u]))) | some _ => .err) else .err
        | none => .err)
      | _ => .err)
    | none => .err)
  | none => .err
theorem ds_putQ (hu : X.A.units + 9 < cLine) (hgw : G.w = some X.w) (ho : DPl X G o gp) (hi : DE X G k2 ei fk) (h : DX X G e g) (hk2 : k2.le .fz = true := by rfl)
    (ha : ∀ v, assign (.Subscript o ei p2) X.env v = (do
      let ov ← holding [v] (eval o X.env)
      let iv ← holding [v, ov] (eval ei X.env)
      standAt p2
      holding [v, ov, iv] (setItem ov iv v)
      release [v, ov, iv] []) := by intro _; rfl)
    (hs : swapsWithSole [.Subscript o ei p2] e pos.line X.env = pure false := by rfl) (hw : swappedStores [.Subscript o ei p2] e X.env = pure none := by rfl)
    (h1 : (assignEach [.Subscript o ei p2] X.env).map (·.2) = [assign (.Subscript o ei p2) X.env] := by rfl) : DS X G kr (.Assign [.Subscript o ei p2] e pos) (sPutQ gp fk g) := by
  obtain ⟨tv, pv, ov⟩ := h.ex
  obtain ⟨ta, pa, oa⟩ := ho.ex
  obtain ⟨ti, pi, oi⟩ := (hi.conv hk2).ex
  refine ⟨_, ps_asg pv (pg_sub pa pi (set_dnQ hu) ha) hs hw h1, fun σ H F fp env E R q => ?_⟩
  unfold sPutQ at q
  split at q
  · rename_i env1 u z
    split at q
    · rename_i ip z1
      split at q
      · rename_i ks ts z2
        split at q
        · rename_i d zd
          split at q
          · rename_i okl
            split at q
            · rename_i zj
              refine ov σ H F fp env env1 u _ R z fun y H1 F1 fp1 ln R1 s1 n1 => ?_
              refine oa σ H1 F1 fp1 env1 ip _ _ R1 z1 z2 fun v lu H2 F2 E2 P => ?_
              have R2 := R1.ext E2
              refine oi σ H2 F2 fp1 env1 _ _ R2 zd fun vi H3 F3 E3 ri => ?_
              obtain ⟨p, kk, rfl, k1, k2⟩ := df_ref ri okl.1
              obtain ⟨a, vs, xs, rfl, hl, hH, kq, _, _, ad⟩ := q_store hgw (R2.ext E3) (P.ext E3)
              refine ⟨p, d, kk, a, xs, rfl, rfl, ⟨Dp_mono E3.sub _ _ (DF.dp _ _ ri), k1, k2⟩, hH, keysQ_mem E3.sub kq, keysQ_none k1 kq zj, by rw [(keysQ_len kq).1, ← (keysQ_len kq).2, hl]; exact okl.2, fun u' hu' => ?_⟩
              obtain ⟨fp', R'⟩ := ad d kk p u' y u ln k1 k2 ri hu' ((n1.ext E2).ext E3)
              exact q σ _ F3 fp' R' ((s1.trans E2.f).trans E3.f)
            · exact q.elim
          · exact q.elim
        · exact q.elim
      · exact q.elim
    · exact q.elim
  · exact q.elim
/-- sorted(P) -/
def eSortQ (gp : List C → Option IP) : List C → Option D := fun env => match gp env with
  | some ip => (match nodeAt env ip with
    | some (.n (.q ks) _) => gSorted [.list ks]
    | _ => none)
  | none => none
theorem d_sortQ (hc : X.calm = true) (hu : X.A.units + 64 < cLine) (hgw : G.w = some X.w) (hg : Gl X "sorted") (hm : X.mg "sorted" = none) (ho : DPl X G o gp) (hs1 : starEach [o] X.env = [(false, eval o X.env)] := by rfl) : DE X G .ow (.Call (.Name "sorted" p1) [o] [] pos) (eSortQ gp) := by
  obtain ⟨t, pt, oa⟩ := ho.ex
  refine ⟨_, pe_callB (call_sortQ hc hu) hg hm PyProof.Rows.boot_sorted (pa_cons pt pa_nil hs1) (by decide) (by decide) hs1 rfl, fun σ H F fp env d Q R hf q => ?_⟩
  unfold eSortQ at hf
  split at hf
  · rename_i ip z1
    split at hf
    · rename_i ks ts z2
      have hf : (if alikeB ks = true ∧ sortableB ks = true ∧ (ks.all fun d => decide (d.depth ≤ 60)) = true then some (PyData.list (ks.mergeSort (W.dataLe false fun d => d))) else none) = some d := hf
      by_cases hcond : alikeB ks = true ∧ sortableB ks = true ∧ (ks.all fun d => decide (d.depth ≤ 60)) = true
      · rw [if_pos hcond] at hf; cases hf
        refine oa σ H F fp env ip _ _ R z1 z2 fun v lu H1 F1 E1 P => ?_
        obtain ⟨a, vs, xs, rfl, hl, hH, kq, _⟩ := q_store hgw (R.ext E1) P
        refine ⟨F1, a, xs, ks, rfl, E1.sub, hH, keysQ_mem E1.sub kq, keysQ_refs kq, hcond.1, hcond.2.1, hcond.2.2, fun p ws np hw => ?_⟩
        obtain ⟨E, r'⟩ := new_ow (G := G) E1.sub np hw
        exact q _ _ _ (E1.trans E) (r'.back E1.h)
      · rw [if_neg hcond] at hf; cases hf
    · cases hf
  · cases hf
end
end DL
set_option Elab.async false
set_option linter.all false
set_option maxRecDepth 100000
set_option maxHeartbeats 4000000
/-! DPg: what is only read: frozen things, things of one's own, things lent for reading -/
namespace DL
open PySem PySem.Spec L2
structure DRd (X : Cx) (G : GC) (e : Expr) (r : List C → Option T) : Prop where
  ex : ∃ t, PE X e t ∧ ∀ (σ : L2.St) (H F : Hp) (fp : Nat → List Addr) (env : List C) (u : T) (Q : VK), Rel X.K G env σ H F fp → r env = some u →
    (∀ v l H' F', Ext H F H' F' → OR X.K G.w H' F' v u l → Q v H') → t σ H Q
section
variable {X : Cx} {G : GC} {kr k k2 : RK} {e ei ek o : Expr} {es : List Expr} {f fi fk fe : List C → Option D} {r : List C → Option T} {rs : List C → Option (List T)} {gp : List C → Option IP} {pos p1 p2 p3 pos' : Pos}
def cellT : C → Option T
  | .val d => some (.d d)
  | .lst ds => some (.n .l (ds.map T.d))
  | .own _ t => some t
  | .ro _ t => some t
  | _ => none
def rN (i : Nat) : List C → Option T := fun env => (env[i]?).bind cellT
theorem cell_or {K : PySem.W.Frag} {env : List C} {σ : L2.St} {H F : Hp} {fp : Nat → List Addr} {i : Nat} {u : T} (R : Rel K G env σ H F fp) (h : rN i env = some u) : ∃ v l, σ[i]? = some (some v) ∧ OR K G.w H F v u l := by
  unfold rN at h
  cases e : env[i]? with
  | none => rw [e] at h; cases h
  | some c =>
    rw [e] at h
    have h : cellT c = some u := h
    have q := R.slot i c e
    have join : ∀ v, (σ[i]?).join = some v → σ[i]? = some (some v) := fun v z => by
      cases y : σ[i]? with
      | none => rw [y] at z; cases z
      | some o => rw [y] at z; exact congrArg some z
    cases c with
    | val d => cases h; obtain ⟨_, v, e1, r⟩ := q; exact ⟨v, [], join v e1, .d r⟩
    | lst ds => cases h; obtain ⟨a, vs, q1, q2, q3, q4⟩ := q; exact ⟨.ref a, [a] ++ [], join _ q2, .n ⟨rfl, q3⟩ (rep_flatT q4) (by simp)⟩
    | own m t => cases h; obtain ⟨v, q1, q2, _⟩ := q; exact ⟨v, _, join v q1, q2⟩
    | ro b t => cases h; obtain ⟨_, v, l, q1, q2, _⟩ := q; exact ⟨v, l, join v q1, OR_mono (Same.refl _) _ _ _ (fun b o _ z => R.kpSame b o z) q2⟩
    | und => cases h
    | pin _ => cases h
    | brw d => cases h
    | dK d => cases h
    | dT d => cases h
    | dN d => cases h
theorem dr_name {x : Str} (i : Nat) (h : PE X (.Name x pos) (tVar i)) : DRd X G (.Name x pos) (rN i) := by
  refine ⟨_, h, fun σ H F fp env u Q R hg q => ?_⟩
  obtain ⟨v, l, s1, r⟩ := cell_or R hg
  exact ⟨v, s1, q v l H F (Ext.refl R.sub) r⟩
theorem dr_fz (h : DE X G k e f) (hk : k.le .fz = true := by rfl) : DRd X G e (nD f) := by
  obtain ⟨t, pt, o⟩ := (h.conv hk).ex
  refine ⟨t, pt, fun σ H F fp env u Q R hf q => ?_⟩
  unfold nD at hf
  cases z : f env with
  | none => rw [z] at hf; cases hf
  | some d =>
    rw [z] at hf; cases hf
    exact o σ H F fp env d Q R z fun v H' F' E r => q v [] H' F' E (.d r)
theorem dr_dn {fn : List C → Option T} (h : DN X G e fn) : DRd X G e fn := by
  obtain ⟨t, pt, o⟩ := h.ex
  exact ⟨t, pt, fun σ H F fp env u Q R hf q => o σ H F fp env u Q R hf fun v H' F' l E r _ => q v l H' F' E r⟩
def rChild (r : List C → Option T) (sel : List C → Shp → Nat → Option Nat) : List C → Option T := fun env => match r env with
  | some (.n s ts) => (match sel env s ts.length with | some j => ts[j]? | none => none)
  | _ => none
theorem rChild_of {sel : List C → Shp → Nat → Option Nat} {env : List C} {u : T} (h : rChild r sel env = some u) : ∃ s ts j, r env = some (.n s ts) ∧ sel env s ts.length = some j ∧ ts[j]? = some u := by
  unfold rChild at h
  split at h
  · rename_i s ts z
    split at h
    · rename_i j z2; exact ⟨s, ts, j, z, z2, h⟩
    · cases h
  · cases h
theorem or_child {K : PySem.W.Frag} {ow : Option World} {H F : Hp} {v : V} {s : Shp} {ts : List T} {l : List Addr} {j : Nat} {u : T} (h : OR K ow H F v (.n s ts) l) (e : ts[j]? = some u) :
    ∃ a vs own l0 w lt, v = .ref a ∧ NR K ow H F s a vs own ∧ ORs K ow H F vs ts l0 ∧ vs[j]? = some w ∧ OR K ow H F w u lt := by
  cases h with
  | n r1 r2 r3 =>
    obtain ⟨w, lt, l1, l2, rfl, g1, g2, _⟩ := ORs_at r2 e
    exact ⟨_, _, _, _, w, lt, rfl, r1, r2, g1, g2⟩
def rF (c f : Str) (r : List C → Option T) : List C → Option T := rChild r (selF c f)
def rI (fi : List C → Option D) (r : List C → Option T) : List C → Option T := rChild r (selI fi)
def rK (fk : List C → Option D) (r : List C → Option T) : List C → Option T := rChild r (selK fk)
theorem dr_attr {fn : Str} (c : Str) (h : DRd X G e r) (hc : ClOk X.K c) (hf : NoAt X.K c fn) (hb : attributeBase e fn X.env (eval e X.env) = eval e X.env := by rfl) : DRd X G (.Attribute e fn pos) (rF c fn r) := by
  obtain ⟨t, pt, o⟩ := h.ex
  refine ⟨_, pe_fld pt hb, fun σ H F fp env u Q R hg q => ?_⟩
  obtain ⟨s, ts, j, h1, h2, h3⟩ := rChild_of hg
  unfold selF at h2
  split at h2
  · rename_i c' fs
    split at h2
    · rename_i hcc
      subst hcc
      refine o σ H F fp env _ _ R h1 fun v l H1 F1 E1 rep => ?_
      obtain ⟨a, vs, own, l0, w, lt, rfl, nr, os, hw, r'⟩ := or_child rep h3
      obtain ⟨hl, C', dx, rfl, n1, n2, n3⟩ := nr
      obtain ⟨C2, hC, cls⟩ := hc.ex
      rw [n1] at hC; cases hC
      exact ⟨a, C', dx, _, w, rfl, n2, cls, hf C' n1, fIx_zip h2 hw, q w lt H1 F1 E1 r'⟩
    · cases h2
  · cases h2
theorem dr_ix (h : DRd X G e r) (hi : DE X G k ei fi) (hs : PlainIx ei := by exact fun _ _ => rfl) (hk : k.le .vl = true := by rfl) : DRd X G (.Subscript e ei pos) (rI fi r) := by
  obtain ⟨t, pt, o⟩ := h.ex
  obtain ⟨ti, pi, oi⟩ := (hi.conv hk).ex
  refine ⟨_, pe_ix ix_seq pt pi hs, fun σ H F fp env u Q R hg q => ?_⟩
  obtain ⟨s, ts, j, h1, h2, h3⟩ := rChild_of hg
  have go : ∀ i, fi env = some (.int i) → ixN ts.length i = some j → (s = .l ∨ s = .t) → tOp (rIx X.K) t ti σ H Q := fun i h4 h5 hs => by
    refine o σ H F fp env _ _ R h1 fun v l H1 F1 E1 rep => ?_
    refine oi σ H1 F1 fp env _ _ (R.ext E1) h4 fun vi H2 F2 E2 ri => ?_
    have ei := vl_int (G := G) (H := H2) (F := F2) ri
    subst ei
    obtain ⟨a, vs, own, l0, w, lt, rfl, nr, os, hw, r'⟩ := or_child (OR_mono E2.f _ _ _ (fun b o _ => E2.h b o) rep) h3
    have ha : atI vs i = some w := by unfold atI; rw [ORs_len os, h5]; exact hw
    rcases hs with rfl | rfl
    · exact .inl ⟨a, vs, i, w, rfl, rfl, .inl (.inl nr.2), ha, q w lt H2 F2 (E1.trans E2) r'⟩
    · have st : SqT X.K H2 a vs := by
        rcases nr with ⟨_, h⟩ | ⟨_, h⟩
        · exact .inl (.inl h)
        · exact Same.seqT E2.sub h
      exact .inr (.inl ⟨a, vs, i, w, rfl, rfl, st, ha, q w lt H2 F2 (E1.trans E2) r'⟩)
  unfold selI at h2
  split at h2
  · split at h2
    · rename_i i h4; exact go i h4 h2 (.inl rfl)
    · cases h2
  · split at h2
    · rename_i i h4; exact go i h4 h2 (.inr rfl)
    · cases h2
  · cases h2
theorem dr_key (hu : X.A.units + 9 < cLine) (hw : G.w = some X.w) (h : DRd X G e r) (hi : DE X G k ek fk) (hs : NoSl ek := by exact fun _ _ => rfl) (hk : k.le .fz = true := by rfl) : DRd X G (.Subscript e ek pos) (rK fk r) := by
  obtain ⟨t, pt, o⟩ := h.ex
  obtain ⟨ti, pi, oi⟩ := (hi.conv hk).ex
  refine ⟨_, pe_getQ hu pt pi hs, fun σ H F fp env u Q R hg q => ?_⟩
  obtain ⟨s, ts, j, h1, h2, h3⟩ := rChild_of hg
  unfold selK at h2
  split at h2
  · rename_i ks
    split at h2
    · rename_i d hd
      split at h2
      · rename_i ok
        refine o σ H F fp env _ _ R h1 fun v l H1 F1 E1 rep => ?_
        refine oi σ H1 F1 fp env d _ (R.ext E1) hd fun vk H2 F2 E2 rk => ?_
        obtain ⟨a, vs, own, l0, w, lt, rfl, nr, os, hwv, r'⟩ := or_child (OR_mono E2.f _ _ _ (fun b o _ => E2.h b o) rep) h3
        obtain ⟨rfl, w0, xs, e0, hH, kq⟩ := nr
        rw [hw] at e0; cases e0
        obtain ⟨p, kk, rfl, k1, k2⟩ := df_ref rk ok
        obtain ⟨q', v', a1, a2, a3⟩ := keysQ_at k1 kq h2
        rw [hwv] at a2; cases a2
        exact ⟨a, p, d, kk, xs, q', w, rfl, rfl, ⟨Dp_mono E2.sub _ _ (DF.dp _ _ rk), k1, k2⟩, hH, keysQ_mem E2.sub kq, a1, a3, q w lt H2 F2 (E1.trans E2) r'⟩
      · cases h2
    · cases h2
  · cases h2
/-! reading -/
def rLeaf (r : List C → Option T) : List C → Option D := fun env => match r env with | some (.d x) => some x | _ => none
theorem d_rleaf (h : DRd X G e r) : DE X G .fz e (rLeaf r) := by
  obtain ⟨t, pt, o⟩ := h.ex
  refine ⟨t, pt, fun σ H F fp env d Q R hf q => ?_⟩
  unfold rLeaf at hf
  split at hf
  · rename_i x z
    cases hf
    refine o σ H F fp env _ _ R z fun v l H1 F1 E1 rep => ?_
    cases rep with
    | d r => exact q v H1 F1 E1 r
  · cases hf
def flatV1 : T → Option D
  | .d x => some x
  | .n .l ts => (flatT ts).map .list
  | _ => none
def rFlat (r : List C → Option T) : List C → Option D := fun env => (r env).bind flatV1
theorem d_rflat (h : DRd X G e r) : DE X G .vl e (rFlat r) := by
  obtain ⟨t, pt, o⟩ := h.ex
  refine ⟨t, pt, fun σ H F fp env d Q R hf q => ?_⟩
  unfold rFlat at hf
  cases z : r env with
  | none => rw [z] at hf; cases hf
  | some u =>
    rw [z] at hf
    refine o σ H F fp env u _ R z fun v l H1 F1 E1 rep => ?_
    cases u with
    | d x =>
      cases hf
      cases rep with
      | d r => exact q v H1 F1 E1 (.inl r)
    | n s ts =>
      cases s with
      | l =>
        have hf : (flatT ts).map PyData.list = some d := hf
        cases z2 : flatT ts with
        | none => rw [z2] at hf; cases hf
        | some ds =>
          rw [z2] at hf; cases hf
          cases rep with
          | @n _ a vs _ own l h2 h3 h4 => exact q _ H1 F1 E1 (.inr ⟨a, vs, ds, rfl, rfl, h2.2, (flatT_rep z2 h3).1⟩)
      | _ => cases hf
def rView (r : List C → Option T) : List C → Option D := fun env => (r env).bind viewT
theorem d_rview (h : DRd X G e r) : DE X G .vw e (rView r) := by
  obtain ⟨t, pt, o⟩ := h.ex
  refine ⟨t, pt, fun σ H F fp env d Q R hf q => ?_⟩
  unfold rView at hf
  cases z : r env with
  | none => rw [z] at hf; cases hf
  | some u =>
    rw [z] at hf
    exact o σ H F fp env u _ R z fun v l H1 F1 E1 rep => q v H1 F1 E1 (view_rep E1.sub _ _ _ _ hf rep)
theorem or_q {K : PySem.W.Frag} {w : World} {H F : Hp} {v : V} {ks : List D} {ts : List T} {l : List Addr} (h : OR K (some w) H F v (.n (.q ks) ts) l) : ∃ a vs xs, v = .ref a ∧ H a = some (dnO w a xs) ∧ KeysQ K F xs ks vs := by
  cases h with
  | n r1 r2 r3 =>
    obtain ⟨rfl, w0, xs, e0, hH, kq⟩ := r1
    cases e0
    exact ⟨_, _, xs, rfl, hH, kq⟩
def trIn (fk : List C → Option D) (r : List C → Option T) : List C → Option Bool := fun env => match r env with
  | some (.n (.q ks) _) => (match fk env with | some d => if okK d = true then some (kIx ks d).isSome else none | none => none)
  | _ => none
theorem trIn_ok {t tk : TE} (b : Bool) (oa : ∀ (σ : L2.St) (H F : Hp) (fp : Nat → List Addr) (env : List C) (u : T) (Q : VK), Rel X.K G env σ H F fp → r env = some u → (∀ v l H' F', Ext H F H' F' → OR X.K G.w H' F' v u l → Q v H') → t σ H Q)
    (ok : ∀ (σ : L2.St) (H F : Hp) (fp : Nat → List Addr) (env : List C) (d : D) (Q : VK), Rel X.K G env σ H F fp → fk env = some d → (∀ v H' F', Ext H F H' F' → RepK X.K G .fz H H' F' v d → Q v H') → tk σ H Q) (hw : G.w = some X.w)
    {σ : L2.St} {H F : Hp} {fp : Nat → List Addr} {env : List C} {c : Bool} {Q : Bool → Hp → Prop} (R : Rel X.K G env σ H F fp) (hf : trIn fk r env = some c) (q : ∀ H' F', Ext H F H' F' → Q (b ^^ c) H') :
    tOp (fun x y H Q => ∃ (p : Addr) (d : D) (k : NestedKey) (a : Addr) (xs : List (NestedKey × Addr × Value)), x = .ref p ∧ IsKeyD X.K H p d k ∧ y = .ref a ∧ H a = some (dnO X.w a xs) ∧ KeysOk X.K H xs ∧ Q (.bl (b ^^ (atKey xs k).isSome)) H) tk t σ H (fun x H' => ∃ k, x = .bl k ∧ Q k H') := by
  unfold trIn at hf
  split at hf
  · rename_i ks ts z2
    split at hf
    · rename_i d zd
      split at hf <;> cases hf
      rename_i okd
      refine ok σ H F fp env d _ R zd fun vk H1 F1 E1 rk => ?_
      refine oa σ H1 F1 fp env _ _ (R.ext E1) z2 fun v l H2 F2 E2 rep => ?_
      obtain ⟨p, kk, rfl, k1, k2⟩ := df_ref rk okd
      rw [hw] at rep
      obtain ⟨a, vs, xs, rfl, hH, kq⟩ := or_q rep
      refine ⟨p, d, kk, a, xs, rfl, ⟨Dp_mono E2.h _ _ (Dp_mono E1.sub _ _ (DF.dp _ _ rk)), k1, k2⟩, rfl, hH, keysQ_mem E2.sub kq, _, rfl, ?_⟩
      rw [atKey_some k1 kq]
      exact q H2 F2 (E1.trans E2)
    · cases hf
  · cases hf
theorem dt_rin (hu : X.A.units + 9 < cLine) (hw : G.w = some X.w) (h : DE X G k ek fk) (ho : DRd X G o r) (hm : behindInMarks .In o = false := by rfl) (hk : k.le .fz = true := by rfl) : DTs X G (.Compare ek [.In] [o] pos) (trIn fk r) := by
  obtain ⟨tk, pk, ok⟩ := (h.conv hk).ex
  obtain ⟨t, pt, oa⟩ := ho.ex
  refine ⟨_, pt_cmpR (op_in_dn hu) pk pt hm, fun σ H F fp env c Q R hf q => ?_⟩
  have := trIn_ok (b := false) (Q := Q) oa ok hw R hf (fun H' F' E => by rw [Bool.false_xor]; exact q H' F' E)
  simp only [Bool.false_xor] at this
  exact this
def trNin (fk : List C → Option D) (r : List C → Option T) : List C → Option Bool := fun env => (trIn fk r env).map (!·)
theorem dt_rnin (hu : X.A.units + 9 < cLine) (hw : G.w = some X.w) (h : DE X G k ek fk) (ho : DRd X G o r) (hm : behindInMarks .NotIn o = false := by rfl) (hk : k.le .fz = true := by rfl) : DTs X G (.Compare ek [.NotIn] [o] pos) (trNin fk r) := by
  obtain ⟨tk, pk, ok⟩ := (h.conv hk).ex
  obtain ⟨t, pt, oa⟩ := ho.ex
  refine ⟨_, pt_cmpR (op_nin_dn hu) pk pt hm, fun σ H F fp env c Q R hf q => ?_⟩
  unfold trNin at hf
  cases z : trIn fk r env with
  | none => rw [z] at hf; cases hf
  | some c' =>
    rw [z] at hf; cases hf
    have := trIn_ok (b := true) (Q := Q) oa ok hw R z (fun H' F' E => by rw [Bool.true_xor]; exact q H' F' E)
    simp only [Bool.true_xor] at this
    exact this
def rSort (r : List C → Option T) : List C → Option D := fun env => match r env with
  | some (.n (.q ks) _) => gSorted [.list ks]
  | _ => none
theorem d_rsort (hc : X.calm = true) (hu : X.A.units + 64 < cLine) (hgw : G.w = some X.w) (hg : Gl X "sorted") (hm : X.mg "sorted" = none) (ho : DRd X G o r) (hs1 : starEach [o] X.env = [(false, eval o X.env)] := by rfl) : DE X G .ow (.Call (.Name "sorted" p1) [o] [] pos) (rSort r) := by
  obtain ⟨t, pt, oa⟩ := ho.ex
  refine ⟨_, pe_callB (call_sortQ hc hu) hg hm PyProof.Rows.boot_sorted (pa_cons pt pa_nil hs1) (by decide) (by decide) hs1 rfl, fun σ H F fp env d Q R hf q => ?_⟩
  unfold rSort at hf
  split at hf
  · rename_i ks ts z2
    have hf : (if alikeB ks = true ∧ sortableB ks = true ∧ (ks.all fun d => decide (d.depth ≤ 60)) = true then some (PyData.list (ks.mergeSort (W.dataLe false fun d => d))) else none) = some d := hf
    by_cases hcond : alikeB ks = true ∧ sortableB ks = true ∧ (ks.all fun d => decide (d.depth ≤ 60)) = true
    · rw [if_pos hcond] at hf; cases hf
      refine oa σ H F fp env _ _ R z2 fun v l H1 F1 E1 rep => ?_
      rw [hgw] at rep
      obtain ⟨a, vs, xs, rfl, hH, kq⟩ := or_q rep
      refine ⟨F1, a, xs, ks, rfl, E1.sub, hH, keysQ_mem E1.sub kq, keysQ_refs kq, hcond.1, hcond.2.1, hcond.2.2, fun p ws np hw => ?_⟩
      obtain ⟨E, r'⟩ := new_ow (G := G) E1.sub np hw
      exact q _ _ _ (E1.trans E) (r'.back E1.h)
    · rw [if_neg hcond] at hf; cases hf
  · cases hf
/-- arguments that are read -/
structure DRs (X : Cx) (G : GC) (es : List Expr) (rs : List C → Option (List T)) : Prop where
  ex : ∃ t, PA X es t ∧ ∀ (σ : L2.St) (H F : Hp) (fp : Nat → List Addr) (env : List C) (us : List T) (Q : List V → Hp → Prop), Rel X.K G env σ H F fp → rs env = some us →
    (∀ vs H' F', Ext H F H' F' → W.EachIs (fun v u => ∃ l, OR X.K G.w H' F' v u l) vs us → Q vs H') → t σ H Q
theorem drs_nil : DRs X G [] nsNil := ⟨_, pa_nil, fun σ H F fp env us Q R hf q => by cases hf; exact q [] H F (Ext.refl R.sub) .nil⟩
theorem drs_cons (h : DRd X G e r) (ht : DRs X G es rs) (hs : starEach (e :: es) X.env = (false, eval e X.env) :: starEach es X.env := by rfl) : DRs X G (e :: es) (nsCons r rs) := by
  obtain ⟨t, pt, o⟩ := h.ex
  obtain ⟨t2, pt2, o2⟩ := ht.ex
  refine ⟨_, pa_cons pt pt2 hs, fun σ H F fp env ds Q R hf q => ?_⟩
  unfold nsCons at hf
  split at hf
  · rename_i u z
    split at hf
    · rename_i us z2
      cases hf
      refine o σ H F fp env u _ R z fun v l H1 F1 E1 r1 => ?_
      refine o2 σ H1 F1 fp env us _ (R.ext E1) z2 fun vs H2 F2 E2 r2 => ?_
      exact q (v :: vs) H2 F2 (E1.trans E2) (.cons ⟨l, OR_mono E2.f _ _ _ (fun b o _ => E2.h b o) r1⟩ r2)
    · cases hf
  · cases hf
end
end DL
set_option Elab.async false
set_option linter.all false
set_option maxRecDepth 100000
set_option maxHeartbeats 4000000
/-! DPh: what a def promises that writes its parameters' things, or reads them and makes things -/
namespace DL
open PySem PySem.Spec L2
/-- the arguments: read alone (false), written (true) -/
inductive MA (K : PySem.W.Frag) (ow : Option World) (Kp H F : Hp) : List Bool → List V → List T → List (Addr × List Addr) → Prop
  | nil : MA K ow Kp H F [] [] [] []
  | ro {v : V} {u : T} {l : List Addr} {ks : List Bool} {vs : List V} {us : List T} {ws : List (Addr × List Addr)} : OR K ow Kp F v u l → MA K ow Kp H F ks vs us ws → MA K ow Kp H F (false :: ks) (v :: vs) (u :: us) ws
  | mu {a : Addr} {u : T} {l : List Addr} {ks : List Bool} {vs : List V} {us : List T} {ws : List (Addr × List Addr)} : OR K ow H F (.ref a) u l → MA K ow Kp H F ks vs us ws → MA K ow Kp H F (true :: ks) (.ref a :: vs) (u :: us) ((a, l) :: ws)
/-- what became of them -/
inductive MU (K : PySem.W.Frag) (ow : Option World) (H F : Hp) : List Bool → List V → List T → List (List Addr) → Prop
  | nil : MU K ow H F [] [] [] []
  | ro {v : V} {ks : List Bool} {vs : List V} {us : List T} {ls : List (List Addr)} : MU K ow H F ks vs us ls → MU K ow H F (false :: ks) (v :: vs) us ls
  | mu {a : Addr} {u : T} {l : List Addr} {ks : List Bool} {vs : List V} {us : List T} {ls : List (List Addr)} : OR K ow H F (.ref a) u l → MU K ow H F ks vs us ls → MU K ow H F (true :: ks) (.ref a :: vs) (u :: us) (l :: ls)
def wAll (ws : List (Addr × List Addr)) : List Addr := ws.flatMap (·.2)
def cut (H : Hp) (W : List Addr) : Hp := fun a => if a ∈ W then none else H a
structure PostM (K : PySem.W.Frag) (w : World) (ks : List Bool) (vs : List V) (H F0 : Hp) (ws : List (Addr × List Addr)) (H' F' : Hp) (us' : List T) (ls' : List (List Addr)) (v : V) (r : T) (lr : List Addr) : Prop where
  f : Same F0 F'
  sub : Same F' H'
  nw : ∀ a o, F' a = some o → F0 a = some o ∨ H a = none
  keep : ∀ b o, b ∉ wAll ws → H b = some o → H' b = some o
  al : ∀ b, b ∈ wAll ws → H' b ≠ none
  mu : MU K (some w) H' F' ks vs us' ls'
  sep : W.EachIs (fun (x : Addr × List Addr) (l : List Addr) => ∀ b, b ∈ l → b ∈ x.2 ∨ H b = none) ws ls'
  own : ∀ b, b ∈ ls'.flatten → F' b = none ∧ H' b ≠ none
  nd : (ls'.flatten ++ lr).Nodup
  res : OR K (some w) H' F' v r lr
  new : ∀ b, b ∈ lr → H b = none ∧ F' b = none ∧ H' b ≠ none
def spM (K : PySem.W.Frag) (w : World) (ks : List Bool) (g : List T → Option (List T × T)) : Sp := fun vs H Q _ => ∃ (F0 : Hp) (us : List T) (ws : List (Addr × List Addr)) (us' : List T) (r : T), Same F0 H ∧ MA K (some w) (cut H (wAll ws)) H F0 ks vs us ws ∧ (wAll ws).Nodup ∧ (∀ b, b ∈ wAll ws → F0 b = none ∧ H b ≠ none) ∧
  g us = some (us', r) ∧ ∀ v H' F' ls' lr, PostM K w ks vs H F0 ws H' F' us' ls' v r lr → Q v H'
def spT (K : PySem.W.Frag) (w : World) (n : Nat) (g : List T → Option T) : Sp := fun vs H Q _ => ∃ (F0 : Hp) (us : List T) (r : T), Same F0 H ∧ vs.length = n ∧ W.EachIs (fun v u => ∃ l, OR K (some w) H F0 v u l) vs us ∧ g us = some r ∧
  ∀ v H' F' l, Ext H F0 H' F' → OR K (some w) H' F' v r l → Fresh H H' F' l → Q v H'
def roC (b : Bool) : T → C
  | .d d => .val d
  | u => .ro b u
def cellsM : List Bool → Nat → List T → List C
  | false :: ks, j, u :: us => roC false u :: cellsM ks j us
  | true :: ks, j, u :: us => .own (some j) u :: cellsM ks (j + 1) us
  | _, _, _ => []
def fpM : List Bool → List (Addr × List Addr) → Nat → List Addr
  | true :: _, w :: _, 0 => w.2
  | true :: ks, _ :: ws, i + 1 => fpM ks ws i
  | false :: ks, ws, i + 1 => fpM ks ws i
  | _, _, _ => []
def muSlots : List Bool → Nat → List Nat
  | [], _ => []
  | true :: ks, i => i :: muSlots ks (i + 1)
  | false :: ks, i => muSlots ks (i + 1)
def collectM : List Bool → Nat → Nat → List C → Option (List T)
  | [], _, _, _ => some []
  | false :: ks, i, j, env => collectM ks (i + 1) j env
  | true :: ks, i, j, env => match env[i]? with
    | some (.own (some j') t) => if j' = j then (collectM ks (i + 1) (j + 1) env).map (t :: ·) else none
    | _ => none
def outM (ks : List Bool) : Out → Option (List T × T)
  | .rx env r => (collectM ks 0 0 env).map fun us => (us, r)
  | .nx env => (collectM ks 0 0 env).map fun us => (us, .d .none)
  | _ => none
def runM (ks : List Bool) (N : Nat) (body : List C → Out) : List T → Option (List T × T) := fun us => outM ks (body (cellsM ks 0 us ++ List.replicate (N - us.length) .und))
mutual
/-- no list in it -/
def noL : D → Bool
  | .list _ => false
  | .tuple ds => noLs ds
  | _ => true
def noLs : List D → Bool
  | [] => true
  | d :: ds => noL d && noLs ds
end
mutual
def noT : T → Bool
  | .d x => noL x
  | .n (.q _) _ => false
  | .n _ ts => noTs ts
def noTs : List T → Bool
  | [] => true
  | t :: ts => noT t && noTs ts
end
def outT : Out → Option T
  | .rx _ r => if noT r = true then some r else none
  | .nx _ => some (.d .none)
  | _ => none
def runT (N : Nat) (body : List C → Out) : List T → Option T := fun us => outT (body (us.map (roC true) ++ List.replicate (N - us.length) .und))
section
variable {K : PySem.W.Frag} {ow : Option World} {Kp H F H' F' : Hp} {ks : List Bool} {vs : List V} {us us' : List T} {ws : List (Addr × List Addr)}
theorem MA.len (h : MA K ow Kp H F ks vs us ws) : vs.length = ks.length ∧ us.length = ks.length := by
  induction h with
  | nil => exact ⟨rfl, rfl⟩
  | ro _ _ ih => simp [ih.1, ih.2]
  | mu _ _ ih => simp [ih.1, ih.2]
theorem cellsM_len (h : MA K ow Kp H F ks vs us ws) : ∀ j, (cellsM ks j us).length = vs.length := by
  induction h with
  | nil => intro j; rfl
  | ro _ _ ih => intro j; simp [cellsM, ih]
  | mu _ _ ih => intro j; simp [cellsM, ih]
theorem MA.slots {G : GC} (h : MA K G.w G.kp H F ks vs us ws) (sub : Same F H) (kp : Same G.kp H) : ∀ j, (∀ (k : Nat) (x : Addr × List Addr), ws[k]? = some x → G.Ws[j + k]? = some x) → ∀ (i : Nat) (c : C), (cellsM ks j us)[i]? = some c → SlotRep K G H F ((vs.map some)[i]?.join) c (fpM ks ws i) := by
  induction h with
  | nil => intro j _ i c e; simp [cellsM] at e
  | @ro v u l ks vs us ws r _ ih =>
    intro j hw i c e
    cases i with
    | zero =>
      simp [cellsM] at e; subst e
      cases u with
      | d x =>
        cases r with
        | d r => exact ⟨rfl, v, rfl, r⟩
      | n s ts => exact ⟨rfl, v, l, rfl, r, fun h => nomatch h⟩
    | succ i => simpa [fpM] using ih j hw i c (by simpa [cellsM] using e)
  | @mu a u l ks vs us ws r _ ih =>
    intro j hw i c e
    cases i with
    | zero =>
      simp [cellsM] at e; subst e
      exact ⟨.ref a, rfl, r, fun j' hj => by cases hj; exact ⟨a, l, hw 0 _ rfl, rfl, fun b hb => .inl hb⟩⟩
    | succ i => simpa [fpM] using ih (j + 1) (fun k x e => by have := hw (k + 1) x (by simpa using e); rwa [Nat.add_assoc, Nat.add_comm 1 k]) i c (by simpa [cellsM] using e)
theorem MA.fp_own (h : MA K ow Kp H F ks vs us ws) : ∀ (j i : Nat) (b : Addr), b ∈ fpM ks ws i → b ∈ wAll ws ∧ ∃ c, (cellsM ks j us)[i]? = some c ∧ c.mu = true := by
  induction h with
  | nil => intro j i b hb; simp [fpM] at hb
  | ro _ _ ih =>
    intro j i b hb
    cases i with
    | zero => simp [fpM] at hb
    | succ i => obtain ⟨h1, c, h2, h3⟩ := ih j i b (by simpa [fpM] using hb); exact ⟨h1, c, by simpa [cellsM] using h2, h3⟩
  | @mu a u l ks vs us ws r _ ih =>
    intro j i b hb
    cases i with
    | zero => exact ⟨by simp [wAll]; exact .inl (by simpa [fpM] using hb), _, by simp [cellsM]; rfl, rfl⟩
    | succ i => obtain ⟨h1, c, h2, h3⟩ := ih (j + 1) i b (by simpa [fpM] using hb); exact ⟨by simp [wAll] at h1 ⊢; exact .inr h1, c, by simpa [cellsM] using h2, h3⟩
theorem MA.fp_dj (h : MA K ow Kp H F ks vs us ws) : (wAll ws).Nodup → ∀ (i j : Nat) (b : Addr), b ∈ fpM ks ws i → b ∈ fpM ks ws j → i = j := by
  induction h with
  | nil => intro _ i j b hb; simp [fpM] at hb
  | ro _ _ ih =>
    intro nd i j b h1 h2
    cases i with
    | zero => simp [fpM] at h1
    | succ i =>
      cases j with
      | zero => simp [fpM] at h2
      | succ j => rw [ih nd i j b (by simpa [fpM] using h1) (by simpa [fpM] using h2)]
  | @mu a u l ks vs us ws r m ih =>
    intro nd i j b h1 h2
    have nd' : (l ++ wAll ws).Nodup := by simpa [wAll] using nd
    rw [List.nodup_append] at nd'
    cases i with
    | zero =>
      cases j with
      | zero => rfl
      | succ j => exact absurd rfl (nd'.2.2 b (by simpa [fpM] using h1) b (m.fp_own 0 j b (by simpa [fpM] using h2)).1)
    | succ i =>
      cases j with
      | zero => exact absurd rfl (nd'.2.2 b (by simpa [fpM] using h2) b (m.fp_own 0 i b (by simpa [fpM] using h1)).1)
      | succ j => rw [ih nd'.2.1 i j b (by simpa [fpM] using h1) (by simpa [fpM] using h2)]
theorem muSlots_ge : ∀ (ks : List Bool) (i j : Nat), j ∈ muSlots ks i → i ≤ j
  | [], i, j, h => by simp [muSlots] at h
  | true :: ks, i, j, h => by
    rcases List.mem_cons.mp h with rfl | h
    · exact Nat.le_refl _
    · have := muSlots_ge ks (i + 1) j h; omega
  | false :: ks, i, j, h => by have := muSlots_ge ks (i + 1) j h; omega
theorem muSlots_nd : ∀ (ks : List Bool) (i : Nat), (muSlots ks i).Nodup
  | [], i => List.nodup_nil
  | true :: ks, i => by
    unfold muSlots
    rw [List.nodup_cons]
    exact ⟨fun h => by have := muSlots_ge ks (i + 1) i h; omega, muSlots_nd ks (i + 1)⟩
  | false :: ks, i => muSlots_nd ks (i + 1)
theorem MA.exit {G : GC} {env : List C} {σ : L2.St} {H2 F2 : Hp} {fp : Nat → List Addr} (h : MA K ow Kp H F ks vs us ws) (R : Rel K G env σ H2 F2 fp) : ∀ (i j : Nat) (us' : List T), (∀ (k : Nat) (x : Addr × List Addr), ws[k]? = some x → G.Ws[j + k]? = some x) → collectM ks i j env = some us' →
    MU K G.w H2 F2 ks vs us' ((muSlots ks i).map fp) ∧ W.EachIs (fun (x : Addr × List Addr) (l : List Addr) => ∀ b, b ∈ l → b ∈ x.2 ∨ G.H0 b = none) ws ((muSlots ks i).map fp) := by
  induction h with
  | nil => intro i j us' _ e; cases e; exact ⟨.nil, .nil⟩
  | ro _ _ ih =>
    intro i j us' hw e
    obtain ⟨h1, h2⟩ := ih (i + 1) j us' hw (by simpa [collectM] using e)
    exact ⟨.ro h1, h2⟩
  | @mu a u l ks vs us ws r m ih =>
    intro i j us' hw e
    unfold collectM at e
    split at e
    · rename_i j' t e1
      split at e
      · rename_i hj
        subst hj
        cases z : collectM ks (i + 1) (j' + 1) env with
        | none => rw [z] at e; cases e
        | some us2 =>
          rw [z] at e; cases e
          obtain ⟨h1, h2⟩ := ih (i + 1) (j' + 1) us2 (fun k x e => by have := hw (k + 1) x (by simpa using e); rwa [Nat.add_assoc, Nat.add_comm 1 k]) z
          obtain ⟨v, s1, s2, s3⟩ := slot_own R e1
          obtain ⟨ra, rl, w1, w2, w3⟩ := s3 j' rfl
          have := hw 0 _ rfl
          rw [Nat.add_zero, w1] at this
          cases this
          subst w2
          exact ⟨.mu s2 h1, .cons w3 h2⟩
      · cases e
    · cases e
theorem cut_nil (H : Hp) : cut H [] = H := by funext a; exact if_neg List.not_mem_nil
/-- at the start -/
theorem rel_startM {w : World} {N : List Str} {F0 : Hp} (sub : Same F0 H) (m : MA K (some w) (cut H (wAll ws)) H F0 ks vs us ws) (nd : (wAll ws).Nodup) (al : ∀ b, b ∈ wAll ws → F0 b = none ∧ H b ≠ none) :
    Rel K ⟨H, F0, ws, some w⟩ (cellsM ks 0 us ++ List.replicate (N.length - us.length) .und) (L2.start N vs) H F0 (fpM ks ws) := by
  have l1 := cellsM_len m 0
  obtain ⟨m1, m2⟩ := m.len
  have kp : Same (GC.kp ⟨H, F0, ws, some w⟩) H := fun a o e => by
    unfold GC.kp at e
    split at e
    · cases e
    · exact e
  have hk : cut H (wAll ws) = GC.kp ⟨H, F0, ws, some w⟩ := rfl
  have sl := MA.slots (G := ⟨H, F0, ws, some w⟩) m sub kp 0 (fun k x e => by rw [Nat.zero_add]; exact e)
  exact {
    len := by
      unfold L2.start
      rw [List.length_append, List.length_append, List.length_replicate, List.length_replicate, List.length_map, l1, m1, m2]
    slot := fun i c e => by
      by_cases hi : i < (cellsM ks 0 us).length
      · rw [List.getElem?_append_left hi] at e
        unfold L2.start
        rw [List.getElem?_append_left (by rw [List.length_map, ← l1]; exact hi)]
        exact sl i c e
      · rw [List.getElem?_append_right (by omega), List.getElem?_replicate] at e
        split at e
        · cases e
          show fpM ks ws i = []
          cases q : fpM ks ws i with
          | nil => rfl
          | cons b l =>
            obtain ⟨_, c, h2, _⟩ := m.fp_own 0 i b (by rw [q]; simp)
            exact absurd (List.getElem?_eq_some_iff.mp h2).1 hi
        · cases e
    dj := fun i j b h1 h2 => m.fp_dj nd i j b h1 h2
    own := fun i b hb => by
      obtain ⟨h1, c, h2, h3⟩ := m.fp_own 0 i b hb
      obtain ⟨g1, g2⟩ := al b h1
      refine ⟨g1, g2, .inr ⟨h1, c, ?_, h3⟩⟩
      rw [List.getElem?_append_left (List.getElem?_eq_some_iff.mp h2).1]
      exact h2
    sub := sub
    new := fun _ _ e => .inl e
    old := Same.refl _
    keep := fun _ _ e _ => e
    alive := fun _ e => e }
theorem slots_nd {G : GC} {env : List C} {σ : L2.St} {fp : Nat → List Addr} (R : Rel K G env σ H F fp) {ls : List (List Addr)} (hm : MU K ow H' F' ks vs us' ls) : ∀ (L : List Nat), L.Nodup → (∀ i, i ∈ L → (fp i).Nodup) → (L.map fp).flatten.Nodup
  | [], _, _ => List.nodup_nil
  | i :: L, nd, h => by
    rw [List.nodup_cons] at nd
    rw [List.map_cons, List.flatten_cons, List.nodup_append]
    refine ⟨h i (List.mem_cons_self ..), slots_nd R hm L nd.2 (fun j hj => h j (List.mem_cons_of_mem _ hj)), fun a ha b hb e => ?_⟩
    subst e
    obtain ⟨l, hl, hal⟩ := List.mem_flatten.mp hb
    obtain ⟨j, hj, rfl⟩ := List.mem_map.mp hl
    have := R.dj i j a ha hal
    subst this
    exact nd.1 hj
theorem MU.nodup : ∀ {ks : List Bool} {vs : List V} {us : List T} {ls : List (List Addr)}, MU K ow H F ks vs us ls → ∀ l, l ∈ ls → l.Nodup
  | _, _, _, _, .nil, _, h => nomatch h
  | _, _, _, _, .ro m, l, h => MU.nodup m l h
  | _, _, _, _, .mu r m, l, h => by
    rcases List.mem_cons.mp h with rfl | h
    · exact r.nodup
    · exact MU.nodup m l h
end
section
variable {P : Program} {w : World} {K : PySem.W.Frag} {mg : Str → Option Value} {base : Heap}
theorem fn_mu {x qual : Str} {st : Stmt} {f : Addr} {fd : FuncData} {N ps : List Str} {k : Nat} {ks : List Bool} {body : List C → Out} (F : Fun K x qual st f fd) (S : FnScope N ps (defScope st)) (hl : ks.length = ps.length)
    (hbody : ∀ (cdv : Value) (A : Around) (outer : List Env) (s : Shared) (H : Hp) (E : XK) (G : GC), Room k (A.deeper (PyProof.Rows.envOfC qual (defScope st) s.heap.objs.size f cdv)) → G.w = some w →
      DSs (cxOf CX0 P w K mg base N qual (defScope st) f cdv A outer s H E).nox G .fz (defBody st) body) : FnOk P w K mg base CX0 (k + 1) f fd ps (spM K w ks (runM ks N.length body)) := by
  refine F.ok S (fun vs H Q E h => ?_) (fun cdv A outer s H vs Q E hr h => ?_)
  · obtain ⟨F0, us, ws, us', r, sub, m, _⟩ := h
    rw [m.len.1, hl]
  · obtain ⟨F0, us, ws, us', r, sub, m, nd, al, hg, q⟩ := h
    obtain ⟨t, pt, o⟩ := (hbody cdv A outer s H E ⟨H, F0, ws, some w⟩ hr rfl).ex
    refine ⟨t, pt, o _ H F0 _ _ _ (rel_startM (N := N) sub m nd al) ?_⟩
    unfold runM at hg
    have fin : ∀ (env' : List C) (σ' : L2.St) (H' F' : Hp) (fp' : Nat → List Addr) (v : V) (lr : List Addr), Rel K ⟨H, F0, ws, some w⟩ env' σ' H' F' fp' → New K ⟨H, F0, ws, some w⟩ H' F' fp' v r lr → collectM ks 0 0 env' = some us' → Q v H' := fun env' σ' H' F' fp' v lr R n hc => by
      obtain ⟨e1, e2⟩ := m.exit R 0 0 us' (fun k x e => by rw [Nat.zero_add]; exact e) hc
      have inF : ∀ b, b ∈ ((muSlots ks 0).map fp').flatten → ∃ i, b ∈ fp' i := fun b hb => by
        obtain ⟨l, hl, hb⟩ := List.mem_flatten.mp hb
        obtain ⟨i, _, rfl⟩ := List.mem_map.mp hl
        exact ⟨i, hb⟩
      refine q v H' F' _ lr { f := R.old, sub := R.sub, nw := R.new, keep := fun b o hb e => R.keep b o e hb, al := fun b hb => R.alive b (al b hb).2, mu := e1, sep := e2, own := fun b hb => ?_, nd := ?_, res := n.rep, new := fun b hb => ⟨(n.own b hb).2.2, (n.own b hb).1, (n.own b hb).2.1⟩ }
      · obtain ⟨i, hi⟩ := inF b hb
        exact ⟨(R.own i b hi).1, (R.own i b hi).2.1⟩
      · rw [List.nodup_append]
        refine ⟨slots_nd R e1 _ (muSlots_nd ks 0) (fun i hi => e1.nodup _ (List.mem_map.mpr ⟨i, hi, rfl⟩)), n.rep.nodup, fun a ha b hb e => ?_⟩
        subst e
        obtain ⟨i, hi⟩ := inF a ha
        exact n.dj a hb i hi
    unfold outM at hg
    split at hg
    · rename_i env' r' e
      rw [e]
      cases z : collectM ks 0 0 env' with
      | none => rw [z] at hg; cases hg
      | some us2 =>
        rw [z] at hg; cases hg
        exact fun v σ' H' F' fp' l R n => fin env' σ' H' F' fp' v l R n z
    · rename_i env' e
      rw [e]
      cases z : collectM ks 0 0 env' with
      | none => rw [z] at hg; cases hg
      | some us2 =>
        rw [z] at hg; cases hg
        exact fun σ' H' F' fp' R s => fin env' σ' H' F' fp' .non [] R (new_d .non) z
    · cases hg
theorem mu_ro {H F : Hp} : ∀ {n : Nat} {vs : List V} {us : List T} {ls : List (List Addr)}, MU K (some w) H F (List.replicate n false) vs us ls → us = [] ∧ ls = []
  | 0, _, _, _, h => by
    have h : MU K (some w) H F [] _ _ _ := h
    cases h; exact ⟨rfl, rfl⟩
  | n + 1, _, _, _, h => by
    rw [List.replicate_succ] at h
    cases h with
    | ro h => exact mu_ro h
theorem collect_ro : ∀ (n i j : Nat) (env : List C), collectM (List.replicate n false) i j env = some []
  | 0, _, _, _ => rfl
  | n + 1, i, j, env => by rw [List.replicate_succ]; exact collect_ro n (i + 1) j env
mutual
theorem DF_off {F F' : Hp} (h : ∀ a o, F a = some o → F' a = some o ∨ ∃ vs, o = .lst vs) : ∀ (d : D) (v : V), noL d = true → DF K F v d → DF K F' v d
  | .none, _, _, r => by cases r; exact .non
  | .bool b, _, _, r => by cases r; exact .bl b
  | .int i, _, _, r => by cases r; exact .int i
  | .str x, _, _, r => by cases r; exact .str x
  | .list ds, _, n, _ => by cases n
  | .tuple ds, _, n, r => by
    cases r with
    | @tup a xs _ hs ha =>
      refine .tup ?_ (DFAll_off h ds _ n ha)
      rcases hs with (hs | ⟨o, hs⟩) | hs
      · rcases h _ _ hs with z | ⟨vs, z⟩
        · exact .inl (.inl z)
        · cases z
      · rcases h _ _ hs with z | ⟨vs, z⟩
        · exact .inl (.inr ⟨o, z⟩)
        · cases z
      · exact .inr hs
  | .dict _, _, _, r => by cases r
theorem DFAll_off {F F' : Hp} (h : ∀ a o, F a = some o → F' a = some o ∨ ∃ vs, o = .lst vs) : ∀ (ds : List D) (vs : List V), noLs ds = true → DFAll K F vs ds → DFAll K F' vs ds
  | [], _, _, r => by cases r; exact .nil
  | d :: ds, _, n, r => by
    unfold noLs at n
    rw [Bool.and_eq_true] at n
    cases r with
    | cons r1 r2 => exact .cons (DF_off h d _ n.1 r1) (DFAll_off h ds _ n.2 r2)
end
mutual
theorem OR_off {ow : Option World} {H F F' : Hp} (h : ∀ a o, F a = some o → F' a = some o ∨ ∃ vs, o = .lst vs) : ∀ (t : T) (v : V) (l : List Addr), noT t = true → OR K ow H F v t l → OR K ow H F' v t l
  | .d d, _, _, n, r => by
    cases r with
    | d r => exact .d (DF_off h _ _ n r)
  | .n s ts, _, _, n, r => by
    cases r with
    | n r1 r2 r3 =>
      cases s with
      | l => exact .n r1 (ORs_off h ts _ _ (by simpa [noT] using n) r2) r3
      | t =>
        refine .n ?_ (ORs_off h ts _ _ (by simpa [noT] using n) r2) r3
        rcases r1 with r1 | ⟨r0, r1⟩
        · exact .inl r1
        · refine .inr ⟨r0, ?_⟩
          rcases r1 with (hs | ⟨o, hs⟩) | hs
          · rcases h _ _ hs with z | ⟨vs, z⟩
            · exact .inl (.inl z)
            · cases z
          · rcases h _ _ hs with z | ⟨vs, z⟩
            · exact .inl (.inr ⟨o, z⟩)
            · cases z
          · exact .inr hs
      | k ks => exact .n r1 (ORs_off h ts _ _ (by simpa [noT] using n) r2) r3
      | q ks => simp [noT] at n
      | o c fs => exact .n r1 (ORs_off h ts _ _ (by simpa [noT] using n) r2) r3
theorem ORs_off {ow : Option World} {H F F' : Hp} (h : ∀ a o, F a = some o → F' a = some o ∨ ∃ vs, o = .lst vs) : ∀ (ts : List T) (vs : List V) (l : List Addr), noTs ts = true → ORs K ow H F vs ts l → ORs K ow H F' vs ts l
  | [], _, _, _, r => by cases r; exact .nil
  | t :: ts, _, _, n, r => by
    unfold noTs at n
    rw [Bool.and_eq_true] at n
    cases r with
    | cons r1 r2 => exact .cons (OR_off h t _ _ n.1 r1) (ORs_off h ts _ _ n.2 r2)
end
/-- all lists stand as frozen for the def's time -/
def frzL (H F : Hp) : Hp := fun a => match F a with
  | some o => some o
  | none => match H a with | some (.lst vs) => some (.lst vs) | _ => none
theorem frzL_sub {H F : Hp} (sub : Same F H) : Same F (frzL H F) ∧ Same (frzL H F) H ∧ ∀ a vs, H a = some (.lst vs) → frzL H F a = some (.lst vs) := by
  refine ⟨fun a o e => ?_, fun a o e => ?_, fun a vs e => ?_⟩
  · unfold frzL; rw [e]
  · unfold frzL at e
    cases q : F a with
    | some o' => rw [q] at e; cases e; exact sub _ _ q
    | none =>
      rw [q] at e
      cases z : H a with
      | none => rw [z] at e; cases e
      | some u => rw [z] at e; cases u <;> first | (cases e; rfl) | cases e
  · unfold frzL
    cases q : F a with
    | some o' => have := sub _ _ q; rw [e] at this; cases this; rfl
    | none => simp only [e]
theorem ro_slots {G : GC} {F1 H : Hp} (hk : G.kp = H) (sub : Same F1 H) : ∀ {vs : List V} {us : List T}, W.EachIs (fun v u => ∃ l, OR K G.w H F1 v u l) vs us → ∀ (i : Nat) (c : C), (us.map (roC true))[i]? = some c → SlotRep K G H (frzL H F1) ((vs.map some)[i]?.join) c []
  | _, _, .nil, i, c, e => by simp at e
  | v :: vs, u :: us, .cons ⟨l, r⟩ t, 0, c, e => by
    simp at e; subst e
    obtain ⟨f, _, fl⟩ := frzL_sub sub
    cases u with
    | d x =>
      cases r with
      | d r => exact ⟨rfl, v, rfl, DF_mono f _ _ r⟩
    | n s ts => exact ⟨rfl, v, l, rfl, by rw [hk]; exact OR_mono f _ _ _ (fun _ _ _ h => h) r, fun _ a ws ha hw => fl a ws (by rw [hk] at hw; exact hw)⟩
  | v :: vs, u :: us, .cons _ t, i + 1, c, e => by simpa using ro_slots hk sub t i c (by simpa using e)
theorem each_len {R : V → T → Prop} : ∀ {vs : List V} {us : List T}, W.EachIs R vs us → vs.length = us.length
  | _, _, .nil => rfl
  | _, _, .cons _ t => by rw [List.length_cons, List.length_cons, each_len t]
theorem rel_startT {N : List Str} {vs : List V} {us : List T} {H F0 : Hp} (sub : Same F0 H) (ro : W.EachIs (fun v u => ∃ l, OR K (some w) H F0 v u l) vs us) :
    Rel K ⟨H, frzL H F0, [], some w⟩ (us.map (roC true) ++ List.replicate (N.length - us.length) .und) (L2.start N vs) H (frzL H F0) (fun _ => []) := by
  have hk : GC.kp ⟨H, frzL H F0, [], some w⟩ = H := by
    funext a
    unfold GC.kp
    exact if_neg List.not_mem_nil
  have sl := ro_slots (G := ⟨H, frzL H F0, [], some w⟩) hk sub ro
  obtain ⟨_, s2, _⟩ := frzL_sub sub
  have hl := each_len ro
  exact {
    len := by
      unfold L2.start
      rw [List.length_append, List.length_append, List.length_replicate, List.length_replicate, List.length_map, List.length_map, hl]
    slot := fun i c e => by
      by_cases hi : i < (us.map (roC true)).length
      · rw [List.getElem?_append_left hi] at e
        unfold L2.start
        rw [List.getElem?_append_left (by rw [List.length_map] at hi ⊢; omega)]
        exact sl i c e
      · rw [List.getElem?_append_right (by omega), List.getElem?_replicate] at e
        split at e
        · cases e; rfl
        · cases e
    dj := fun _ _ _ h => nomatch h
    own := fun _ _ h => nomatch h
    sub := s2
    new := fun _ _ e => .inl e
    old := Same.refl _
    keep := fun _ _ e _ => e
    alive := fun _ e => e }
def unF (H F0 F' : Hp) : Hp := fun a => match F0 a with
  | some o => some o
  | none => match H a with | some (.lst _) => none | _ => F' a
theorem fn_ro {x qual : Str} {st : Stmt} {f : Addr} {fd : FuncData} {N ps : List Str} {k : Nat} {body : List C → Out} (F : Fun K x qual st f fd) (S : FnScope N ps (defScope st))
    (hbody : ∀ (cdv : Value) (A : Around) (outer : List Env) (s : Shared) (H : Hp) (E : XK) (G : GC), Room k (A.deeper (PyProof.Rows.envOfC qual (defScope st) s.heap.objs.size f cdv)) → G.w = some w →
      DSs (cxOf CX0 P w K mg base N qual (defScope st) f cdv A outer s H E).nox G .fz (defBody st) body) : FnOk P w K mg base CX0 (k + 1) f fd ps (spT K w ps.length (runT N.length body)) := by
  refine F.ok S (fun vs H Q E h => ?_) (fun cdv A outer s H vs Q E hr h => ?_)
  · obtain ⟨F0, us, r, sub, hl, _⟩ := h
    exact hl
  · obtain ⟨F0, us, r, sub, hl, ro, hg, q⟩ := h
    obtain ⟨t, pt, o⟩ := (hbody cdv A outer s H E ⟨H, frzL H F0, [], some w⟩ hr rfl).ex
    refine ⟨t, pt, o _ H _ _ _ _ (rel_startT (N := N) sub ro) ?_⟩
    obtain ⟨s1, s2, s3⟩ := frzL_sub sub
    have fin : ∀ (env' : List C) (σ' : L2.St) (H' F' : Hp) (fp' : Nat → List Addr) (v : V) (l : List Addr), Rel K ⟨H, frzL H F0, [], some w⟩ env' σ' H' F' fp' → New K ⟨H, frzL H F0, [], some w⟩ H' F' fp' v r l → noT r = true → Q v H' := fun env' σ' H' F' fp' v l R n hn => by
      have k1 : ∀ a o, F0 a = some o → F' a = some o := fun a o e => R.old _ _ (s1 _ _ e)
      have off : ∀ a o, F' a = some o → unF H F0 F' a = some o ∨ ∃ vs, o = .lst vs := fun a o e => by
        unfold unF
        cases q : F0 a with
        | some o' => left; rw [k1 a o' q] at e; exact e
        | none =>
          cases z : H a with
          | none => left; exact e
          | some u =>
            cases u with
            | lst ws =>
              right
              have := R.old _ _ (s3 a ws z)
              rw [e] at this; cases this
              exact ⟨ws, rfl⟩
            | _ => left; exact e
      refine q v H' (unF H F0 F') l ⟨fun b o e => R.keep b o e List.not_mem_nil, fun a o e => ?_, fun a o e => ?_, fun a o e => ?_⟩ (OR_off off _ _ _ hn n.rep) (fun b hb => ?_)
      · unfold unF; rw [e]
      · unfold unF at e
        cases q : F0 a with
        | some o' => rw [q] at e; cases e; exact R.sub _ _ (k1 _ _ q)
        | none =>
          rw [q] at e
          cases z : H a with
          | none => rw [z] at e; exact R.sub _ _ e
          | some u => rw [z] at e; cases u <;> first | exact R.sub _ _ e | cases e
      · unfold unF at e
        cases q : F0 a with
        | some o' => rw [q] at e; exact .inl e
        | none =>
          rw [q] at e
          right
          cases z : H a with
          | none => rfl
          | some u =>
            rw [z] at e
            have z2 : ∀ (e : F' a = some o), False ∨ ∃ ws, u = .lst ws := fun e => by
              rcases R.new a o e with y | y
              · have y : frzL H F0 a = some o := y
                unfold frzL at y
                rw [q, z] at y
                cases u <;> first | exact .inr ⟨_, rfl⟩ | cases y
              · have y : H a = none := y
                rw [z] at y; cases y
            cases u with
            | lst ws => cases e
            | _ =>
              rcases z2 e with y | ⟨ws, y⟩
              · exact y.elim
              · cases y
      · obtain ⟨n1, n2, n3⟩ := n.own b hb
        refine ⟨n3, ?_, n2⟩
        unfold unF
        cases q : F0 b with
        | some o' => rw [k1 b o' q] at n1; cases n1
        | none =>
          have n3 : H b = none := n3
          rw [n3]; exact n1
    unfold runT at hg
    unfold outT at hg
    split at hg
    · rename_i env' r' e
      rw [e]
      split at hg <;> cases hg
      rename_i hn
      exact fun v σ' H' F' fp' l R n => fin env' σ' H' F' fp' v l R n hn
    · rename_i env' e
      rw [e]
      cases hg
      exact fun σ' H' F' fp' R s => fin env' σ' H' F' fp' .non [] R (new_d .non) rfl
    · cases hg
end
end DL
set_option Elab.async false
set_option linter.all false
set_option maxRecDepth 100000
set_option maxHeartbeats 4000000
/-! DPi: calls of defs and methods that read or write things of one's own; instances made -/
namespace DL
open PySem PySem.Spec L2
structure CalT (P : Program) (w : World) (K : PySem.W.Frag) (mg : Str → Option Value) (base : Heap) (k : Nat) (x : Str) (n : Nat) (g : List T → Option T) : Prop where
  ex : ∃ (f : Addr) (fd : FuncData) (ps : List Str), FnOk P w K mg base CX0 k f fd ps (spT K w n g) ∧ mg x = some (.ref f) ∧ PySem.W.keepIn K (.ref f) = true ∧ Binds K fd ps []
structure MetT (P : Program) (w : World) (K : PySem.W.Frag) (mg : Str → Option Value) (base : Heap) (k : Nat) (c m : Str) (n : Nat) (g : List T → Option T) : Prop where
  ex : ∃ (C f : Addr) (fd : FuncData) (ps : List Str), PySem.W.nsIn K mainGlobals c = some (some (.ref C)) ∧ Cls K C ∧ Meth K C m f ∧ FnOk P w K mg base CX0 k f fd ps (spT K w n g) ∧ Binds K fd ps []
structure MetM (P : Program) (w : World) (K : PySem.W.Frag) (mg : Str → Option Value) (base : Heap) (k : Nat) (c m : Str) (n : Nat) (g : List T → Option (List T × T)) : Prop where
  ex : ∃ (C f : Addr) (fd : FuncData) (ps : List Str), PySem.W.nsIn K mainGlobals c = some (some (.ref C)) ∧ Cls K C ∧ Meth K C m f ∧ FnOk P w K mg base CX0 k f fd ps (spM K w (true :: List.replicate n false) g) ∧ Binds K fd ps []
structure MakM (P : Program) (w : World) (K : PySem.W.Frag) (mg : Str → Option Value) (base : Heap) (k : Nat) (c : Str) (n : Nat) (g : List T → Option (List T × T)) : Prop where
  ex : ∃ (C f : Addr) (fd : FuncData) (ps : List Str), PySem.W.nsIn K mainGlobals c = some (some (.ref C)) ∧ mg c = some (.ref C) ∧ Mk K C f ∧ FnOk P w K mg base CX0 k f fd ps (spM K w (true :: List.replicate n false) g) ∧ Binds K fd ps []
section
variable {K : PySem.W.Frag} {w : World} {G : GC} {env : List C} {σ : L2.St} {H F H' F' : Hp} {fp : Nat → List Addr}
theorem fIx_none {f : Str} : ∀ {fs : List Str} {vs : List V}, fIx f fs = none → (fs.zip vs).lookup f = none
  | [], _, _ => rfl
  | g :: r, [], _ => rfl
  | g :: r, v :: vs, h => by
    unfold fIx at h
    rw [List.zip_cons_cons, List.lookup_cons]
    by_cases hg : g = f
    · rw [if_pos hg] at h; cases h
    · rw [if_neg hg] at h
      have hb : (f == g) = false := beq_eq_false_iff_ne.mpr (Ne.symm hg)
      rw [hb]
      cases z : fIx f r with
      | some k => rw [z] at h; cases h
      | none => exact fIx_none z
theorem ma_flat {ow : Option World} {Kp : Hp} : ∀ {vs : List V} {us : List T} {ds : List D}, W.EachIs (fun v u => ∃ l, OR K ow H F v u l) vs us → flatT us = some ds → MA K ow Kp H F (List.replicate us.length false) vs us []
  | _, _, _, .nil, _ => .nil
  | _, .d x :: us, ds, .cons ⟨l, r⟩ t, h => by
    unfold flatT at h
    cases z : flatT us with
    | none => rw [z] at h; cases h
    | some ds' =>
      cases r with
      | d r => exact .ro (.d r) (ma_flat t z)
  | _, .n _ _ :: us, _, .cons _ _, h => by cases h
theorem mu_one {n : Nat} {a : Addr} {vs : List V} {us : List T} {ls : List (List Addr)} (h : MU K (some w) H F (true :: List.replicate n false) (.ref a :: vs) us ls) : ∃ u l, us = [u] ∧ ls = [l] ∧ OR K (some w) H F (.ref a) u l := by
  cases h with
  | mu r h =>
    obtain ⟨rfl, rfl⟩ := mu_ro h
    exact ⟨_, _, rfl, rfl, r⟩
/-- behind a call that writes at one place -/
theorem Rel.called {ip : IP} {u r : T} {a : Addr} {lu lr : List Addr} {n : Nat} {vs : List V} {us' : List T} {ls' : List (List Addr)} {v : V} (hw : G.w = some w) (R : Rel K G env σ H F fp) (P : Place K G env σ H F fp ip u (.ref a) lu)
    (p : PostM K w (true :: List.replicate n false) (.ref a :: vs) H F [(a, lu)] H' F' us' ls' v r lr) : ∃ u' fp', us' = [u'] ∧ Rel K G (putAt env ip u') σ H' F' fp' ∧ New K G H' F' fp' v r lr := by
  obtain ⟨u', l', rfl, rfl, rep⟩ := mu_one p.mu
  have hwa : wAll [(a, lu)] = lu := by simp [wAll]
  have sep : ∀ b, b ∈ l' → b ∈ lu ∨ H b = none := by
    cases p.sep with
    | cons h _ => exact h
  have own : ∀ b, b ∈ l' → F' b = none ∧ H' b ≠ none := fun b hb => p.own b (by simpa using hb)
  have nd : (l' ++ lr).Nodup := by simpa using p.nd
  have fr : ∀ b, H b = none → (∀ j, b ∉ fp j) := fun b hb j hj => (R.own j b hj).2.1 hb
  obtain ⟨fp', R', q1, q2⟩ := R.write2 P (H' := H') (F' := F') (u' := u') (lu' := l') p.f p.sub p.nw (fun b o hb e => p.keep b o (by rw [hwa]; exact hb) e) (fun b hb => p.al b (by rw [hwa]; exact hb)) (by rw [hw]; exact rep)
    (fun b hb => ⟨(sep b hb).imp_right fun z => ⟨fr b z, R.h0 z⟩, own b hb⟩)
  refine ⟨u', fp', rfl, R', ⟨by rw [hw]; exact p.res, fun b hb => ⟨(p.new b hb).2.1, (p.new b hb).2.2, R.h0 (p.new b hb).1⟩, fun b hb j hj => ?_⟩⟩
  have hbn := (p.new b hb).1
  by_cases hji : j = ip.1
  · subst hji
    rcases q2 b hj with z | z
    · exact fr b hbn _ z
    · rw [List.nodup_append] at nd
      exact nd.2.2 b z b hb rfl
  · rw [q1 j hji] at hj
    exact fr b hbn j hj
end
section
variable {X : Cx} {G : GC} {kr k k2 : RK} {e ei ek o : Expr} {es : List Expr} {f fi fk fe : List C → Option D} {r : List C → Option T} {rs : List C → Option (List T)} {gp : List C → Option IP} {pos p1 p2 p3 pos' p apos : Pos} {n lv : Nat} {c m x : Str}
/-- f(..), all arguments read -/
def nCall (g : List T → Option T) (rs : List C → Option (List T)) : List C → Option T := fun env => (rs env).bind g
theorem dn_callT {g : List T → Option T} (cal : CalT X.prog X.w X.K X.mg X.base lv x n g) (hw : G.w = some X.w) (hr : Room lv X.A) (hg : Gl X x) (h : DRs X G (e :: es) rs) (hn : (e :: es).length = n := by rfl) (hdb : (x == ("__debug__" : Str)) = false := by decide)
    (hl : ∀ env us, rs env = some us → us.length = n) (he : starEach (e :: es) X.env = (false, eval e X.env) :: starEach es X.env := by rfl) (hpl : (backTo pos (starEach es X.env)).any (·.1) = false := by rfl) : DN X G (.Call (.Name x p) (e :: es) [] pos) (nCall g rs) := by
  obtain ⟨fa, fd, ps, F, hm, kp, b⟩ := cal.ex
  obtain ⟨t, pt, oa⟩ := h.ex
  refine ⟨_, pe_call F hr hg hm kp b .nil pass0 pt hdb he hpl, fun σ H F fp env u Q R hf q => ?_⟩
  unfold nCall at hf
  cases z : rs env with
  | none => rw [z] at hf; cases hf
  | some us =>
    rw [z] at hf
    refine oa σ H F fp env us _ R z fun vs H1 F1 E1 r1 => ?_
    rw [List.append_nil]
    rw [hw] at r1
    exact ⟨F1, us, u, E1.sub, by rw [each_len r1]; exact hl _ _ z, r1, hf, fun v H' F' l E ro fr => q v H' F' l (E1.trans E) (by rw [hw]; exact ro) (fr.back E1.h)⟩
/-- o.m(..), o and the arguments read -/
def nMeth (c m : Str) (g : List T → Option T) (r : List C → Option T) (rs : List C → Option (List T)) : List C → Option T := fun env => match r env with
  | some (.n (.o c' fs) ts) => if c' = c ∧ fIx m fs = none then (match rs env with | some us => g (.n (.o c fs) ts :: us) | none => none) else none
  | _ => none
theorem dn_meth {g : List T → Option T} {pl : Sem Bool} (met : MetT X.prog X.w X.K X.mg X.base lv c m (n + 1) g) (hw : G.w = some X.w) (hr : Room lv X.A) (ho : DRd X G o r) (h : DRs X G (e :: es) rs) (hl : ∀ env us, rs env = some us → us.length = n) (hst : starEach (e :: es) X.env = (false, eval e X.env) :: starEach es X.env := by rfl) (hpl : (backTo pos (starEach es X.env)).any (·.1) = false := by rfl)
    (ht : eval (.Call (.Attribute o m apos) (e :: es) [] pos) X.env = (do
      let ov ← eval o X.env
      standAt apos.atName
      let (f, first) ← holding [ov] (getMethod ov m pl)
      callWith pos f first (backTo pos (starEach (e :: es) X.env)) (backToKw pos (keywordEach [] X.env))) := by rfl) : DN X G (.Call (.Attribute o m apos) (e :: es) [] pos) (nMeth c m g r rs) := by
  obtain ⟨C', fa, fd, ps, nC, cls, me, F, b⟩ := met.ex
  obtain ⟨t, pt, oo⟩ := ho.ex
  obtain ⟨ta, pa, oa⟩ := h.ex
  refine ⟨_, pe_meth (E := fun _ _ _ => True) pt cls me F hr b .nil pass0 pa hst hpl ht, fun σ H F fp env u Q R hf q => ?_⟩
  unfold nMeth at hf
  split at hf
  · rename_i c' fs ts z
    split at hf
    · rename_i hc
      obtain ⟨rfl, hnone⟩ := hc
      split at hf
      · rename_i us z2
        refine oo σ H F fp env _ _ R z fun v l H1 F1 E1 rep => ?_
        have rep0 := rep
        cases rep with
        | @n _ a vs _ own l0 r1 r2 r3 =>
          obtain ⟨hlv, C2, dx, rfl, n1, n2, n3⟩ := r1
          rw [nC] at n1; cases n1
          refine ⟨a, dx, _, rfl, n2, fIx_none hnone, oa σ H1 F1 fp env us _ (R.ext E1) z2 fun vs2 H2 F2 E2 ra => ?_⟩
          rw [List.append_nil]
          rw [hw] at ra rep0
          refine ⟨F2, _ :: us, u, E2.sub, by rw [List.length_cons, each_len ra, hl _ _ z2], .cons ⟨_, OR_mono E2.f _ _ _ (fun b o _ => E2.h b o) rep0⟩ ra, hf, fun v H' F' l E ro fr => ?_⟩
          exact q v H' F' l ((E1.trans E2).trans E) (by rw [hw]; exact ro) (fr.back (E1.h.trans E2.h))
      · cases hf
    · cases hf
  · cases hf
theorem dn_meth0 {g : List T → Option T} {pl : Sem Bool} (met : MetT X.prog X.w X.K X.mg X.base lv c m 1 g) (hw : G.w = some X.w) (hr : Room lv X.A) (ho : DRd X G o r)
    (ht : eval (.Call (.Attribute o m apos) [] [] pos) X.env = (do
      let ov ← eval o X.env
      standAt apos.atName
      let (f, first) ← holding [ov] (getMethod ov m pl)
      callWith pos f first (backTo pos (starEach [] X.env)) (backToKw pos (keywordEach [] X.env))) := by rfl) : DN X G (.Call (.Attribute o m apos) [] [] pos) (nMeth c m g r nsNil) := by
  obtain ⟨C', fa, fd, ps, nC, cls, me, F, b⟩ := met.ex
  obtain ⟨t, pt, oo⟩ := ho.ex
  refine ⟨_, pe_meth0 (E := fun _ _ _ => True) pt cls me F hr b .nil pass0 ht, fun σ H F fp env u Q R hf q => ?_⟩
  unfold nMeth at hf
  split at hf
  · rename_i c' fs ts z
    split at hf
    · rename_i hc
      obtain ⟨rfl, hnone⟩ := hc
      refine oo σ H F fp env _ _ R z fun v l H1 F1 E1 rep => ?_
      have rep0 := rep
      cases rep with
      | @n _ a vs _ own l0 r1 r2 r3 =>
        obtain ⟨hlv, C2, dx, rfl, n1, n2, n3⟩ := r1
        rw [nC] at n1; cases n1
        refine ⟨a, dx, _, rfl, n2, fIx_none hnone, ?_⟩
        show spT X.K X.w 1 g [.ref a] H1 Q (fun _ _ _ => True)
        rw [hw] at rep0
        exact ⟨F1, [_], u, E1.sub, rfl, .cons ⟨_, rep0⟩ .nil, hf, fun v H' F' l E ro fr => q v H' F' l (E1.trans E) (by rw [hw]; exact ro) (fr.back E1.h)⟩
    · cases hf
  · cases hf
/-- P.m(..), P written, the arguments frozen -/
def xMeth (c m : Str) (g : List T → Option (List T × T)) (gp : List C → Option IP) (rs : List C → Option (List T)) : List C → Option (List C × T) := fun env => match gp env with
  | some ip => (match nodeAt env ip with
    | some (.n (.o c' fs) ts) => if c' = c ∧ fIx m fs = none then (match rs env with
      | some us => (match flatT us, g (.n (.o c fs) ts :: us) with
        | some _, some ([u'], y) => some (putAt env ip u', y)
        | _, _ => none)
      | none => none) else none
    | _ => none)
  | none => none
theorem spM_one {K : PySem.W.Frag} {w : World} {G : GC} {env : List C} {σ : L2.St} {H F : Hp} {fp : Nat → List Addr} {ip : IP} {u y : T} {u' : T} {a : Addr} {lu : List Addr} {vs : List V} {us : List T} {g : List T → Option (List T × T)} {Q : VK} {E : XK} {ds : List D} (hw : G.w = some w) (R : Rel K G env σ H F fp) (P : Place K G env σ H F fp ip u (.ref a) lu)
    (ra : W.EachIs (fun v u => ∃ l, OR K (some w) H F v u l) vs us) (hfl : flatT us = some ds) (hg : g (u :: us) = some ([u'], y)) (q : ∀ v H' F' fp' l, Rel K G (putAt env ip u') σ H' F' fp' → Same F F' → New K G H' F' fp' v y l → Q v H') :
    spM K w (true :: List.replicate us.length false) g (.ref a :: vs) H Q E := by
  have hrep := P.rep
  rw [hw] at hrep
  have hwa : wAll [(a, lu)] = lu := by simp [wAll]
  refine ⟨F, u :: us, [(a, lu)], [u'], y, R.sub, .mu hrep (ma_flat ra hfl), by rw [hwa]; exact hrep.nodup, fun b hb => ?_, hg, fun v H' F' ls' lr p => ?_⟩
  · rw [hwa] at hb
    exact ⟨(R.own ip.1 b (P.mem hb)).1, (R.own ip.1 b (P.mem hb)).2.1⟩
  · obtain ⟨u2, fp', eu, R', n⟩ := R.called hw P p
    cases eu
    exact q v H' F' fp' lr R' p.f n
theorem dx_meth {g : List T → Option (List T × T)} {pl : Sem Bool} (met : MetM X.prog X.w X.K X.mg X.base lv c m n g) (hw : G.w = some X.w) (hr : Room lv X.A) (ho : DPl X G o gp) (h : DRs X G (e :: es) rs) (hl : ∀ env us, rs env = some us → us.length = n) (hst : starEach (e :: es) X.env = (false, eval e X.env) :: starEach es X.env := by rfl) (hpl : (backTo pos (starEach es X.env)).any (·.1) = false := by rfl)
    (ht : eval (.Call (.Attribute o m apos) (e :: es) [] pos) X.env = (do
      let ov ← eval o X.env
      standAt apos.atName
      let (f, first) ← holding [ov] (getMethod ov m pl)
      callWith pos f first (backTo pos (starEach (e :: es) X.env)) (backToKw pos (keywordEach [] X.env))) := by rfl) : DX X G (.Call (.Attribute o m apos) (e :: es) [] pos) (xMeth c m g gp rs) := by
  obtain ⟨C', fa, fd, ps, nC, cls, me, F, b⟩ := met.ex
  obtain ⟨t, pt, oo⟩ := ho.ex
  obtain ⟨ta, pa, oa⟩ := h.ex
  refine ⟨_, pe_meth (E := fun _ _ _ => True) pt cls me F hr b .nil pass0 pa hst hpl ht, fun σ H F fp env env' u Q R hf q => ?_⟩
  unfold xMeth at hf
  split at hf
  · rename_i ip z1
    split at hf
    · rename_i c' fs ts z2
      split at hf
      · rename_i hc
        obtain ⟨rfl, hnone⟩ := hc
        split at hf
        · rename_i us z3
          split at hf
          · rename_i ds u' y zf zg
            cases hf
            refine oo σ H F fp env ip _ _ R z1 z2 fun v lu H1 F1 E1 P => ?_
            have rep := P.rep
            cases rep with
            | @n _ a vs _ own l0 r1 r2 r3 =>
              obtain ⟨hlv, C2, dx, rfl, n1, n2, n3⟩ := r1
              rw [nC] at n1; cases n1
              refine ⟨a, dx, _, rfl, n2, fIx_none hnone, oa σ H1 F1 fp env us _ (R.ext E1) z3 fun vs2 H2 F2 E2 ra => ?_⟩
              rw [List.append_nil]
              rw [hw] at ra
              have hln := hl _ _ z3
              rw [← hln]
              exact spM_one hw ((R.ext E1).ext E2) (P.ext E2) ra zf zg fun v H' F' fp' l R' s nn => q v H' F' fp' l R' ((E1.f.trans E2.f).trans s) nn
          · cases hf
        · cases hf
      · cases hf
    · cases hf
  · cases hf
theorem dx_meth0 {g : List T → Option (List T × T)} {pl : Sem Bool} (met : MetM X.prog X.w X.K X.mg X.base lv c m 0 g) (hw : G.w = some X.w) (hr : Room lv X.A) (ho : DPl X G o gp)
    (ht : eval (.Call (.Attribute o m apos) [] [] pos) X.env = (do
      let ov ← eval o X.env
      standAt apos.atName
      let (f, first) ← holding [ov] (getMethod ov m pl)
      callWith pos f first (backTo pos (starEach [] X.env)) (backToKw pos (keywordEach [] X.env))) := by rfl) : DX X G (.Call (.Attribute o m apos) [] [] pos) (xMeth c m g gp nsNil) := by
  obtain ⟨C', fa, fd, ps, nC, cls, me, F, b⟩ := met.ex
  obtain ⟨t, pt, oo⟩ := ho.ex
  refine ⟨_, pe_meth0 (E := fun _ _ _ => True) pt cls me F hr b .nil pass0 ht, fun σ H F fp env env' u Q R hf q => ?_⟩
  unfold xMeth at hf
  split at hf
  · rename_i ip z1
    split at hf
    · rename_i c' fs ts z2
      split at hf
      · rename_i hc
        obtain ⟨rfl, hnone⟩ := hc
        split at hf
        · rename_i us z3
          cases z3
          split at hf
          · rename_i ds u' y zf zg
            cases hf
            refine oo σ H F fp env ip _ _ R z1 z2 fun v lu H1 F1 E1 P => ?_
            have rep := P.rep
            cases rep with
            | @n _ a vs _ own l0 r1 r2 r3 =>
              obtain ⟨hlv, C2, dx, rfl, n1, n2, n3⟩ := r1
              rw [nC] at n1; cases n1
              refine ⟨a, dx, _, rfl, n2, fIx_none hnone, ?_⟩
              exact spM_one (E := fun _ _ _ => True) (us := []) (vs := []) hw (R.ext E1) P .nil zf zg fun v H' F' fp' l R' s nn => q v H' F' fp' l R' (E1.f.trans s) nn
          · cases hf
        · cases hf
      · cases hf
    · cases hf
  · cases hf
/-- x.m(e), x a name, e may write -/
def xMethX (c m : Str) (g : List T → Option (List T × T)) (i : Nat) (gx : List C → Option (List C × T)) : List C → Option (List C × T) := fun env => match nodeAt env (i, []), gx env with
  | some (.n (.o c0 fs0) _), some (env1, .d y) => if c0 = c ∧ fIx m fs0 = none then (match nodeAt env1 (i, []) with
    | some (.n (.o c' fs) ts) => (match g (.n (.o c' fs) ts :: [.d y]) with
        | some ([u'], z) => some (putAt env1 (i, []) u', z)
        | _ => none)
    | _ => none) else none
  | _, _ => none
theorem dx_methX {g : List T → Option (List T × T)} {gx : List C → Option (List C × T)} {pl : Sem Bool} (i : Nat) (met : MetM X.prog X.w X.K X.mg X.base lv c m 1 g) (hw : G.w = some X.w) (hr : Room lv X.A) (hv : PE X (.Name x p1) (tVar i)) (h : DX X G e gx) (hst : starEach [e] X.env = [(false, eval e X.env)] := by rfl)
    (ht : eval (.Call (.Attribute (.Name x p1) m apos) [e] [] pos) X.env = (do
      let ov ← eval (.Name x p1) X.env
      standAt apos.atName
      let (f, first) ← holding [ov] (getMethod ov m pl)
      callWith pos f first (backTo pos (starEach [e] X.env)) (backToKw pos (keywordEach [] X.env))) := by rfl) : DX X G (.Call (.Attribute (.Name x p1) m apos) [e] [] pos) (xMethX c m g i gx) := by
  obtain ⟨C', fa, fd, ps, nC, cls, me, F, b⟩ := met.ex
  obtain ⟨ta, pa, oa⟩ := h.ex
  refine ⟨_, pe_meth (E := fun _ _ _ => True) hv cls me F hr b .nil pass0 (pa_cons pa pa_nil hst) hst rfl ht, fun σ H F fp env env' u Q R hf q => ?_⟩
  unfold xMethX at hf
  split at hf
  · rename_i _ _ c0 fs0 ts0 env1 y z1 z2
    split at hf
    · rename_i hc
      obtain ⟨rfl, hnone⟩ := hc
      split at hf
      · rename_i c' fs ts z3
        split at hf
        · rename_i u' yy zg
          cases hf
          obtain ⟨m0, t0, e0, hs0⟩ := nodeAt_of z1
          obtain ⟨v0, s0, P0⟩ := R.place e0
          cases hs0
          have rep := P0.rep
          generalize hfp : fp (i, []).1 = lfp at rep
          refine ⟨v0, s0, ?_⟩
          obtain ⟨a, dx, vs, rfl, n2⟩ : ∃ a dx vs, v0 = .ref a ∧ H a = some (.ins C' dx (fs0.zip vs)) := by
            have rep' : OR X.K G.w H F v0 (.n (.o c0 fs0) ts0) (fp i) := P0.rep
            revert rep'
            generalize fp i = l
            intro rep'
            cases rep' with
            | @n _ a vs _ own l0 r1 r2 r3 =>
              obtain ⟨hlv, C2, dx, rfl, n1, n2, n3⟩ := r1
              rw [nC] at n1; cases n1
              exact ⟨a, dx, vs, rfl, n2⟩
          refine ⟨a, dx, _, rfl, n2, fIx_none hnone, ?_⟩
          refine oa σ H F fp env env1 _ _ R z2 fun vy H1 F1 fp1 ln R1 s1 n1 => ?_
          obtain ⟨m1, t1, e1, hs1⟩ := nodeAt_of z3
          obtain ⟨v1, s1', P1⟩ := R1.place e1
          rw [s0] at s1'
          cases s1'
          cases hs1
          have ry : DF X.K F1 vy y := by
            cases n1.rep with
            | d r => exact r
          exact spM_one (E := fun _ _ _ => True) (us := [.d y]) (vs := [vy]) hw R1 P1 (.cons ⟨[], .d ry⟩ .nil) rfl zg fun v H' F' fp' l R' s nn => q v H' F' fp' l R' (s1.trans s) nn
        · cases hf
      · cases hf
    · cases hf
  · cases hf
/-- C(..) -/
def nMake (c : Str) (g : List T → Option (List T × T)) (rs : List C → Option (List T)) : List C → Option T := fun env => match rs env with
  | some us => (match g (.n (.o c []) [] :: us) with | some ([u'], .d .none) => some u' | _ => none)
  | none => none
theorem or_cut {K : PySem.W.Frag} {ow : Option World} {H H' F : Hp} {W : List Addr} : ∀ {vs : List V} {us : List T}, (∀ b o, H b = some o → cut H' W b = some o) → PySem.W.EachIs (fun v u => ∃ l, OR K ow H F v u l) vs us → MA K ow (cut H' W) H' F (List.replicate us.length false) vs us []
  | _, _, _, .nil => .nil
  | _, _, h, .cons ⟨l, r⟩ t => .ro (OR_mono (Same.refl _) _ _ _ (fun b o _ e => h b o e) r) (or_cut h t)
theorem dn_make {g : List T → Option (List T × T)} (mk : MakM X.prog X.w X.K X.mg X.base lv c n g) (hw : G.w = some X.w) (hr : Room (lv + 1) X.A) (hg : Gl X c) (h : DRs X G (e :: es) rs) (hl : ∀ env us, rs env = some us → us.length = n) (hdb : (c == ("__debug__" : Str)) = false := by decide) (he : starEach (e :: es) X.env = (false, eval e X.env) :: starEach es X.env := by rfl)
    (hpl : (backTo pos (starEach es X.env)).any (·.1) = false := by rfl) : DN X G (.Call (.Name c p) (e :: es) [] pos) (nMake c g rs) := by
  obtain ⟨C', fa, fd, ps, nC, mC, M, F, b⟩ := mk.ex
  obtain ⟨ta, pa, oa⟩ := h.ex
  refine ⟨_, pe_make (E := fun _ _ _ => True) M F hr hg mC b .nil pass0 pa hdb he hpl, fun σ H F fp env u Q R hf q => ?_⟩
  unfold nMake at hf
  split at hf
  · rename_i us z
    split at hf
    · rename_i u' zg
      have hu : u' = u := Option.some.inj hf
      subst hu
      refine oa σ H F fp env us _ R z fun vs H1 F1 E1 ra => ?_
      intro x dx nx ndx ne
      rw [List.append_nil, ← hl _ _ z]
      rw [hw] at ra
      generalize hH2 : upd (upd H1 dx (.own x)) x (.ins C' dx []) = H2
      have hx2 : H2 x = some (.ins C' dx []) := by rw [← hH2]; exact upd_same
      have hd2 : H2 dx = some (.own x) := by rw [← hH2, upd_ne ne]; exact upd_same
      have old : ∀ b o, H1 b = some o → H2 b = some o := fun b o e => by
        rw [← hH2, upd_ne (ne_of_none e nx), upd_ne (ne_of_none e ndx)]; exact e
      have hwa : wAll [(x, [x, dx])] = [x, dx] := by simp [wAll]
      have f1 : ∀ b, b ∈ [x, dx] → H1 b = none := fun b hb => by
        rcases List.mem_cons.mp hb with rfl | hb
        · exact nx
        · rw [List.mem_singleton.mp hb]; exact ndx
      have new2 : ∀ b, H1 b = none → b ∉ [x, dx] → H2 b = none := fun b hb hn => by
        rw [← hH2, upd_ne (fun z => hn (by simp [z])), upd_ne (fun z => hn (by simp [z]))]; exact hb
      refine ⟨F1, .n (.o c []) [] :: us, [(x, [x, dx])], [u'], .d .none, fun b o e => old b o (E1.sub b o e), .mu (.n (own := [x, dx]) (l := []) (vs := []) ⟨rfl, C', dx, rfl, nC, hx2, hd2⟩ .nil (by simp [Ne.symm ne])) (or_cut (fun b o e => ?_) ra), by rw [hwa]; simp [Ne.symm ne], fun b hb => ?_, zg, fun v H' F' ls' lr p => ?_⟩
      · unfold cut
        rw [hwa, if_neg (fun hm => by rw [f1 b hm] at e; cases e)]
        exact old b o e
      · rw [hwa] at hb
        refine ⟨E1.sub.free (f1 b hb), ?_⟩
        rcases List.mem_cons.mp hb with rfl | hb
        · rw [hx2]; intro z; cases z
        · rw [List.mem_singleton.mp hb, hd2]; intro z; cases z
      · obtain ⟨u2, l', eu, rfl, rep⟩ := mu_one p.mu
        cases eu
        refine ⟨by cases p.res with | d r => cases r; rfl, ?_⟩
        have sep : ∀ b, b ∈ l' → H1 b = none := fun b hb => by
          cases p.sep with
          | cons h _ =>
            rcases h b hb with z | z
            · exact f1 b z
            · cases q9 : H1 b with
              | none => rfl
              | some o => rw [old b o q9] at z; cases z
        have E2 : Ext H1 F1 H' F' := ⟨fun b o e => p.keep b o (by rw [hwa]; intro hm; rw [f1 b hm] at e; cases e) (old b o e), p.f, p.sub, fun a o e => (p.nw a o e).imp_right fun z => by
          cases q9 : H1 a with
          | none => rfl
          | some o => rw [old a o q9] at z; cases z⟩
        have fr : Fresh H1 H' F' l' := fun b hb => ⟨sep b hb, p.own b (by simpa using hb)⟩
        exact q (.ref x) H' F' l' (E1.trans E2) (by rw [hw]; exact rep) (fr.back E1.h)
    · cases hf
  · cases hf
end
end DL
set_option Elab.async false
set_option linter.all false
set_option maxRecDepth 100000
set_option maxHeartbeats 4000000
/-! DPj: comprehensions of things of one's own; own things read as frozen for one expression; lists of a lent thing -/
namespace DL
open PySem PySem.Spec L2
section
variable {X : Cx} {G : GC} {tg iter e e2 elt : Expr} {k k2 kr : RK} {f f2 : List C → Option D} {fn : List C → Option T} {p pos : Pos} {ft : List C → Option Bool}
def tNn (K : PySem.W.Frag) (G : GC) (f : List C → Option T) : TE := fun σ H Q => ∃ (F : Hp) (fp : Nat → List Addr) (env : List C) (u : T), Rel K G env σ H F fp ∧ f env = some u ∧ ∀ v H' F' l, Ext H F H' F' → OR K G.w H' F' v u l → Fresh H H' F' l → Q v H'
theorem DN.canon (h : DN X G e fn) : PE X e (tNn X.K G fn) := by
  obtain ⟨t, p, o⟩ := h.ex
  exact ⟨fun pins s σ H Q I ⟨F, fp, env, d, R, hf, q⟩ => p.run pins s σ H Q I (o σ H F fp env d Q R hf q)⟩
def lcT (g : D → List C → Option (List C)) (tt : List C → Option Bool) (fe : List C → Option T) (env : List C) : List D → Option (List T)
  | [] => some []
  | d :: ds => (g d env).bind fun e => (tt e).bind fun b => if b = true then (fe e).bind fun y => (lcT g tt fe env ds).map (y :: ·) else lcT g tt fe env ds
def nLc (vs : List Nat) (fi : List C → Option (List D)) (g : D → List C → Option (List C)) (tt : List C → Option Bool) (fe : List C → Option T) : List C → Option T := fun env => (fi env).bind fun items => (lcT g tt fe (wipeE env vs) items).map (.n .l)
theorem lcN_ok {wi : TI} {is vs : List Nat} {fi : List C → Option (List D)} {g : D → List C → Option (List C)} {fe : List C → Option T} (ow : ∀ (σ : L2.St) (H F : Hp) (fp : Nat → List Addr) (env : List C) (items : List D) (R : It → Hp → Prop), Rel X.K G env σ H F fp → fi env = some items →
    (∀ J H' F', Ext H F H' F' → Walk X.K J items F' → (LenOk X.K H' → items.length ≤ sizeLine) → R J H') → wi σ H R) (hi : ∀ i, i ∈ is → i ∈ vs) {σ : L2.St} {H F : Hp} {fp : Nat → List Addr} {env : List C} {u : T} {Q : VK} (R : Rel X.K G env σ H F fp) (hf : nLc vs fi g ft fe env = some u)
    (q : ∀ v H' F' l, Ext H F H' F' → OR X.K G.w H' F' v u l → Fresh H H' F' l → Q v H') : tLc (fun σ H R => wi σ H fun J H' => LenOk X.K H' → R J H') (tgD X.K G is g) (tDT X.K G ft) (tNn X.K G fe) vs σ H Q := by
  unfold nLc at hf
  cases z : fi env with
  | none => rw [z] at hf; cases hf
  | some items =>
    rw [z] at hf
    have hf : (lcT g ft fe (wipeE env vs) items).map (T.n .l) = some u := hf
    cases z2 : lcT g ft fe (wipeE env vs) items with
    | none => rw [z2] at hf; cases hf
    | some res =>
      rw [z2] at hf
      cases hf
      refine ow σ H F fp env items _ R z fun J H1 F1 E1 wk lnw ln p np => ?_
      have hline := lnw ln
      have R1 := R.ext E1
      obtain ⟨fpw, Rw, sw⟩ := R1.wiped vs
      have pfp : ∀ j, p ∉ fpw j := fun j hm => (Rw.own j p hm).2.1 np
      have h0p : G.H0 p = none := R1.h0 np
      have f1p : F1 p = none := R1.sub.free np
      refine ⟨fun i m Hc => m = items.length - i ∧ i ≤ items.length ∧ ∃ Fc acc vs' rest la, Rel X.K G (wipeE env vs) (wipe σ vs) Hc Fc fpw ∧ Same H1 Hc ∧ Same F1 Fc ∧ (∀ a o, Fc a = some o → F1 a = some o ∨ H1 a = none) ∧ Hc p = some (.lst vs') ∧ Fc p = none ∧ ORs X.K G.w Hc Fc vs' acc la ∧ la.Nodup ∧ p ∉ la ∧ Fresh H1 Hc Fc la ∧ lcT g ft fe (wipeE env vs) (items.drop i) = some rest ∧ acc ++ rest = res ∧ vs'.length ≤ i,
        ⟨items.length, by simp, Nat.zero_le _, F1, [], [], res, [], Rw.updD pfp f1p h0p, fun b x e => by rw [upd_ne (ne_of_none e np)]; exact e, Same.refl _, fun _ _ e => .inl e, upd_same, f1p, .nil, List.nodup_nil, List.not_mem_nil, (fun _ m => nomatch m), by rw [List.drop_zero]; exact z2, rfl, Nat.le_refl _⟩, ?_⟩
      rintro i m Hc ⟨rfl, hile, Fc, acc, vs', rest, la, Rc, sH, sF, nF, hp, fpn, dacc, ndl, pla, frl, hrest, hres, hvl⟩
      obtain ⟨w1, w2⟩ := wk i Hc Fc sF Rc.sub
      by_cases hlt : i < items.length
      · right
        obtain ⟨dd, hd⟩ : ∃ d, items[i]? = some d := ⟨items[i], List.getElem?_eq_getElem hlt⟩
        obtain ⟨go, y⟩ := w1 dd hd
        have ed : items.drop i = dd :: items.drop (i + 1) := by
          rw [List.drop_eq_getElem_cons hlt]
          rw [List.getElem?_eq_getElem hlt] at hd; cases hd; rfl
        rw [ed] at hrest
        unfold lcT at hrest
        cases z3 : g dd (wipeE env vs) with
        | none => rw [z3] at hrest; cases hrest
        | some e' =>
          rw [z3] at hrest
          have hrest : ((ft e').bind fun b => if b = true then (fe e').bind fun y => (lcT g ft fe (wipeE env vs) (items.drop (i + 1))).map (y :: ·) else lcT g ft fe (wipeE env vs) (items.drop (i + 1))) = some rest := hrest
          cases z4 : ft e' with
          | none => rw [z4] at hrest; cases hrest
          | some b =>
            rw [z4] at hrest
            have hrest : (if b = true then (fe e').bind fun y => (lcT g ft fe (wipeE env vs) (items.drop (i + 1))).map (y :: ·) else lcT g ft fe (wipeE env vs) (items.drop (i + 1))) = some rest := hrest
            refine ⟨go, fun H' => i + 1 ≤ items.length ∧ ∃ Fc acc vs' rest la, Rel X.K G (wipeE env vs) (wipe σ vs) H' Fc fpw ∧ Same H1 H' ∧ Same F1 Fc ∧ (∀ a o, Fc a = some o → F1 a = some o ∨ H1 a = none) ∧ H' p = some (.lst vs') ∧ Fc p = none ∧ ORs X.K G.w H' Fc vs' acc la ∧ la.Nodup ∧ p ∉ la ∧ Fresh H1 H' Fc la ∧ lcT g ft fe (wipeE env vs) (items.drop (i + 1)) = some rest ∧ acc ++ rest = res ∧ vs'.length ≤ i + 1,
              fun H' n => ⟨items.length - (i + 1), by omega, rfl, n⟩, fun x H3 yl => ?_⟩
            obtain ⟨F3, E3, r3⟩ := y x H3 yl
            have R3 := Rc.ext E3
            refine ⟨F3, fpw, _, e', dd, R3, r3, z3, fun σ4 fp4 R4 w4 s4 => ⟨w4 vs hi |>.trans ?_, ?_⟩⟩
            · exact wipe_wipe σ vs
            refine ⟨F3, fp4, e', b, R4, z4, fun H5 F5 E5 => ?_⟩
            have back : ∀ {H F}, Ext H3 F3 H F → Rel X.K G (wipeE env vs) (wipe σ vs) H F fpw := fun E => R3.ext E
            have fz : ∀ {H F}, Ext Hc Fc H F → F p = none := fun {H F} E => by
              cases q9 : F p with
              | none => rfl
              | some o =>
                rcases E.new p o q9 with z9 | z9
                · rw [fpn] at z9; cases z9
                · rw [hp] at z9; cases z9
            have nf : ∀ {H F}, Ext Hc Fc H F → ∀ a o, F a = some o → F1 a = some o ∨ H1 a = none := fun {H F} E a o e => by
              rcases E.new a o e with z9 | z9
              · exact nF a o z9
              · exact .inr (sH.free z9)
            have E35 := E3.trans E5
            cases b with
            | false =>
              simp only [Bool.false_eq_true, if_false] at hrest
              exact iteF ⟨hlt, F5, acc, vs', rest, la, back E5, sH.trans E35.h, sF.trans E35.f, nf E35, E35.h _ _ hp, fz E35, ORs_mono E35.f _ _ _ (fun b o _ => E35.h b o) dacc, ndl, pla, frl.ext E35, hrest, hres, by omega⟩
            | true =>
              simp only [if_true] at hrest
              refine iteT ?_
              cases z5 : fe e' with
              | none => rw [z5] at hrest; cases hrest
              | some yv =>
                rw [z5] at hrest
                have hrest : ((lcT g ft fe (wipeE env vs) (items.drop (i + 1))).map (yv :: ·)) = some rest := hrest
                cases z6 : lcT g ft fe (wipeE env vs) (items.drop (i + 1)) with
                | none => rw [z6] at hrest; cases hrest
                | some rest' =>
                  rw [z6] at hrest; cases hrest
                  refine ⟨F5, fp4, e', yv, R4.ext E5, z5, fun v H6 F6 ly E6 r6 fr6 => ?_⟩
                  have E36 := E5.trans E6
                  have Ec6 := E3.trans E36
                  have ply : p ∉ ly := fun hm => by
                    have := (fr6 p hm).1
                    rw [E35.h _ _ hp] at this; cases this
                  have frl6 := frl.ext Ec6
                  have fry : Fresh H1 H6 F6 ly := fr6.back (sH.trans E35.h)
                  have ndy : (la ++ ly).Nodup := by
                    rw [List.nodup_append]
                    refine ⟨ndl, r6.nodup, fun a ha b hb e => ?_⟩
                    subst e
                    have h1 := (frl a ha).2.2
                    cases q9 : Hc a with
                    | none => exact h1 q9
                    | some o => have := (fr6 a hb).1; rw [E35.h _ _ q9] at this; cases this
                  have pn : p ∉ la ++ ly := by simp [pla, ply]
                  refine ⟨vs', E6.h _ _ (E35.h _ _ hp), ?_, hlt, F6, acc ++ [yv], vs' ++ [v], rest', la ++ ly, (back E36).updD pfp (fz Ec6) h0p, ?_, sF.trans Ec6.f, nf Ec6, upd_same, fz Ec6, ?_, ndy, pn, ?_, rfl, by rw [← hres]; simp, by rw [List.length_append]; simp; omega⟩
                  · omega
                  · intro b x e
                    rw [upd_ne (ne_of_none e np)]
                    exact Ec6.h _ _ (sH _ _ e)
                  · refine ORs_mono (Same.refl _) _ _ _ (fun b o hb e => ?_) (ORs_snoc (ORs_mono Ec6.f _ _ _ (fun b o _ => Ec6.h b o) dacc) r6)
                    rw [upd_ne (fun z => pn (by rw [← z]; exact hb))]; exact e
                  · intro b hb
                    have hbp : b ≠ p := fun z => pn (by rw [← z]; exact hb)
                    obtain ⟨g1, g2, g3⟩ : H1 b = none ∧ F6 b = none ∧ H6 b ≠ none := by
                      rcases List.mem_append.mp hb with z | z
                      · exact frl6 b z
                      · exact fry b z
                    exact ⟨g1, g2, by rw [upd_ne hbp]; exact g3⟩
      · left
        have ei : i = items.length := by omega
        subst ei
        rw [List.drop_length] at hrest
        cases hrest
        rw [List.append_nil] at hres
        subst hres
        refine ⟨w2 (Nat.le_refl _), q _ Hc Fc ([p] ++ la) ⟨E1.h.trans sH, E1.f.trans sF, Rc.sub, fun a o e => ?_⟩ (.n ⟨rfl, hp⟩ dacc (by simp [pla, ndl])) (fun b hb => ?_)⟩
        · rcases nF a o e with z9 | z9
          · exact E1.new a o z9
          · exact .inr (E1.h.free z9)
        · rcases List.mem_append.mp hb with z | z
          · rw [List.mem_singleton.mp z]
            exact ⟨E1.h.free np, fpn, by rw [hp]; intro y; cases y⟩
          · exact frl.back E1.h b z
theorem dn_lc {is : List Nat} {fi : List C → Option (List D)} {g : D → List C → Option (List C)} {fe : List C → Option T} {ifs : List Expr} {scope : Scope} (own : List (Str × Nat)) (hc : X.calm = true) (hN : X.N.Nodup) (hi : DI X G tg iter fi) (N : List Str) (sc : Scope) (ok : blkC N sc scope own = true)
    (hg : ∀ (s : Shared) (H : Hp) (C : Addr) (cl : List (Str × Addr)) (fp : List Addr), DG (X.blk s H scope (compEnvC scope cl C X.env) fp) G is tg g) (ht : ∀ (s : Shared) (H : Hp) (C : Addr) (cl : List (Str × Addr)) (fp : List Addr), DIf (X.blk s H scope (compEnvC scope cl C X.env) fp) G ifs ft)
    (he : ∀ (s : Shared) (H : Hp) (C : Addr) (cl : List (Str × Addr)) (fp : List Addr), DN (X.blk s H scope (compEnvC scope cl C X.env) fp) G elt fe) (his : ∀ i, i ∈ is → i ∈ own.map (·.2) := by decide) (hs : ∀ x, foldedSetIterable iter X.env x = pure x := by intro _; rfl) (hN2 : X.N = N := by rfl) (hs2 : X.env.scope = sc := by rfl) :
    DN X G (.ListComp elt [⟨tg, iter, ifs, 0⟩] scope pos) (nLc (own.map (·.2)) fi g ft fe) := by
  obtain ⟨wi, pw, ow⟩ := hi.ex
  exact ⟨_, pe_lc hc hN (pi_len pw) (blkOk_by (by rw [hN2, hs2]; exact ok)) (fun s H C cl fp => (hg s H C cl fp).canon) (fun s H C cl fp => (ht s H C cl fp).run) (fun s H C cl fp => (he s H C cl fp).canon) hs,
    fun σ H F fp env d Q R hf q => lcN_ok ow his R hf q⟩
/-- name = [..] on one line, of things of one's own -/
def sSetN (i : Nat) (f : List C → Option T) : List C → Out := fun env => match f env with | some u => .nx (env.set i (toC u)) | none => .err
theorem ds_setLcN {y : Str} {py spos : Pos} {is : List Nat} {fi : List C → Option (List D)} {g : D → List C → Option (List C)} {fe : List C → Option T} {ifs : List Expr} {scope : Scope} (i : Nat) (own : List (Str × Nat)) (hc : X.calm = true) (hN : X.N.Nodup) (hy : X.N[i]? = some y) (hyl : X.env.scope.names.lookup y = some .local)
    (hsw : swapsWith (.ListComp elt [⟨tg, iter, ifs, 0⟩] scope pos) (some (.Name y py)) spos.line X.env = pure true) (hi : DI X G tg iter fi) (N : List Str) (sc : Scope) (ok : blkC N sc scope own = true)
    (hg : ∀ (s : Shared) (H : Hp) (C : Addr) (cl : List (Str × Addr)) (fp : List Addr), DG (X.blk s H scope (compEnvC scope cl C X.env) fp) G is tg g) (ht : ∀ (s : Shared) (H : Hp) (C : Addr) (cl : List (Str × Addr)) (fp : List Addr), DIf (X.blk s H scope (compEnvC scope cl C X.env) fp) G ifs ft)
    (he : ∀ (s : Shared) (H : Hp) (C : Addr) (cl : List (Str × Addr)) (fp : List Addr), DN (X.blk s H scope (compEnvC scope cl C X.env) fp) G elt fe) (his : ∀ i, i ∈ is → i ∈ own.map (·.2) := by decide) (hs : ∀ x, foldedSetIterable iter X.env x = pure x := by intro _; rfl) (hN2 : X.N = N := by rfl) (hs2 : X.env.scope = sc := by rfl) :
    DS X G kr (.Assign [.Name y py] (.ListComp elt [⟨tg, iter, ifs, 0⟩] scope pos) spos) (sSetN i (nLc (own.map (·.2)) fi g ft fe)) := by
  obtain ⟨wi, pw, ow⟩ := hi.ex
  refine ⟨_, ps_setLc (g := tgD X.K G is g) (tt := tDT X.K G ft) (te := tNn X.K G fe) hc hN hy hyl hsw (pi_len pw) (blkOk_by (by rw [hN2, hs2]; exact ok)) (fun s H C cl fp => (hg s H C cl fp).canon) (fun s H C cl fp => (ht s H C cl fp).run) (fun s H C cl fp => (he s H C cl fp).canon) hs, fun σ H F fp env E R q => ?_⟩
  unfold sSetN at q
  cases z : nLc (own.map (·.2)) fi g ft fe env with
  | none => simp only [z] at q; exact q.elim
  | some u =>
    simp only [z] at q
    refine lcN_ok ow his R z fun v H' F' l E' r fr => ?_
    obtain ⟨fp2, R2⟩ := (R.ext E').putX (R.fresh E' r fr) i
    exact q _ H' F' _ R2 E'.f
/-! own things read as frozen -/
theorem OR.alive {K : PySem.W.Frag} {ow : Option World} {H F : Hp} : ∀ (t : T) {v : V} {l : List Addr}, OR K ow H F v t l → ∀ b, b ∈ l → H b ≠ none := by
  intro t
  exact OR.rec (motive_1 := fun v t l _ => ∀ b, b ∈ l → H b ≠ none) (motive_2 := fun vs ts l _ => ∀ b, b ∈ l → H b ≠ none) (fun _ b hb => nomatch hb) (fun {s a vs ts own l} nr _ _ ih b hb => by
    rcases List.mem_append.mp hb with z | z
    · cases s with
      | l => obtain ⟨rfl, h⟩ := nr; rw [List.mem_singleton.mp z, h]; intro y; cases y
      | t =>
        rcases nr with ⟨rfl, h⟩ | ⟨rfl, _⟩
        · rw [List.mem_singleton.mp z, h]; intro y; cases y
        · cases z
      | k ks => obtain ⟨rfl, _, h⟩ := nr; rw [List.mem_singleton.mp z, h]; intro y; cases y
      | q ks => obtain ⟨rfl, _, _, _, h, _⟩ := nr; rw [List.mem_singleton.mp z, h]; intro y; cases y
      | o c fs =>
        obtain ⟨_, C, dx, rfl, _, h, h2⟩ := nr
        rcases List.mem_cons.mp z with rfl | z
        · rw [h]; intro y; cases y
        · rw [List.mem_singleton.mp z, h2]; intro y; cases y
    · exact ih b z) (fun b hb => nomatch hb) (fun _ _ ih1 ih2 b hb => by
    rcases List.mem_append.mp hb with z | z
    · exact ih1 b z
    · exact ih2 b z)
mutual
theorem view_fz {K : PySem.W.Frag} {ow : Option World} {H F F1 : Hp} (f : Same F F1) : ∀ (t : T) (v : V) (d : D) (l : List Addr), (∀ b o, b ∈ l → H b = some o → F1 b = some o) → viewT t = some d → OR K ow H F v t l → DF K F1 v d
  | .d x, v, d, l, _, h, r => by
    unfold viewT at h; cases h
    cases r with
    | d r => exact DF_mono f _ _ r
  | .n s ts, v, d, l, k, h, r => by
    cases r with
    | n r1 r2 r3 =>
      cases s with
      | l =>
        unfold viewT at h
        cases z : viewTs ts with
        | none => rw [z] at h; cases h
        | some ds =>
          rw [z] at h; cases h
          obtain ⟨rfl, r1⟩ := r1
          exact .lst (k _ _ (by simp) r1) (view_fzs f ts _ _ _ (fun b o hb => k b o (by simp [hb])) z r2)
      | t =>
        unfold viewT at h
        cases z : viewTs ts with
        | none => rw [z] at h; cases h
        | some ds =>
          rw [z] at h; cases h
          refine .tup ?_ (view_fzs f ts _ _ _ (fun b o hb => k b o (by simp [hb])) z r2)
          rcases r1 with ⟨rfl, r1⟩ | ⟨rfl, r1⟩
          · exact .inl (.inl (k _ _ (by simp) r1))
          · exact Same.seqT f r1
      | k ks => unfold viewT at h; cases h
      | q ks => unfold viewT at h; cases h
      | o c fs => unfold viewT at h; cases h
theorem view_fzs {K : PySem.W.Frag} {ow : Option World} {H F F1 : Hp} (f : Same F F1) : ∀ (ts : List T) (vs : List V) (ds : List D) (l : List Addr), (∀ b o, b ∈ l → H b = some o → F1 b = some o) → viewTs ts = some ds → ORs K ow H F vs ts l → DFAll K F1 vs ds
  | [], vs, ds, l, _, h, r => by unfold viewTs at h; cases h; cases r; exact .nil
  | t :: ts, vs, ds, l, k, h, r => by
    cases r with
    | cons r1 r2 =>
      unfold viewTs at h
      cases z : viewT t with
      | none => rw [z] at h; cases h
      | some x =>
        cases z2 : viewTs ts with
        | none => rw [z, z2] at h; cases h
        | some xs =>
          rw [z, z2] at h; cases h
          exact .cons (view_fz f t _ _ _ (fun b o hb => k b o (by simp [hb])) z r1) (view_fzs f ts _ _ _ (fun b o hb => k b o (by simp [hb])) z2 r2)
end
/-- the entry told otherwise: what is frozen -/
def GC.frz (G : GC) (F1 : Hp) : GC := ⟨G.H0, F1, G.Ws, G.w⟩
def putFz (i : Nat) (env : List C) : Option (List C) := match env[i]? with
  | some (.own _ t) => (viewT t).map fun d => env.set i (.val d)
  | some (.lst ds) => some (env.set i (.val (.list ds)))
  | some (.val _) => some env
  | _ => none
theorem rel_frz {K : PySem.W.Frag} {G : GC} {env env' : List C} {σ : L2.St} {H F : Hp} {fp : Nat → List Addr} {i : Nat} (R : Rel K G env σ H F fp) (h : putFz i env = some env') : ∃ F1 fp', Rel K (G.frz F1) env' σ H F1 fp' ∧ Same F F1 := by
  classical
  have key : ∀ (c : C) (t : T) (d : D), env[i]? = some c → viewT t = some d → (∃ v, (σ[i]?).join = some v ∧ OR K G.w H F v t (fp i)) → ∃ F1 fp', Rel K (G.frz F1) (env.set i (.val d)) σ H F1 fp' ∧ Same F F1 := fun c t d e hv ⟨v, s1, r⟩ => by
    let F1 : Hp := fun a => if a ∈ fp i then H a else F a
    have f : Same F F1 := fun a o e => by
      by_cases hm : a ∈ fp i
      · exact (if_pos hm).trans (R.sub a o e)
      · exact (if_neg hm).trans e
    have sub : Same F1 H := fun a o e => by
      by_cases hm : a ∈ fp i
      · rwa [show F1 a = H a from if_pos hm] at e
      · exact R.sub a o (by rwa [show F1 a = F a from if_neg hm] at e)
    have z : DF K F1 v d := view_fz f t v d _ (fun b o hb e => (if_pos hb).trans e) hv r
    have hi := (List.getElem?_eq_some_iff.mp e).1
    refine ⟨F1, fset fp i [], ?_, f⟩
    exact {
      len := by rw [List.length_set]; exact R.len
      slot := fun j c' ej => by
        by_cases hj : j = i
        · subst hj
          rw [fset_at]
          rw [List.getElem?_set_self hi] at ej; cases ej
          exact ⟨rfl, v, s1, z⟩
        · rw [List.getElem?_set_ne (Ne.symm hj)] at ej
          rw [fset_ne hj]
          have q := R.slot j c' ej
          cases c' with
          | und => exact q
          | val d => obtain ⟨y1, v, y2, y3⟩ := q; exact ⟨y1, v, y2, DF_mono f _ _ y3⟩
          | brw d => exact q
          | lst ds => obtain ⟨b, vs, y1, y2, y3, y4⟩ := q; exact ⟨b, vs, y1, y2, y3, DFAll_mono f _ _ y4⟩
          | dK ds => obtain ⟨b, vs, y1, y2, y3, y4⟩ := q; exact ⟨b, vs, y1, y2, y3, y4.mono f⟩
          | dT ds => obtain ⟨b, vs, y1, y2, y3, y4⟩ := q; exact ⟨b, vs, y1, y2, y3, y4.mono f⟩
          | dN ds => obtain ⟨b, w, xs, y1, y2, y5, y3, y4⟩ := q; exact ⟨b, w, xs, y1, y2, y5, y3, y4.mono f⟩
          | pin _ => exact q
          | ro b t => obtain ⟨y0, v, l, y1, y2, y3⟩ := q; exact ⟨y0, v, l, y1, OR_mono f _ _ _ (fun _ _ _ z => z) y2, fun hb a vs ha hk => f _ _ (y3 hb a vs ha hk)⟩
          | own m t => obtain ⟨v, y1, y2, y3⟩ := q; exact ⟨v, y1, OR_mono f _ _ _ (fun _ _ _ z => z) y2, y3⟩
      dj := fun j k b h1 h2 => by
        by_cases hj : j = i
        · subst hj; rw [fset_at] at h1; cases h1
        · by_cases hk : k = i
          · subst hk; rw [fset_at] at h2; cases h2
          · rw [fset_ne hj] at h1; rw [fset_ne hk] at h2
            exact R.dj j k b h1 h2
      own := fun j b hb => by
        by_cases hj : j = i
        · subst hj; rw [fset_at] at hb; cases hb
        · rw [fset_ne hj] at hb
          obtain ⟨g1, g2, g3⟩ := R.own j b hb
          exact ⟨(if_neg fun hm => hj (R.dj j i b hb hm)).trans g1, g2, by rw [List.getElem?_set_ne (Ne.symm hj)]; exact g3⟩
      sub := sub
      new := fun a o e => .inl e
      old := Same.refl _
      keep := R.keep
      alive := R.alive }
  unfold putFz at h
  split at h
  · rename_i m t e
    cases z : viewT t with
    | none => rw [z] at h; cases h
    | some d =>
      rw [z] at h; cases h
      obtain ⟨v, s1, s2, _⟩ := slot_own R e
      exact key _ t d e z ⟨v, by rw [s1]; rfl, s2⟩
  · rename_i ds e
    cases h
    obtain ⟨a, vs, q1, q2, q3, q4⟩ := R.slot i _ e
    refine key _ (.n .l (ds.map T.d)) (.list ds) e ?_ ⟨.ref a, q2, by rw [q1]; exact .n (own := [a]) (l := []) ⟨rfl, q3⟩ (rep_flatT q4) (by simp)⟩
    show (viewTs (ds.map T.d)).map PyData.list = some (.list ds)
    have : ∀ ds : List D, viewTs (ds.map T.d) = some ds := fun ds => by
      induction ds with
      | nil => rfl
      | cons d ds ih => show (viewT (.d d)).bind (fun x => (viewTs (ds.map T.d)).map (x :: ·)) = _; rw [ih]; rfl
    rw [this]; rfl
  · cases h
    refine ⟨F, fp, ?_, Same.refl _⟩
    exact { len := R.len, slot := fun j c ej => by
              have q := R.slot j c ej
              cases c <;> exact q
            dj := R.dj, own := R.own, sub := R.sub, new := fun _ _ e => .inl e, old := Same.refl _, keep := R.keep, alive := R.alive }
  · cases h
def eFv (i : Nat) (f : List C → Option D) : List C → Option D := fun env => match putFz i env with | some env' => flatO (f env') | none => none
theorem d_fv (i : Nat) (h : ∀ F1, DE X (G.frz F1) .ow e f) : DE X G .ow e (eFv i f) := by
  obtain ⟨t0, p0, _⟩ := (h (fun _ => none)).ex
  refine ⟨fun σ H Q => ∃ F1, tD X.K (G.frz F1) .ow f σ H Q, ⟨fun pins s σ H Q I ⟨F1, hq⟩ => (h F1).canon.run pins s σ H Q I hq⟩, fun σ H F fp env d Q R hf q => ?_⟩
  unfold eFv at hf
  split at hf
  · rename_i env' z
    obtain ⟨F1, fp', R1, s1⟩ := rel_frz R z
    unfold flatO at hf
    split at hf
    · rename_i es z2
      split at hf <;> cases hf
      rename_i hfl
      refine ⟨F1, F1, fp', env', _, R1, z2, fun v H' F' E' r => ?_⟩
      obtain ⟨a, vs, ds', rfl, ed, h1, h2, h3, h4⟩ := r
      cases ed
      exact q _ H' F ⟨E'.h, Same.refl _, fun b x eb => E'.h _ _ (R.sub _ _ eb), fun _ _ eb => .inl eb⟩ ⟨a, vs, _, rfl, rfl, h1, h2, R.sub.free h1, flat_any hfl h4⟩
    · cases hf
  · cases hf
def tFv (i : Nat) (ft : List C → Option Bool) : List C → Option Bool := fun env => (putFz i env).bind ft
theorem dt_fv (i : Nat) (h : ∀ F1, DTs X (G.frz F1) e ft) : DTs X G e (tFv i ft) := by
  refine ⟨fun σ H Q => ∃ F1, tDT X.K (G.frz F1) ft σ H Q, ⟨fun pins s σ H Q I ⟨F1, hq⟩ => (h F1).canon.run pins s σ H Q I hq⟩, fun σ H F fp env b Q R hf q => ?_⟩
  unfold tFv at hf
  cases z : putFz i env with
  | none => rw [z] at hf; cases hf
  | some env' =>
    rw [z] at hf
    obtain ⟨F1, fp', R1, s1⟩ := rel_frz R z
    exact ⟨F1, F1, fp', env', b, R1, hf, fun H' F' E' => q H' F ⟨E'.h, Same.refl _, fun b x eb => E'.h _ _ (R.sub _ _ eb), fun _ _ eb => .inl eb⟩⟩
/-! what is lent for reading: its lists stand as frozen -/
structure DRo (X : Cx) (G : GC) (e : Expr) (r : List C → Option T) : Prop where
  ex : ∃ t, PE X e t ∧ ∀ (σ : L2.St) (H F : Hp) (fp : Nat → List Addr) (env : List C) (u : T) (Q : VK), Rel X.K G env σ H F fp → r env = some u →
    (∀ v l H' F', Ext H F H' F' → OR X.K G.w G.kp F' v u l → (∀ a vs, a ∈ l → G.kp a = some (.lst vs) → F' a = some (.lst vs)) → Q v H') → t σ H Q
def roN (i : Nat) : List C → Option T := fun env => match env[i]? with | some (.ro true t) => some t | _ => none
theorem do_name {x : Str} (i : Nat) (h : PE X (.Name x pos) (tVar i)) : DRo X G (.Name x pos) (roN i) := by
  refine ⟨_, h, fun σ H F fp env u Q R hg q => ?_⟩
  unfold roN at hg
  split at hg
  · rename_i t e
    cases hg
    obtain ⟨_, v, l, q1, q2, q3⟩ := R.slot i _ e
    cases y : σ[i]? with
    | none => rw [y] at q1; cases q1
    | some o =>
      rw [y] at q1
      have e2 : o = some v := q1
      subst e2
      exact ⟨v, y, q v l H F (Ext.refl R.sub) q2 (q3 rfl)⟩
  · cases hg
theorem do_attr {fn : Str} {r : List C → Option T} (c : Str) (h : DRo X G e r) (hc : ClOk X.K c) (hf : NoAt X.K c fn) (hb : attributeBase e fn X.env (eval e X.env) = eval e X.env := by rfl) : DRo X G (.Attribute e fn pos) (rF c fn r) := by
  obtain ⟨t, pt, o⟩ := h.ex
  refine ⟨_, pe_fld pt hb, fun σ H F fp env u Q R hg q => ?_⟩
  obtain ⟨s, ts, j, h1, h2, h3⟩ := rChild_of hg
  unfold selF at h2
  split at h2
  · rename_i c' fs
    split at h2
    · rename_i hcc
      subst hcc
      refine o σ H F fp env _ _ R h1 fun v l H1 F1 E1 rep cl => ?_
      have kp := (R.ext E1).kpSame
      cases rep with
      | @n _ a vs _ own l0 r1 r2 r3 =>
        obtain ⟨w, lt, l1, l2, rfl, hw, r', _⟩ := ORs_at r2 h3
        obtain ⟨hl, C', dx, rfl, n1, n2, n3⟩ := r1
        obtain ⟨C2, hC, cls⟩ := hc.ex
        rw [n1] at hC; cases hC
        exact ⟨a, C', dx, _, w, rfl, kp _ _ n2, cls, hf C' n1, fIx_zip h2 hw, q w lt H1 F1 E1 r' fun b ws hb => cl b ws (by simp [hb])⟩
    · cases h2
  · cases h2
theorem d_roflat {r : List C → Option T} (h : DRo X G e r) : DE X G .fz e (rFlat r) := by
  obtain ⟨t, pt, o⟩ := h.ex
  refine ⟨t, pt, fun σ H F fp env d Q R hf q => ?_⟩
  unfold rFlat at hf
  cases z : r env with
  | none => rw [z] at hf; cases hf
  | some u =>
    rw [z] at hf
    refine o σ H F fp env u _ R z fun v l H1 F1 E1 rep cl => ?_
    cases u with
    | d x =>
      cases hf
      cases rep with
      | d r => exact q v H1 F1 E1 r
    | n s ts =>
      cases s with
      | l =>
        have hf : (flatT ts).map PyData.list = some d := hf
        cases z2 : flatT ts with
        | none => rw [z2] at hf; cases hf
        | some ds =>
          rw [z2] at hf; cases hf
          cases rep with
          | @n _ a vs _ own l h2 h3 h4 =>
            obtain ⟨rfl, h2⟩ := h2
            exact q _ H1 F1 E1 (.lst (cl a vs (by simp) h2) (flatT_rep z2 h3).1)
      | _ => cases hf
/-- a new flat list -/
def eOw (fn : List C → Option T) : List C → Option D := fun env => match fn env with | some (.n .l ts) => (flatT ts).map .list | _ => none
theorem d_now (h : DN X G e fn) : DE X G .ow e (eOw fn) := by
  obtain ⟨t, pt, o⟩ := h.ex
  refine ⟨t, pt, fun σ H F fp env d Q R hf q => ?_⟩
  unfold eOw at hf
  split at hf
  · rename_i ts z
    cases z2 : flatT ts with
    | none => rw [z2] at hf; cases hf
    | some ds =>
      rw [z2] at hf; cases hf
      refine o σ H F fp env _ Q R z fun v H' F' l E r fr => ?_
      cases r with
      | @n _ a vs _ own l0 r1 r2 r3 =>
        obtain ⟨rfl, r1⟩ := r1
        obtain ⟨g1, g2, g3⟩ := fr a (by simp)
        exact q _ H' F' E ⟨a, vs, ds, rfl, rfl, g1, r1, g2, (flatT_rep z2 r2).1⟩
  · cases hf
end
end DL
set_option Elab.async false
set_option linter.all false
set_option maxRecDepth 100000
set_option maxHeartbeats 4000000
/-! DPk: a def's new list, told within a tuple; is not True -/
namespace DL
open PySem PySem.Spec L2
section
variable {K : PySem.W.Frag} {w : World} {G : GC} {env : List C} {σ : L2.St} {H F H' F' : Hp} {fp : Nat → List Addr} {X : Cx}
/-- what stands in a list or a tuple is told by where it is -/
def OneOk (K : PySem.W.Frag) (H : Hp) : Prop := (∀ a xs ys, SqT K H a xs → SqT K H a ys → xs = ys) ∧ ∀ a xs ys, H a = some (.lst xs) → SqT K H a ys → False
theorem pe_one {e : Expr} {t : TE} (h : PE X e t) : PE X e (fun σ H Q => t σ H (fun v H' => OneOk X.K H' → Q v H')) := ⟨fun pins s σ H Q I hq => thn (h.run pins s σ H _ I hq) fun u s' ⟨v, H', I', rv, q⟩ => ⟨v, H', I', rv, q ⟨fun a xs ys h1 h2 => I'.tuple_inj h1 h2, fun a xs ys h1 h2 => by
  obtain ⟨its, r, ⟨o, n, e, hc, _, d⟩, _⟩ := I'.list (SqL.of h1)
  obtain ⟨its', r', ⟨o', e', hc', n', d'⟩, _⟩ := I'.tuple h2
  rw [e] at e'; cases e'
  rw [hc] at hc'
  injection hc' with z
  exact absurd z (by decide)⟩⟩⟩
theorem lst_tup {a : Addr} {xs ys : List V} (ok : OneOk K H) (sub : Same F H) (h1 : F a = some (.lst xs)) (h2 : SqT K F a ys) : False := ok.2 a xs ys (sub _ _ h1) (Same.seqT sub h2)
mutual
theorem DF_one (ok : OneOk K H) (sub : Same F H) : ∀ (d e : D) (v : V), DF K F v d → DF K F v e → d = e
  | .none, e, v, h, h' => by cases h; cases h'; rfl
  | .bool b, e, v, h, h' => by cases h; cases h'; rfl
  | .int i, e, v, h, h' => by cases h; cases h'; rfl
  | .str x, e, v, h, h' => by cases h; cases h'; rfl
  | .list ds, e, v, h, h' => by
    cases h with
    | @lst a xs _ h1 h2 =>
      cases h' with
      | @lst _ ys es g1 g2 =>
        rw [h1] at g1; cases g1
        rw [DFAll_one ok sub ds es xs h2 g2]
      | @tup _ ys es g1 g2 => exact (lst_tup ok sub h1 g1).elim
  | .tuple ds, e, v, h, h' => by
    cases h with
    | @tup a xs _ h1 h2 =>
      cases h' with
      | @lst _ ys es g1 g2 => exact (lst_tup ok sub g1 h1).elim
      | @tup _ ys es g1 g2 =>
        have := ok.1 a xs ys (Same.seqT sub h1) (Same.seqT sub g1)
        subst this
        rw [DFAll_one ok sub ds es xs h2 g2]
  | .dict _, _, _, h, _ => by cases h
theorem DFAll_one (ok : OneOk K H) (sub : Same F H) : ∀ (ds es : List D) (vs : List V), DFAll K F vs ds → DFAll K F vs es → ds = es
  | [], es, vs, h, h' => by cases h; cases h'; rfl
  | d :: ds, es, vs, h, h' => by
    cases h with
    | cons h1 h2 =>
      cases h' with
      | cons g1 g2 => rw [DF_one ok sub d _ _ h1 g1, DFAll_one ok sub ds _ _ h2 g2]
end
/-! ### a tuple with a new list -/
open Classical in
noncomputable def oneL (F : Hp) (b : Addr) : Hp := fun a => match F a with
  | some (HO.lst vs) => if a = b then some (HO.lst vs) else none
  | o => o
theorem oneL_sub {F : Hp} {b : Addr} : Same (oneL F b) F := fun a o e => by
  unfold oneL at e
  split at e
  · rename_i vs y
    split at e
    · rw [y]; exact e
    · cases e
  · exact e
theorem oneL_at {F : Hp} {b a : Addr} {vs : List V} (e : oneL F b a = some (.lst vs)) : a = b := by
  unfold oneL at e
  split at e
  · split at e
    · assumption
    · cases e
  · rename_i hne
    exact absurd e (fun e => hne _ e)
theorem oneL_off {F : Hp} {b a : Addr} {o : HO} (e : F a = some o) : oneL F b a = some o ∨ ∃ vs, o = HO.lst vs := by
  cases o with
  | lst vs => exact .inr ⟨vs, rfl⟩
  | _ => exact .inl (by unfold oneL; rw [e])
theorem oneL_b {F : Hp} {b : Addr} {vs : List V} (e : F b = some (.lst vs)) : oneL F b b = some (.lst vs) := by
  unfold oneL; rw [e]; exact if_pos rfl
open Classical in
noncomputable def nCallF (g : List D → Option D) (fs : List C → Option (List D)) : List C → Option T := fun env => match fs env with
  | some [.list as, .int n] => (match g [.list as, .int n] with
    | some (.tuple [.str s, .list es]) => if noLs as = true ∧ noLs es = true then (if as = es then (if es = [] then some (.n .t [.d (.str s), .d (.list [])]) else none) else some (.n .t [.d (.str s), .n .l (es.map .d)])) else none
    | _ => none)
  | _ => none
theorem dn_callF {es : List Expr} {fs : List C → Option (List D)} {pos p : Pos} {x : Str} {g : List D → Option D} {n : Nat} {e : Expr} (c : Callee X.prog X.w X.K X.mg X.base n x [.fz, .fz] .fz g) (hr : Room n X.A) (hg : Gl X x) (ha : DA X G [.fz, .fz] (e :: es) fs) (hdb : (x == ("__debug__" : Str)) = false := by decide)
    (he : starEach (e :: es) X.env = (false, eval e X.env) :: starEach es X.env := by rfl) (hpl : (backTo pos (starEach es X.env)).any (·.1) = false := by rfl) : DN X G (.Call (.Name x p) (e :: es) [] pos) (nCallF g fs) := by
  classical
  obtain ⟨f, fd, ps, F, hm, kp, b⟩ := c.ex
  obtain ⟨t, pt, oa⟩ := ha.ex
  refine ⟨_, pe_one (pe_call F hr hg hm kp b .nil pass0 pt hdb he hpl), fun σ H F fp env u Q R hf q => ?_⟩
  unfold nCallF at hf
  split at hf
  · rename_i as n z
    split at hf
    · rename_i s es z2
      split at hf
      · rename_i hno
        obtain ⟨no1, no2⟩ := hno
        refine oa σ H F fp env _ _ R z fun vs H1 F1 E1 r1 => ?_
        rw [List.append_nil]
        match vs, r1 with
        | [v1, v2], r1 =>
          have r11 : DF X.K F1 v1 (.list as) := r1.1
          have r12 : DF X.K F1 v2 (.int n) := r1.2.1
          cases r12
          cases r11 with
          | @lst b0 xs _ hb hxs =>
            have F0s : Same (oneL F1 b0) F1 := oneL_sub
            have off : ∀ a o, F1 a = some o → oneL F1 b0 a = some o ∨ ∃ vs, o = HO.lst vs := fun a o e => oneL_off e
            have hb0 := oneL_b hb
            have hx0 : DFAll X.K (oneL F1 b0) xs as := DFAll_off off as xs no1 hxs
            refine ⟨oneL F1 b0, [.list as, .int n], _, F0s.trans E1.sub, z2, ⟨DF.lst hb0 hx0, DF.int n, trivial⟩, fun v H' F' E r ok => ?_⟩
            have r : DF X.K F' v (.tuple [.str s, .list es]) := r
            cases r with
            | @tup t vs _ ht hvs =>
              cases hvs with
              | @cons w1 _ _ _ h1 h2 =>
                cases h1
                cases h2 with
                | @cons w2 _ _ _ h2 h3 =>
                  cases h3
                  cases h2 with
                  | @lst a ys _ hya hys =>
                    let P : Prop := as ≠ es
                    let F2 : Hp := fun x => match F1 x with | some o => some o | none => if P ∧ x = a then none else F' x
                    have f1 : ∀ x o, F1 x = some o → F2 x = some o := fun x o e => by show (match F1 x with | some o => some o | none => if P ∧ x = a then none else F' x) = _; rw [e]
                    have f2 : ∀ x, F1 x = none → F2 x = if P ∧ x = a then none else F' x := fun x e => by show (match F1 x with | some o => some o | none => if P ∧ x = a then none else F' x) = _; rw [e]
                    have s1 : Same F1 H' := fun x o e => E.h _ _ (E1.sub _ _ e)
                    have g1 : ∀ x o, F' x = some o → F2 x = some o ∨ (P ∧ x = a) := fun x o e => by
                      cases y : F1 x with
                      | some o1 =>
                        have z1 := s1 _ _ y
                        have z2 := E.sub _ _ e
                        rw [z1] at z2; cases z2
                        exact .inl (f1 _ _ y)
                      | none =>
                        by_cases hp : P ∧ x = a
                        · exact .inr hp
                        · exact .inl (by rw [f2 _ y, if_neg hp]; exact e)
                    have go : ∀ x o, F' x = some o → F2 x = some o ∨ ∃ vs, o = .lst vs := fun x o e => by
                      rcases g1 x o e with y | ⟨_, rfl⟩
                      · exact .inl y
                      · rw [hya] at e; cases e; exact .inr ⟨_, rfl⟩
                    have ht2 : SqT X.K F2 t [.str s, .ref a] := by
                      rcases ht with (hs | ⟨o, hs⟩) | hs
                      · rcases go _ _ hs with y | ⟨vs, y⟩
                        · exact .inl (.inl y)
                        · cases y
                      · rcases go _ _ hs with y | ⟨vs, y⟩
                        · exact .inl (.inr ⟨o, y⟩)
                        · cases y
                      · exact .inr hs
                    have E2 : Ext H1 F1 H' F2 := ⟨E.h, f1, fun x o e => by
                      cases y : F1 x with
                      | some o1 => rw [f1 _ _ y] at e; cases e; exact s1 _ _ y
                      | none =>
                        rw [f2 _ y] at e
                        split at e
                        · cases e
                        · exact E.sub _ _ e, fun x o e => by
                      cases y : F1 x with
                      | some o1 => rw [f1 _ _ y] at e; cases e; exact .inl rfl
                      | none =>
                        rw [f2 _ y] at e
                        split at e
                        · cases e
                        · rcases E.new _ _ e with z | z
                          · exact .inl (by rw [F0s _ _ z] at y; cases y)
                          · exact .inr z⟩
                    by_cases hae : as = es
                    · rw [if_pos hae] at hf
                      split at hf
                      · rename_i he0
                        cases hf
                        subst he0
                        cases hys
                        have ha2 : F2 a = some (.lst []) := by
                          rcases g1 _ _ hya with y | ⟨y, _⟩
                          · exact y
                          · exact absurd hae y
                        refine q _ H' F2 [] (E1.trans E2) ?_ (fun b hb => nomatch hb)
                        exact .n (own := []) (l := []) (.inr ⟨rfl, ht2⟩) (.cons (l := []) (m := []) (.d (.str s)) (.cons (l := []) (m := []) (.d (DF.lst ha2 .nil)) .nil)) (by simp)
                      · cases hf
                    · rw [if_neg hae] at hf
                      cases hf
                      have hfr : H1 a = none := by
                        rcases E.new _ _ hya with y | y
                        · have ea := oneL_at y
                          subst ea
                          rw [hb0] at y; cases y
                          exact absurd (DFAll_one ok E.sub _ _ _ (DFAll_mono E.f _ _ hx0) hys) hae
                        · exact y
                      have hF1 : F1 a = none := E1.sub.free hfr
                      have ha2 : F2 a = none := by rw [f2 _ hF1, if_pos ⟨hae, rfl⟩]
                      have hys2 := DFAll_off go es ys no2 hys
                      refine q _ H' F2 [a] (E1.trans E2) ?_ (fun b hb => ?_)
                      · exact .n (own := []) (l := [a]) (.inr ⟨rfl, ht2⟩) (.cons (l := []) (m := [a]) (.d (.str s)) (.cons (l := [a]) (m := []) (.n (own := [a]) (l := []) ⟨rfl, E.sub _ _ hya⟩ (rep_flatT hys2) (by simp)) .nil)) (by simp)
                      · rw [List.mem_singleton.mp hb]
                        exact ⟨E1.h.free hfr, ha2, by rw [E.sub _ _ hya]; intro z; cases z⟩
        | [], r1 => exact r1.elim
        | [_], r1 => exact r1.2.elim
        | _ :: _ :: _ :: _, r1 => exact r1.2.2.elim
      · cases hf
    · cases hf
  · cases hf
/-! ### is not True, is not False -/
def gNotB : D → D → Option D | .bool a, .bool b => some (.bool (!decide (a = b))) | _, _ => none
theorem o_notB : DOp X G (compareOp .IsNot) .vl .vl .fz gNotB := ⟨_, op_isnot_bl, fun H F vx vy dx dy d Q sub kp hl rx ry hd q => by
  unfold gNotB at hd
  split at hd
  · rename_i a b
    cases hd
    have e1 := vl_bl (G := G) (H := H) (F := F) rx
    have e2 := vl_bl (G := G) (H := H) (F := F) ry
    exact ⟨a, b, e1, e2, q _ H F (Ext.refl sub) (.bl _)⟩
  · cases hd⟩
theorem nCallF_own {g : List D → Option D} {fs : List C → Option (List D)} {as es : List D} {n : Int} {s : Str} (h1 : fs env = some [.list as, .int n]) (h2 : g [.list as, .int n] = some (.tuple [.str s, .list es])) (h3 : noLs as = true) (h4 : noLs es = true) (h5 : as ≠ es) :
    nCallF g fs env = some (.n .t [.d (.str s), .n .l (es.map .d)]) := by
  unfold nCallF
  rw [h1]
  show (match g [.list as, .int n] with | some (.tuple [.str s, .list es]) => _ | _ => _) = _
  rw [h2]
  show (if _ then _ else _) = _
  rw [if_pos ⟨h3, h4⟩, if_neg h5]
theorem nCallF_nil {g : List D → Option D} {fs : List C → Option (List D)} {n : Int} {s : Str} (h1 : fs env = some [.list [], .int n]) (h2 : g [.list [], .int n] = some (.tuple [.str s, .list []])) :
    nCallF g fs env = some (.n .t [.d (.str s), .d (.list [])]) := by
  unfold nCallF
  rw [h1]
  show (match g [.list [], .int n] with | some (.tuple [.str s, .list es]) => _ | _ => _) = _
  rw [h2]
  show (if _ then _ else _) = _
  rw [if_pos ⟨rfl, rfl⟩, if_pos rfl, if_pos rfl]
end
end DL
set_option Elab.async false
set_option linter.all false
set_option maxRecDepth 100000
set_option maxHeartbeats 4000000
/-! DPm: calls of defs that write several names' things -/
namespace DL
open PySem PySem.Spec L2
inductive MAs (K : PySem.W.Frag) (env : List C) (σ : L2.St) (F : Hp) : List Bool → List Nat → List V → List T → Prop
  | nil : MAs K env σ F [] [] [] []
  | ro {v : V} {d : D} {ks : List Bool} {sl : List Nat} {vs : List V} {us : List T} : DF K F v d → MAs K env σ F ks sl vs us → MAs K env σ F (false :: ks) sl (v :: vs) (.d d :: us)
  | mu {i : Nat} {m : Option Nat} {s : Shp} {ts : List T} {v : V} {ks : List Bool} {sl : List Nat} {vs : List V} {us : List T} : env[i]? = some (.own m (.n s ts)) → σ[i]? = some (some v) → MAs K env σ F ks sl vs us → MAs K env σ F (true :: ks) (i :: sl) (v :: vs) (.n s ts :: us)
def putsN : List Nat → List T → List C → List C
  | i :: sl, u :: us, env => putsN sl us (putAt env (i, []) u)
  | _, _, env => env
def fpN : List Nat → List (List Addr) → (Nat → List Addr) → Nat → List Addr
  | i :: sl, l :: ls, fp => fpN sl ls (fset fp i l)
  | _, _, fp => fp
section
variable {K : PySem.W.Frag} {w : World} {G : GC} {env : List C} {σ : L2.St} {H F H' F' : Hp} {fp : Nat → List Addr} {ks : List Bool} {sl : List Nat} {vs : List V} {us us' : List T} {ls' : List (List Addr)} {ws : List (Addr × List Addr)}
theorem MAs.mono (f : Same F F') (h : MAs K env σ F ks sl vs us) : MAs K env σ F' ks sl vs us := by
  induction h with
  | nil => exact .nil
  | ro h _ ih => exact .ro (DF_mono f _ _ h) ih
  | mu h1 h2 _ ih => exact .mu h1 h2 ih
theorem MAs.ma (hw : G.w = some w) (R : Rel K G env σ H F fp) (Kp : Hp) (h : MAs K env σ F ks sl vs us) : ∃ ws, MA K (some w) Kp H F ks vs us ws ∧ ws.map (·.2) = sl.map fp := by
  induction h with
  | nil => exact ⟨[], .nil, rfl⟩
  | ro h _ ih =>
    obtain ⟨ws, h1, h2⟩ := ih
    exact ⟨ws, .ro (.d h) h1, h2⟩
  | @mu i m s ts v ks sl vs us e1 e2 _ ih =>
    obtain ⟨ws, h1, h2⟩ := ih
    obtain ⟨v', s1, r, _⟩ := slot_own R e1
    rw [e2] at s1; cases s1
    rw [hw] at r
    generalize hl : fp i = l at r
    cases r with
    | @n _ a vs' _ own l0 r1 r2 r3 =>
      refine ⟨(a, own ++ l0) :: ws, .mu (.n r1 r2 r3) h1, ?_⟩
      rw [List.map_cons, List.map_cons, h2, hl]
theorem MAs.slots (R : Rel K G env σ H F fp) (h : MAs K env σ F ks sl vs us) (nd : sl.Nodup) : ((sl.map fp).flatten).Nodup := by
  induction h with
  | nil => exact List.nodup_nil
  | ro _ _ ih => exact ih nd
  | @mu i m s ts v ks sl vs us e1 e2 _ ih =>
    rw [List.nodup_cons] at nd
    obtain ⟨v', s1, r, _⟩ := slot_own R e1
    rw [List.map_cons, List.flatten_cons, List.nodup_append]
    refine ⟨r.nodup, ih nd.2, fun b hb c hc z => ?_⟩
    subst z
    obtain ⟨l, hl, hc⟩ := List.mem_flatten.mp hc
    obtain ⟨j, hj, rfl⟩ := List.mem_map.mp hl
    exact nd.1 (R.dj i j b hb hc ▸ hj)
theorem wAll_map (ws : List (Addr × List Addr)) : wAll ws = (ws.map (·.2)).flatten := by unfold wAll; rw [List.flatMap_def]
theorem putAt_ne {i j : Nat} {u : T} (h : j ≠ i) : (putAt env (i, []) u)[j]? = env[j]? := by
  unfold putAt
  split
  · rw [List.getElem?_set_ne (Ne.symm h)]
  · rfl
theorem putAt_len {ip : IP} {u : T} : (putAt env ip u).length = env.length := by
  unfold putAt
  split
  · rw [List.length_set]
  · rfl
theorem putsN_ne : ∀ {sl : List Nat} {us : List T} {env : List C} {j : Nat}, j ∉ sl → (putsN sl us env)[j]? = env[j]?
  | [], us, env, j, _ => by unfold putsN; rfl
  | i :: sl, [], env, j, _ => by unfold putsN; rfl
  | i :: sl, u :: us, env, j, h => by
    unfold putsN
    exact (putsN_ne fun z => h (List.mem_cons_of_mem _ z)).trans (putAt_ne fun z : j = i => h (z ▸ List.mem_cons_self))
theorem putsN_len : ∀ {sl : List Nat} {us : List T} {env : List C}, (putsN sl us env).length = env.length
  | [], us, env => by unfold putsN; rfl
  | i :: sl, [], env => by unfold putsN; rfl
  | i :: sl, u :: us, env => by
    unfold putsN
    rw [putsN_len, putAt_len]
theorem fpN_ne : ∀ {sl : List Nat} {ls : List (List Addr)} {fp : Nat → List Addr} {j : Nat}, j ∉ sl → fpN sl ls fp j = fp j
  | [], ls, fp, j, _ => by unfold fpN; rfl
  | i :: sl, [], fp, j, _ => by unfold fpN; rfl
  | i :: sl, l :: ls, fp, j, h => by
    unfold fpN
    exact (fpN_ne fun z => h (List.mem_cons_of_mem _ z)).trans (fset_ne fun z : j = i => h (z ▸ List.mem_cons_self))
theorem fpN_mem : ∀ {sl : List Nat} {ls : List (List Addr)} {fp : Nat → List Addr} {j : Nat}, sl.Nodup → sl.length = ls.length → j ∈ sl → fpN sl ls fp j ∈ ls
  | [], ls, fp, j, _, _, h => nomatch h
  | i :: sl, [], fp, j, _, e, _ => nomatch e
  | i :: sl, l :: ls, fp, j, nd, e, h => by
    unfold fpN
    rw [List.nodup_cons] at nd
    by_cases hj : j ∈ sl
    · exact List.mem_cons_of_mem _ (fpN_mem nd.2 (by simpa using e) hj)
    · have : j = i := (List.mem_cons.mp h).resolve_right hj
      subst this
      rw [fpN_ne hj, fset_at]; exact List.mem_cons_self
theorem fpN_dj : ∀ {sl : List Nat} {ls : List (List Addr)} {fp : Nat → List Addr} {j k : Nat} {b : Addr}, sl.Nodup → sl.length = ls.length → ls.flatten.Nodup → j ∈ sl → k ∈ sl → b ∈ fpN sl ls fp j → b ∈ fpN sl ls fp k → j = k
  | [], ls, fp, j, k, b, _, _, _, h, _, _, _ => nomatch h
  | i :: sl, [], fp, j, k, b, _, e, _, _, _, _, _ => nomatch e
  | i :: sl, l :: ls, fp, j, k, b, nd, e, nf, hj, hk, h1, h2 => by
    unfold fpN at h1 h2
    have nd' := nd
    rw [List.nodup_cons] at nd
    rw [List.flatten_cons, List.nodup_append] at nf
    have e' : sl.length = ls.length := by simpa using e
    by_cases gj : j ∈ sl
    · by_cases gk : k ∈ sl
      · exact fpN_dj nd.2 e' nf.2.1 gj gk h1 h2
      · have : k = i := (List.mem_cons.mp hk).resolve_right gk
        subst this
        rw [fpN_ne gk, fset_at] at h2
        exact (nf.2.2 b h2 b (List.mem_flatten.mpr ⟨_, fpN_mem nd.2 e' gj, h1⟩) rfl).elim
    · have : j = i := (List.mem_cons.mp hj).resolve_right gj
      subst this
      rw [fpN_ne gj, fset_at] at h1
      by_cases gk : k ∈ sl
      · exact (nf.2.2 b h1 b (List.mem_flatten.mpr ⟨_, fpN_mem nd.2 e' gk, h2⟩) rfl).elim
      · exact ((List.mem_cons.mp hk).resolve_right gk).symm
theorem MAs.post {ow : Option World} (h : MAs K env σ F ks sl vs us) : ∀ {us' : List T} {ls' : List (List Addr)} {ws : List (Addr × List Addr)} {fp0 : Nat → List Addr}, MU K ow H' F' ks vs us' ls' → W.EachIs (fun (x : Addr × List Addr) (l : List Addr) => ∀ b, b ∈ l → b ∈ x.2 ∨ H b = none) ws ls' → ws.map (·.2) = sl.map fp0 → sl.Nodup →
    sl.length = ls'.length ∧ ∀ (env1 : List C) (fp1 : Nat → List Addr), (∀ j, j ∈ sl → env1[j]? = env[j]?) → ∀ j, j ∈ sl → ∃ m s ts v u' l', env[j]? = some (.own m (.n s ts)) ∧ σ[j]? = some (some v) ∧ (putsN sl us' env1)[j]? = some (.own m u') ∧ fpN sl ls' fp1 j = l' ∧ OR K ow H' F' v u' l' ∧ ∀ b, b ∈ l' → b ∈ fp0 j ∨ H b = none := by
  induction h with
  | nil =>
    intro us' ls' ws fp0 mu sep e nd
    cases mu
    exact ⟨rfl, fun _ _ _ j hj => nomatch hj⟩
  | ro _ _ ih =>
    intro us' ls' ws fp0 mu sep e nd
    cases mu with
    | ro mu => exact ih mu sep e nd
  | @mu i m s ts v ks sl vs us e1 e2 _ ih =>
    intro us' ls' ws fp0 mu sep e nd
    rw [List.nodup_cons] at nd
    cases mu with
    | @mu a u l _ _ us2 ls2 r mu =>
      cases sep with
      | @cons x _ ws2 _ sp sep =>
        rw [List.map_cons, List.map_cons] at e
        injection e with ea eb
        obtain ⟨hl, go⟩ := ih mu sep eb nd.2
        refine ⟨by rw [List.length_cons, List.length_cons, hl], fun env1 fp1 he j hj => ?_⟩
        unfold putsN fpN
        have hi : env1[i]? = some (.own m (.n s ts)) := (he i List.mem_cons_self).trans e1
        by_cases gj : j ∈ sl
        · exact go _ _ (fun k hk => by
            have hne : k ≠ i := fun z => nd.1 (z ▸ hk)
            exact (putAt_ne hne).trans (he k (List.mem_cons_of_mem _ hk))) j gj
        · have : j = i := (List.mem_cons.mp hj).resolve_right gj
          subst this
          refine ⟨m, s, ts, _, u, l, e1, e2, ?_, ?_, r, fun b hb => ?_⟩
          · rw [putsN_ne gj]
            unfold putAt
            dsimp only
            rw [hi]
            exact List.getElem?_set_self (List.getElem?_eq_some_iff.mp hi).1
          · rw [fpN_ne gj, fset_at]
          · rw [← ea]; exact sp b hb
/-- behind a call that writes several names' things -/
theorem Rel.calledN {r : T} {lr : List Addr} {v : V} (hw : G.w = some w) (R : Rel K G env σ H F fp) (ma : MAs K env σ F ks sl vs us) (nd : sl.Nodup) (hws : ws.map (·.2) = sl.map fp) (p : PostM K w ks vs H F ws H' F' us' ls' v r lr) :
    Rel K G (putsN sl us' env) σ H' F' (fpN sl ls' fp) ∧ New K G H' F' (fpN sl ls' fp) v r lr := by
  obtain ⟨hl, at1⟩ := ma.post p.mu p.sep hws nd
  have at1 := at1 env fp (fun _ _ => rfl)
  have hwa : ∀ b, b ∈ wAll ws ↔ ∃ i, i ∈ sl ∧ b ∈ fp i := fun b => by
    rw [wAll_map, hws, List.mem_flatten]
    constructor
    · intro ⟨l, h1, h2⟩
      obtain ⟨i, hi, rfl⟩ := List.mem_map.mp h1
      exact ⟨i, hi, h2⟩
    · intro ⟨i, h1, h2⟩
      exact ⟨_, List.mem_map.mpr ⟨i, h1, rfl⟩, h2⟩
  have ndl := p.nd
  rw [List.nodup_append] at ndl
  have al2 : ∀ b, H b ≠ none → H' b ≠ none := fun b hb => by
    by_cases hl : b ∈ wAll ws
    · exact p.al b hl
    · cases q : H b with
      | none => exact absurd q hb
      | some o => rw [p.keep b o hl q]; intro z; cases z
  have fn : ∀ j b, b ∈ fp j → F' b = none := fun j b hb => by
    cases q : F' b with
    | none => rfl
    | some o =>
      rcases p.nw b o q with z | z
      · rw [(R.own j b hb).1] at z; cases z
      · exact absurd z (R.own j b hb).2.1
  have fr : ∀ b, H b = none → (∀ j, b ∉ fp j) := fun b hb j hj => (R.own j b hj).2.1 hb
  have inl : ∀ j, j ∈ sl → ∀ b, b ∈ fpN sl ls' fp j → b ∈ ls'.flatten := fun j hj b hb => List.mem_flatten.mpr ⟨_, fpN_mem nd hl hj, hb⟩
  have sep : ∀ j, j ∈ sl → ∀ b, b ∈ fpN sl ls' fp j → b ∈ fp j ∨ H b = none := fun j hj b hb => by
    obtain ⟨m, s, ts, v', u', l', _, _, _, e4, _, e6⟩ := at1 j hj
    exact e6 b (e4 ▸ hb)
  refine ⟨?_, ⟨by rw [hw]; exact p.res, fun b hb => ⟨(p.new b hb).2.1, (p.new b hb).2.2, R.h0 (p.new b hb).1⟩, fun b hb j hj => ?_⟩⟩
  · exact {
      len := by rw [putsN_len]; exact R.len
      slot := fun j c ej => by
        by_cases hj : j ∈ sl
        · obtain ⟨m, s, ts, v', u', l', e1, e2, e3, e4, e5, e6⟩ := at1 j hj
          rw [e3] at ej; cases ej
          obtain ⟨v0, s1, _, s3⟩ := slot_own R e1
          rw [e2] at s1; cases s1
          refine ⟨v', by rw [e2]; rfl, by rw [hw, e4]; exact e5, fun jj hjj => ?_⟩
          obtain ⟨ra, rl, h1, h2, h3⟩ := s3 jj hjj
          refine ⟨ra, rl, h1, h2, fun b hb => ?_⟩
          rcases sep j hj b hb with z | z
          · exact h3 b z
          · exact .inr (R.h0 z)
        · rw [putsN_ne hj] at ej
          rw [fpN_ne hj]
          have q := R.slot j c ej
          have kk : ∀ b o, b ∈ fp j → H b = some o → H' b = some o := fun b o hb => p.keep b o fun hl => by
            obtain ⟨i, hi, hb'⟩ := (hwa b).mp hl
            exact hj (R.dj j i b hb hb' ▸ hi)
          have f := p.f
          cases c with
          | und => exact q
          | val d => obtain ⟨y1, w, y2, y3⟩ := q; exact ⟨y1, w, y2, DF_mono f _ _ y3⟩
          | brw d => exact q
          | lst ds => obtain ⟨b, vs, y1, y2, y3, y4⟩ := q; exact ⟨b, vs, y1, y2, kk _ _ (by rw [y1]; exact List.mem_singleton.mpr rfl) y3, DFAll_mono f _ _ y4⟩
          | dK ds => obtain ⟨b, vs, y1, y2, y3, y4⟩ := q; exact ⟨b, vs, y1, y2, kk _ _ (by rw [y1]; exact List.mem_singleton.mpr rfl) y3, y4.mono f⟩
          | dT ds => obtain ⟨b, vs, y1, y2, y3, y4⟩ := q; exact ⟨b, vs, y1, y2, kk _ _ (by rw [y1]; exact List.mem_singleton.mpr rfl) y3, y4.mono f⟩
          | dN ds => obtain ⟨b, w, xs, y1, y2, y5, y3, y4⟩ := q; exact ⟨b, w, xs, y1, y2, y5, kk _ _ (by rw [y1]; exact List.mem_singleton.mpr rfl) y3, y4.mono f⟩
          | pin _ => exact q
          | ro b t2 => obtain ⟨y0, w, l, y1, y2, y3⟩ := q; exact ⟨y0, w, l, y1, OR_mono f _ _ _ (fun _ _ _ z => z) y2, fun hb a vs ha hk => f _ _ (y3 hb a vs ha hk)⟩
          | own m2 t2 => obtain ⟨w, y1, y2, y3⟩ := q; exact ⟨w, y1, OR_mono f _ _ _ kk y2, y3⟩
      dj := fun j k b h1 h2 => by
        by_cases hj : j ∈ sl
        · by_cases hk : k ∈ sl
          · exact fpN_dj nd hl ndl.1 hj hk h1 h2
          · rw [fpN_ne hk] at h2
            rcases sep j hj b h1 with z | z
            · exact R.dj j k b z h2
            · exact (fr b z k h2).elim
        · rw [fpN_ne hj] at h1
          by_cases hk : k ∈ sl
          · rcases sep k hk b h2 with z | z
            · exact R.dj j k b h1 z
            · exact (fr b z j h1).elim
          · rw [fpN_ne hk] at h2
            exact R.dj j k b h1 h2
      own := fun j b hb => by
        by_cases hj : j ∈ sl
        · obtain ⟨m, s, ts, v', u', l', e1, e2, e3, e4, e5, e6⟩ := at1 j hj
          obtain ⟨o1, o2⟩ := p.own b (inl j hj b hb)
          refine ⟨o1, o2, ?_⟩
          rcases sep j hj b hb with z | z
          · refine (R.own j b z).2.2.imp_right fun ⟨w1, c, w2, w3⟩ => ⟨w1, _, e3, ?_⟩
            rw [e1] at w2; cases w2
            cases m with
            | none => cases w3
            | some _ => rfl
          · exact .inl (R.h0 z)
        · rw [fpN_ne hj] at hb
          obtain ⟨g1, g2, g3⟩ := R.own j b hb
          exact ⟨fn j b hb, al2 b g2, by rw [putsN_ne hj]; exact g3⟩
      sub := p.sub
      new := fun a o q => by
        rcases p.nw a o q with z | z
        · exact R.new a o z
        · exact .inr (R.h0 z)
      old := R.old.trans p.f
      keep := fun a o q hW => p.keep a o (fun hl => by
        obtain ⟨i, hi, hb⟩ := (hwa a).mp hl
        rcases (R.own i a hb).2.2 with z | ⟨z, _⟩
        · rw [q] at z; cases z
        · exact hW z) (R.keep a o q hW)
      alive := fun a q => al2 a (R.alive a q) }
  · by_cases hjl : j ∈ sl
    · exact ndl.2.2 b (inl j hjl b hj) b hb rfl
    · rw [fpN_ne hjl] at hj
      exact fr b (p.new b hb).1 j hj
end
section
variable {X : Cx} {G : GC} {kr k k2 : RK} {e a b : Expr} {es : List Expr} {f : List C → Option D} {rs : List C → Option (List T)} {pos p : Pos} {n lv : Nat} {x : Str} {ks : List Bool} {sl : List Nat}
/-- the arguments: names that are written, frozen data -/
structure DMs (X : Cx) (G : GC) (es : List Expr) (ks : List Bool) (sl : List Nat) (rs : List C → Option (List T)) : Prop where
  ex : ∃ t, PA X es t ∧ ∀ (σ : L2.St) (H F : Hp) (fp : Nat → List Addr) (env : List C) (us : List T) (Q : List V → Hp → Prop), Rel X.K G env σ H F fp → rs env = some us →
    (∀ vs H' F', Ext H F H' F' → MAs X.K env σ F' ks sl vs us → Q vs H') → t σ H Q
def msMu (i : Nat) (rs : List C → Option (List T)) : List C → Option (List T) := fun env => match env[i]? with
  | some (.own _ (.n s ts)) => (rs env).map (.n s ts :: ·)
  | _ => none
def msRo (f : List C → Option D) (rs : List C → Option (List T)) : List C → Option (List T) := fun env => match f env with
  | some d => (rs env).map (.d d :: ·)
  | none => none
theorem dms_nil : DMs X G [] [] [] nsNil := ⟨_, pa_nil, fun σ H F fp env us Q R hf q => by cases hf; exact q [] H F (Ext.refl R.sub) .nil⟩
theorem dms_ro (h : DE X G .fz e f) (ht : DMs X G es ks sl rs) (hs : starEach (e :: es) X.env = (false, eval e X.env) :: starEach es X.env := by rfl) : DMs X G (e :: es) (false :: ks) sl (msRo f rs) := by
  obtain ⟨t, pt, o⟩ := h.ex
  obtain ⟨t2, pt2, o2⟩ := ht.ex
  refine ⟨_, pa_cons pt pt2 hs, fun σ H F fp env us Q R hf q => ?_⟩
  unfold msRo at hf
  split at hf
  · rename_i d z
    cases z2 : rs env with
    | none => rw [z2] at hf; cases hf
    | some us2 =>
      rw [z2] at hf; cases hf
      refine o σ H F fp env d _ R z fun v H1 F1 E1 r => ?_
      refine o2 σ H1 F1 fp env us2 _ (R.ext E1) z2 fun vs H2 F2 E2 m => ?_
      exact q (v :: vs) H2 F2 (E1.trans E2) (.ro (DF_mono E2.f _ _ r) m)
  · cases hf
theorem dms_mu {y : Str} (i : Nat) (h : PE X (.Name y p) (tVar i)) (ht : DMs X G es ks sl rs) (hs : starEach (.Name y p :: es) X.env = (false, eval (.Name y p) X.env) :: starEach es X.env := by rfl) : DMs X G (.Name y p :: es) (true :: ks) (i :: sl) (msMu i rs) := by
  obtain ⟨t2, pt2, o2⟩ := ht.ex
  refine ⟨_, pa_cons h pt2 hs, fun σ H F fp env us Q R hf q => ?_⟩
  unfold msMu at hf
  split at hf
  · rename_i m s ts z
    cases z2 : rs env with
    | none => rw [z2] at hf; cases hf
    | some us2 =>
      rw [z2] at hf; cases hf
      obtain ⟨v, s1, _⟩ := slot_own R z
      refine ⟨v, s1, ?_⟩
      exact o2 σ H F fp env us2 _ R z2 fun vs H2 F2 E2 m => q (v :: vs) H2 F2 E2 (.mu z s1 m)
  · cases hf
structure CalM (P : Program) (w : World) (K : PySem.W.Frag) (mg : Str → Option Value) (base : Heap) (k : Nat) (x : Str) (ks : List Bool) (g : List T → Option (List T × T)) : Prop where
  ex : ∃ (f : Addr) (fd : FuncData) (ps : List Str), FnOk P w K mg base CX0 k f fd ps (spM K w ks g) ∧ mg x = some (.ref f) ∧ PySem.W.keepIn K (.ref f) = true ∧ Binds K fd ps []
/-- f(..), some of the arguments written -/
def xCallM (g : List T → Option (List T × T)) (sl : List Nat) (rs : List C → Option (List T)) : List C → Option (List C × T) := fun env => match rs env with
  | some us => (match g us with
    | some (us', y) => some (putsN sl us' env, y)
    | none => none)
  | none => none
theorem dx_callM {g : List T → Option (List T × T)} (cal : CalM X.prog X.w X.K X.mg X.base lv x ks g) (hw : G.w = some X.w) (hr : Room lv X.A) (hg : Gl X x) (h : DMs X G (e :: es) ks sl rs) (nd : sl.Nodup := by decide) (hdb : (x == ("__debug__" : Str)) = false := by decide)
    (he : starEach (e :: es) X.env = (false, eval e X.env) :: starEach es X.env := by rfl) (hpl : (backTo pos (starEach es X.env)).any (·.1) = false := by rfl) : DX X G (.Call (.Name x p) (e :: es) [] pos) (xCallM g sl rs) := by
  obtain ⟨fa, fd, ps, F, hm, kp, b⟩ := cal.ex
  obtain ⟨t, pt, oa⟩ := h.ex
  refine ⟨_, pe_call F hr hg hm kp b .nil pass0 pt hdb he hpl, fun σ H F fp env env' u Q R hf q => ?_⟩
  unfold xCallM at hf
  split at hf
  · rename_i us z
    split at hf
    · rename_i us' y z2
      cases hf
      refine oa σ H F fp env us _ R z fun vs H1 F1 E1 ma => ?_
      rw [List.append_nil]
      have R1 := R.ext E1
      have hnd := ma.slots R1 nd
      obtain ⟨ws, -, hws0⟩ := ma.ma hw R1 (fun _ => none)
      obtain ⟨ws2, m2, hws2⟩ := ma.ma hw R1 (cut H1 (wAll ws))
      have ew : wAll ws2 = wAll ws := by rw [wAll_map, wAll_map, hws0, hws2]
      rw [← ew] at m2
      have hin : ∀ b, b ∈ wAll ws2 → ∃ i, b ∈ fp i := fun b hb => by
        rw [wAll_map, hws2] at hb
        obtain ⟨l, h1, h2⟩ := List.mem_flatten.mp hb
        obtain ⟨i, _, rfl⟩ := List.mem_map.mp h1
        exact ⟨i, h2⟩
      refine ⟨F1, us, ws2, us', u, E1.sub, m2, by rw [wAll_map, hws2]; exact hnd, fun b hb => ?_, z2, fun v H' F' ls' lr pm => ?_⟩
      · obtain ⟨i, hi⟩ := hin b hb
        exact ⟨(R1.own i b hi).1, (R1.own i b hi).2.1⟩
      · obtain ⟨R', n'⟩ := R1.calledN hw ma nd hws2 pm
        exact q v H' F' _ lr R' (E1.f.trans pm.f) n'
    · cases hf
  · cases hf
/-- a comparison of two that may write -/
def txCmp2 (g2 : D → D → Option D) (g gb : List C → Option (List C × T)) : List C → Option (List C × Bool) := fun env => match g env with
  | some (env1, .d x) => (match gb env1 with
    | some (env2, .d y) => (match g2 x y with | some (.bool b) => some (env2, b) | _ => none)
    | _ => none)
  | _ => none
theorem dtx_cmp2 {op : CmpOp} {ka kb : RK} {g gb : List C → Option (List C × T)} {g2 : D → D → Option D} (o : DOp X G (compareOp op) ka kb .fz g2) (ha : DX X G a g) (hb : DX X G b gb) (hm : behindInMarks op b = false) (hka : RK.fz.le ka = true := by rfl) (hkar : ka.arg = true := by rfl) (hkb : RK.fz.le kb = true := by rfl) (hkbr : kb.arg = true := by rfl) : DTX X G (.Compare a [op] [b] pos) (txCmp2 g2 g gb) := by
  obtain ⟨r, or, o2⟩ := o.ex
  obtain ⟨ta, pa, oa⟩ := ha.ex
  obtain ⟨tb, pb, ob⟩ := hb.ex
  refine ⟨_, pt_cmpR (opr_len or) pa pb hm, fun σ H F fp env env' b Q R hf q => ?_⟩
  unfold txCmp2 at hf
  split at hf
  · rename_i e1' x z
    split at hf
    · rename_i e2' y z2
      split at hf
      · rename_i c z3
        cases hf
        refine oa σ H F fp env _ _ _ R z fun v H1 F1 fp1 l R1 s1 n => ?_
        refine ob σ H1 F1 fp1 _ _ _ _ R1 z2 fun vy H2 F2 fp2 l2 R2 s2 n2 hl => ?_
        have rx : DF X.K F1 v x := by
          cases n.rep with
          | d r => exact r
        have ry : DF X.K F2 vy y := by
          cases n2.rep with
          | d r => exact r
        refine o2 H2 F2 v vy x y _ _ R2.sub R2.kpSame hl (fz_A R2.sub hka (DF_mono s2 _ _ rx)) (fz_A R2.sub hkb ry) z3 fun v3 H3 F3 E3 r3 => ⟨_, ?_, q H3 F3 fp2 (R2.ext E3) (s1.trans (s2.trans E3.f))⟩
        cases r3; rfl
      · cases hf
    · cases hf
  · cases hf
end
end DL
set_option Elab.async false
set_option linter.all false
set_option maxRecDepth 100000
set_option maxHeartbeats 4000000
/-! DPn: a loop over an own list of instances, each lent to the loop's name for a turn -/
namespace DL
open PySem PySem.Spec L2

def plainC : C → Bool
  | .brw _ => false
  | .ro _ _ => false
  | .own (some _) _ => false
  | .pin 0 => false
  | _ => true
def hiddenC : C → Bool
  | .brw (.list _) => true
  | .brw (.tuple _) => true
  | .ro _ (.n _ _) => true
  | _ => false
def hideC (i : Nat) : C → C
  | .brw (.list _) => .pin (i + 2)
  | .brw (.tuple _) => .pin (i + 2)
  | .brw _ => .und
  | .ro _ (.n _ _) => .pin (i + 2)
  | .ro _ (.d _) => .und
  | .own (some _) _ => .und
  | .pin _ => .und
  | c => c
def hideE : Nat → List C → List C
  | _, [] => []
  | i, c :: cs => hideC i c :: hideE (i + 1) cs
def showC : C → C → C
  | .brw (.list d), _ => .brw (.list d)
  | .brw (.tuple d), _ => .brw (.tuple d)
  | .ro b (.n s ts), _ => .ro b (.n s ts)
  | _, .pin _ => .und
  | _, c => c
def showE : List C → List C → List C
  | c :: cs, d :: ds => showC c d :: showE cs ds
  | _, _ => []
/-- what is pinned stays so, all else is plain -/
def keepB : List C → List C → Bool
  | [], [] => true
  | .pin j :: cs, .pin k :: ds => decide (j = k) && keepB cs ds
  | .pin _ :: _, _ :: _ => false
  | _ :: cs, d :: ds => plainC d && keepB cs ds
  | _, _ => false
def forO (v : Nat) (fb : List C → Out) : List T → List T → List C → Option (List T × List C) ⊕ D
  | done, [], env => .inl (some (done, env))
  | done, .d _ :: _, _ => .inl none
  | done, .n s us :: todo, env => match fb (env.set v (.own (some 0) (.n s us))) with
    | .nx e => (match e[v]? with
      | some (.own (some 0) t) => if keepB env (e.set v .und) = true then forO v fb (done ++ [t]) todo (e.set v .und) else .inl none
      | _ => .inl none)
    | .ct e => (match e[v]? with
      | some (.own (some 0) t) => if keepB env (e.set v .und) = true then forO v fb (done ++ [t]) todo (e.set v .und) else .inl none
      | _ => .inl none)
    | .rt d => .inr d
    | _ => .inl none
def finO (s : Nat) (env0 : List C) : Option (List T × List C) ⊕ D → Out
  | .inl (some (ts', e)) => .nx ((showE env0 e).set s (.own none (.n .l ts')))
  | .inl none => .err
  | .inr d => .rt d
def hidAt (env : List C) (v : Nat) : Bool := match env[v]? with | some c => hiddenC c | none => false
def sForO (s v : Nat) (fb : List C → Out) : List C → Out := fun env => match env[s]? with
  | some (.own none (.n .l ts)) => if hidAt env v = true then .err else finO s env (forO v fb [] ts (((hideE 0 env).set s (.pin 1)).set v .und))
  | _ => .err
theorem hideE_get : ∀ (env : List C) (i k : Nat), (hideE k env)[i]? = (env[i]?).map (hideC (k + i))
  | [], i, k => by simp [hideE]
  | c :: cs, 0, k => rfl
  | c :: cs, i + 1, k => by
    show (hideE (k + 1) cs)[i]? = _
    rw [hideE_get cs i (k + 1)]
    have e : k + 1 + i = k + (i + 1) := by omega
    rw [e]; rfl
theorem showE_get : ∀ (cs ds : List C) (i : Nat), cs.length = ds.length → (showE cs ds)[i]? = (cs[i]?).bind fun c => (ds[i]?).map (showC c)
  | [], [], i, _ => by simp [showE]
  | c :: cs, d :: ds, 0, _ => rfl
  | c :: cs, d :: ds, i + 1, h => by
    show (showE cs ds)[i]? = _
    rw [showE_get cs ds i (by simpa using h)]; rfl
  | [], _ :: _, _, h => by cases h
  | _ :: _, [], _, h => by cases h
theorem hideE_len : ∀ (env : List C) (k : Nat), (hideE k env).length = env.length
  | [], _ => rfl
  | c :: cs, k => by show (hideE (k + 1) cs).length + 1 = _; rw [hideE_len cs (k + 1)]; rfl
theorem showE_len : ∀ (cs ds : List C), cs.length = ds.length → (showE cs ds).length = ds.length
  | [], [], _ => rfl
  | c :: cs, d :: ds, h => by show (showE cs ds).length + 1 = _; rw [showE_len cs ds (by simpa using h)]; rfl
  | [], _ :: _, h => by cases h
  | _ :: _, [], h => by cases h
theorem keepB_ok : ∀ (cs ds : List C), keepB cs ds = true → ds.length = cs.length ∧ (∀ (i k : Nat), cs[i]? = some (C.pin k) → ds[i]? = some (C.pin k)) ∧ ∀ (i : Nat) (d : C), ds[i]? = some d → plainC d = true ∨ cs[i]? = some d
  | [], [], _ => ⟨rfl, fun i k h => by simp at h, fun i d h => by simp at h⟩
  | [], _ :: _, h => by cases h
  | c :: cs, [], h => by cases c <;> cases h
  | c :: cs, d :: ds, h => by
    have go : keepB cs ds = true → (∀ k : Nat, c = C.pin k → d = C.pin k) → (plainC d = true ∨ c = d) → (d :: ds).length = (c :: cs).length ∧ (∀ (i k : Nat), (c :: cs)[i]? = some (C.pin k) → (d :: ds)[i]? = some (C.pin k)) ∧ ∀ (i : Nat) (x : C), (d :: ds)[i]? = some x → plainC x = true ∨ (c :: cs)[i]? = some x := fun h1 h2 h3 => by
      obtain ⟨g1, g2, g3⟩ := keepB_ok cs ds h1
      refine ⟨by simp [g1], fun i k e => ?_, fun i x e => ?_⟩
      · cases i with
        | zero => have e : some c = some (.pin k) := e; cases e; rw [h2 k rfl]; rfl
        | succ i => exact g2 i k e
      · cases i with
        | zero =>
          have e : some d = some x := e
          cases e
          exact h3.imp_right fun z => by rw [z]; rfl
        | succ i => exact g3 i x e
    cases c with
    | pin j =>
      cases d with
      | pin k =>
        have h : (decide (j = k) && keepB cs ds) = true := h
        rw [Bool.and_eq_true, decide_eq_true_eq] at h
        obtain ⟨rfl, h9⟩ := h
        exact go h9 (fun k z => z) (.inr rfl)
      | _ => cases h
    | _ =>
      have h : (plainC d && keepB cs ds) = true := h
      rw [Bool.and_eq_true] at h
      exact go h.2 (fun k z => by cases z) (.inl h.1)
section
variable {K : PySem.W.Frag} {G : GC} {env : List C} {σ : L2.St} {H F : Hp} {fp : Nat → List Addr}
/-- another entry, for plain slots -/
theorem rel_swap {H0' F0' : Hp} {Ws' : List (Addr × List Addr)} (R : Rel K G env σ H F fp) (hp : ∀ (i : Nat) (c : C), env[i]? = some c → plainC c = true) (hWs : ∀ j : Nat, Ws'[j + 1]? = G.Ws[j + 1]?) (h1 : ∀ i a, a ∈ fp i → H0' a = none)
    (h2 : ∀ a o, F a = some o → F0' a = some o ∨ H0' a = none) (h3 : Same F0' F) (h4 : ∀ a o, H0' a = some o → H a = some o) : Rel K ⟨H0', F0', Ws', G.w⟩ env σ H F fp where
  len := R.len
  slot := fun i c e => by
    have q := R.slot i c e
    have p := hp i c e
    cases c with
    | und => exact q
    | val d => exact q
    | brw d => cases p
    | lst ds => exact q
    | dK ds => exact q
    | dT ds => exact q
    | dN ds => exact q
    | ro b t => cases p
    | own m t =>
      cases m with
      | some j => cases p
      | none => obtain ⟨v, q1, q2, _⟩ := q; exact ⟨v, q1, q2, fun j z => nomatch z⟩
    | pin j =>
      cases j with
      | zero => cases p
      | succ j => obtain ⟨q0, a, l, q1, q2⟩ := q; exact ⟨q0, a, l, (hWs j).trans q1, q2⟩
  dj := R.dj
  own := fun i a ha => ⟨(R.own i a ha).1, (R.own i a ha).2.1, .inl (h1 i a ha)⟩
  sub := R.sub
  new := h2
  old := h3
  keep := fun a o e _ => h4 a o e
  alive := fun a e => by
    cases z : H0' a with
    | none => exact absurd z e
    | some o => rw [h4 a o z]; intro y; cases y
def refOf : Option V → Addr
  | some (.ref b) => b
  | _ => 0
def Ws0 (σ : L2.St) : List (Addr × List Addr) := σ.map fun x => (refOf x, [])
theorem Ws0_get {σ : L2.St} {i : Nat} {b : Addr} (h : (σ[i]?).join = some (.ref b)) : (Ws0 σ)[i]? = some (b, []) := by
  unfold Ws0
  rw [List.getElem?_map]
  cases z : σ[i]? with
  | none => rw [z] at h; cases h
  | some x =>
    rw [z] at h
    have e : x = some (.ref b) := h
    rw [e]; rfl
/-- the slots told otherwise: as they are, not at all, or pinned -/
theorem rel_cells {Ws' : List (Addr × List Addr)} {env' : List C} (R : Rel K G env σ H F fp) (hW : G.W = []) (hl : env'.length = env.length)
    (hc : ∀ (i : Nat) (c' : C), env'[i]? = some c' → (plainC c' = true ∧ (∀ k : Nat, c' ≠ C.pin k) ∧ env[i]? = some c') ∨ c' = C.und ∨ ∃ (k : Nat) (b : Addr), c' = C.pin k ∧ Ws'[k]? = some (b, []) ∧ (σ[i]?).join = some (V.ref b)) :
    ∃ fp', Rel K ⟨G.H0, G.F0, Ws', G.w⟩ env' σ H F fp' ∧ (∀ i, fp' i = fp i ∨ fp' i = []) ∧ ∀ i : Nat, (env'[i]? = some C.und ∨ ∃ k : Nat, env'[i]? = some (C.pin k)) → fp' i = [] := by
  have hown : ∀ i a, a ∈ fp i → G.H0 a = none := fun i a ha => by
    rcases (R.own i a ha).2.2 with z | z
    · exact z
    · rw [hW] at z; cases z.1
  let fp' : Nat → List Addr := fun i => match env'[i]? with
    | some .und => []
    | some (.pin _) => []
    | _ => fp i
  have f1 : ∀ i, fp' i = fp i ∨ fp' i = [] := fun i => by
    show (match env'[i]? with | some .und => [] | some (.pin _) => [] | _ => fp i) = fp i ∨ (match env'[i]? with | some .und => [] | some (.pin _) => [] | _ => fp i) = []
    split
    · exact .inr rfl
    · exact .inr rfl
    · exact .inl rfl
  have f2 : ∀ i : Nat, (env'[i]? = some C.und ∨ ∃ k : Nat, env'[i]? = some (C.pin k)) → fp' i = [] := fun i h => by
    show (match env'[i]? with | some .und => [] | some (.pin _) => [] | _ => fp i) = []
    rcases h with h | ⟨k, h⟩
    · rw [h]
    · rw [h]
  have f3 : ∀ i a, a ∈ fp' i → a ∈ fp i := fun i a h => by
    rcases f1 i with z | z
    · rwa [z] at h
    · rw [z] at h; cases h
  refine ⟨fp', ?_, f1, f2⟩
  exact {
    len := hl.trans R.len
    slot := fun i c' e => by
      rcases hc i c' e with ⟨p, np, e0⟩ | rfl | ⟨k, b, rfl, hk, hj⟩
      · have q := R.slot i c' e0
        have hf : c' = .und ∨ fp' i = fp i := by
          by_cases hu : c' = .und
          · exact .inl hu
          · right
            show (match env'[i]? with | some .und => [] | some (.pin _) => [] | _ => fp i) = fp i
            rw [e]
            cases c' <;> first | rfl | exact absurd rfl hu | exact absurd rfl (np _)
        rcases hf with rfl | hf
        · exact f2 i (.inl e)
        · rw [hf]
          cases c' with
          | und => exact q
          | val d => exact q
          | brw d => cases p
          | lst ds => exact q
          | dK ds => exact q
          | dT ds => exact q
          | dN ds => exact q
          | ro b t => cases p
          | own m t =>
            cases m with
            | some j => cases p
            | none => obtain ⟨v, q1, q2, _⟩ := q; exact ⟨v, q1, q2, fun j z => nomatch z⟩
          | pin j => exact absurd rfl (np j)
      · exact f2 i (.inl e)
      · exact ⟨f2 i (.inr ⟨k, e⟩), b, [], hk, hj⟩
    dj := fun i j a h1 h2 => R.dj i j a (f3 i a h1) (f3 j a h2)
    own := fun i a ha => ⟨(R.own i a (f3 i a ha)).1, (R.own i a (f3 i a ha)).2.1, .inl (hown i a (f3 i a ha))⟩
    sub := R.sub
    new := R.new
    old := R.old
    keep := fun a o e _ => R.keep a o e (by rw [hW]; exact fun m => nomatch m)
    alive := R.alive }
end
/-- between two turns -/
structure Turns (K : PySem.W.Frag) (G : GC) (Ws : List (Addr × List Addr)) (a : Addr) (vs : List V) (env : List C) (σ : L2.St) (H F : Hp) (fp : Nat → List Addr) (ts : List T) (l : List Addr) : Prop where
  R : Rel K ⟨G.H0, G.F0, (0, []) :: (a, []) :: Ws, G.w⟩ env σ H F fp
  pl : ∀ (i : Nat) (c : C), env[i]? = some c → plainC c = true
  hH : H a = some (.lst vs)
  os : ORs K G.w H F vs ts l
  nd : (a :: l).Nodup
  own : ∀ b, b ∈ a :: l → F b = none ∧ H b ≠ none ∧ G.H0 b = none
  dj : ∀ b, b ∈ a :: l → ∀ j, b ∉ fp j
section
variable {K : PySem.W.Frag} {G : GC} {Ws : List (Addr × List Addr)} {a : Addr} {vs : List V} {env : List C} {σ : L2.St} {H F : Hp} {fp : Nat → List Addr} {ts : List T} {l : List Addr}
theorem W_nil {H0 F0 : Hp} {w : Option World} {a b : Addr} (hw : ∀ x, x ∈ Ws → x.2 = []) : (GC.mk H0 F0 ((a, []) :: (b, []) :: Ws) w).W = [] := by
  unfold GC.W
  show [] ++ ([] ++ Ws.flatMap (·.2)) = []
  rw [List.nil_append, List.nil_append, List.flatMap_eq_nil_iff]
  exact hw
theorem Turns.turn (I : Turns K G Ws a vs env σ H F fp ts l) (hw : ∀ x, x ∈ Ws → x.2 = []) {j v : Nat} {s : Shp} {us : List T} (ht : ts[j]? = some (.n s us)) :
    ∃ aj lj H0', vs[j]? = some (.ref aj) ∧ Rel K ⟨H0', F, (aj, []) :: (a, []) :: Ws, G.w⟩ (env.set v (.own (some 0) (.n s us))) (σ.set v (some (.ref aj))) H F (fset fp v lj) ∧
      (∀ (e : List C) (σ5 : L2.St) (H5 F5 : Hp) (fp5 : Nat → List Addr) (t' : T), Rel K ⟨H0', F, (aj, []) :: (a, []) :: Ws, G.w⟩ e σ5 H5 F5 fp5 → e[v]? = some (.own (some 0) t') → keepB env (e.set v .und) = true →
        ∃ fp6 l6, Turns K G Ws a vs (e.set v .und) σ5 H5 F5 fp6 (ts.set j t') l6) ∧
      ∀ H' F', Fin ⟨H0', F, (aj, []) :: (a, []) :: Ws, G.w⟩ H' F' → Fin G H' F' := by
  obtain ⟨w, lj, l1, l2, rfl, g1, g2, g3⟩ := ORs_at I.os ht
  have hw2 : ∃ aj, w = .ref aj := by cases g2 with | @n _ a _ _ _ _ _ _ _ => exact ⟨_, rfl⟩
  obtain ⟨aj, rfl⟩ := hw2
  have nd := I.nd
  have memj : ∀ b, b ∈ lj → b ∈ a :: (l1 ++ (lj ++ l2)) := fun b hb => by simp [hb]
  have nj : ∀ b, b ∈ lj → b ≠ a ∧ b ∉ l1 ∧ b ∉ l2 := fun b hb => by
    simp only [List.nodup_cons, List.nodup_append, List.mem_append] at nd
    grind
  let H0' : Hp := fun b => if b ∈ a :: (l1 ++ (lj ++ l2)) ∧ b ∉ lj then H b else G.H0 b
  have e1 : ∀ b, b ∈ a :: (l1 ++ (lj ++ l2)) → b ∉ lj → H0' b = H b := fun b h1 h2 => if_pos ⟨h1, h2⟩
  have e2 : ∀ b, b ∈ lj → H0' b = G.H0 b := fun b h => if_neg fun z => z.2 h
  have e3 : ∀ b, b ∉ a :: (l1 ++ (lj ++ l2)) → H0' b = G.H0 b := fun b h => if_neg fun z => h z.1
  have e4 : ∀ b, H0' b = none → G.H0 b = none := fun b h => by
    by_cases h1 : b ∈ a :: (l1 ++ (lj ++ l2))
    · exact (I.own b h1).2.2
    · rw [← e3 b h1]; exact h
  have kW := W_nil (H0 := G.H0) (F0 := G.F0) (w := G.w) (a := 0) (b := a) hw
  have k4 : ∀ b o, H0' b = some o → H b = some o := fun b o h => by
    by_cases h1 : b ∈ a :: (l1 ++ (lj ++ l2))
    · by_cases h2 : b ∈ lj
      · rw [e2 b h2, (I.own b h1).2.2] at h; cases h
      · rw [e1 b h1 h2] at h; exact h
    · rw [e3 b h1] at h
      exact I.R.keep b o h (by rw [kW]; exact fun m => nomatch m)
  have k4s : ∀ b o, G.H0 b = some o → H0' b = some o := fun b o h => by
    by_cases h1 : b ∈ a :: (l1 ++ (lj ++ l2))
    · rw [(I.own b h1).2.2] at h; cases h
    · rw [e3 b h1]; exact h
  have RS : Rel K ⟨H0', F, (aj, []) :: (a, []) :: Ws, G.w⟩ env σ H F fp := rel_swap (G := ⟨G.H0, G.F0, (0, []) :: (a, []) :: Ws, G.w⟩) I.R I.pl (fun _ => rfl) (fun i b hb => by
      have hn : b ∉ a :: (l1 ++ (lj ++ l2)) := fun z => I.dj b z i hb
      rw [e3 b hn]
      rcases (I.R.own i b hb).2.2 with z | z
      · exact z
      · rw [kW] at z; cases z.1) (fun b o h => .inl h) (Same.refl _) k4
  refine ⟨aj, lj, H0', g1, RS.put (i := v) (v := .ref aj) (c := .own (some 0) (.n s us)) (l := lj) ⟨.ref aj, rfl, g2, fun k hk => by
      cases hk
      exact ⟨aj, [], rfl, rfl, fun b hb => .inr ((e2 b hb).trans (I.own b (memj b hb)).2.2)⟩⟩ (fun b hb => ⟨(I.own b (memj b hb)).1, (I.own b (memj b hb)).2.1, (e2 b hb).trans (I.own b (memj b hb)).2.2⟩) (fun b hb k _ => I.dj b (memj b hb) k), ?_, ?_⟩
  · intro e σ5 H5 F5 fp5 t' R5 he hk
    obtain ⟨v5, s1, s2, s3⟩ := slot_own R5 he
    obtain ⟨a5, l5, w1, rfl, w3⟩ := s3 0 rfl
    cases w1
    have W5 := W_nil (H0 := H0') (F0 := F) (w := G.w) (a := aj) (b := a) hw
    have o5 : ∀ i b, b ∈ fp5 i → H0' b = none := fun i b hb => by
      rcases (R5.own i b hb).2.2 with z | z
      · exact z
      · rw [W5] at z; cases z.1
    have keep5 : ∀ b, b ∈ a :: (l1 ++ (lj ++ l2)) → b ∉ lj → ∀ o, H b = some o → H5 b = some o := fun b h1 h2 o h => R5.keep b o ((e1 b h1 h2).trans h) (by rw [W5]; exact fun m => nomatch m)
    have na5 : ∀ b, b ∈ a :: (l1 ++ (lj ++ l2)) → b ∉ lj → ∀ i, b ∉ fp5 i := fun b h1 h2 i hb => by
      have := o5 i b hb
      rw [e1 b h1 h2] at this
      exact (I.own b h1).2.1 this
    have m1 : ∀ b, b ∈ l1 → b ∈ a :: (l1 ++ (lj ++ l2)) ∧ b ∉ lj := fun b hb => ⟨by simp [hb], fun z => (nj b z).2.1 hb⟩
    have m2 : ∀ b, b ∈ l2 → b ∈ a :: (l1 ++ (lj ++ l2)) ∧ b ∉ lj := fun b hb => ⟨by simp [hb], fun z => (nj b z).2.2 hb⟩
    have m0 : a ∈ a :: (l1 ++ (lj ++ l2)) ∧ a ∉ lj := ⟨List.mem_cons_self, fun z => (nj a z).1 rfl⟩
    have of : Same F F5 := R5.old
    have os5 := g3 H5 F5 (.ref aj) t' (fp5 v) of (fun b o hb h => by
      rcases List.mem_append.mp hb with z | z
      · exact keep5 b (m1 b z).1 (m1 b z).2 o h
      · exact keep5 b (m2 b z).1 (m2 b z).2 o h) s2
    rw [set_same g1] at os5
    have oldF : ∀ b, b ∈ a :: (l1 ++ (lj ++ l2)) → b ∉ lj → F5 b = none := fun b h1 h2 => by
      cases q : F5 b with
      | none => rfl
      | some o =>
        rcases R5.new b o q with z | z
        · have z : F b = some o := z
          rw [(I.own b h1).1] at z; cases z
        · have z : H0' b = none := z
          rw [e1 b h1 h2] at z
          exact absurd z (I.own b h1).2.1
    obtain ⟨kl, kp, kpl⟩ := keepB_ok _ _ hk
    have hlen : v < e.length := (List.getElem?_eq_some_iff.mp he).1
    have plE : ∀ (i : Nat) (c : C), (e.set v C.und)[i]? = some c → plainC c = true := fun i c hc => by
      rcases kpl i c hc with z | z
      · exact z
      · exact I.pl i c z
    have RU : Rel K ⟨H0', F, (aj, []) :: (a, []) :: Ws, G.w⟩ (e.set v .und) σ5 H5 F5 (fset fp5 v []) := by
      have := R5.put (i := v) (v := .ref aj) (c := .und) (l := []) rfl (fun _ m => nomatch m) (fun _ m => nomatch m)
      rwa [set_same s1] at this
    have o6 : ∀ i b, b ∈ fset fp5 v [] i → H0' b = none := fun i b hb => by
      by_cases hi : i = v
      · subst hi; rw [fset_at] at hb; cases hb
      · rw [fset_ne hi] at hb; exact o5 i b hb
    refine ⟨fset fp5 v [], l1 ++ (fp5 v ++ l2), ?_⟩
    have mem6 : ∀ b, b ∈ a :: (l1 ++ (fp5 v ++ l2)) → (b ∈ a :: (l1 ++ (lj ++ l2)) ∧ b ∉ lj) ∨ b ∈ fp5 v := fun b hb => by
      rcases List.mem_cons.mp hb with rfl | hb
      · exact .inl m0
      · rcases List.mem_append.mp hb with z | z
        · exact .inl (m1 b z)
        · rcases List.mem_append.mp z with z | z
          · exact .inr z
          · exact .inl (m2 b z)
    exact {
      R := rel_swap (G := ⟨H0', F, (aj, []) :: (a, []) :: Ws, G.w⟩) RU plE (fun _ => rfl) (fun i b hb => e4 b (o6 i b hb)) (fun b o h => by
          rcases R5.new b o h with z | z
          · exact (I.R.new b o z)
          · exact .inr (e4 b z)) (I.R.old.trans of) (fun b o h => R5.keep b o (k4s b o h) (by rw [W5]; exact fun m => nomatch m))
      pl := plE
      hH := keep5 a m0.1 m0.2 _ I.hH
      os := os5
      nd := by
        have n5 := s2.nodup
        have d5 : ∀ b, b ∈ fp5 v → b ≠ a ∧ b ∉ l1 ∧ b ∉ l2 := fun b hb => ⟨fun z => na5 a m0.1 m0.2 v (z ▸ hb), fun z => na5 b (m1 b z).1 (m1 b z).2 v hb, fun z => na5 b (m2 b z).1 (m2 b z).2 v hb⟩
        clear keep5 na5 m1 m2 m0 oldF kp kpl plE mem6 o6 e1 e2 e3 e4 k4 k4s w3 o5 memj
        simp only [List.nodup_cons, List.nodup_append, List.mem_append] at nd ⊢
        grind
      own := fun b hb => by
        rcases mem6 b hb with ⟨z1, z2⟩ | z
        · refine ⟨oldF b z1 z2, ?_, (I.own b z1).2.2⟩
          cases q : H b with
          | none => exact absurd q (I.own b z1).2.1
          | some o => rw [keep5 b z1 z2 o q]; intro y; cases y
        · exact ⟨(R5.own v b z).1, (R5.own v b z).2.1, e4 b (o5 v b z)⟩
      dj := fun b hb k hbk => by
        by_cases hk2 : k = v
        · subst hk2; rw [fset_at] at hbk; cases hbk
        · rw [fset_ne hk2] at hbk
          rcases mem6 b hb with ⟨z1, z2⟩ | z
          · exact na5 b z1 z2 k hbk
          · exact hk2 (R5.dj k v b hbk z) }
  · intro H' F' f
    have W5 := W_nil (H0 := H0') (F0 := F) (w := G.w) (a := aj) (b := a) hw
    refine ⟨fun b o h _ => f.h b o (k4s b o h) (by rw [W5]; exact fun m => nomatch m), I.R.old.trans f.f, f.sub, fun b o h => ?_⟩
    rcases f.new b o h with z | z
    · exact I.R.new b o z
    · exact .inr (e4 b z)
end
section
variable {K : PySem.W.Frag} {G : GC} {env0 e : List C} {σ0 σ : L2.St} {H0 F0 H F : Hp} {fp0 fp : Nat → List Addr} {a : Addr}
theorem rel_show (R0 : Rel K G env0 σ0 H0 F0 fp0) (hW : G.W = []) (R : Rel K ⟨G.H0, G.F0, (0, []) :: (a, []) :: Ws0 σ0, G.w⟩ e σ H F fp) (pl : ∀ (i : Nat) (c : C), e[i]? = some c → plainC c = true)
    (hp : ∀ (i : Nat) (c : C), env0[i]? = some c → hiddenC c = true → e[i]? = some (.pin (i + 2))) (hl : e.length = env0.length) (f : Same F0 F) : Rel K G (showE env0 e) σ H F fp := by
  have kW := W_nil (Ws := Ws0 σ0) (H0 := G.H0) (F0 := G.F0) (w := G.w) (a := 0) (b := a) fun x hx => by
    unfold Ws0 at hx
    obtain ⟨y, _, rfl⟩ := List.mem_map.mp hx
    rfl
  have hid : ∀ (i : Nat) (c : C) (b : Addr), env0[i]? = some c → hiddenC c = true → (σ0[i]?).join = some (.ref b) → fp i = [] ∧ (σ[i]?).join = some (.ref b) := fun i c b h1 h2 h3 => by
    have q := R.slot i _ (hp i c h1 h2)
    obtain ⟨q0, b', l', q1, q2⟩ := q
    have q1 : (Ws0 σ0)[i]? = some (b', l') := q1
    rw [Ws0_get h3] at q1
    cases q1
    exact ⟨q0, q2⟩
  exact {
    len := (showE_len _ _ hl.symm).trans R.len
    slot := fun i c'' ej => by
      rw [showE_get _ _ _ hl.symm] at ej
      cases h0 : env0[i]? with
      | none => rw [h0] at ej; cases ej
      | some c0 =>
        rw [h0] at ej
        cases h1 : e[i]? with
        | none => rw [h1] at ej; cases ej
        | some c =>
          rw [h1] at ej
          have ej : some (showC c0 c) = some c'' := ej
          cases ej
          have q0 := R0.slot i c0 h0
          have q := R.slot i c h1
          have p := pl i c h1
          have other : (showC c0 c = match c with | .pin _ => .und | c => c) → SlotRep K G H F (σ[i]?).join (showC c0 c) (fp i) := fun es => by
            rw [es]
            cases c with
            | und => exact q
            | val d => exact q
            | brw d => cases p
            | lst ds => exact q
            | dK ds => exact q
            | dT ds => exact q
            | dN ds => exact q
            | ro b t => cases p
            | own m t =>
              cases m with
              | some j => cases p
              | none => obtain ⟨v, q1, q2, _⟩ := q; exact ⟨v, q1, q2, fun j z => nomatch z⟩
            | pin j => exact q.1
          cases c0 with
          | brw d =>
            cases d with
            | list ds =>
              obtain ⟨_, v, q1, q2⟩ := q0
              cases id q2 with
              | lst _ _ =>
                obtain ⟨g1, g2⟩ := hid i _ _ h0 rfl q1
                exact ⟨g1, _, g2, q2⟩
            | tuple ds =>
              obtain ⟨_, v, q1, q2⟩ := q0
              cases id q2 with
              | tup _ _ =>
                obtain ⟨g1, g2⟩ := hid i _ _ h0 rfl q1
                exact ⟨g1, _, g2, q2⟩
            | _ => exact other (by cases c <;> rfl)
          | ro b t =>
            cases t with
            | n s ts =>
              obtain ⟨_, v, l, q1, q2, q3⟩ := q0
              cases id q2 with
              | n _ _ _ =>
                obtain ⟨g1, g2⟩ := hid i _ _ h0 rfl q1
                exact ⟨g1, _, _, g2, OR_mono f _ _ _ (fun _ _ _ z => z) q2, fun hb a vs ha hk => f _ _ (q3 hb a vs ha hk)⟩
            | d _ => exact other (by cases c <;> rfl)
          | und => exact other (by cases c <;> rfl)
          | val _ => exact other (by cases c <;> rfl)
          | lst _ => exact other (by cases c <;> rfl)
          | dK _ => exact other (by cases c <;> rfl)
          | dT _ => exact other (by cases c <;> rfl)
          | dN _ => exact other (by cases c <;> rfl)
          | own _ _ => exact other (by cases c <;> rfl)
          | pin _ => exact other (by cases c <;> rfl)
    dj := R.dj
    own := fun i b hb => by
      obtain ⟨g1, g2, g3⟩ := R.own i b hb
      refine ⟨g1, g2, .inl ?_⟩
      rcases g3 with z | z
      · exact z
      · rw [kW] at z; cases z.1
    sub := R.sub
    new := R.new
    old := R.old
    keep := fun b o h _ => R.keep b o h (by rw [kW]; exact fun m => nomatch m)
    alive := R.alive }
end
section
variable {X : Cx} {G : GC} {pos p1 p2 : Pos} {body : List Stmt} {fb : List C → Out} {x y : Str}
theorem ds_forO (s v : Nat) (hsv : s ≠ v) (hW : G.W = []) (hp : PassesOwn (model X.prog X.w) X.A X.env X.xe) (hc : X.calm = true) (hx : PE X (.Name x p1) (tVar s)) (hN : X.N.Nodup) (hv : X.N[v]? = some y)
    (hb : ∀ G', G'.w = G.w → G'.W = [] → DSs X G' .fz body fb) (hloc : Loc X.env.scope y := by first | exact .inl rfl | exact .inr rfl) (hfn : X.fn y = true ∨ X.env.scope.names.lookup y = some .local := by first | exact .inl rfl | exact .inr rfl | assumption)
    (hs : ∀ z, foldedSetIterable (.Name x p1) X.env z = pure z := by intro _; rfl) : DS X G .fz (.For (.Name y p2) (.Name x p1) body [] pos) (sForO s v fb) := by
  let tb : TS := fun E σ H => ∃ G', G'.w = G.w ∧ G'.W = [] ∧ ∃ F fp env, Rel X.K G' env σ H F fp ∧ Post X.K G' .fz F E (fb env)
  have pb : PSs X body tb := ⟨fun pins s σ H D I ⟨G', hw, hW', F, fp, env, R, q⟩ => by
    obtain ⟨t, pt, ob⟩ := (hb G' hw hW').ex
    exact pt.run pins s σ H D I (ob σ H F fp env D R q)⟩
  refine ⟨_, ps_for hp hc (pi_list hx) (pg_name hN hv hloc hfn) pb hs, fun σ H F fp env E R q => ?_⟩
  unfold sForO at q
  split at q
  rotate_left
  · exact q.elim
  rename_i ts0 es
  split at q
  · exact q.elim
  rename_i hnv
  obtain ⟨w0, s1, s2, _⟩ := slot_own R es
  generalize hfs : fp s = lf at s2
  cases s2 with
  | @n _ a vs _ own l n1 n2 n3 =>
  obtain ⟨rfl, hH⟩ := n1
  have hown : ∀ b, b ∈ a :: l → F b = none ∧ H b ≠ none ∧ G.H0 b = none := fun b hb => by
    obtain ⟨g1, g2, g3⟩ := R.own s b (by rw [hfs]; exact hb)
    refine ⟨g1, g2, ?_⟩
    rcases g3 with z | z
    · exact z
    · rw [hW] at z; cases z.1
  have hsl : s < env.length := (List.getElem?_eq_some_iff.mp es).1
  have lenh : (((hideE 0 env).set s (.pin 1)).set v .und).length = env.length := by rw [List.length_set, List.length_set, hideE_len]
  have geth : ∀ i : Nat, i ≠ s → i ≠ v → (((hideE 0 env).set s (.pin 1)).set v .und)[i]? = (env[i]?).map (hideC i) := fun i h1 h2 => by
    rw [List.getElem?_set_ne (Ne.symm h2), List.getElem?_set_ne (Ne.symm h1), hideE_get, Nat.zero_add]
  have gets : (((hideE 0 env).set s (.pin 1)).set v .und)[s]? = some (.pin 1) := by
    rw [List.getElem?_set_ne (Ne.symm hsv), List.getElem?_set_self (by rw [hideE_len]; exact hsl)]
  have getv : ∀ c, (((hideE 0 env).set s (.pin 1)).set v .und)[v]? = some c → c = .und := fun c h => by
    have hl := (List.getElem?_eq_some_iff.mp h).1
    rw [List.length_set] at hl
    rw [List.getElem?_set_self hl] at h
    cases h; rfl
  have cellsOk : ∀ (i : Nat) (c' : C), (((hideE 0 env).set s (.pin 1)).set v .und)[i]? = some c' → (plainC c' = true ∧ (∀ k : Nat, c' ≠ C.pin k) ∧ env[i]? = some c') ∨ c' = C.und ∨ ∃ (k : Nat) (b : Addr), c' = C.pin k ∧ ((0, []) :: (a, []) :: Ws0 σ)[k]? = some (b, []) ∧ (σ[i]?).join = some (V.ref b) := fun i c' h => by
    by_cases h2 : i = v
    · subst h2
      exact .inr (.inl (getv c' h))
    · by_cases h1 : i = s
      · subst h1
        rw [gets] at h
        cases h
        exact .inr (.inr ⟨1, a, rfl, rfl, by rw [s1]; rfl⟩)
      · rw [geth i h1 h2] at h
        cases h0 : env[i]? with
        | none => rw [h0] at h; cases h
        | some c =>
          rw [h0] at h
          have h : some (hideC i c) = some c' := h
          cases h
          have q0 := R.slot i c h0
          have pin : ∀ b, (σ[i]?).join = some (V.ref b) → ∃ (k : Nat) (b : Addr), C.pin (i + 2) = C.pin k ∧ ((0, []) :: (a, []) :: Ws0 σ)[k]? = some (b, []) ∧ (σ[i]?).join = some (V.ref b) := fun b hb => ⟨i + 2, b, rfl, Ws0_get hb, hb⟩
          cases c with
          | brw d =>
            cases d with
            | list ds =>
              obtain ⟨_, v, q1, q2⟩ := q0
              cases q2 with
              | lst _ _ => exact .inr (.inr (pin _ q1))
            | tuple ds =>
              obtain ⟨_, v, q1, q2⟩ := q0
              cases q2 with
              | tup _ _ => exact .inr (.inr (pin _ q1))
            | _ => exact .inr (.inl rfl)
          | ro b t =>
            cases t with
            | n s ts =>
              obtain ⟨_, v, l, q1, q2, q3⟩ := q0
              cases q2 with
              | n _ _ _ => exact .inr (.inr (pin _ q1))
            | d _ => exact .inr (.inl rfl)
          | own m t =>
            cases m with
            | some _ => exact .inr (.inl rfl)
            | none => exact .inl ⟨rfl, (fun k z => nomatch z), rfl⟩
          | pin j => exact .inr (.inl rfl)
          | und => exact .inr (.inl rfl)
          | val _ => exact .inl ⟨rfl, (fun k z => nomatch z), rfl⟩
          | lst _ => exact .inl ⟨rfl, (fun k z => nomatch z), rfl⟩
          | dK _ => exact .inl ⟨rfl, (fun k z => nomatch z), rfl⟩
          | dT _ => exact .inl ⟨rfl, (fun k z => nomatch z), rfl⟩
          | dN _ => exact .inl ⟨rfl, (fun k z => nomatch z), rfl⟩
  obtain ⟨fp1, R1, f1, f2⟩ := rel_cells R hW lenh cellsOk
  have plh : ∀ (i : Nat) (c : C), (((hideE 0 env).set s (.pin 1)).set v .und)[i]? = some c → plainC c = true := fun i c h => by
    rcases cellsOk i c h with z | rfl | ⟨k, b, rfl, z1, z2⟩
    · exact z.1
    · rfl
    · cases k with
      | succ k => rfl
      | zero =>
        by_cases h2 : i = v
        · subst h2; have := getv _ h; cases this
        · by_cases h1 : i = s
          · subst h1; rw [gets] at h; cases h
          · rw [geth i h1 h2] at h
            cases h0 : env[i]? with
            | none => rw [h0] at h; cases h
            | some c =>
              rw [h0] at h
              have h : some (hideC i c) = some (C.pin 0) := h
              cases c with
              | brw d => cases d <;> cases h
              | ro b t => cases t <;> cases h
              | own m t => cases m <;> cases h
              | _ => cases h
  have W0 : ∀ x, x ∈ Ws0 σ → x.2 = [] := fun x hx => by
    unfold Ws0 at hx
    obtain ⟨y, _, rfl⟩ := List.mem_map.mp hx
    rfl
  have T0 : Turns X.K G (Ws0 σ) a vs (((hideE 0 env).set s (.pin 1)).set v .und) σ H F fp1 ts0 l := by
    refine ⟨R1, plh, hH, n2, n3, hown, fun b hb j hj => ?_⟩
    have hbs : b ∈ fp s := by rw [hfs]; exact hb
    rcases f1 j with z | z
    · rw [z] at hj
      have := R.dj j s b hj hbs
      subst this
      rw [f2 j (.inr ⟨1, gets⟩)] at z
      rw [← z] at hj; cases hj
    · rw [z] at hj; cases hj
  generalize hE : ((hideE 0 env).set s (.pin 1)).set v .und = envh at *
  have pinv : ∀ k : Nat, envh[v]? ≠ some (.pin k) := fun k h => by have := getv _ h; cases this
  have hidp : ∀ (i : Nat) (c : C), i ≠ s → i ≠ v → env[i]? = some c → hiddenC c = true → envh[i]? = some (.pin (i + 2)) := fun i c h1 h2 h0 hh => by
    rw [geth i h1 h2, h0]
    cases c with
    | brw d => cases d <;> first | rfl | cases hh
    | ro b t => cases t <;> first | rfl | cases hh
    | _ => cases hh
  refine ⟨.ref a, s1, a, rfl, ⟨vs, .inl (.inl hH)⟩, ?_⟩
  refine ⟨fun i m σ2 H2 => m = ts0.length - i ∧ i ≤ ts0.length ∧ ∃ env2 fp2 F2 done todo l2, Turns X.K G (Ws0 σ) a vs env2 σ2 H2 F2 fp2 (done ++ todo) l2 ∧ done.length = i ∧ (done ++ todo).length = ts0.length ∧ env2.length = envh.length ∧ (∀ j k : Nat, envh[j]? = some (.pin k) → env2[j]? = some (.pin k)) ∧ Same F F2 ∧ Post X.K G .fz F2 E (finO s env (forO v fb done todo env2)),
    ⟨ts0.length, by simp, Nat.zero_le _, envh, fp1, F, [], ts0, l, T0, rfl, rfl, rfl, fun _ _ h => h, Same.refl _, q⟩, ?_⟩
  rintro i m σ2 H2 ⟨rfl, hi, env2, fp2, F2, done, todo, l2, T2, hd, hlen, elen, pins, sF, q2⟩
  have vl := ORs_len T2.os
  cases todo with
  | nil =>
    left
    rw [List.append_nil] at hlen T2 vl
    refine ⟨⟨vs, .inl (.inl T2.hH), by omega⟩, ?_⟩
    have es2 := pins s 1 gets
    have hse := T2.R.slot s _ es2
    obtain ⟨q0, b, l', z1, z2⟩ := hse
    cases z1
    have hs2 : σ2[s]? = some (some (.ref a)) := by
      cases z : σ2[s]? with
      | none => rw [z] at z2; cases z2
      | some o => rw [z] at z2; exact congrArg some z2
    have RS := rel_show R hW T2.R T2.pl (fun j c h0 hh => by
      by_cases h2 : j = v
      · subst h2
        exact absurd (by unfold hidAt; rw [h0]; exact hh) hnv
      · by_cases h1 : j = s
        · subst h1; rw [es] at h0; cases h0; cases hh
        · exact pins j _ (hidp j c h1 h2 h0 hh)) (by rw [elen, lenh]) sF
    have RF := RS.put (i := s) (v := .ref a) (c := .own none (.n .l done)) (l := a :: l2) ⟨.ref a, rfl, .n (own := [a]) ⟨rfl, T2.hH⟩ T2.os T2.nd, fun j z => nomatch z⟩ T2.own (fun b hb j _ => T2.dj b hb j)
    rw [set_same hs2] at RF
    exact q2 σ2 H2 F2 _ RF (Same.refl _)
  | cons t todo =>
    right
    have ht : (done ++ t :: todo)[i]? = some t := by
      rw [List.getElem?_append_right (by omega)]
      rw [hd, Nat.sub_self]; rfl
    rw [List.length_append, List.length_cons] at hlen
    cases t with
    | d d => exact (q2 : False).elim
    | n sh us =>
      obtain ⟨aj, lj, H0', g1, RB, back, fin⟩ := T2.turn W0 (v := v) ht
      refine ⟨⟨vs, .ref aj, .inl (.inl T2.hH), g1⟩, fun σ' H' => ∃ env2 fp2 F2 done todo l2, Turns X.K G (Ws0 σ) a vs env2 σ' H' F2 fp2 (done ++ todo) l2 ∧ done.length = i + 1 ∧ (done ++ todo).length = ts0.length ∧ env2.length = envh.length ∧ (∀ j k : Nat, envh[j]? = some (.pin k) → env2[j]? = some (.pin k)) ∧ Same F F2 ∧ Post X.K G .fz F2 E (finO s env (forO v fb done todo env2)),
        fun σ' H' n => ⟨ts0.length - (i + 1), by omega, rfl, by omega, n⟩, fun x H3 yl => ?_⟩
      obtain ⟨eH, yx⟩ := yl
      subst eH
      have ex := yx vs (.inl (.inl T2.hH))
      rw [g1] at ex
      cases ex
      refine ⟨⟨H0', F2, (aj, []) :: (a, []) :: Ws0 σ, G.w⟩, rfl, W_nil W0, F2, _, _, RB, ?_⟩
      unfold forO at q2
      have next : ∀ (e : List C) (σ5 : L2.St) (H5 F5 : Hp) (fp5 : Nat → List Addr), Rel X.K ⟨H0', F2, (aj, []) :: (a, []) :: Ws0 σ, G.w⟩ e σ5 H5 F5 fp5 → Same F2 F5 →
          Post X.K G .fz F2 E (finO s env (match e[v]? with
            | some (.own (some 0) t) => if keepB env2 (e.set v .und) = true then forO v fb (done ++ [t]) todo (e.set v .und) else .inl none
            | _ => .inl none)) →
          ∃ env2 fp2 F2 done todo l2, Turns X.K G (Ws0 σ) a vs env2 σ5 H5 F2 fp2 (done ++ todo) l2 ∧ done.length = i + 1 ∧ (done ++ todo).length = ts0.length ∧ env2.length = envh.length ∧ (∀ j k : Nat, envh[j]? = some (.pin k) → env2[j]? = some (.pin k)) ∧ Same F F2 ∧ Post X.K G .fz F2 E (finO s env (forO v fb done todo env2)) := fun e σ5 H5 F5 fp5 R5 s5 q5 => by
        split at q5
        · rename_i t' ev
          split at q5
          · rename_i hk
            obtain ⟨fp6, l6, T6⟩ := back e σ5 H5 F5 fp5 t' R5 ev hk
            obtain ⟨kl, kp, _⟩ := keepB_ok _ _ hk
            have et : (done ++ T.n sh us :: todo).set i t' = (done ++ [t']) ++ todo := by
              rw [List.set_append_right _ _ (by omega), hd, Nat.sub_self, List.append_assoc]; rfl
            rw [et] at T6
            exact ⟨_, fp6, F5, done ++ [t'], todo, l6, T6, by simp [hd], by simp; omega, kl.trans elen, fun j k h => kp j k (pins j k h), sF.trans s5, Post.mono s5 q5⟩
          · exact q5.elim
        · exact q5.elim
      cases z3 : fb (env2.set v (.own (some 0) (.n sh us))) with
      | nx e =>
        simp only [z3] at q2
        exact fun σ5 H5 F5 fp5 R5 s5 => next e σ5 H5 F5 fp5 R5 s5 q2
      | ct e =>
        simp only [z3] at q2
        exact fun σ5 H5 F5 fp5 R5 s5 => next e σ5 H5 F5 fp5 R5 s5 q2
      | rt d =>
        simp only [z3] at q2
        exact fun v H' F' f r => q2 v H' F' (fin H' F' f) r
      | bk _ => simp only [z3] at q2; exact q2.elim
      | err => simp only [z3] at q2; exact q2.elim
      | rx _ _ => simp only [z3] at q2; exact q2.elim
end
end DL
set_option Elab.async false
set_option linter.all false
set_option maxRecDepth 100000
set_option maxHeartbeats 4000000
/-! DMo: the meanings over things of one's own, reckoned -/
namespace DL
open PySem PySem.Spec L2
section
variable {env e : List C} {f g : List C → Out} {fe fa fb fk : List C → Option D} {ft f1 f2 : List C → Option Bool} {fs : List C → Option (List D)} {fi : List C → Option (List D)} {i j n : Nat} {d x y : D} {ds xs ys : List D}
variable {fn : List C → Option T} {rs : List C → Option (List T)} {gx : List C → Option (List C × T)} {gt : List C → Option (List C × Bool)} {gp : List C → Option IP} {r : List C → Option T} {u v : T} {us ts : List T} {ip : IP} {s : Shp} {c m q : Str} {fl : List Str} {b : Bool} {mm : Option Nat} {p : List Nat}
theorem ev_gNotB {a b : Bool} : gNotB (.bool a) (.bool b) = some (.bool (!decide (a = b))) := (rfl)
theorem ev_nD : nD fe env = (fe env).map T.d := (rfl)
def oNL (o : Option D) : Option T := match o with | some (.list ds) => some (.n .l (ds.map T.d)) | _ => none
theorem ev_nL : nL fe env = oNL (fe env) := (rfl)
theorem ev_oNL : oNL (some (.list ds)) = some (.n .l (ds.map T.d)) := (rfl)
theorem ev_xN : xN fn env = (fn env).map fun u => (env, u) := (rfl)
theorem ev_nsNil : nsNil env = some [] := (rfl)
def oNs (o : Option T) (os : Option (List T)) : Option (List T) := match o with | some u => (match os with | some us => some (u :: us) | none => none) | none => none
theorem ev_nsCons : nsCons fn rs env = oNs (fn env) (rs env) := (rfl)
theorem ev_oNs : oNs (some u) (some us) = some (u :: us) := (rfl)
theorem ev_nDictQ : nDictQ env = some (.n (.q []) []) := (rfl)
theorem ev_nDictK : nDictK env = some (.n (.k []) []) := (rfl)
theorem ev_nLst : nLst rs env = (rs env).map (.n .l) := (rfl)
theorem ev_nTup : nTup rs env = (rs env).map (.n .t) := (rfl)
theorem ev_toC_d : toC (.d x) = .val x := (rfl)
theorem ev_toC_n : toC (.n s ts) = .own none (.n s ts) := (rfl)
def oSetX (o : Option (List C × T)) (i : Nat) : Out := match o with | some (env', u) => .nx (env'.set i (toC u)) | none => .err
theorem ev_setX : sSetX i gx env = oSetX (gx env) i := (rfl)
theorem ev_oSetX : oSetX (some (e, u)) i = .nx (e.set i (toC u)) := (rfl)
def oSetN (o : Option T) (i : Nat) (env : List C) : Out := match o with | some u => .nx (env.set i (toC u)) | none => .err
theorem ev_setN : sSetN i fn env = oSetN (fn env) i env := (rfl)
theorem ev_oSetN : oSetN (some u) i env = .nx (env.set i (toC u)) := (rfl)
def oDropX (o : Option (List C × T)) : Out := match o with | some (env', _) => .nx env' | none => .err
theorem ev_dropX : sDropX gx env = oDropX (gx env) := (rfl)
theorem ev_oDropX : oDropX (some (e, u)) = .nx e := (rfl)
def oRetX (o : Option (List C × T)) : Out := match o with | some (env', u) => .rx env' u | none => .err
theorem ev_retX : sRetX gx env = oRetX (gx env) := (rfl)
theorem ev_oRetX : oRetX (some (e, u)) = .rx e u := (rfl)
theorem ev_retXN : sRetXN env = .rx env (.d .none) := (rfl)
theorem ev_seq_rx : oSeq (.rx e u) g = .rx e u := (rfl)
def oIfX (o : Option (List C × Bool)) (f g : List C → Out) : Out := match o with | some (env', true) => f env' | some (env', false) => g env' | none => .err
theorem ev_ifX : sIfX gt f g env = oIfX (gt env) f g := (rfl)
theorem ev_oIfX_t : oIfX (some (e, true)) f g = f e := (rfl)
theorem ev_oIfX_f : oIfX (some (e, false)) f g = g e := (rfl)
def oTxB (o : Option D) (e : List C) : Option (List C × Bool) := match o with | some (.bool b) => some (e, b) | _ => none
theorem ev_oTxB : oTxB (some (.bool b)) e = some (e, b) := (rfl)
def oTxC (o : Option (List C × T)) (h : D → D → Option D) (f : List C → Option D) : Option (List C × Bool) := match o with
  | some (e, .d x) => oTxB (o2 h (some x) (f e)) e
  | _ => none
theorem ev_txCmp {h : D → D → Option D} : txCmp h gx fe env = oTxC (gx env) h fe := by
  unfold txCmp oTxC
  cases gx env with
  | none => rfl
  | some eu =>
    obtain ⟨e, u⟩ := eu
    cases u with
    | n _ _ => rfl
    | d x =>
      dsimp only
      unfold o2
      cases fe e with
      | none => rfl
      | some y =>
        dsimp only
        cases h x y with
        | none => rfl
        | some z => cases z <;> rfl
theorem ev_oTxC {h : D → D → Option D} : oTxC (some (e, .d x)) h fe = oTxB (o2 h (some x) (fe e)) e := (rfl)
theorem ev_txP : txP ft env = (ft env).map fun b => (env, b) := (rfl)
def oTxN (o : Option (List C × Bool)) : Option (List C × Bool) := match o with | some (e, b) => some (e, !b) | none => none
theorem ev_txNot : txNot gt env = oTxN (gt env) := (rfl)
theorem ev_oTxN : oTxN (some (e, b)) = some (e, !b) := (rfl)
/-! places -/
theorem ev_pNm : pNm i env = some (i, []) := (rfl)
def oNode (o : Option C) (p : List Nat) : Option T := match o with | some (.own _ t) => T.sub p t | _ => none
theorem ev_nodeAt : nodeAt env (i, p) = oNode env[i]? p := (rfl)
theorem ev_oNode : oNode (some (.own mm u)) p = T.sub p u := (rfl)
theorem ev_sub0 : T.sub [] u = some u := (rfl)
theorem ev_subS : T.sub (j :: p) (.n s ts) = (ts[j]?).bind (T.sub p) := (rfl)
def oPutA (o : Option C) (env : List C) (i : Nat) (p : List Nat) (v : T) : List C := match o with | some (.own m t) => env.set i (.own m (T.put p t v)) | _ => env
theorem ev_putAt : putAt env (i, p) v = oPutA env[i]? env i p v := (rfl)
theorem ev_oPutA : oPutA (some (.own mm u)) env i p v = env.set i (.own mm (T.put p u v)) := (rfl)
theorem ev_put0 : T.put [] u v = v := (rfl)
def oTp (o : Option T) (p : List Nat) (s : Shp) (ts : List T) (j : Nat) (v : T) : T := .n s (match o with | some t => ts.set j (T.put p t v) | none => ts)
theorem ev_putS : T.put (j :: p) (.n s ts) v = oTp ts[j]? p s ts j v := (rfl)
theorem ev_oTp : oTp (some u) p s ts j v = .n s (ts.set j (T.put p u v)) := (rfl)
def oPC (o : Option IP) (sel : List C → Shp → Nat → Option Nat) (env : List C) : Option IP := match o with
  | some ip => (match nodeAt env ip with | some (.n s ts) => (match sel env s ts.length with | some j => if j < ts.length then some (ip.1, ip.2 ++ [j]) else none | none => none) | _ => none)
  | none => none
theorem pC_at {sel : List C → Shp → Nat → Option Nat} (h1 : gp env = some (i, p)) (h2 : nodeAt env (i, p) = some (.n s ts)) (h3 : sel env s ts.length = some j) (h4 : j < ts.length) : pChild gp sel env = some (i, p ++ [j]) := by
  unfold pChild
  rw [h1]; dsimp only; rw [h2]; dsimp only; rw [h3]; dsimp only; rw [if_pos h4]
theorem pF_at (h1 : gp env = some (i, p)) (h2 : nodeAt env (i, p) = some (.n (.o c fl) ts)) (h3 : fIx q fl = some j) (h4 : j < ts.length) : pF c q gp env = some (i, p ++ [j]) := pC_at h1 h2 (by unfold selF; dsimp only; rw [if_pos rfl]; exact h3) h4
theorem pI_at {k : Int} (h1 : gp env = some (i, p)) (h2 : nodeAt env (i, p) = some (.n .l ts)) (h5 : fe env = some (.int k)) (h3 : ixN ts.length k = some j) : pI fe gp env = some (i, p ++ [j]) := pC_at h1 h2 (by unfold selI; dsimp only; rw [h5]; exact h3) (ixN_lt h3)
def oCell (o : Option C) : Option T := o.bind cellT
theorem ev_rN : rN i env = oCell env[i]? := (rfl)
theorem ev_cell_own : oCell (some (.own mm u)) = some u := (rfl)
theorem ev_cell_ro : oCell (some (.ro b u)) = some u := (rfl)
theorem ev_cell_val : oCell (some (.val x)) = some (.d x) := (rfl)
theorem ev_cell_lst : oCell (some (.lst ds)) = some (.n .l (ds.map T.d)) := (rfl)
def oRo (o : Option C) : Option T := match o with | some (.ro true t) => some t | _ => none
theorem ev_roN : roN i env = oRo env[i]? := (rfl)
theorem ev_oRo : oRo (some (.ro true u)) = some u := (rfl)
def oRC (o : Option T) (sel : List C → Shp → Nat → Option Nat) (env : List C) : Option T := match o with
  | some (.n s ts) => (match sel env s ts.length with | some j => ts[j]? | none => none)
  | _ => none
def oRF (o : Option T) (c q : Str) : Option T := match o with
  | some (.n (.o c' fl) ts) => if c' = c then (fIx q fl).bind fun j => ts[j]? else none
  | _ => none
theorem ev_rF : rF c q r env = oRF (r env) c q := by
  unfold rF rChild oRF
  cases r env with
  | none => rfl
  | some u =>
    cases u with
    | d _ => rfl
    | n s ts =>
      cases s <;> try rfl
      rename_i c' fl
      dsimp only [selF]
      by_cases h : c' = c
      · rw [if_pos h, if_pos h]; cases fIx q fl <;> rfl
      · rw [if_neg h, if_neg h]
theorem ev_oRF : oRF (some (.n (.o c fl) ts)) c q = (fIx q fl).bind fun j => ts[j]? := if_pos rfl
def oRI (o : Option T) (k : Option D) : Option T := match o with
  | some (.n .l ts) => (match k with | some (.int i) => (ixN ts.length i).bind fun j => ts[j]? | _ => none)
  | some (.n .t ts) => (match k with | some (.int i) => (ixN ts.length i).bind fun j => ts[j]? | _ => none)
  | _ => none
theorem ev_rI : rI fe r env = oRI (r env) (fe env) := by
  unfold rI rChild oRI
  cases r env with
  | none => rfl
  | some u =>
    cases u with
    | d _ => rfl
    | n s ts =>
      cases s <;> try rfl
      all_goals
        dsimp only [selI]
        cases fe env with
        | none => rfl
        | some k =>
          cases k <;> try rfl
          rename_i k
          dsimp only
          cases ixN ts.length k <;> rfl
theorem ev_oRI {k : Int} : oRI (some (.n .l ts)) (some (.int k)) = (ixN ts.length k).bind fun j => ts[j]? := (rfl)
def oLeaf (o : Option T) : Option D := match o with | some (.d x) => some x | _ => none
theorem ev_rLeaf : rLeaf r env = oLeaf (r env) := (rfl)
theorem ev_oLeaf : oLeaf (some (.d x)) = some x := (rfl)
theorem ev_rFlat : rFlat r env = (r env).bind flatV1 := (rfl)
theorem ev_rView : rView r env = (r env).bind viewT := (rfl)
theorem flatT_d : ∀ ds : List D, flatT (ds.map T.d) = some ds
  | [] => rfl
  | d :: ds => by rw [List.map_cons]; unfold flatT; rw [flatT_d ds]; rfl
theorem ev_flatV1 : flatV1 (.n .l (ds.map T.d)) = some (.list ds) := by
  show (flatT (ds.map T.d)).map PyData.list = _
  rw [flatT_d]; rfl
theorem ev_flatV1d : flatV1 (.d x) = some x := (rfl)
def oEow (o : Option T) : Option D := match o with | some (.n .l ts) => (flatT ts).map .list | _ => none
theorem ev_eOw : eOw fn env = oEow (fn env) := (rfl)
theorem ev_oEow : oEow (some (.n .l (ds.map T.d))) = some (.list ds) := by
  show (flatT (ds.map T.d)).map PyData.list = _
  rw [flatT_d]; rfl
/-! stores -/
def oFldP (o : Option (List C × T)) (c q : Str) (gp : List C → Option IP) : Out := match o with
  | some (env1, u) => (match gp env1 with
    | some ip => (match nodeAt env1 ip with
      | some (.n (.o c' fs) ts) => if c' = c ∧ fs.length < 1000 then .nx (putAt env1 ip (putO q u c fs ts)) else .err
      | _ => .err)
    | none => .err)
  | none => .err
theorem ev_fldP : sFldP c q gp gx env = oFldP (gx env) c q gp := (rfl)
theorem fldP_at (h1 : gp e = some (i, p)) (h2 : nodeAt e (i, p) = some (.n (.o c fl) ts)) (h3 : fl.length < 1000) : oFldP (some (e, u)) c q gp = .nx (putAt e (i, p) (putO q u c fl ts)) := by
  unfold oFldP
  dsimp only
  rw [h1]; dsimp only; rw [h2]; dsimp only
  rw [if_pos ⟨rfl, h3⟩]
def oIxP (o : Option (List C × T)) (gp : List C → Option IP) (fi : List C → Option D) : Out := match o with
  | some (env1, u) => (match gp env1 with
    | some ip => (match nodeAt env1 ip with
      | some (.n .l ts) => (match fi env1 with
        | some (.int j) => (match ixN ts.length j with | some m => .nx (putAt env1 ip (.n .l (ts.set m u))) | none => .err)
        | _ => .err)
      | _ => .err)
    | none => .err)
  | none => .err
theorem ev_ixP : sIxP gp fe gx env = oIxP (gx env) gp fe := (rfl)
theorem ixP_at {k : Int} (h1 : gp e = some (i, p)) (h2 : nodeAt e (i, p) = some (.n .l ts)) (h3 : fe e = some (.int k)) (h4 : ixN ts.length k = some j) : oIxP (some (e, u)) gp fe = .nx (putAt e (i, p) (.n .l (ts.set j u))) := by
  unfold oIxP
  dsimp only
  rw [h1]; dsimp only; rw [h2]; dsimp only; rw [h3]; dsimp only; rw [h4]
theorem augP_at {g2 : D → D → Option D} {k : Int} {z : D} (h1 : gp env = some (i, p)) (h2 : nodeAt env (i, p) = some (.n .l ts)) (h3 : fk env = some (.int k)) (h4 : ixN ts.length k = some j) (h5 : ts[j]? = some (.d x)) (h6 : fe env = some y) (h7 : g2 x y = some z) : sAugP g2 gp fk fe env = .nx (putAt env (i, p) (.n .l (ts.set j (.d z)))) := by
  unfold sAugP
  rw [h1]; dsimp only; rw [h2]; dsimp only; rw [h3]; dsimp only; rw [h4]; dsimp only; rw [h5]; dsimp only; rw [h6]; dsimp only; rw [h7]
theorem appP_at (h1 : gp env = some (i, p)) (h2 : nodeAt env (i, p) = some (.n .l ts)) (h3 : fn env = some u) (h4 : ts.length < 16000000) : xAppP gp fn env = some (putAt env (i, p) (.n .l (ts ++ [u])), .d .none) := by
  unfold xAppP
  rw [h1]; dsimp only; rw [h2]; dsimp only; rw [h3]; dsimp only; rw [if_pos h4]
theorem meth_at {g2 : List T → Option (List T × T)} (h1 : gp env = some (i, p)) (h2 : nodeAt env (i, p) = some (.n (.o c fl) ts)) (h3 : fIx m fl = none) (h4 : rs env = some us) (h5 : flatT us = some ds) (h6 : g2 (.n (.o c fl) ts :: us) = some ([u], v)) : xMeth c m g2 gp rs env = some (putAt env (i, p) u, v) := by
  unfold xMeth
  rw [h1]; dsimp only; rw [h2]; dsimp only; rw [if_pos ⟨rfl, h3⟩, h4]; dsimp only; rw [h5, h6]
theorem nMeth_at {g2 : List T → Option T} (h1 : r env = some (.n (.o c fl) ts)) (h3 : fIx m fl = none) (h4 : rs env = some us) : nMeth c m g2 r rs env = g2 (.n (.o c fl) ts :: us) := by
  unfold nMeth
  rw [h1]; dsimp only; rw [if_pos ⟨rfl, h3⟩, h4]
theorem nMake_at {g2 : List T → Option (List T × T)} (h4 : rs env = some us) (h6 : g2 (.n (.o c []) [] :: us) = some ([u], .d .none)) : nMake c g2 rs env = some u := by
  unfold nMake
  rw [h4]; dsimp only; rw [h6]
end
theorem lcT_map {α : Type} {g : D → List C → Option (List C)} {tt : List C → Option Bool} {fe : List C → Option T} {env : List C} (t : α → D) (h : α → T) : ∀ (l : List α), (∀ a ∈ l, ∃ e, g (t a) env = some e ∧ tt e = some true ∧ fe e = some (h a)) → lcT g tt fe env (l.map t) = some (l.map h)
  | [], _ => rfl
  | a :: l, hl => by
    obtain ⟨e, h1, h2, h3⟩ := hl a List.mem_cons_self
    rw [List.map_cons]
    unfold lcT
    rw [h1, Option.bind_some, h2, Option.bind_some, if_pos rfl, h3, Option.bind_some, lcT_map t h l fun b hb => hl b (List.mem_cons_of_mem _ hb)]
    rfl
/-! loops with continue -/
def onND (o : Out) (P : List C → Prop) : Prop := match o with | .nx e => P e | .ct e => P e | _ => False
theorem ev_nd1 {e : List C} {P : List C → Prop} : onND (.nx e) P = P e := (rfl)
theorem ev_nd2 {e : List C} {P : List C → Prop} : onND (.ct e) P = P e := (rfl)
theorem forF_invD {g : D → List C → Option (List C)} {b : List C → Out} {items : List D} {env : List C} (I : Nat → List C → Prop) (h0 : I 0 env)
    (hs : ∀ i d env, items[i]? = some d → I i env → ∃ e, g d env = some e ∧ onND (b e) (I (i + 1))) : ∃ e, forF g b items env = .nx e ∧ I items.length e :=
  forF_run (fun o => ∃ e, o = .nx e ∧ I items.length e) items env I h0 (fun i d env hd hI => by
    obtain ⟨e, h1, h2⟩ := hs i d env hd hI
    refine ⟨e, h1, ?_⟩
    unfold onND at h2
    cases z : b e <;> rw [z] at h2 <;> first | exact h2 | exact h2.elim) fun e h => ⟨e, rfl, h⟩
/-! bounds as data -/
end DL
set_option Elab.async false
set_option linter.all false
set_option maxRecDepth 100000
set_option maxHeartbeats 4000000
namespace DL
open PySem PySem.Spec L2
def topS (i : Nat) : Stmt := PySem.Challenge.pw_apartbook_k35_whole_any_order_the_same.main.body.getD i (.Pass ⟨0, 0, 0, 0⟩)
abbrev s_l_cell_at : Stmt := topS 4
abbrev N_l_cell_at : List Str := ["_law_script", "_law_k"]
theorem sc_l_cell_at : FnScope N_l_cell_at ["_law_script", "_law_k"] (defScope s_l_cell_at) := ⟨rfl, rfl, rfl, by decide +kernel, rfl, by decide +kernel, by decide +kernel⟩
def b_l_cell_at : List C → Out := (sSeq (sIf (tB (e2 gLt (eV 1) (e1 gLen (aCons (eB 0) aNil)))) (sRet (eScal (e2 gIxB (eB 0) (eV 1)))) sNil)
  (sRet (eC (.int 0))))
def f_l_cell_at : List D → Option D := runP [.vw, .fz] 2 b_l_cell_at
theorem fe_l_cell_at (x0 x1 : D) : f_l_cell_at [x0, x1] = oRun (b_l_cell_at [.brw x0, .val x1]) := (ev_run (ks := [.vw, .fz]) (n := 2) (b := b_l_cell_at) (ds := [x0, x1])).trans (congrArg (fun l => oRun (b_l_cell_at l)) rfl)

abbrev s_l_mix : Stmt := topS 5
abbrev N_l_mix : List Str := ["_law_cell", "_law_k", "_law_turn", "_law_number"]
theorem sc_l_mix : FnScope N_l_mix ["_law_cell", "_law_k"] (defScope s_l_mix) := ⟨rfl, rfl, rfl, by decide +kernel, rfl, by decide +kernel, by decide +kernel⟩
def L_l_mix_0 : List C → Out := (sSet 0 (e2 gDivA (eV 0) (eC (.int 2147483648))))
def b_l_mix : List C → Out := (sSeq (sIf (tB (e2 gGe (eV 0) (e2 gPow (eC (.int 10)) (eC (.int 12))))) (sSeq (sSet 0 (e2 gSub (e2 gDivA (eV 0) (e2 gPow (eC (.int 10)) (eC (.int 12)))) (eC (.int 1))))
  (sSeq (sFor (iRng1F (e2 gModA (eV 1) (eC (.int 61)))) (tgN 2) L_l_mix_0)
  (sRet (e2 gModA (eV 0) (eC (.int 2147483648)))))) sNil)
  (sSeq (sSet 3 (e2 gModA (e2 gMul (e2 gAdd (e2 gAdd (e2 gModA (eV 0) (eC (.int 1000003))) (e2 gMul (e2 gMul (eV 1) (eV 1)) (eC (.int 7919)))) (eV 1)) (eC (.int 48271))) (eC (.int 2147483629))))
  (sSeq (sSet 3 (e2 gModA (e2 gMul (eV 3) (eV 3)) (eC (.int 2147483587))))
  (sRet (e2 gDivA (e2 gModA (e2 gMul (eV 3) (e2 gAdd (eV 3) (eC (.int 2)))) (eC (.int 2147483579))) (eC (.int 7)))))))
def f_l_mix : List D → Option D := runP [.fz, .fz] 4 b_l_mix
theorem fe_l_mix (x0 x1 : D) : f_l_mix [x0, x1] = oRun (b_l_mix [.val x0, .val x1, .und, .und]) := (ev_run (ks := [.fz, .fz]) (n := 4) (b := b_l_mix) (ds := [x0, x1])).trans (congrArg (fun l => oRun (b_l_mix l)) rfl)

abbrev s_l_rows : Stmt := topS 6
abbrev N_l_rows : List Str := ["_law_script", "_law_houses", "_law_own", "_law_rows_here", "_law_at", "_law_cell", "_law_drawn", "_law_house", "_law_other", "_law_deed", "_law_one", "_law_two"]
theorem sc_l_rows : FnScope N_l_rows ["_law_script", "_law_houses"] (defScope s_l_rows) := ⟨rfl, rfl, rfl, by decide +kernel, rfl, by decide +kernel, by decide +kernel⟩
def L_l_rows_0 : List C → Out := (sSeq (sSet 6 (e1 f_l_mix (aCons (eV 5) (aCons (e2 gAdd (eC (.int 400)) (eV 4)) aNil))))
  (sSeq (sSet 7 (e2 gModA (eV 6) (eV 1)))
  (sSeq (sIf (tB (e2 gEq (e2 gModA (e2 gDivA (eV 6) (eC (.int 4))) (eC (.int 3))) (eC (.int 0)))) (sSeq (sSet 8 (e2 gModA (e2 gAdd (e2 gAdd (eV 7) (eC (.int 1))) (e2 gModA (e2 gDivA (eV 6) (eC (.int 12))) (e2 gSub (eV 1) (eC (.int 1))))) (eV 1)))
  (sSeq (sIxP (pNm 2) (eV 7) (xN (nL (eFv 2 (eLc [10, 11] (iZipG (e2 gIxS (eV 2) (eV 7)) (e2 gIxS (eV 2) (eV 8))) (tgT (tgCons (tgN 10) (tgCons (tgN 11) tgNil))) (fun _ => some true) (e1 gMax2 (aCons (eV 10) (aCons (eV 11) aNil))))))))
  sCnt)) sNil)
  (sSeq (sSet 9 (eTup (aCons (eC (.str "do")) (aCons (e2 gModA (e2 gDivA (eV 6) (eC (.int 12))) (eC (.int 3))) (aCons (e2 gSub (e2 gModA (e2 gDivA (eV 6) (eC (.int 36))) (eC (.int 9))) (eC (.int 2))) aNil)))))
  (sSeq (sIf (tB (e2 gEq (e2 gModA (e2 gDivA (eV 6) (eC (.int 400))) (eC (.int 4))) (eC (.int 1)))) (sSet 9 (eTup (aCons (eC (.str "give")) (aCons (e2 gModA (e2 gDivA (eV 6) (eC (.int 12))) (eC (.int 3))) (aCons (e2 gModA (e2 gAdd (eV 7) (eC (.int 1))) (eV 1)) (aCons (e2 gAdd (eC (.int 1)) (e2 gModA (e2 gDivA (eV 6) (eC (.int 36))) (eC (.int 9)))) aNil)))))) sNil)
  (sSeq (sApp 3 (eTup (aCons (eV 7) (aCons (rLeaf (rI (eV 7) (rI (eV 7) (rN 2)))) (aCons (e1 gTuple (aCons (rFlat (rI (eV 7) (rN 2))) aNil)) (aCons (eV 9) aNil))))))
  (sIxP (pI (eV 7) (pNm 2)) (eV 7) (xN (nD (e2 gAdd (rLeaf (rI (eV 7) (rI (eV 7) (rN 2)))) (eC (.int 1))))))))))))
def b_l_rows : List C → Out := (sSeq (sSetN 2 (nLc [7] (iRng1F (eV 1)) (tgN 7) (fun _ => some true) (nL (e2 gMulL (eLst (aCons (eC (.int 0)) aNil)) (eV 1)))))
  (sSeq (sSetL 3 (eLst aNil))
  (sSeq (sFor (iEnumG (e3 gSlB (eB 0) (pS (eC (.int 2))) (pS (eC (.int 40))))) (tgT (tgCons (tgN 4) (tgCons (tgN 5) tgNil))) L_l_rows_0)
  (sRetL 3))))
def f_l_rows : List D → Option D := runP [.vw, .fz] 12 b_l_rows
theorem fe_l_rows (x0 x1 : D) : f_l_rows [x0, x1] = oRun (b_l_rows [.brw x0, .val x1, .und, .und, .und, .und, .und, .und, .und, .und, .und, .und]) := (ev_run (ks := [.vw, .fz]) (n := 12) (b := b_l_rows) (ds := [x0, x1])).trans (congrArg (fun l => oRun (b_l_rows l)) rfl)

abbrev s_l_order : Stmt := topS 7
abbrev N_l_order : List Str := ["_law_script", "_law_many", "_law_places", "_law_at", "_law_other", "_law_kept", "_law_twice", "_law_place"]
theorem sc_l_order : FnScope N_l_order ["_law_script", "_law_many"] (defScope s_l_order) := ⟨rfl, rfl, rfl, by decide +kernel, rfl, by decide +kernel, by decide +kernel⟩
def L_l_order_0 : List C → Out := (sSeq (sSet 4 (e2 gModA (e1 f_l_mix (aCons (e1 f_l_cell_at (aCons (eB 0) (aCons (e2 gAdd (eC (.int 40)) (e2 gModA (eV 3) (eC (.int 20)))) aNil))) (aCons (e2 gAdd (eC (.int 500)) (eV 3)) aNil))) (eV 1)))
  (sSeq (sSet 5 (e2 gIxS (eL 2) (eV 3)))
  (sSeq (sSetIx 2 (eV 3) (e2 gIxS (eL 2) (eV 4)))
  (sSetIx 2 (eV 4) (eV 5)))))
def b_l_order : List C → Out := (sSeq (sSetL 2 (eListRg (eV 1)))
  (sSeq (sFor (iRng1F (eV 1)) (tgN 3) L_l_order_0)
  (sFz 2 (sSeq (sSet 6 (eLc [7] (iAny (eV 2)) (tgN 7) (tB (e2 gEq (e2 gModA (e1 f_l_mix (aCons (e1 f_l_cell_at (aCons (eB 0) (aCons (eC (.int 61)) aNil))) (aCons (e2 gAdd (eC (.int 600)) (eV 7)) aNil))) (eC (.int 4))) (eC (.int 1)))) (eV 7)))
  (sRet (e2 gAdd (eL 2) (eV 6)))))))
def f_l_order : List D → Option D := runP [.vw, .fz] 8 b_l_order
theorem fe_l_order (x0 x1 : D) : f_l_order [x0, x1] = oRun (b_l_order [.brw x0, .val x1, .und, .und, .und, .und, .und, .und]) := (ev_run (ks := [.vw, .fz]) (n := 8) (b := b_l_order) (ds := [x0, x1])).trans (congrArg (fun l => oRun (b_l_order l)) rfl)

abbrev s_l_keeps : Stmt := topS 8
abbrev N_l_keeps : List Str := ["_law_houses", "_law_rows_here", "_law_counts", "_law_house", "_law_number", "_law_causes", "_law_deed", "_law_k"]
theorem sc_l_keeps : FnScope N_l_keeps ["_law_houses", "_law_rows_here"] (defScope s_l_keeps) := ⟨rfl, rfl, rfl, by decide +kernel, rfl, by decide +kernel, by decide +kernel⟩
def L_l_keeps_0 : List C → Out := (sSeq (sIf (tOrF (tB (e2 gNe (eV 4) (e2 gIxS (eL 2) (eV 3)))) (tB (e2 gNe (eLc [7] (iRng1F (eV 0)) (tgN 7) (tB (e2 gGt (e2 gIxS (eV 5) (eV 7)) (e2 gIxS (eL 2) (eV 7)))) (eV 7)) (eLst aNil)))) (sRet (eC (.bool false))) sNil)
  (sSetIx 2 (eV 3) (e2 gAdd (e2 gIxS (eL 2) (eV 3)) (eC (.int 1)))))
def b_l_keeps : List C → Out := (sSeq (sSetL 2 (e2 gMulL (eLst (aCons (eC (.int 0)) aNil)) (eV 0)))
  (sSeq (sFor (iAny (eV 1)) (tgT (tgCons (tgN 3) (tgCons (tgN 4) (tgCons (tgN 5) (tgCons (tgN 6) tgNil))))) L_l_keeps_0)
  (sRet (eC (.bool true)))))
def f_l_keeps : List D → Option D := runP [.fz, .fz] 8 b_l_keeps
theorem fe_l_keeps (x0 x1 : D) : f_l_keeps [x0, x1] = oRun (b_l_keeps [.val x0, .val x1, .und, .und, .und, .und, .und, .und]) := (ev_run (ks := [.fz, .fz]) (n := 8) (b := b_l_keeps) (ds := [x0, x1])).trans (congrArg (fun l => oRun (b_l_keeps l)) rfl)

abbrev s_Log_init : Stmt := inClass (topS 2) 0
abbrev N_Log_init : List Str := ["self", "houses"]
theorem sc_Log_init : FnScope N_Log_init ["self", "houses"] (defScope s_Log_init) := ⟨rfl, rfl, rfl, by decide +kernel, rfl, by decide +kernel, by decide +kernel⟩
def b_Log_init : List C → Out := (sSeq (sFldP "Log" "many" (pNm 0) (xN (nL (e2 gMulL (eLst (aCons (eC (.int 0)) aNil)) (eV 1)))))
  (sSeq (sFldP "Log" "taken" (pNm 0) (xN (nL (eLst aNil))))
  (sFldP "Log" "kept" (pNm 0) (xN nDictQ))))
def f_Log_init : List T → Option (List T × T) := runM [true, false] 2 b_Log_init
theorem fe_Log_init (fs : List Str) (ts : List T) (x1 : D) : f_Log_init [.n (.o "Log" fs) ts, .d x1] = outM [true, false] (b_Log_init [.own (some 0) (.n (.o "Log" fs) ts), .val x1]) := (rfl)

abbrev s_Log_put : Stmt := inClass (topS 2) 2
abbrev N_Log_put : List Str := ["self", "row"]
theorem sc_Log_put : FnScope N_Log_put ["self", "row"] (defScope s_Log_put) := ⟨rfl, rfl, rfl, by decide +kernel, rfl, by decide +kernel, by decide +kernel⟩
def b_Log_put : List C → Out := (sSeq (sDropX (xAppP (pF "Log" "taken" (pNm 0)) (nD (eV 1))))
  (sAugP gAddIS (pF "Log" "many" (pNm 0)) (e2 gIxS (eV 1) (eC (.int 0))) (eC (.int 1))))
def f_Log_put : List T → Option (List T × T) := runM [true, false] 2 b_Log_put
theorem fe_Log_put (fs : List Str) (ts : List T) (x1 : D) : f_Log_put [.n (.o "Log" fs) ts, .d x1] = outM [true, false] (b_Log_put [.own (some 0) (.n (.o "Log" fs) ts), .val x1]) := (rfl)

abbrev s_Log_ready : Stmt := inClass (topS 2) 1
abbrev N_Log_ready : List Str := ["self", "row", "house", "number", "causes", "deed", "many", "cause"]
theorem sc_Log_ready : FnScope N_Log_ready ["self", "row"] (defScope s_Log_ready) := ⟨rfl, rfl, rfl, by decide +kernel, rfl, by decide +kernel, by decide +kernel⟩
def L_Log_ready_0 : List C → Out := (sIf (tB (e2 gGt (eV 7) (eV 6))) (sRetX (xN (nD (eC (.bool false))))) sNil)
def b_Log_ready : List C → Out := (sSeq (sAsg (tgT (tgCons (tgN 2) (tgCons (tgN 3) (tgCons (tgN 4) (tgCons (tgN 5) tgNil))))) (eV 1))
  (sSeq (sIf (tB (e2 gNe (eV 3) (rLeaf (rI (eV 2) (rF "Log" "many" (rN 0)))))) (sRetX (xN (nD (eC (.bool false))))) sNil)
  (sSeq (sFor (iZipG (rFlat (rF "Log" "many" (roN 0))) (eV 4)) (tgT (tgCons (tgN 6) (tgCons (tgN 7) tgNil))) L_Log_ready_0)
  (sRetX (xN (nD (eC (.bool true))))))))
def f_Log_ready : List T → Option T := runT 8 b_Log_ready
theorem fe_Log_ready (fs : List Str) (ts : List T) (x1 : D) : f_Log_ready [.n (.o "Log" fs) ts, .d x1] = outT (b_Log_ready [.ro true (.n (.o "Log" fs) ts), .val x1, .und, .und, .und, .und, .und, .und]) := (rfl)

abbrev s_Log_first_ready : Stmt := inClass (topS 2) 3
abbrev N_Log_first_ready : List Str := ["self", "key"]
theorem sc_Log_first_ready : FnScope N_Log_first_ready ["self"] (defScope s_Log_first_ready) := ⟨rfl, rfl, rfl, by decide +kernel, rfl, by decide +kernel, by decide +kernel⟩
def L_Log_first_ready_0 : List C → Out := (sIf (tB (rLeaf (nMeth "Log" "ready" f_Log_ready (rN 0) (nsCons (nD (rLeaf (rK (eV 1) (rF "Log" "kept" (rN 0))))) nsNil)))) (sRetX (xN (nD (eV 1)))) sNil)
def b_Log_first_ready : List C → Out := (sSeq (sFor (iAny (rSort (rF "Log" "kept" (rN 0)))) (tgN 1) L_Log_first_ready_0)
  (sRetX (xN (nD (eC .none)))))
def f_Log_first_ready : List T → Option T := runT 2 b_Log_first_ready
theorem fe_Log_first_ready (fs : List Str) (ts : List T) : f_Log_first_ready [.n (.o "Log" fs) ts] = outT (b_Log_first_ready [.ro true (.n (.o "Log" fs) ts), .und]) := (rfl)

abbrev s_Log_take : Stmt := inClass (topS 2) 4
abbrev N_Log_take : List Str := ["self", "row", "key"]
theorem sc_Log_take : FnScope N_Log_take ["self", "row"] (defScope s_Log_take) := ⟨rfl, rfl, rfl, by decide +kernel, rfl, by decide +kernel, by decide +kernel⟩
def L_Log_take_0 : List C → Option Bool := (tB (eNotN (eV 2)))
def L_Log_take_1 : List C → Out := (sSeq (sDropX (xMethX "Log" "put" f_Log_put 0 (xPopQ (pF "Log" "kept" (pNm 0)) (aCons (eV 2) aNil))))
  (sSet 2 (rLeaf (nMeth "Log" "first_ready" f_Log_first_ready (rN 0) nsNil))))
def b_Log_take : List C → Out := (sSeq (sIf (tB (e2 gLt (e2 gIxS (eV 1) (eC (.int 1))) (rLeaf (rI (e2 gIxS (eV 1) (eC (.int 0))) (rF "Log" "many" (rN 0)))))) (sRetX (xN (nD (eC (.str "known"))))) sNil)
  (sSeq (sIf (tNotF (tB (rLeaf (nMeth "Log" "ready" f_Log_ready (rN 0) (nsCons (nD (eV 1)) nsNil))))) (sSeq (sDropX (xSetdQ (pF "Log" "kept" (pNm 0)) (aCons (eTup (aCons (e2 gIxS (eV 1) (eC (.int 0))) (aCons (e2 gIxS (eV 1) (eC (.int 1))) aNil))) (aCons (eV 1) aNil))))
  (sRetX (xN (nD (eC (.str "waits")))))) sNil)
  (sSeq (sDropX (xMeth "Log" "put" f_Log_put (pNm 0) (nsCons (nD (eV 1)) nsNil)))
  (sSeq (sDropX (xPopQ2 (pF "Log" "kept" (pNm 0)) (aCons (eTup (aCons (e2 gIxS (eV 1) (eC (.int 0))) (aCons (e2 gIxS (eV 1) (eC (.int 1))) aNil))) (aCons (eC .none) aNil))))
  (sSeq (sSet 2 (rLeaf (nMeth "Log" "first_ready" f_Log_first_ready (rN 0) nsNil)))
  (sSeq (sWhile (fun _ => 1000) L_Log_take_0 L_Log_take_1)
  (sRetX (xN (nD (eC (.str "taken")))))))))))
def f_Log_take : List T → Option (List T × T) := runM [true, false] 3 b_Log_take
theorem fe_Log_take (fs : List Str) (ts : List T) (x1 : D) : f_Log_take [.n (.o "Log" fs) ts, .d x1] = outM [true, false] (b_Log_take [.own (some 0) (.n (.o "Log" fs) ts), .val x1, .und]) := (rfl)

abbrev s_Log_counts : Stmt := inClass (topS 2) 5
abbrev N_Log_counts : List Str := ["self"]
theorem sc_Log_counts : FnScope N_Log_counts ["self"] (defScope s_Log_counts) := ⟨rfl, rfl, rfl, by decide +kernel, rfl, by decide +kernel, by decide +kernel⟩
def b_Log_counts : List C → Out := (sRetX (xN (nD (e1 gTuple (aCons (rFlat (rF "Log" "many" (rN 0))) aNil)))))
def f_Log_counts : List T → Option T := runT 1 b_Log_counts
theorem fe_Log_counts (fs : List Str) (ts : List T) : f_Log_counts [.n (.o "Log" fs) ts] = outT (b_Log_counts [.ro true (.n (.o "Log" fs) ts)]) := (rfl)

abbrev s_Log_rows : Stmt := inClass (topS 2) 6
abbrev N_Log_rows : List Str := ["self"]
theorem sc_Log_rows : FnScope N_Log_rows ["self"] (defScope s_Log_rows) := ⟨rfl, rfl, rfl, by decide +kernel, rfl, by decide +kernel, by decide +kernel⟩
def b_Log_rows : List C → Out := (sRetX (xN (nL (e1 gList (aCons (rFlat (rF "Log" "taken" (rN 0))) aNil)))))
def f_Log_rows : List T → Option T := runT 1 b_Log_rows
theorem fe_Log_rows (fs : List Str) (ts : List T) : f_Log_rows [.n (.o "Log" fs) ts] = outT (b_Log_rows [.ro true (.n (.o "Log" fs) ts)]) := (rfl)

abbrev s_Log_waiting : Stmt := inClass (topS 2) 7
abbrev N_Log_waiting : List Str := ["self"]
theorem sc_Log_waiting : FnScope N_Log_waiting ["self"] (defScope s_Log_waiting) := ⟨rfl, rfl, rfl, by decide +kernel, rfl, by decide +kernel, by decide +kernel⟩
def b_Log_waiting : List C → Out := (sRetX (xN (nL (rSort (rF "Log" "kept" (rN 0))))))
def f_Log_waiting : List T → Option T := runT 1 b_Log_waiting
theorem fe_Log_waiting (fs : List Str) (ts : List T) : f_Log_waiting [.n (.o "Log" fs) ts] = outT (b_Log_waiting [.ro true (.n (.o "Log" fs) ts)]) := (rfl)

abbrev s_law : Stmt := topS 9
abbrev N_law : List Str := ["_law_script", "_law_houses", "_law_rows_here", "_law_order_here", "_law_logs", "_law_place", "_law_log", "_law_row"]
theorem sc_law : FnScope N_law ["_law_script"] (defScope s_law) := ⟨rfl, rfl, rfl, by decide +kernel, rfl, by decide +kernel, by decide +kernel⟩
def L_law_0 : List C → Out := (sIfX (txCmp gNe (xMeth "Log" "take" f_Log_take (pNm 6) (nsCons (nD (eV 7)) nsNil)) (eC (.str "known"))) (sRet (eC (.bool false))) sNil)
def L_law_1 : List C → Out := (sSeq (sIf (tOrF (tB (e2 gNe (eOw (nMeth "Log" "waiting" f_Log_waiting (rN 6) nsNil)) (eLst aNil))) (tOrF (tB (e2 gNe (e1 gSorted (aCons (eOw (nMeth "Log" "rows" f_Log_rows (rN 6) nsNil)) aNil)) (e1 gSorted (aCons (eV 2) aNil)))) (tNotF (tB (e1 f_l_keeps (aCons (eV 1) (aCons (eOw (nMeth "Log" "rows" f_Log_rows (rN 6) nsNil)) aNil))))))) (sRet (eC (.bool false))) sNil)
  (sFor (iAny (eV 2)) (tgN 7) L_law_0))
def L_law_2 : List C → Out := (sDropX (xMeth "Log" "take" f_Log_take (pI (eC (.int 1)) (pNm 4)) (nsCons (nD (e2 gIxS (eV 2) (eV 5))) nsNil)))
def L_law_3 : List C → Out := (sSeq (sDropX (xMeth "Log" "take" f_Log_take (pI (eC (.int 0)) (pNm 4)) (nsCons (nD (e2 gIxS (eV 2) (eV 5))) nsNil)))
  (sIf (tNotF (tB (e1 f_l_keeps (aCons (eV 1) (aCons (eOw (nMeth "Log" "rows" f_Log_rows (rI (eC (.int 0)) (rN 4)) nsNil)) aNil))))) (sRet (eC (.bool false))) sNil))
def b_law : List C → Out := (sSeq (sSet 1 (e2 gAdd (eC (.int 2)) (e2 gModA (e1 f_l_cell_at (aCons (eB 0) (aCons (eC (.int 0)) aNil))) (eC (.int 3)))))
  (sSeq (sSet 2 (e1 f_l_rows (aCons (eB 0) (aCons (eV 1) aNil))))
  (sSeq (sSet 3 (e1 f_l_order (aCons (eB 0) (aCons (e1 gLen (aCons (eV 2) aNil)) aNil))))
  (sSeq (sSetX 4 (xN (nLst (nsCons (nMake "Log" f_Log_init (nsCons (nD (eV 1)) nsNil)) (nsCons (nMake "Log" f_Log_init (nsCons (nD (eV 1)) nsNil)) nsNil)))))
  (sSeq (sFor (iAny (eV 3)) (tgN 5) L_law_3)
  (sSeq (sFor (iAny (eRev (eV 3))) (tgN 5) L_law_2)
  (sSeq (sForO 4 6 L_law_1)
  (sRet (e2 gEq (rLeaf (nMeth "Log" "counts" f_Log_counts (rI (eC (.int 0)) (rN 4)) nsNil)) (rLeaf (nMeth "Log" "counts" f_Log_counts (rI (eC (.int 1)) (rN 4)) nsNil)))))))))))
def f_law : List D → Option D := runP [.vw] 8 b_law
theorem fe_law (x0 : D) : f_law [x0] = oRun (b_law [.brw x0, .und, .und, .und, .und, .und, .und, .und]) := (ev_run (ks := [.vw]) (n := 8) (b := b_law) (ds := [x0])).trans (congrArg (fun l => oRun (b_law l)) rfl)
end DL
set_option Elab.async false
set_option linter.all false
set_option maxRecDepth 100000
set_option maxHeartbeats 4000000
namespace DL
open PySem PySem.Spec L2
abbrev LF : List Str := ["many", "taken", "kept"]
def LogT (many : List Int) (tk ks vs : List D) : T := .n (.o "Log" LF) [.n .l ((many.map PyData.int).map T.d), .n .l (tk.map T.d), .n (.q ks) (vs.map T.d)]
def rowD (h k : Int) (cs : List Int) (dd : D) : D := .tuple [.int h, .int k, .tuple (cs.map .int), dd]
def leAll : List Int → List Int → Bool
  | m :: ms, c :: cs => decide (c ≤ m) && leAll ms cs
  | _, _ => true
theorem fx_many : fIx "many" LF = some 0 := by decide +kernel
theorem fx_taken : fIx "taken" LF = some 1 := by decide +kernel
theorem fx_kept : fIx "kept" LF = some 2 := by decide +kernel
theorem fx_ready : fIx "ready" LF = none := by decide +kernel
theorem fx_put : fIx "put" LF = none := by decide +kernel
theorem fx_first : fIx "first_ready" LF = none := by decide +kernel
theorem fx_take : fIx "take" LF = none := by decide +kernel
theorem ready_loop (c0 c1 c2 c3 c4 c5 : C) : ∀ (ms cs : List Int) (x6 x7 : C), ∃ y6 y7, forF (tgT (tgCons (tgN 6) (tgCons (tgN 7) tgNil))) L_Log_ready_0 (zipD (ms.map .int) (cs.map .int)) [c0, c1, c2, c3, c4, c5, x6, x7] =
    if leAll ms cs = true then .nx [c0, c1, c2, c3, c4, c5, y6, y7] else .rx [c0, c1, c2, c3, c4, c5, y6, y7] (.d (.bool false))
  | [], cs, x6, x7 => ⟨x6, x7, by cases cs <;> rfl⟩
  | m :: ms, [], x6, x7 => ⟨x6, x7, rfl⟩
  | m :: ms, c :: cs, x6, x7 => by
    by_cases h : c ≤ m
    · obtain ⟨y6, y7, e⟩ := ready_loop c0 c1 c2 c3 c4 c5 ms cs (.val (.int m)) (.val (.int c))
      refine ⟨y6, y7, ?_⟩
      have hl : leAll (m :: ms) (c :: cs) = leAll ms cs := by
        show (decide (c ≤ m) && leAll ms cs) = _
        rw [decide_eq_true h, Bool.true_and]
      rw [hl, ← e]
      show forF _ _ (.tuple [.int m, .int c] :: zipD (ms.map .int) (cs.map .int)) _ = _
      conv => lhs; unfold forF
      have hd : decide (m < c) = false := decide_eq_false (by omega)
      simp only [ev_bs, ev_bn, ev_ms, ev_mn, ev_g0, ev_gs, ev_s0, ev_ss, ev_bn1, ev_bn2, ev_seq, ev_seq_nx, ev_seq_rt, ev_seq_bk, ev_seq_ct, ev_nil, ev_brk, ev_cnt, ev_if, ev_if_t, ev_if_f, ev_set, ev_oset, ev_setL, ev_osetL, ev_drop, ev_odrop, ev_ret, ev_oret, ev_retN, ev_retL, ev_oretL, ev_orun, ev_orunN, ev_orunN_nx, ev_fz, ev_fz_l, ev_fz_v, ev_app, ev_app_s, ev_clear, ev_clear_s, ev_oNx, ev_asg, ev_asg_s, ev_par, ev_par_s, ev_aug, ev_aug_s, ev_setIx, ev_setIx_s, ev_augIx, ev_dictN, ev_notInN, ev_oNotInN, ev_putN, ev_oPutN, ev_for, ev_ofor, ev_V, ev_L, ev_B, ev_rdV, ev_rdLv, ev_rdLl, ev_rdBv, ev_rdBb, ev_C, ev_e2, ev_o2, ev_e1, ev_e3, ev_o3, ev_pN, ev_pS, ev_oPS, ev_aNil, ev_aCons, ev_oCons, ev_tup, ev_lst, ev_oLst, ev_scal, ev_scal_i, ev_scal_s, ev_scal_b, ev_neg, ev_oNeg, ev_tB, ev_asB, ev_tNot, ev_tAnd, ev_tOr, ev_oAnd_t, ev_oAnd_f, ev_oOr_t, ev_oOr_f, ev_eAnd, ev_eOr, ev_oAndD_t, ev_oAndD_f, ev_oOrD_t, ev_oOrD_f, ev_eNot, ev_oNot, ev_isi, ev_isi_ii, ev_isi_ib, ev_isi_il, ev_isi_it, ev_isi_is, ev_isi_ll, ev_isi_lt, ev_isi_li, ev_isi_lb, ev_isi_tt, ev_isi_tl, ev_isi_ss, ev_isi_bb, ev_isi_bi, ev_isN, ev_notN, ev_oIsN_n, ev_oIsN_i, ev_oIsN_l, ev_oIsN_t, ev_oNotN_n, ev_oNotN_i, ev_oNotN_l, ev_oNotN_t, ev_rev, ev_gRev, ev_iAny, ev_oAny_l, ev_oAny_t, ev_iSeqB, ev_oSeqB, ev_iEnum, ev_oEnum, ev_iZip, ev_oZip_ll, ev_oZip_tt, ev_oZip_lt, ev_oZip_tl, ev_iRng1, ev_rng1_s, ev_iRng2, ev_rng2_s, ev_tgN, ev_tgNil, ev_tgCons, ev_tgT, ev_wipe_nil, ev_wipe_cons, ev_lc, ev_oLc, ev_add, ev_addIS, ev_add_ll, ev_add_tt, ev_addL, ev_repL, ev_rep, ev_sub, ev_mul, ev_mod, ev_div, ev_modA, ev_divA, ev_pow, ev_lt, ev_le, ev_gt, ev_ge, ev_eq, ev_ne, ev_eqs, ev_nes, ev_eqb, ev_neb, ev_len, ev_lenT, ev_list, ev_listT, ev_tuple, ev_tupleT, ev_int, ev_intb, ev_sum, ev_sum0, ev_max2, ev_min2, ev_sl, ev_slT, ev_slL, ev_slB, ev_divAZ, ev_divZ, ev_onNx, ev_while, ev_eq_li, ev_ne_li, ev_eq_self, ev_ne_self, ev_eq_selfT, ev_ne_selfT, ev_ne_nil, ev_eq_nil, ev_sorted_i, ev_listRg, ev_oListRg, ev_in_ii, ev_thaw, ev_oThaw, ev_flatO, ev_tThaw, ev_otThaw, ev_move, ev_oMove, ev_iEnumG, ev_oEnumG_l, ev_oEnumG_t, ev_gNotB, ev_nD, ev_nL, ev_oNL, ev_xN, ev_nsNil, ev_nsCons, ev_oNs, ev_nDictQ, ev_nDictK, ev_nLst, ev_nTup, ev_toC_d, ev_toC_n, ev_setX, ev_oSetX, ev_setN, ev_oSetN, ev_dropX, ev_oDropX, ev_retX, ev_oRetX, ev_retXN, ev_seq_rx, ev_ifX, ev_oIfX_t, ev_oIfX_f, ev_oTxB, ev_txCmp, ev_oTxC, ev_txP, ev_txNot, ev_oTxN, ev_pNm, ev_nodeAt, ev_oNode, ev_sub0, ev_subS, ev_putAt, ev_oPutA, ev_put0, ev_putS, ev_oTp, ev_rN, ev_cell_own, ev_cell_ro, ev_cell_val, ev_cell_lst, ev_roN, ev_oRo, ev_rF, ev_oRF, ev_rI, ev_oRI, ev_rLeaf, ev_oLeaf, ev_rFlat, ev_rView, ev_flatV1, ev_flatV1d, ev_eOw, ev_oEow, ev_fldP, ev_ixP, ev_nd1, ev_nd2, decide_true, decide_false, List.nil_append, List.cons_append, ev_ix, ev_ixT, ev_ixB, ev_ixBT, L_Log_ready_0, hd]
    · refine ⟨.val (.int m), .val (.int c), ?_⟩
      have hl : leAll (m :: ms) (c :: cs) = false := by
        show (decide (c ≤ m) && leAll ms cs) = _
        rw [decide_eq_false h, Bool.false_and]
      rw [hl, if_neg (by decide)]
      show forF _ _ (.tuple [.int m, .int c] :: zipD (ms.map .int) (cs.map .int)) _ = _
      conv => lhs; unfold forF
      have hd : decide (m < c) = true := decide_eq_true (by omega)
      simp only [ev_bs, ev_bn, ev_ms, ev_mn, ev_g0, ev_gs, ev_s0, ev_ss, ev_bn1, ev_bn2, ev_seq, ev_seq_nx, ev_seq_rt, ev_seq_bk, ev_seq_ct, ev_nil, ev_brk, ev_cnt, ev_if, ev_if_t, ev_if_f, ev_set, ev_oset, ev_setL, ev_osetL, ev_drop, ev_odrop, ev_ret, ev_oret, ev_retN, ev_retL, ev_oretL, ev_orun, ev_orunN, ev_orunN_nx, ev_fz, ev_fz_l, ev_fz_v, ev_app, ev_app_s, ev_clear, ev_clear_s, ev_oNx, ev_asg, ev_asg_s, ev_par, ev_par_s, ev_aug, ev_aug_s, ev_setIx, ev_setIx_s, ev_augIx, ev_dictN, ev_notInN, ev_oNotInN, ev_putN, ev_oPutN, ev_for, ev_ofor, ev_V, ev_L, ev_B, ev_rdV, ev_rdLv, ev_rdLl, ev_rdBv, ev_rdBb, ev_C, ev_e2, ev_o2, ev_e1, ev_e3, ev_o3, ev_pN, ev_pS, ev_oPS, ev_aNil, ev_aCons, ev_oCons, ev_tup, ev_lst, ev_oLst, ev_scal, ev_scal_i, ev_scal_s, ev_scal_b, ev_neg, ev_oNeg, ev_tB, ev_asB, ev_tNot, ev_tAnd, ev_tOr, ev_oAnd_t, ev_oAnd_f, ev_oOr_t, ev_oOr_f, ev_eAnd, ev_eOr, ev_oAndD_t, ev_oAndD_f, ev_oOrD_t, ev_oOrD_f, ev_eNot, ev_oNot, ev_isi, ev_isi_ii, ev_isi_ib, ev_isi_il, ev_isi_it, ev_isi_is, ev_isi_ll, ev_isi_lt, ev_isi_li, ev_isi_lb, ev_isi_tt, ev_isi_tl, ev_isi_ss, ev_isi_bb, ev_isi_bi, ev_isN, ev_notN, ev_oIsN_n, ev_oIsN_i, ev_oIsN_l, ev_oIsN_t, ev_oNotN_n, ev_oNotN_i, ev_oNotN_l, ev_oNotN_t, ev_rev, ev_gRev, ev_iAny, ev_oAny_l, ev_oAny_t, ev_iSeqB, ev_oSeqB, ev_iEnum, ev_oEnum, ev_iZip, ev_oZip_ll, ev_oZip_tt, ev_oZip_lt, ev_oZip_tl, ev_iRng1, ev_rng1_s, ev_iRng2, ev_rng2_s, ev_tgN, ev_tgNil, ev_tgCons, ev_tgT, ev_wipe_nil, ev_wipe_cons, ev_lc, ev_oLc, ev_add, ev_addIS, ev_add_ll, ev_add_tt, ev_addL, ev_repL, ev_rep, ev_sub, ev_mul, ev_mod, ev_div, ev_modA, ev_divA, ev_pow, ev_lt, ev_le, ev_gt, ev_ge, ev_eq, ev_ne, ev_eqs, ev_nes, ev_eqb, ev_neb, ev_len, ev_lenT, ev_list, ev_listT, ev_tuple, ev_tupleT, ev_int, ev_intb, ev_sum, ev_sum0, ev_max2, ev_min2, ev_sl, ev_slT, ev_slL, ev_slB, ev_divAZ, ev_divZ, ev_onNx, ev_while, ev_eq_li, ev_ne_li, ev_eq_self, ev_ne_self, ev_eq_selfT, ev_ne_selfT, ev_ne_nil, ev_eq_nil, ev_sorted_i, ev_listRg, ev_oListRg, ev_in_ii, ev_thaw, ev_oThaw, ev_flatO, ev_tThaw, ev_otThaw, ev_move, ev_oMove, ev_iEnumG, ev_oEnumG_l, ev_oEnumG_t, ev_gNotB, ev_nD, ev_nL, ev_oNL, ev_xN, ev_nsNil, ev_nsCons, ev_oNs, ev_nDictQ, ev_nDictK, ev_nLst, ev_nTup, ev_toC_d, ev_toC_n, ev_setX, ev_oSetX, ev_setN, ev_oSetN, ev_dropX, ev_oDropX, ev_retX, ev_oRetX, ev_retXN, ev_seq_rx, ev_ifX, ev_oIfX_t, ev_oIfX_f, ev_oTxB, ev_txCmp, ev_oTxC, ev_txP, ev_txNot, ev_oTxN, ev_pNm, ev_nodeAt, ev_oNode, ev_sub0, ev_subS, ev_putAt, ev_oPutA, ev_put0, ev_putS, ev_oTp, ev_rN, ev_cell_own, ev_cell_ro, ev_cell_val, ev_cell_lst, ev_roN, ev_oRo, ev_rF, ev_oRF, ev_rI, ev_oRI, ev_rLeaf, ev_oLeaf, ev_rFlat, ev_rView, ev_flatV1, ev_flatV1d, ev_eOw, ev_oEow, ev_fldP, ev_ixP, ev_nd1, ev_nd2, decide_true, decide_false, List.nil_append, List.cons_append, ev_ix, ev_ixT, ev_ixB, ev_ixBT, L_Log_ready_0, hd]
theorem at0 {α : Type} {x : α} {l : List α} : atI (x :: l) 0 = some x := by
  unfold atI; rw [ixN_pos (by omega) (by simp)]; rfl
theorem at1 {α : Type} {x y : α} {l : List α} : atI (x :: y :: l) 1 = some y := by
  unfold atI; rw [ixN_pos (by omega) (by simp; omega)]; rfl
theorem at2 {α : Type} {x y z : α} {l : List α} : atI (x :: y :: z :: l) 2 = some z := by
  unfold atI; rw [ixN_pos (by omega) (by simp; omega)]; rfl
theorem okK_hk {h k : Int} : okK (.tuple [.int h, .int k]) = true := by rfl
theorem many_at {many : List Int} {h : Int} (h0 : 0 ≤ h) (h1 : h < many.length) : (ixN ((many.map PyData.int).map T.d).length h).bind (fun j => ((many.map PyData.int).map T.d)[j]?) = some (.d (.int (many.getD h.toNat 0))) := by
  rw [List.length_map, List.length_map, ixN_pos h0 h1]
  show ((many.map PyData.int).map T.d)[h.toNat]? = _
  have hl : h.toNat < many.length := by omega
  rw [List.getElem?_map, List.getElem?_map, List.getElem?_eq_getElem hl]
  simp [List.getD, List.getElem?_eq_getElem hl]
theorem LogT_many {many : List Int} {tk ks vs : List D} : oRF (some (LogT many tk ks vs)) "Log" "many" = some (.n .l ((many.map PyData.int).map T.d)) := by
  show oRF (some (.n (.o "Log" LF) _)) "Log" "many" = _
  rw [ev_oRF, fx_many]; rfl
theorem LogT_kept {many : List Int} {tk ks vs : List D} : oRF (some (LogT many tk ks vs)) "Log" "kept" = some (.n (.q ks) (vs.map T.d)) := by
  show oRF (some (.n (.o "Log" LF) _)) "Log" "kept" = _
  rw [ev_oRF, fx_kept]; rfl
def readyB (many : List Int) (h k : Int) (cs : List Int) : Bool := decide (k = many.getD h.toNat 0) && leAll many cs
theorem ready_ok {many : List Int} {tk ks vs : List D} {h k : Int} {cs : List Int} {dd : D} (h0 : 0 ≤ h) (h1 : h < many.length) : f_Log_ready [LogT many tk ks vs, .d (rowD h k cs dd)] = some (.d (.bool (readyB many h k cs))) := by
  refine (fe_Log_ready _ _ _).trans ?_
  show outT (b_Log_ready [.ro true (LogT many tk ks vs), .val (rowD h k cs dd), .und, .und, .und, .und, .und, .und]) = _
  unfold b_Log_ready rowD
  obtain ⟨y6, y7, el⟩ := ready_loop (.ro true (LogT many tk ks vs)) (.val (rowD h k cs dd)) (.val (.int h)) (.val (.int k)) (.val (.tuple (cs.map .int))) (.val dd) many cs .und .und
  unfold rowD at el
  have hm := many_at h0 h1
  by_cases hk : k = many.getD h.toNat 0
  · have hd : decide (k = many.getD h.toNat 0) = true := decide_eq_true hk
    have hn : decide (k ≠ many.getD h.toNat 0) = false := decide_eq_false (fun z => z hk)
    simp only [ev_bs, ev_bn, ev_ms, ev_mn, ev_g0, ev_gs, ev_s0, ev_ss, ev_bn1, ev_bn2, ev_seq, ev_seq_nx, ev_seq_rt, ev_seq_bk, ev_seq_ct, ev_nil, ev_brk, ev_cnt, ev_if, ev_if_t, ev_if_f, ev_set, ev_oset, ev_setL, ev_osetL, ev_drop, ev_odrop, ev_ret, ev_oret, ev_retN, ev_retL, ev_oretL, ev_orun, ev_orunN, ev_orunN_nx, ev_fz, ev_fz_l, ev_fz_v, ev_app, ev_app_s, ev_clear, ev_clear_s, ev_oNx, ev_asg, ev_asg_s, ev_par, ev_par_s, ev_aug, ev_aug_s, ev_setIx, ev_setIx_s, ev_augIx, ev_dictN, ev_notInN, ev_oNotInN, ev_putN, ev_oPutN, ev_for, ev_ofor, ev_V, ev_L, ev_B, ev_rdV, ev_rdLv, ev_rdLl, ev_rdBv, ev_rdBb, ev_C, ev_e2, ev_o2, ev_e1, ev_e3, ev_o3, ev_pN, ev_pS, ev_oPS, ev_aNil, ev_aCons, ev_oCons, ev_tup, ev_lst, ev_oLst, ev_scal, ev_scal_i, ev_scal_s, ev_scal_b, ev_neg, ev_oNeg, ev_tB, ev_asB, ev_tNot, ev_tAnd, ev_tOr, ev_oAnd_t, ev_oAnd_f, ev_oOr_t, ev_oOr_f, ev_eAnd, ev_eOr, ev_oAndD_t, ev_oAndD_f, ev_oOrD_t, ev_oOrD_f, ev_eNot, ev_oNot, ev_isi, ev_isi_ii, ev_isi_ib, ev_isi_il, ev_isi_it, ev_isi_is, ev_isi_ll, ev_isi_lt, ev_isi_li, ev_isi_lb, ev_isi_tt, ev_isi_tl, ev_isi_ss, ev_isi_bb, ev_isi_bi, ev_isN, ev_notN, ev_oIsN_n, ev_oIsN_i, ev_oIsN_l, ev_oIsN_t, ev_oNotN_n, ev_oNotN_i, ev_oNotN_l, ev_oNotN_t, ev_rev, ev_gRev, ev_iAny, ev_oAny_l, ev_oAny_t, ev_iSeqB, ev_oSeqB, ev_iEnum, ev_oEnum, ev_iZip, ev_oZip_ll, ev_oZip_tt, ev_oZip_lt, ev_oZip_tl, ev_iRng1, ev_rng1_s, ev_iRng2, ev_rng2_s, ev_tgN, ev_tgNil, ev_tgCons, ev_tgT, ev_wipe_nil, ev_wipe_cons, ev_lc, ev_oLc, ev_add, ev_addIS, ev_add_ll, ev_add_tt, ev_addL, ev_repL, ev_rep, ev_sub, ev_mul, ev_mod, ev_div, ev_modA, ev_divA, ev_pow, ev_lt, ev_le, ev_gt, ev_ge, ev_eq, ev_ne, ev_eqs, ev_nes, ev_eqb, ev_neb, ev_len, ev_lenT, ev_list, ev_listT, ev_tuple, ev_tupleT, ev_int, ev_intb, ev_sum, ev_sum0, ev_max2, ev_min2, ev_sl, ev_slT, ev_slL, ev_slB, ev_divAZ, ev_divZ, ev_onNx, ev_while, ev_eq_li, ev_ne_li, ev_eq_self, ev_ne_self, ev_eq_selfT, ev_ne_selfT, ev_ne_nil, ev_eq_nil, ev_sorted_i, ev_listRg, ev_oListRg, ev_in_ii, ev_thaw, ev_oThaw, ev_flatO, ev_tThaw, ev_otThaw, ev_move, ev_oMove, ev_iEnumG, ev_oEnumG_l, ev_oEnumG_t, ev_gNotB, ev_nD, ev_nL, ev_oNL, ev_xN, ev_nsNil, ev_nsCons, ev_oNs, ev_nDictQ, ev_nDictK, ev_nLst, ev_nTup, ev_toC_d, ev_toC_n, ev_setX, ev_oSetX, ev_setN, ev_oSetN, ev_dropX, ev_oDropX, ev_retX, ev_oRetX, ev_retXN, ev_seq_rx, ev_ifX, ev_oIfX_t, ev_oIfX_f, ev_oTxB, ev_txCmp, ev_oTxC, ev_txP, ev_txNot, ev_oTxN, ev_pNm, ev_nodeAt, ev_oNode, ev_sub0, ev_subS, ev_putAt, ev_oPutA, ev_put0, ev_putS, ev_oTp, ev_rN, ev_cell_own, ev_cell_ro, ev_cell_val, ev_cell_lst, ev_roN, ev_oRo, ev_rF, ev_oRF, ev_rI, ev_oRI, ev_rLeaf, ev_oLeaf, ev_rFlat, ev_rView, ev_flatV1, ev_flatV1d, ev_eOw, ev_oEow, ev_fldP, ev_ixP, ev_nd1, ev_nd2, decide_true, decide_false, List.nil_append, List.cons_append, ev_ix, ev_ixT, ev_ixB, ev_ixBT, LogT_many, ev_oRI, hm, ev_flatV1, hd, Bool.not_true, Bool.not_false, el]
    unfold readyB
    rw [hd, Bool.true_and]
    cases leAll many cs <;> simp only [ev_bs, ev_bn, ev_ms, ev_mn, ev_g0, ev_gs, ev_s0, ev_ss, ev_bn1, ev_bn2, ev_seq, ev_seq_nx, ev_seq_rt, ev_seq_bk, ev_seq_ct, ev_nil, ev_brk, ev_cnt, ev_if, ev_if_t, ev_if_f, ev_set, ev_oset, ev_setL, ev_osetL, ev_drop, ev_odrop, ev_ret, ev_oret, ev_retN, ev_retL, ev_oretL, ev_orun, ev_orunN, ev_orunN_nx, ev_fz, ev_fz_l, ev_fz_v, ev_app, ev_app_s, ev_clear, ev_clear_s, ev_oNx, ev_asg, ev_asg_s, ev_par, ev_par_s, ev_aug, ev_aug_s, ev_setIx, ev_setIx_s, ev_augIx, ev_dictN, ev_notInN, ev_oNotInN, ev_putN, ev_oPutN, ev_for, ev_ofor, ev_V, ev_L, ev_B, ev_rdV, ev_rdLv, ev_rdLl, ev_rdBv, ev_rdBb, ev_C, ev_e2, ev_o2, ev_e1, ev_e3, ev_o3, ev_pN, ev_pS, ev_oPS, ev_aNil, ev_aCons, ev_oCons, ev_tup, ev_lst, ev_oLst, ev_scal, ev_scal_i, ev_scal_s, ev_scal_b, ev_neg, ev_oNeg, ev_tB, ev_asB, ev_tNot, ev_tAnd, ev_tOr, ev_oAnd_t, ev_oAnd_f, ev_oOr_t, ev_oOr_f, ev_eAnd, ev_eOr, ev_oAndD_t, ev_oAndD_f, ev_oOrD_t, ev_oOrD_f, ev_eNot, ev_oNot, ev_isi, ev_isi_ii, ev_isi_ib, ev_isi_il, ev_isi_it, ev_isi_is, ev_isi_ll, ev_isi_lt, ev_isi_li, ev_isi_lb, ev_isi_tt, ev_isi_tl, ev_isi_ss, ev_isi_bb, ev_isi_bi, ev_isN, ev_notN, ev_oIsN_n, ev_oIsN_i, ev_oIsN_l, ev_oIsN_t, ev_oNotN_n, ev_oNotN_i, ev_oNotN_l, ev_oNotN_t, ev_rev, ev_gRev, ev_iAny, ev_oAny_l, ev_oAny_t, ev_iSeqB, ev_oSeqB, ev_iEnum, ev_oEnum, ev_iZip, ev_oZip_ll, ev_oZip_tt, ev_oZip_lt, ev_oZip_tl, ev_iRng1, ev_rng1_s, ev_iRng2, ev_rng2_s, ev_tgN, ev_tgNil, ev_tgCons, ev_tgT, ev_wipe_nil, ev_wipe_cons, ev_lc, ev_oLc, ev_add, ev_addIS, ev_add_ll, ev_add_tt, ev_addL, ev_repL, ev_rep, ev_sub, ev_mul, ev_mod, ev_div, ev_modA, ev_divA, ev_pow, ev_lt, ev_le, ev_gt, ev_ge, ev_eq, ev_ne, ev_eqs, ev_nes, ev_eqb, ev_neb, ev_len, ev_lenT, ev_list, ev_listT, ev_tuple, ev_tupleT, ev_int, ev_intb, ev_sum, ev_sum0, ev_max2, ev_min2, ev_sl, ev_slT, ev_slL, ev_slB, ev_divAZ, ev_divZ, ev_onNx, ev_while, ev_eq_li, ev_ne_li, ev_eq_self, ev_ne_self, ev_eq_selfT, ev_ne_selfT, ev_ne_nil, ev_eq_nil, ev_sorted_i, ev_listRg, ev_oListRg, ev_in_ii, ev_thaw, ev_oThaw, ev_flatO, ev_tThaw, ev_otThaw, ev_move, ev_oMove, ev_iEnumG, ev_oEnumG_l, ev_oEnumG_t, ev_gNotB, ev_nD, ev_nL, ev_oNL, ev_xN, ev_nsNil, ev_nsCons, ev_oNs, ev_nDictQ, ev_nDictK, ev_nLst, ev_nTup, ev_toC_d, ev_toC_n, ev_setX, ev_oSetX, ev_setN, ev_oSetN, ev_dropX, ev_oDropX, ev_retX, ev_oRetX, ev_retXN, ev_seq_rx, ev_ifX, ev_oIfX_t, ev_oIfX_f, ev_oTxB, ev_txCmp, ev_oTxC, ev_txP, ev_txNot, ev_oTxN, ev_pNm, ev_nodeAt, ev_oNode, ev_sub0, ev_subS, ev_putAt, ev_oPutA, ev_put0, ev_putS, ev_oTp, ev_rN, ev_cell_own, ev_cell_ro, ev_cell_val, ev_cell_lst, ev_roN, ev_oRo, ev_rF, ev_oRF, ev_rI, ev_oRI, ev_rLeaf, ev_oLeaf, ev_rFlat, ev_rView, ev_flatV1, ev_flatV1d, ev_eOw, ev_oEow, ev_fldP, ev_ixP, ev_nd1, ev_nd2, decide_true, decide_false, List.nil_append, List.cons_append, ev_ix, ev_ixT, ev_ixB, ev_ixBT, if_true, Bool.false_eq_true, if_false] <;> rfl
  · have hd : decide (k = many.getD h.toNat 0) = false := decide_eq_false hk
    have hn : decide (k ≠ many.getD h.toNat 0) = true := decide_eq_true hk
    simp only [ev_bs, ev_bn, ev_ms, ev_mn, ev_g0, ev_gs, ev_s0, ev_ss, ev_bn1, ev_bn2, ev_seq, ev_seq_nx, ev_seq_rt, ev_seq_bk, ev_seq_ct, ev_nil, ev_brk, ev_cnt, ev_if, ev_if_t, ev_if_f, ev_set, ev_oset, ev_setL, ev_osetL, ev_drop, ev_odrop, ev_ret, ev_oret, ev_retN, ev_retL, ev_oretL, ev_orun, ev_orunN, ev_orunN_nx, ev_fz, ev_fz_l, ev_fz_v, ev_app, ev_app_s, ev_clear, ev_clear_s, ev_oNx, ev_asg, ev_asg_s, ev_par, ev_par_s, ev_aug, ev_aug_s, ev_setIx, ev_setIx_s, ev_augIx, ev_dictN, ev_notInN, ev_oNotInN, ev_putN, ev_oPutN, ev_for, ev_ofor, ev_V, ev_L, ev_B, ev_rdV, ev_rdLv, ev_rdLl, ev_rdBv, ev_rdBb, ev_C, ev_e2, ev_o2, ev_e1, ev_e3, ev_o3, ev_pN, ev_pS, ev_oPS, ev_aNil, ev_aCons, ev_oCons, ev_tup, ev_lst, ev_oLst, ev_scal, ev_scal_i, ev_scal_s, ev_scal_b, ev_neg, ev_oNeg, ev_tB, ev_asB, ev_tNot, ev_tAnd, ev_tOr, ev_oAnd_t, ev_oAnd_f, ev_oOr_t, ev_oOr_f, ev_eAnd, ev_eOr, ev_oAndD_t, ev_oAndD_f, ev_oOrD_t, ev_oOrD_f, ev_eNot, ev_oNot, ev_isi, ev_isi_ii, ev_isi_ib, ev_isi_il, ev_isi_it, ev_isi_is, ev_isi_ll, ev_isi_lt, ev_isi_li, ev_isi_lb, ev_isi_tt, ev_isi_tl, ev_isi_ss, ev_isi_bb, ev_isi_bi, ev_isN, ev_notN, ev_oIsN_n, ev_oIsN_i, ev_oIsN_l, ev_oIsN_t, ev_oNotN_n, ev_oNotN_i, ev_oNotN_l, ev_oNotN_t, ev_rev, ev_gRev, ev_iAny, ev_oAny_l, ev_oAny_t, ev_iSeqB, ev_oSeqB, ev_iEnum, ev_oEnum, ev_iZip, ev_oZip_ll, ev_oZip_tt, ev_oZip_lt, ev_oZip_tl, ev_iRng1, ev_rng1_s, ev_iRng2, ev_rng2_s, ev_tgN, ev_tgNil, ev_tgCons, ev_tgT, ev_wipe_nil, ev_wipe_cons, ev_lc, ev_oLc, ev_add, ev_addIS, ev_add_ll, ev_add_tt, ev_addL, ev_repL, ev_rep, ev_sub, ev_mul, ev_mod, ev_div, ev_modA, ev_divA, ev_pow, ev_lt, ev_le, ev_gt, ev_ge, ev_eq, ev_ne, ev_eqs, ev_nes, ev_eqb, ev_neb, ev_len, ev_lenT, ev_list, ev_listT, ev_tuple, ev_tupleT, ev_int, ev_intb, ev_sum, ev_sum0, ev_max2, ev_min2, ev_sl, ev_slT, ev_slL, ev_slB, ev_divAZ, ev_divZ, ev_onNx, ev_while, ev_eq_li, ev_ne_li, ev_eq_self, ev_ne_self, ev_eq_selfT, ev_ne_selfT, ev_ne_nil, ev_eq_nil, ev_sorted_i, ev_listRg, ev_oListRg, ev_in_ii, ev_thaw, ev_oThaw, ev_flatO, ev_tThaw, ev_otThaw, ev_move, ev_oMove, ev_iEnumG, ev_oEnumG_l, ev_oEnumG_t, ev_gNotB, ev_nD, ev_nL, ev_oNL, ev_xN, ev_nsNil, ev_nsCons, ev_oNs, ev_nDictQ, ev_nDictK, ev_nLst, ev_nTup, ev_toC_d, ev_toC_n, ev_setX, ev_oSetX, ev_setN, ev_oSetN, ev_dropX, ev_oDropX, ev_retX, ev_oRetX, ev_retXN, ev_seq_rx, ev_ifX, ev_oIfX_t, ev_oIfX_f, ev_oTxB, ev_txCmp, ev_oTxC, ev_txP, ev_txNot, ev_oTxN, ev_pNm, ev_nodeAt, ev_oNode, ev_sub0, ev_subS, ev_putAt, ev_oPutA, ev_put0, ev_putS, ev_oTp, ev_rN, ev_cell_own, ev_cell_ro, ev_cell_val, ev_cell_lst, ev_roN, ev_oRo, ev_rF, ev_oRF, ev_rI, ev_oRI, ev_rLeaf, ev_oLeaf, ev_rFlat, ev_rView, ev_flatV1, ev_flatV1d, ev_eOw, ev_oEow, ev_fldP, ev_ixP, ev_nd1, ev_nd2, decide_true, decide_false, List.nil_append, List.cons_append, ev_ix, ev_ixT, ev_ixB, ev_ixBT, LogT_many, ev_oRI, hm, hd, Bool.not_true, Bool.not_false]
    unfold readyB
    rw [hd, Bool.false_and]
    rfl
theorem put_ok {many : List Int} {tk ks vs : List D} {h k : Int} {cs : List Int} {dd : D} (h0 : 0 ≤ h) (h1 : h < many.length) (ht : tk.length < 16000000) : f_Log_put [LogT many tk ks vs, .d (rowD h k cs dd)] = some ([LogT (many.set h.toNat (many.getD h.toNat 0 + 1)) (tk ++ [rowD h k cs dd]) ks vs], .d .none) := by
  refine (fe_Log_put _ _ _).trans ?_
  show outM [true, false] (b_Log_put [.own (some 0) (LogT many tk ks vs), .val (rowD h k cs dd)]) = _
  unfold b_Log_put
  have hl : h.toNat < many.length := by omega
  have a1 : xAppP (pF "Log" "taken" (pNm 0)) (nD (eV 1)) [.own (some 0) (LogT many tk ks vs), .val (rowD h k cs dd)] = some ([.own (some 0) (LogT many (tk ++ [rowD h k cs dd]) ks vs), .val (rowD h k cs dd)], .d .none) := by
    refine (appP_at (i := 0) (p := [1]) (u := .d (rowD h k cs dd)) (ts := tk.map T.d) (pF_at (p := []) rfl rfl fx_taken (by show 1 < 3; decide)) rfl rfl (by rw [List.length_map]; exact ht)).trans ?_
    have e : tk.map T.d ++ [T.d (rowD h k cs dd)] = (tk ++ [rowD h k cs dd]).map T.d := by rw [List.map_append]; rfl
    rw [e]; rfl
  have a2 : sAugP gAddIS (pF "Log" "many" (pNm 0)) (e2 gIxS (eV 1) (eC (.int 0))) (eC (.int 1)) [.own (some 0) (LogT many (tk ++ [rowD h k cs dd]) ks vs), .val (rowD h k cs dd)] = .nx [.own (some 0) (LogT (many.set h.toNat (many.getD h.toNat 0 + 1)) (tk ++ [rowD h k cs dd]) ks vs), .val (rowD h k cs dd)] := by
    refine (augP_at (i := 0) (p := [0]) (j := h.toNat) (k := h) (x := .int (many.getD h.toNat 0)) (y := .int 1) (z := .int (many.getD h.toNat 0 + 1)) (ts := (many.map PyData.int).map T.d) (pF_at (p := []) rfl rfl fx_many (by show 0 < 3; decide)) rfl rfl (by rw [List.length_map, List.length_map]; exact ixN_pos h0 h1) ?_ rfl rfl).trans ?_
    · rw [List.getElem?_map, List.getElem?_map, List.getElem?_eq_getElem hl]
      simp [List.getD, List.getElem?_eq_getElem hl]
    · have e : ((many.map PyData.int).map T.d).set h.toNat (.d (.int (many.getD h.toNat 0 + 1))) = ((many.set h.toNat (many.getD h.toNat 0 + 1)).map PyData.int).map T.d := by rw [List.map_set, List.map_set]
      rw [e]; rfl
  simp only [ev_seq, ev_dropX, a1, ev_oDropX, ev_seq_nx, a2]
  rfl
theorem init_ok {n : Int} (h0 : 0 ≤ n) (h1 : n ≤ 1000) : f_Log_init [.n (.o "Log" []) [], .d (.int n)] = some ([LogT (List.replicate n.toNat 0) [] [] []], .d .none) := by
  refine (fe_Log_init _ _ _).trans ?_
  obtain ⟨m, rfl⟩ : ∃ m : Nat, n = m := ⟨n.toNat, by omega⟩
  unfold b_Log_init
  have hr := ev_repL (x := .int 0) (n := m) (by omega)
  have r1 : oFldP (some ([.own (some 0) (.n (.o "Log" []) []), .val (.int m)], .n .l ((List.replicate m (.int 0)).map T.d))) "Log" "many" (pNm 0) = .nx [.own (some 0) (.n (.o "Log" ["many"]) [.n .l ((List.replicate m (.int 0)).map T.d)]), .val (.int m)] :=
    (fldP_at (i := 0) (p := []) (fl := []) rfl rfl (by decide)).trans (by unfold putO; rw [show fIx "many" [] = none from rfl]; rfl)
  have r2 : oFldP (some ([.own (some 0) (.n (.o "Log" ["many"]) [.n .l ((List.replicate m (.int 0)).map T.d)]), .val (.int m)], .n .l ([].map T.d))) "Log" "taken" (pNm 0) = .nx [.own (some 0) (.n (.o "Log" ["many", "taken"]) [.n .l ((List.replicate m (.int 0)).map T.d), .n .l []]), .val (.int m)] :=
    (fldP_at (i := 0) (p := []) (fl := ["many"]) rfl rfl (by decide)).trans (by unfold putO; rw [show fIx "taken" ["many"] = none by decide +kernel]; rfl)
  have r3 : oFldP (some ([.own (some 0) (.n (.o "Log" ["many", "taken"]) [.n .l ((List.replicate m (.int 0)).map T.d), .n .l []]), .val (.int m)], .n (.q []) [])) "Log" "kept" (pNm 0) = .nx [.own (some 0) (.n (.o "Log" LF) [.n .l ((List.replicate m (.int 0)).map T.d), .n .l [], .n (.q []) []]), .val (.int m)] :=
    (fldP_at (i := 0) (p := []) (fl := ["many", "taken"]) rfl rfl (by decide)).trans (by unfold putO; rw [show fIx "kept" ["many", "taken"] = none by decide +kernel]; rfl)
  simp only [ev_bs, ev_bn, ev_ms, ev_mn, ev_g0, ev_gs, ev_s0, ev_ss, ev_bn1, ev_bn2, ev_seq, ev_seq_nx, ev_seq_rt, ev_seq_bk, ev_seq_ct, ev_nil, ev_brk, ev_cnt, ev_if, ev_if_t, ev_if_f, ev_set, ev_oset, ev_setL, ev_osetL, ev_drop, ev_odrop, ev_ret, ev_oret, ev_retN, ev_retL, ev_oretL, ev_orun, ev_orunN, ev_orunN_nx, ev_fz, ev_fz_l, ev_fz_v, ev_app, ev_app_s, ev_clear, ev_clear_s, ev_oNx, ev_asg, ev_asg_s, ev_par, ev_par_s, ev_aug, ev_aug_s, ev_setIx, ev_setIx_s, ev_augIx, ev_dictN, ev_notInN, ev_oNotInN, ev_putN, ev_oPutN, ev_for, ev_ofor, ev_V, ev_L, ev_B, ev_rdV, ev_rdLv, ev_rdLl, ev_rdBv, ev_rdBb, ev_C, ev_e2, ev_o2, ev_e1, ev_e3, ev_o3, ev_pN, ev_pS, ev_oPS, ev_aNil, ev_aCons, ev_oCons, ev_tup, ev_lst, ev_oLst, ev_scal, ev_scal_i, ev_scal_s, ev_scal_b, ev_neg, ev_oNeg, ev_tB, ev_asB, ev_tNot, ev_tAnd, ev_tOr, ev_oAnd_t, ev_oAnd_f, ev_oOr_t, ev_oOr_f, ev_eAnd, ev_eOr, ev_oAndD_t, ev_oAndD_f, ev_oOrD_t, ev_oOrD_f, ev_eNot, ev_oNot, ev_isi, ev_isi_ii, ev_isi_ib, ev_isi_il, ev_isi_it, ev_isi_is, ev_isi_ll, ev_isi_lt, ev_isi_li, ev_isi_lb, ev_isi_tt, ev_isi_tl, ev_isi_ss, ev_isi_bb, ev_isi_bi, ev_isN, ev_notN, ev_oIsN_n, ev_oIsN_i, ev_oIsN_l, ev_oIsN_t, ev_oNotN_n, ev_oNotN_i, ev_oNotN_l, ev_oNotN_t, ev_rev, ev_gRev, ev_iAny, ev_oAny_l, ev_oAny_t, ev_iSeqB, ev_oSeqB, ev_iEnum, ev_oEnum, ev_iZip, ev_oZip_ll, ev_oZip_tt, ev_oZip_lt, ev_oZip_tl, ev_iRng1, ev_rng1_s, ev_iRng2, ev_rng2_s, ev_tgN, ev_tgNil, ev_tgCons, ev_tgT, ev_wipe_nil, ev_wipe_cons, ev_lc, ev_oLc, ev_add, ev_addIS, ev_add_ll, ev_add_tt, ev_addL, ev_repL, ev_rep, ev_sub, ev_mul, ev_mod, ev_div, ev_modA, ev_divA, ev_pow, ev_lt, ev_le, ev_gt, ev_ge, ev_eq, ev_ne, ev_eqs, ev_nes, ev_eqb, ev_neb, ev_len, ev_lenT, ev_list, ev_listT, ev_tuple, ev_tupleT, ev_int, ev_intb, ev_sum, ev_sum0, ev_max2, ev_min2, ev_sl, ev_slT, ev_slL, ev_slB, ev_divAZ, ev_divZ, ev_onNx, ev_while, ev_eq_li, ev_ne_li, ev_eq_self, ev_ne_self, ev_eq_selfT, ev_ne_selfT, ev_ne_nil, ev_eq_nil, ev_sorted_i, ev_listRg, ev_oListRg, ev_in_ii, ev_thaw, ev_oThaw, ev_flatO, ev_tThaw, ev_otThaw, ev_move, ev_oMove, ev_iEnumG, ev_oEnumG_l, ev_oEnumG_t, ev_gNotB, ev_nD, ev_nL, ev_oNL, ev_xN, ev_nsNil, ev_nsCons, ev_oNs, ev_nDictQ, ev_nDictK, ev_nLst, ev_nTup, ev_toC_d, ev_toC_n, ev_setX, ev_oSetX, ev_setN, ev_oSetN, ev_dropX, ev_oDropX, ev_retX, ev_oRetX, ev_retXN, ev_seq_rx, ev_ifX, ev_oIfX_t, ev_oIfX_f, ev_oTxB, ev_txCmp, ev_oTxC, ev_txP, ev_txNot, ev_oTxN, ev_pNm, ev_nodeAt, ev_oNode, ev_sub0, ev_subS, ev_putAt, ev_oPutA, ev_put0, ev_putS, ev_oTp, ev_rN, ev_cell_own, ev_cell_ro, ev_cell_val, ev_cell_lst, ev_roN, ev_oRo, ev_rF, ev_oRF, ev_rI, ev_oRI, ev_rLeaf, ev_oLeaf, ev_rFlat, ev_rView, ev_flatV1, ev_flatV1d, ev_eOw, ev_oEow, ev_fldP, ev_ixP, ev_nd1, ev_nd2, decide_true, decide_false, List.nil_append, List.cons_append, ev_ix, ev_ixT, ev_ixB, ev_ixBT, ev_fldP, hr, r1, r2, r3]
  have e : List.replicate (m : Int).toNat (0 : Int) = List.replicate m 0 := by rw [Int.toNat_natCast]
  unfold LogT
  simp only [e, List.map_replicate]
  rfl
end DL
set_option Elab.async false
set_option linter.all false
set_option maxRecDepth 100000
set_option maxHeartbeats 4000000
namespace DL
open PySem PySem.Spec L2
structure Rw where
  h : Int
  k : Int
  cs : List Int
  dd : D
def rwD (r : Rw) : D := rowD r.h r.k r.cs r.dd
def DdOk (d : D) : Prop := (∃ a b : Int, d = .tuple [.str "do", .int a, .int b]) ∨ ∃ a b c : Int, d = .tuple [.str "give", .int a, .int b, .int c]
def RwOk (n : Nat) (r : Rw) : Prop := 0 ≤ r.h ∧ r.h < n ∧ r.cs.length = n ∧ r.dd.canLay0 = true ∧ r.dd.depth ≤ 1 ∧ noL r.dd = true ∧ DdOk r.dd
def kyD (r : Rw) : D := .tuple [.int r.h, .int r.k]
def smB (a b : Rw) : Bool := decide (a.h = b.h) && decide (a.k = b.k)
def Uq (W : List Rw) : Prop := W.Pairwise fun a b => smB a b = false
def rdy (many : List Int) (r : Rw) : Bool := readyB many r.h r.k r.cs
def bump (many : List Int) (r : Rw) : List Int := many.set r.h.toNat (many.getD r.h.toNat 0 + 1)
def leK (a b : Rw) : Bool := PySem.W.dataLe false (fun d : D => d) (kyD a) (kyD b)
def srt (W : List Rw) : List Rw := W.mergeSort leK
def del (r : Rw) (W : List Rw) : List Rw := W.filter fun x => !smB x r
theorem smB_self (a : Rw) : smB a a = true := by simp [smB]
theorem smB_comm (a b : Rw) : smB a b = smB b a := by
  unfold smB
  rw [Bool.eq_iff_iff]
  simp only [Bool.and_eq_true, decide_eq_true_eq]
  exact ⟨fun h => ⟨h.1.symm, h.2.symm⟩, fun h => ⟨h.1.symm, h.2.symm⟩⟩
theorem keyN_ky (a : Rw) : keyN (kyD a) = some (.tup [.num a.h, .num a.k]) := rfl
theorem keyN_eq (a b : Rw) : (keyN (kyD a) = keyN (kyD b)) ↔ smB a b = true := by
  rw [keyN_ky, keyN_ky]
  unfold smB
  rw [Bool.and_eq_true, decide_eq_true_eq, decide_eq_true_eq]
  constructor
  · intro h
    injection h with h
    injection h with h
    injection h with h1 h2
    injection h2 with h2 h3
    injection h1 with h1
    injection h2 with h2
    exact ⟨h1, h2⟩
  · rintro ⟨h1, h2⟩
    rw [h1, h2]
theorem okK_ky (a : Rw) : okK (kyD a) = true := rfl
theorem kIx_ky (r : Rw) : ∀ W : List Rw, kIx (W.map kyD) (kyD r) = W.findIdx? fun x => smB x r
  | [] => rfl
  | x :: W => by
    rw [List.map_cons]
    unfold kIx
    rw [List.findIdx?_cons, kIx_ky r W]
    by_cases h : keyN (kyD x) = keyN (kyD r)
    · rw [if_pos h, (keyN_eq x r).mp h]; rfl
    · have h2 : smB x r = false := by
        cases z : smB x r with
        | false => rfl
        | true => exact absurd ((keyN_eq x r).mpr z) h
      rw [if_neg h, h2]
      cases List.findIdx? (fun x => smB x r) W <;> rfl
theorem kIx_no {r : Rw} {W : List Rw} (h : ∀ x ∈ W, smB x r = false) : kIx (W.map kyD) (kyD r) = none := by
  rw [kIx_ky, List.findIdx?_eq_none_iff]
  exact h
theorem Uq.tail {x : Rw} {W : List Rw} (h : Uq (x :: W)) : Uq W := (List.pairwise_cons.mp h).2
theorem Uq.head {x : Rw} {W : List Rw} (h : Uq (x :: W)) : ∀ y ∈ W, smB x y = false := (List.pairwise_cons.mp h).1
theorem del_no {r : Rw} {W : List Rw} (h : ∀ x ∈ W, smB x r = false) : del r W = W := by
  unfold del
  rw [List.filter_eq_self]
  intro x hx
  rw [h x hx]; rfl
theorem kIx_mem {r : Rw} : ∀ {W : List Rw}, Uq W → r ∈ W → ∃ j, kIx (W.map kyD) (kyD r) = some j ∧ j < W.length ∧ W[j]? = some r ∧ W.eraseIdx j = del r W
  | x :: W, u, m => by
    by_cases e : smB x r = true
    · have hx : x = r := by
        rcases List.mem_cons.mp m with rfl | m
        · rfl
        · rw [u.head r m] at e; cases e
      subst hx
      refine ⟨0, ?_, by simp, rfl, ?_⟩
      · rw [kIx_ky, List.findIdx?_cons, e]; rfl
      · have := del_no (r := x) (W := W) fun y hy => by rw [smB_comm]; exact u.head y hy
        unfold del at this ⊢
        rw [List.filter_cons, e, this]; rfl
    · have e : smB x r = false := by simpa using e
      have m : r ∈ W := by
        rcases List.mem_cons.mp m with rfl | m
        · rw [smB_self] at e; cases e
        · exact m
      obtain ⟨j, h1, h2, h3, h4⟩ := kIx_mem u.tail m
      rw [kIx_ky] at h1
      refine ⟨j + 1, ?_, by simpa using h2, by simpa using h3, ?_⟩
      · rw [kIx_ky, List.findIdx?_cons, e, h1]; rfl
      · unfold del at h4 ⊢
        rw [List.filter_cons, e, List.eraseIdx_cons_succ, h4]; rfl
theorem mem_del {r x : Rw} {W : List Rw} : x ∈ del r W → x ∈ W := fun h => (List.mem_filter.mp h).1
theorem Uq.del {r : Rw} {W : List Rw} (h : Uq W) : Uq (del r W) := List.Pairwise.filter _ h
theorem del_len {r : Rw} {W : List Rw} (u : Uq W) (m : r ∈ W) : (del r W).length + 1 = W.length := by
  obtain ⟨j, _, h2, _, h4⟩ := kIx_mem u m
  rw [← h4, List.length_eraseIdx, if_pos h2]
  omega
theorem srt_map (W : List Rw) : gSorted [.list (W.map kyD)] = some (.list ((srt W).map kyD)) :=
  sorted_gen (t := kyD) (le := leK) (l := W) (fun _ _ => by rfl) (.inl fun _ => rfl) (fun _ => by simp only [kyD, PyData.depth, PyData.depthAll]; omega) fun _ _ => rfl
theorem mem_srt {x : Rw} {W : List Rw} : x ∈ srt W ↔ x ∈ W := by unfold srt; exact List.mem_mergeSort
/-- the first waiting row that can be taken -/
def fst (many : List Int) (W : List Rw) : Option Rw := (srt W).find? (rdy many)
theorem fst_mem {many : List Int} {W : List Rw} {r : Rw} (h : fst many W = some r) : r ∈ W ∧ rdy many r = true :=
  ⟨mem_srt.mp (List.mem_of_find?_eq_some h), List.find?_some h⟩
theorem fst_none {many : List Int} {W : List Rw} : fst many W = none ↔ ∀ x ∈ W, rdy many x = false := by
  unfold fst
  rw [List.find?_eq_none]
  exact ⟨fun h x hx => by simpa using h x (mem_srt.mpr hx), fun h x hx => by simpa using h x (mem_srt.mp hx)⟩
theorem fst_nil (many : List Int) : fst many [] = none := fst_none.mpr fun _ m => nomatch m
structure St where
  many : List Int
  tk : List Rw
  W : List Rw
def put (s : St) (r : Rw) : St := ⟨bump s.many r, s.tk ++ [r], s.W⟩
def flush : Nat → St → St
  | 0, s => s
  | f + 1, s => match fst s.many s.W with
    | none => s
    | some r => flush f ⟨bump s.many r, s.tk ++ [r], del r s.W⟩
def wait (s : St) (r : Rw) : St := if s.W.any (fun x => smB x r) = true then s else ⟨s.many, s.tk, s.W ++ [r]⟩
def due (s : St) (r : Rw) : St × Str :=
  if r.k < s.many.getD r.h.toNat 0 then (s, "known")
  else if rdy s.many r = true then (flush s.W.length (put s r), "taken")
  else (wait s r, "waits")
structure StOk (n : Nat) (s : St) : Prop where
  len : s.many.length = n
  tk : ∀ r ∈ s.tk, RwOk n r
  w : ∀ r ∈ s.W, RwOk n r
  uq : Uq s.W
theorem bump_len (many : List Int) (r : Rw) : (bump many r).length = many.length := by unfold bump; rw [List.length_set]
theorem StOk.put {n : Nat} {s : St} {r : Rw} (h : StOk n s) (hr : RwOk n r) : StOk n (put s r) :=
  ⟨(bump_len ..).trans h.len, fun x hx => (List.mem_append.mp hx).elim (h.tk x) fun m => by rw [List.mem_singleton.mp m]; exact hr, h.w, h.uq⟩
theorem StOk.step {n : Nat} {s : St} {r : Rw} (h : StOk n s) (hr : r ∈ s.W) : StOk n ⟨bump s.many r, s.tk ++ [r], del r s.W⟩ :=
  ⟨(bump_len ..).trans h.len, fun x hx => (List.mem_append.mp hx).elim (h.tk x) fun m => by rw [List.mem_singleton.mp m]; exact h.w r hr, fun x hx => h.w x (mem_del hx), h.uq.del⟩
theorem StOk.wait {n : Nat} {s : St} {r : Rw} (h : StOk n s) (hr : RwOk n r) : StOk n (wait s r) := by
  unfold DL.wait
  split
  · exact h
  · rename_i z
    have z : ∀ x ∈ s.W, smB x r = false := by simpa using z
    refine ⟨h.len, h.tk, fun x hx => (List.mem_append.mp hx).elim (h.w x) fun m => by rw [List.mem_singleton.mp m]; exact hr, ?_⟩
    exact List.pairwise_append.mpr ⟨h.uq, List.pairwise_singleton _ _, fun a ha b hb => by rw [List.mem_singleton.mp hb]; exact z a ha⟩
theorem StOk.flush {n : Nat} : ∀ (f : Nat) {s : St}, StOk n s → StOk n (flush f s)
  | 0, s, h => h
  | f + 1, s, h => by
    unfold DL.flush
    split
    · exact h
    · rename_i r e
      exact StOk.flush f (h.step (fst_mem e).1)
theorem StOk.due {n : Nat} {s : St} {r : Rw} (h : StOk n s) (hr : RwOk n r) : StOk n (due s r).1 := by
  unfold DL.due
  split
  · exact h
  · split
    · exact (h.put hr).flush _
    · exact h.wait hr
theorem flush_sum : ∀ (f : Nat) {s : St}, Uq s.W → (flush f s).tk.length + (flush f s).W.length = s.tk.length + s.W.length
  | 0, s, _ => rfl
  | f + 1, s, u => by
    unfold flush
    split
    · rfl
    · rename_i r e
      have := del_len u (fst_mem e).1
      rw [flush_sum f u.del]
      simp only [List.length_append, List.length_singleton]
      omega
theorem due_sum {n : Nat} {s : St} {r : Rw} (h : StOk n s) : (due s r).1.tk.length + (due s r).1.W.length ≤ s.tk.length + s.W.length + 1 := by
  unfold due
  split
  · exact Nat.le_succ _
  · split
    · have e := flush_sum s.W.length (s := put s r) h.uq
      show (flush s.W.length (put s r)).tk.length + (flush s.W.length (put s r)).W.length ≤ _
      rw [e]
      unfold put
      simp only [List.length_append, List.length_singleton]
      omega
    · unfold wait
      split
      · exact Nat.le_succ _
      · simp only [List.length_append, List.length_singleton]
        omega
theorem flush_idle : ∀ (f : Nat) {s : St}, Uq s.W → s.W.length ≤ f → fst (flush f s).many (flush f s).W = none
  | 0, s, _, h => by
    have e : s.W = [] := List.length_eq_zero_iff.mp (by omega)
    show fst s.many s.W = none
    rw [e]; exact fst_nil _
  | f + 1, s, u, h => by
    unfold flush
    split
    · rename_i e; exact e
    · rename_i r e
      have := del_len u (fst_mem e).1
      exact flush_idle f u.del (by show (del r s.W).length ≤ f; omega)
theorem flush_mem : ∀ (f : Nat) {s : St} {x : Rw}, x ∈ (flush f s).W → x ∈ s.W
  | 0, s, x, h => h
  | f + 1, s, x, h => by
    unfold flush at h
    split at h
    · exact h
    · exact mem_del (flush_mem f h)
/-- waiting rows are rows that were handed in, and none of them can be taken -/
def Idle (rs : List Rw) (s : St) : Prop := (∀ x ∈ s.W, x ∈ rs) ∧ fst s.many s.W = none
theorem Idle.due {n : Nat} {rs : List Rw} {s : St} {r : Rw} (hs : StOk n s) (h : Idle rs s) (hr : r ∈ rs) : Idle rs (due s r).1 := by
  unfold DL.due
  split
  · exact h
  · split
    · rename_i z
      exact ⟨fun x hx => h.1 x (flush_mem (s := put s r) s.W.length hx), flush_idle (s := put s r) s.W.length hs.uq (Nat.le_refl _)⟩
    · rename_i z1 z2
      unfold wait
      split
      · exact h
      · refine ⟨fun x hx => (List.mem_append.mp hx).elim (h.1 x) fun m => by rw [List.mem_singleton.mp m]; exact hr, fst_none.mpr fun x hx => ?_⟩
        rcases List.mem_append.mp hx with m | m
        · exact fst_none.mp h.2 x m
        · rw [List.mem_singleton.mp m]; simpa using z2
theorem Uq.mem_eq {rs : List Rw} (u : Uq rs) {a b : Rw} (ha : a ∈ rs) (hb : b ∈ rs) (h : smB a b = true) : a = b := by
  induction rs with
  | nil => cases ha
  | cons x rs ih =>
    rcases List.mem_cons.mp ha with ea | ha2
    · rcases List.mem_cons.mp hb with eb | hb2
      · rw [ea, eb]
      · rw [ea, u.head b hb2] at h; cases h
    · rcases List.mem_cons.mp hb with eb | hb2
      · rw [eb, smB_comm, u.head a ha2] at h; cases h
      · exact ih u.tail ha2 hb2
/-- a row that can be taken has no like among those that wait -/
theorem Idle.no {rs : List Rw} {s : St} {r : Rw} (u : Uq rs) (h : Idle rs s) (hr : r ∈ rs) (z : rdy s.many r = true) : ∀ x ∈ s.W, smB x r = false := fun x hx => by
  cases e : smB x r with
  | false => rfl
  | true =>
    have := u.mem_eq (h.1 x hx) hr e
    subst this
    rw [fst_none.mp h.2 x hx] at z
    cases z
/-- rows taken one by one -/
def keepsB : List Int → List Rw → Bool
  | _, [] => true
  | many, r :: rs => readyB many r.h r.k r.cs && keepsB (many.set r.h.toNat (many.getD r.h.toNat 0 + 1)) rs
def cnt : List Int → List Rw → List Int
  | many, [] => many
  | many, r :: rs => cnt (bump many r) rs
theorem cnt_app : ∀ (a : List Rw) (many : List Int) (b : List Rw), cnt many (a ++ b) = cnt (cnt many a) b
  | [], _, _ => rfl
  | r :: a, many, b => cnt_app a (bump many r) b
theorem keepsB_app : ∀ (a : List Rw) (many : List Int) (b : List Rw), keepsB many (a ++ b) = (keepsB many a && keepsB (cnt many a) b)
  | [], _, _ => by simp [keepsB, cnt]
  | r :: a, many, b => by
    show (readyB many r.h r.k r.cs && keepsB (bump many r) (a ++ b)) = ((readyB many r.h r.k r.cs && keepsB (bump many r) a) && keepsB (cnt (bump many r) a) b)
    rw [keepsB_app a (bump many r) b, Bool.and_assoc]
theorem keepsB_one (many : List Int) (r : Rw) : keepsB many [r] = rdy many r := by
  show (rdy many r && true) = _
  rw [Bool.and_true]
theorem cnt_len : ∀ (a : List Rw) (many : List Int), (cnt many a).length = many.length
  | [], _ => rfl
  | r :: a, many => by
    show (cnt (bump many r) a).length = _
    rw [cnt_len a, bump_len]
theorem getD_set {α : Type} (O : List α) (d : α) {i j : Nat} {l : α} (hi : i < O.length) : (O.set i l).getD j d = if j = i then l else O.getD j d := by
  simp only [List.getD_eq_getElem?_getD, List.getElem?_set]
  by_cases e : i = j
  · subst e; rw [if_pos rfl, if_pos rfl, if_pos hi]; rfl
  · rw [if_neg e, if_neg (Ne.symm e)]
theorem bump_at {many : List Int} {r : Rw} {n : Nat} (hl : many.length = n) (hr : RwOk n r) (j : Nat) : (bump many r).getD j 0 = if j = r.h.toNat then many.getD r.h.toNat 0 + 1 else many.getD j 0 := by
  unfold bump
  exact getD_set many 0 (by have := hr.1; have := hr.2.1; omega)
end DL
set_option Elab.async false
set_option linter.all false
set_option maxRecDepth 100000
set_option maxHeartbeats 4000000
namespace DL
open PySem PySem.Spec L2
theorem while_go {c : List C → Option Bool} {b : List C → Out} {n : Nat} {e e' : List C} (h1 : c e = some true) (h2 : b e = .nx e') : whileF c b (n + 1) e = whileF c b n e' := by
  conv => lhs; unfold whileF
  rw [h1]; dsimp only; rw [h2]
theorem forF_nx {g : D → List C → Option (List C)} {b : List C → Out} {d : D} {ds : List D} {env e e' : List C} (h1 : g d env = some e) (h2 : b e = .nx e') : forF g b (d :: ds) env = forF g b ds e' := by
  conv => lhs; unfold forF
  rw [h1]; dsimp only; rw [h2]
theorem forF_bk {g : D → List C → Option (List C)} {b : List C → Out} {d : D} {ds : List D} {env e e' : List C} (h1 : g d env = some e) (h2 : b e = .bk e') : forF g b (d :: ds) env = .nx e' := by
  conv => lhs; unfold forF
  rw [h1]; dsimp only; rw [h2]
theorem erase_map {α β : Type} (f : α → β) : ∀ (l : List α) (j : Nat), (l.map f).eraseIdx j = (l.eraseIdx j).map f
  | [], _ => rfl
  | _ :: _, 0 => rfl
  | x :: l, j + 1 => by
    rw [List.map_cons, List.eraseIdx_cons_succ, List.eraseIdx_cons_succ, List.map_cons, erase_map f l j]
def keptT (W : List Rw) : T := .n (.q (W.map kyD)) ((W.map rwD).map T.d)
def LogW (s : St) : T := LogT s.many (s.tk.map rwD) (s.W.map kyD) (s.W.map rwD)
theorem LogW_many {s : St} : oRF (some (LogW s)) "Log" "many" = some (.n .l ((s.many.map PyData.int).map T.d)) := LogT_many
theorem LogW_kept {s : St} : oRF (some (LogW s)) "Log" "kept" = some (keptT s.W) := LogT_kept
theorem rK_at {fk : List C → Option D} {r : List C → Option T} {env : List C} {W : List Rw} {x : Rw} (h1 : r env = some (keptT W)) (h2 : fk env = some (kyD x)) (u : Uq W) (m : x ∈ W) : rK fk r env = some (.d (rwD x)) := by
  obtain ⟨j, k1, k2, k3, k4⟩ := kIx_mem u m
  unfold rK rChild
  rw [h1]
  unfold keptT
  have e : selK fk env (.q (W.map kyD)) ((W.map rwD).map T.d).length = some j := by
    unfold selK
    dsimp only
    rw [h2]; dsimp only; rw [if_pos (okK_ky x)]; exact k1
  dsimp only
  rw [e]
  dsimp only
  rw [List.getElem?_map, List.getElem?_map, k3]; rfl
theorem rSort_at {r : List C → Option T} {env : List C} {W : List Rw} (h1 : r env = some (keptT W)) : rSort r env = some (.list ((srt W).map kyD)) := by
  unfold rSort
  rw [h1]
  exact srt_map W
theorem readyL_ok {n : Nat} {s : St} {r : Rw} (h : StOk n s) (hr : RwOk n r) : f_Log_ready [LogW s, .d (rwD r)] = some (.d (.bool (rdy s.many r))) :=
  ready_ok hr.1 (by rw [h.len]; exact hr.2.1)
theorem ready_m {n : Nat} {s : St} {r : Rw} {rr : List C → Option T} {rs : List C → Option (List T)} {env : List C} (h : StOk n s) (hr : RwOk n r) (e1 : rr env = some (LogW s)) (e2 : rs env = some [.d (rwD r)]) : nMeth "Log" "ready" f_Log_ready rr rs env = some (.d (.bool (rdy s.many r))) :=
  (nMeth_at (fl := LF) e1 fx_ready e2).trans (readyL_ok h hr)
theorem first_loop {n : Nat} {s : St} (h : StOk n s) : ∀ (l : List Rw) (x1 : C), (∀ x ∈ l, x ∈ s.W) → ∃ e, forF (tgN 1) L_Log_first_ready_0 (l.map kyD) [.ro true (LogW s), x1] = match l.find? (rdy s.many) with | none => .nx e | some r => .rx e (.d (kyD r))
  | [], x1, _ => ⟨_, rfl⟩
  | r :: l, x1, hl => by
    have hm := hl r List.mem_cons_self
    have hk : rK (eV 1) (rF "Log" "kept" (rN 0)) [.ro true (LogW s), .val (kyD r)] = some (.d (rwD r)) := rK_at (by simp only [ev_bs, ev_bn, ev_ms, ev_mn, ev_g0, ev_gs, ev_s0, ev_ss, ev_bn1, ev_bn2, ev_seq, ev_seq_nx, ev_seq_rt, ev_seq_bk, ev_seq_ct, ev_nil, ev_brk, ev_cnt, ev_if, ev_if_t, ev_if_f, ev_set, ev_oset, ev_setL, ev_osetL, ev_drop, ev_odrop, ev_ret, ev_oret, ev_retN, ev_retL, ev_oretL, ev_orun, ev_orunN, ev_orunN_nx, ev_fz, ev_fz_l, ev_fz_v, ev_app, ev_app_s, ev_clear, ev_clear_s, ev_oNx, ev_asg, ev_asg_s, ev_par, ev_par_s, ev_aug, ev_aug_s, ev_setIx, ev_setIx_s, ev_augIx, ev_dictN, ev_notInN, ev_oNotInN, ev_putN, ev_oPutN, ev_for, ev_ofor, ev_V, ev_L, ev_B, ev_rdV, ev_rdLv, ev_rdLl, ev_rdBv, ev_rdBb, ev_C, ev_e2, ev_o2, ev_e1, ev_e3, ev_o3, ev_pN, ev_pS, ev_oPS, ev_aNil, ev_aCons, ev_oCons, ev_tup, ev_lst, ev_oLst, ev_scal, ev_scal_i, ev_scal_s, ev_scal_b, ev_neg, ev_oNeg, ev_tB, ev_asB, ev_tNot, ev_tAnd, ev_tOr, ev_oAnd_t, ev_oAnd_f, ev_oOr_t, ev_oOr_f, ev_eAnd, ev_eOr, ev_oAndD_t, ev_oAndD_f, ev_oOrD_t, ev_oOrD_f, ev_eNot, ev_oNot, ev_isi, ev_isi_ii, ev_isi_ib, ev_isi_il, ev_isi_it, ev_isi_is, ev_isi_ll, ev_isi_lt, ev_isi_li, ev_isi_lb, ev_isi_tt, ev_isi_tl, ev_isi_ss, ev_isi_bb, ev_isi_bi, ev_isN, ev_notN, ev_oIsN_n, ev_oIsN_i, ev_oIsN_l, ev_oIsN_t, ev_oNotN_n, ev_oNotN_i, ev_oNotN_l, ev_oNotN_t, ev_rev, ev_gRev, ev_iAny, ev_oAny_l, ev_oAny_t, ev_iSeqB, ev_oSeqB, ev_iEnum, ev_oEnum, ev_iZip, ev_oZip_ll, ev_oZip_tt, ev_oZip_lt, ev_oZip_tl, ev_iRng1, ev_rng1_s, ev_iRng2, ev_rng2_s, ev_tgN, ev_tgNil, ev_tgCons, ev_tgT, ev_wipe_nil, ev_wipe_cons, ev_lc, ev_oLc, ev_add, ev_addIS, ev_add_ll, ev_add_tt, ev_addL, ev_repL, ev_rep, ev_sub, ev_mul, ev_mod, ev_div, ev_modA, ev_divA, ev_pow, ev_lt, ev_le, ev_gt, ev_ge, ev_eq, ev_ne, ev_eqs, ev_nes, ev_eqb, ev_neb, ev_len, ev_lenT, ev_list, ev_listT, ev_tuple, ev_tupleT, ev_int, ev_intb, ev_sum, ev_sum0, ev_max2, ev_min2, ev_sl, ev_slT, ev_slL, ev_slB, ev_divAZ, ev_divZ, ev_onNx, ev_while, ev_eq_li, ev_ne_li, ev_eq_self, ev_ne_self, ev_eq_selfT, ev_ne_selfT, ev_ne_nil, ev_eq_nil, ev_sorted_i, ev_listRg, ev_oListRg, ev_in_ii, ev_thaw, ev_oThaw, ev_flatO, ev_tThaw, ev_otThaw, ev_move, ev_oMove, ev_iEnumG, ev_oEnumG_l, ev_oEnumG_t, ev_gNotB, ev_nD, ev_nL, ev_oNL, ev_xN, ev_nsNil, ev_nsCons, ev_oNs, ev_nDictQ, ev_nDictK, ev_nLst, ev_nTup, ev_toC_d, ev_toC_n, ev_setX, ev_oSetX, ev_setN, ev_oSetN, ev_dropX, ev_oDropX, ev_retX, ev_oRetX, ev_retXN, ev_seq_rx, ev_ifX, ev_oIfX_t, ev_oIfX_f, ev_oTxB, ev_txCmp, ev_oTxC, ev_txP, ev_txNot, ev_oTxN, ev_pNm, ev_nodeAt, ev_oNode, ev_sub0, ev_subS, ev_putAt, ev_oPutA, ev_put0, ev_putS, ev_oTp, ev_rN, ev_cell_own, ev_cell_ro, ev_cell_val, ev_cell_lst, ev_roN, ev_oRo, ev_rF, ev_oRF, ev_rI, ev_oRI, ev_rLeaf, ev_oLeaf, ev_rFlat, ev_rView, ev_flatV1, ev_flatV1d, ev_eOw, ev_oEow, ev_fldP, ev_ixP, ev_nd1, ev_nd2, decide_true, decide_false, List.nil_append, List.cons_append, ev_ix, ev_ixT, ev_ixB, ev_ixBT, LogW_kept]) (by simp only [ev_bs, ev_bn, ev_ms, ev_mn, ev_g0, ev_gs, ev_s0, ev_ss, ev_bn1, ev_bn2, ev_seq, ev_seq_nx, ev_seq_rt, ev_seq_bk, ev_seq_ct, ev_nil, ev_brk, ev_cnt, ev_if, ev_if_t, ev_if_f, ev_set, ev_oset, ev_setL, ev_osetL, ev_drop, ev_odrop, ev_ret, ev_oret, ev_retN, ev_retL, ev_oretL, ev_orun, ev_orunN, ev_orunN_nx, ev_fz, ev_fz_l, ev_fz_v, ev_app, ev_app_s, ev_clear, ev_clear_s, ev_oNx, ev_asg, ev_asg_s, ev_par, ev_par_s, ev_aug, ev_aug_s, ev_setIx, ev_setIx_s, ev_augIx, ev_dictN, ev_notInN, ev_oNotInN, ev_putN, ev_oPutN, ev_for, ev_ofor, ev_V, ev_L, ev_B, ev_rdV, ev_rdLv, ev_rdLl, ev_rdBv, ev_rdBb, ev_C, ev_e2, ev_o2, ev_e1, ev_e3, ev_o3, ev_pN, ev_pS, ev_oPS, ev_aNil, ev_aCons, ev_oCons, ev_tup, ev_lst, ev_oLst, ev_scal, ev_scal_i, ev_scal_s, ev_scal_b, ev_neg, ev_oNeg, ev_tB, ev_asB, ev_tNot, ev_tAnd, ev_tOr, ev_oAnd_t, ev_oAnd_f, ev_oOr_t, ev_oOr_f, ev_eAnd, ev_eOr, ev_oAndD_t, ev_oAndD_f, ev_oOrD_t, ev_oOrD_f, ev_eNot, ev_oNot, ev_isi, ev_isi_ii, ev_isi_ib, ev_isi_il, ev_isi_it, ev_isi_is, ev_isi_ll, ev_isi_lt, ev_isi_li, ev_isi_lb, ev_isi_tt, ev_isi_tl, ev_isi_ss, ev_isi_bb, ev_isi_bi, ev_isN, ev_notN, ev_oIsN_n, ev_oIsN_i, ev_oIsN_l, ev_oIsN_t, ev_oNotN_n, ev_oNotN_i, ev_oNotN_l, ev_oNotN_t, ev_rev, ev_gRev, ev_iAny, ev_oAny_l, ev_oAny_t, ev_iSeqB, ev_oSeqB, ev_iEnum, ev_oEnum, ev_iZip, ev_oZip_ll, ev_oZip_tt, ev_oZip_lt, ev_oZip_tl, ev_iRng1, ev_rng1_s, ev_iRng2, ev_rng2_s, ev_tgN, ev_tgNil, ev_tgCons, ev_tgT, ev_wipe_nil, ev_wipe_cons, ev_lc, ev_oLc, ev_add, ev_addIS, ev_add_ll, ev_add_tt, ev_addL, ev_repL, ev_rep, ev_sub, ev_mul, ev_mod, ev_div, ev_modA, ev_divA, ev_pow, ev_lt, ev_le, ev_gt, ev_ge, ev_eq, ev_ne, ev_eqs, ev_nes, ev_eqb, ev_neb, ev_len, ev_lenT, ev_list, ev_listT, ev_tuple, ev_tupleT, ev_int, ev_intb, ev_sum, ev_sum0, ev_max2, ev_min2, ev_sl, ev_slT, ev_slL, ev_slB, ev_divAZ, ev_divZ, ev_onNx, ev_while, ev_eq_li, ev_ne_li, ev_eq_self, ev_ne_self, ev_eq_selfT, ev_ne_selfT, ev_ne_nil, ev_eq_nil, ev_sorted_i, ev_listRg, ev_oListRg, ev_in_ii, ev_thaw, ev_oThaw, ev_flatO, ev_tThaw, ev_otThaw, ev_move, ev_oMove, ev_iEnumG, ev_oEnumG_l, ev_oEnumG_t, ev_gNotB, ev_nD, ev_nL, ev_oNL, ev_xN, ev_nsNil, ev_nsCons, ev_oNs, ev_nDictQ, ev_nDictK, ev_nLst, ev_nTup, ev_toC_d, ev_toC_n, ev_setX, ev_oSetX, ev_setN, ev_oSetN, ev_dropX, ev_oDropX, ev_retX, ev_oRetX, ev_retXN, ev_seq_rx, ev_ifX, ev_oIfX_t, ev_oIfX_f, ev_oTxB, ev_txCmp, ev_oTxC, ev_txP, ev_txNot, ev_oTxN, ev_pNm, ev_nodeAt, ev_oNode, ev_sub0, ev_subS, ev_putAt, ev_oPutA, ev_put0, ev_putS, ev_oTp, ev_rN, ev_cell_own, ev_cell_ro, ev_cell_val, ev_cell_lst, ev_roN, ev_oRo, ev_rF, ev_oRF, ev_rI, ev_oRI, ev_rLeaf, ev_oLeaf, ev_rFlat, ev_rView, ev_flatV1, ev_flatV1d, ev_eOw, ev_oEow, ev_fldP, ev_ixP, ev_nd1, ev_nd2, decide_true, decide_false, List.nil_append, List.cons_append, ev_ix, ev_ixT, ev_ixB, ev_ixBT]) h.uq hm
    have hrd := ready_m (s := s) (r := r) (rr := rN 0) (rs := nsCons (nD (rLeaf (rK (eV 1) (rF "Log" "kept" (rN 0))))) nsNil) (env := [.ro true (LogW s), .val (kyD r)]) h (h.w r hm) (by simp only [ev_bs, ev_bn, ev_ms, ev_mn, ev_g0, ev_gs, ev_s0, ev_ss, ev_bn1, ev_bn2, ev_seq, ev_seq_nx, ev_seq_rt, ev_seq_bk, ev_seq_ct, ev_nil, ev_brk, ev_cnt, ev_if, ev_if_t, ev_if_f, ev_set, ev_oset, ev_setL, ev_osetL, ev_drop, ev_odrop, ev_ret, ev_oret, ev_retN, ev_retL, ev_oretL, ev_orun, ev_orunN, ev_orunN_nx, ev_fz, ev_fz_l, ev_fz_v, ev_app, ev_app_s, ev_clear, ev_clear_s, ev_oNx, ev_asg, ev_asg_s, ev_par, ev_par_s, ev_aug, ev_aug_s, ev_setIx, ev_setIx_s, ev_augIx, ev_dictN, ev_notInN, ev_oNotInN, ev_putN, ev_oPutN, ev_for, ev_ofor, ev_V, ev_L, ev_B, ev_rdV, ev_rdLv, ev_rdLl, ev_rdBv, ev_rdBb, ev_C, ev_e2, ev_o2, ev_e1, ev_e3, ev_o3, ev_pN, ev_pS, ev_oPS, ev_aNil, ev_aCons, ev_oCons, ev_tup, ev_lst, ev_oLst, ev_scal, ev_scal_i, ev_scal_s, ev_scal_b, ev_neg, ev_oNeg, ev_tB, ev_asB, ev_tNot, ev_tAnd, ev_tOr, ev_oAnd_t, ev_oAnd_f, ev_oOr_t, ev_oOr_f, ev_eAnd, ev_eOr, ev_oAndD_t, ev_oAndD_f, ev_oOrD_t, ev_oOrD_f, ev_eNot, ev_oNot, ev_isi, ev_isi_ii, ev_isi_ib, ev_isi_il, ev_isi_it, ev_isi_is, ev_isi_ll, ev_isi_lt, ev_isi_li, ev_isi_lb, ev_isi_tt, ev_isi_tl, ev_isi_ss, ev_isi_bb, ev_isi_bi, ev_isN, ev_notN, ev_oIsN_n, ev_oIsN_i, ev_oIsN_l, ev_oIsN_t, ev_oNotN_n, ev_oNotN_i, ev_oNotN_l, ev_oNotN_t, ev_rev, ev_gRev, ev_iAny, ev_oAny_l, ev_oAny_t, ev_iSeqB, ev_oSeqB, ev_iEnum, ev_oEnum, ev_iZip, ev_oZip_ll, ev_oZip_tt, ev_oZip_lt, ev_oZip_tl, ev_iRng1, ev_rng1_s, ev_iRng2, ev_rng2_s, ev_tgN, ev_tgNil, ev_tgCons, ev_tgT, ev_wipe_nil, ev_wipe_cons, ev_lc, ev_oLc, ev_add, ev_addIS, ev_add_ll, ev_add_tt, ev_addL, ev_repL, ev_rep, ev_sub, ev_mul, ev_mod, ev_div, ev_modA, ev_divA, ev_pow, ev_lt, ev_le, ev_gt, ev_ge, ev_eq, ev_ne, ev_eqs, ev_nes, ev_eqb, ev_neb, ev_len, ev_lenT, ev_list, ev_listT, ev_tuple, ev_tupleT, ev_int, ev_intb, ev_sum, ev_sum0, ev_max2, ev_min2, ev_sl, ev_slT, ev_slL, ev_slB, ev_divAZ, ev_divZ, ev_onNx, ev_while, ev_eq_li, ev_ne_li, ev_eq_self, ev_ne_self, ev_eq_selfT, ev_ne_selfT, ev_ne_nil, ev_eq_nil, ev_sorted_i, ev_listRg, ev_oListRg, ev_in_ii, ev_thaw, ev_oThaw, ev_flatO, ev_tThaw, ev_otThaw, ev_move, ev_oMove, ev_iEnumG, ev_oEnumG_l, ev_oEnumG_t, ev_gNotB, ev_nD, ev_nL, ev_oNL, ev_xN, ev_nsNil, ev_nsCons, ev_oNs, ev_nDictQ, ev_nDictK, ev_nLst, ev_nTup, ev_toC_d, ev_toC_n, ev_setX, ev_oSetX, ev_setN, ev_oSetN, ev_dropX, ev_oDropX, ev_retX, ev_oRetX, ev_retXN, ev_seq_rx, ev_ifX, ev_oIfX_t, ev_oIfX_f, ev_oTxB, ev_txCmp, ev_oTxC, ev_txP, ev_txNot, ev_oTxN, ev_pNm, ev_nodeAt, ev_oNode, ev_sub0, ev_subS, ev_putAt, ev_oPutA, ev_put0, ev_putS, ev_oTp, ev_rN, ev_cell_own, ev_cell_ro, ev_cell_val, ev_cell_lst, ev_roN, ev_oRo, ev_rF, ev_oRF, ev_rI, ev_oRI, ev_rLeaf, ev_oLeaf, ev_rFlat, ev_rView, ev_flatV1, ev_flatV1d, ev_eOw, ev_oEow, ev_fldP, ev_ixP, ev_nd1, ev_nd2, decide_true, decide_false, List.nil_append, List.cons_append, ev_ix, ev_ixT, ev_ixB, ev_ixBT]) (by simp only [ev_bs, ev_bn, ev_ms, ev_mn, ev_g0, ev_gs, ev_s0, ev_ss, ev_bn1, ev_bn2, ev_seq, ev_seq_nx, ev_seq_rt, ev_seq_bk, ev_seq_ct, ev_nil, ev_brk, ev_cnt, ev_if, ev_if_t, ev_if_f, ev_set, ev_oset, ev_setL, ev_osetL, ev_drop, ev_odrop, ev_ret, ev_oret, ev_retN, ev_retL, ev_oretL, ev_orun, ev_orunN, ev_orunN_nx, ev_fz, ev_fz_l, ev_fz_v, ev_app, ev_app_s, ev_clear, ev_clear_s, ev_oNx, ev_asg, ev_asg_s, ev_par, ev_par_s, ev_aug, ev_aug_s, ev_setIx, ev_setIx_s, ev_augIx, ev_dictN, ev_notInN, ev_oNotInN, ev_putN, ev_oPutN, ev_for, ev_ofor, ev_V, ev_L, ev_B, ev_rdV, ev_rdLv, ev_rdLl, ev_rdBv, ev_rdBb, ev_C, ev_e2, ev_o2, ev_e1, ev_e3, ev_o3, ev_pN, ev_pS, ev_oPS, ev_aNil, ev_aCons, ev_oCons, ev_tup, ev_lst, ev_oLst, ev_scal, ev_scal_i, ev_scal_s, ev_scal_b, ev_neg, ev_oNeg, ev_tB, ev_asB, ev_tNot, ev_tAnd, ev_tOr, ev_oAnd_t, ev_oAnd_f, ev_oOr_t, ev_oOr_f, ev_eAnd, ev_eOr, ev_oAndD_t, ev_oAndD_f, ev_oOrD_t, ev_oOrD_f, ev_eNot, ev_oNot, ev_isi, ev_isi_ii, ev_isi_ib, ev_isi_il, ev_isi_it, ev_isi_is, ev_isi_ll, ev_isi_lt, ev_isi_li, ev_isi_lb, ev_isi_tt, ev_isi_tl, ev_isi_ss, ev_isi_bb, ev_isi_bi, ev_isN, ev_notN, ev_oIsN_n, ev_oIsN_i, ev_oIsN_l, ev_oIsN_t, ev_oNotN_n, ev_oNotN_i, ev_oNotN_l, ev_oNotN_t, ev_rev, ev_gRev, ev_iAny, ev_oAny_l, ev_oAny_t, ev_iSeqB, ev_oSeqB, ev_iEnum, ev_oEnum, ev_iZip, ev_oZip_ll, ev_oZip_tt, ev_oZip_lt, ev_oZip_tl, ev_iRng1, ev_rng1_s, ev_iRng2, ev_rng2_s, ev_tgN, ev_tgNil, ev_tgCons, ev_tgT, ev_wipe_nil, ev_wipe_cons, ev_lc, ev_oLc, ev_add, ev_addIS, ev_add_ll, ev_add_tt, ev_addL, ev_repL, ev_rep, ev_sub, ev_mul, ev_mod, ev_div, ev_modA, ev_divA, ev_pow, ev_lt, ev_le, ev_gt, ev_ge, ev_eq, ev_ne, ev_eqs, ev_nes, ev_eqb, ev_neb, ev_len, ev_lenT, ev_list, ev_listT, ev_tuple, ev_tupleT, ev_int, ev_intb, ev_sum, ev_sum0, ev_max2, ev_min2, ev_sl, ev_slT, ev_slL, ev_slB, ev_divAZ, ev_divZ, ev_onNx, ev_while, ev_eq_li, ev_ne_li, ev_eq_self, ev_ne_self, ev_eq_selfT, ev_ne_selfT, ev_ne_nil, ev_eq_nil, ev_sorted_i, ev_listRg, ev_oListRg, ev_in_ii, ev_thaw, ev_oThaw, ev_flatO, ev_tThaw, ev_otThaw, ev_move, ev_oMove, ev_iEnumG, ev_oEnumG_l, ev_oEnumG_t, ev_gNotB, ev_nD, ev_nL, ev_oNL, ev_xN, ev_nsNil, ev_nsCons, ev_oNs, ev_nDictQ, ev_nDictK, ev_nLst, ev_nTup, ev_toC_d, ev_toC_n, ev_setX, ev_oSetX, ev_setN, ev_oSetN, ev_dropX, ev_oDropX, ev_retX, ev_oRetX, ev_retXN, ev_seq_rx, ev_ifX, ev_oIfX_t, ev_oIfX_f, ev_oTxB, ev_txCmp, ev_oTxC, ev_txP, ev_txNot, ev_oTxN, ev_pNm, ev_nodeAt, ev_oNode, ev_sub0, ev_subS, ev_putAt, ev_oPutA, ev_put0, ev_putS, ev_oTp, ev_rN, ev_cell_own, ev_cell_ro, ev_cell_val, ev_cell_lst, ev_roN, ev_oRo, ev_rF, ev_oRF, ev_rI, ev_oRI, ev_rLeaf, ev_oLeaf, ev_rFlat, ev_rView, ev_flatV1, ev_flatV1d, ev_eOw, ev_oEow, ev_fldP, ev_ixP, ev_nd1, ev_nd2, decide_true, decide_false, List.nil_append, List.cons_append, ev_ix, ev_ixT, ev_ixB, ev_ixBT, hk])
    cases z : rdy s.many r with
    | true =>
      refine ⟨[.ro true (LogW s), .val (kyD r)], ?_⟩
      rw [List.find?_cons, z, List.map_cons]
      conv => lhs; unfold forF
      simp only [ev_bs, ev_bn, ev_ms, ev_mn, ev_g0, ev_gs, ev_s0, ev_ss, ev_bn1, ev_bn2, ev_seq, ev_seq_nx, ev_seq_rt, ev_seq_bk, ev_seq_ct, ev_nil, ev_brk, ev_cnt, ev_if, ev_if_t, ev_if_f, ev_set, ev_oset, ev_setL, ev_osetL, ev_drop, ev_odrop, ev_ret, ev_oret, ev_retN, ev_retL, ev_oretL, ev_orun, ev_orunN, ev_orunN_nx, ev_fz, ev_fz_l, ev_fz_v, ev_app, ev_app_s, ev_clear, ev_clear_s, ev_oNx, ev_asg, ev_asg_s, ev_par, ev_par_s, ev_aug, ev_aug_s, ev_setIx, ev_setIx_s, ev_augIx, ev_dictN, ev_notInN, ev_oNotInN, ev_putN, ev_oPutN, ev_for, ev_ofor, ev_V, ev_L, ev_B, ev_rdV, ev_rdLv, ev_rdLl, ev_rdBv, ev_rdBb, ev_C, ev_e2, ev_o2, ev_e1, ev_e3, ev_o3, ev_pN, ev_pS, ev_oPS, ev_aNil, ev_aCons, ev_oCons, ev_tup, ev_lst, ev_oLst, ev_scal, ev_scal_i, ev_scal_s, ev_scal_b, ev_neg, ev_oNeg, ev_tB, ev_asB, ev_tNot, ev_tAnd, ev_tOr, ev_oAnd_t, ev_oAnd_f, ev_oOr_t, ev_oOr_f, ev_eAnd, ev_eOr, ev_oAndD_t, ev_oAndD_f, ev_oOrD_t, ev_oOrD_f, ev_eNot, ev_oNot, ev_isi, ev_isi_ii, ev_isi_ib, ev_isi_il, ev_isi_it, ev_isi_is, ev_isi_ll, ev_isi_lt, ev_isi_li, ev_isi_lb, ev_isi_tt, ev_isi_tl, ev_isi_ss, ev_isi_bb, ev_isi_bi, ev_isN, ev_notN, ev_oIsN_n, ev_oIsN_i, ev_oIsN_l, ev_oIsN_t, ev_oNotN_n, ev_oNotN_i, ev_oNotN_l, ev_oNotN_t, ev_rev, ev_gRev, ev_iAny, ev_oAny_l, ev_oAny_t, ev_iSeqB, ev_oSeqB, ev_iEnum, ev_oEnum, ev_iZip, ev_oZip_ll, ev_oZip_tt, ev_oZip_lt, ev_oZip_tl, ev_iRng1, ev_rng1_s, ev_iRng2, ev_rng2_s, ev_tgN, ev_tgNil, ev_tgCons, ev_tgT, ev_wipe_nil, ev_wipe_cons, ev_lc, ev_oLc, ev_add, ev_addIS, ev_add_ll, ev_add_tt, ev_addL, ev_repL, ev_rep, ev_sub, ev_mul, ev_mod, ev_div, ev_modA, ev_divA, ev_pow, ev_lt, ev_le, ev_gt, ev_ge, ev_eq, ev_ne, ev_eqs, ev_nes, ev_eqb, ev_neb, ev_len, ev_lenT, ev_list, ev_listT, ev_tuple, ev_tupleT, ev_int, ev_intb, ev_sum, ev_sum0, ev_max2, ev_min2, ev_sl, ev_slT, ev_slL, ev_slB, ev_divAZ, ev_divZ, ev_onNx, ev_while, ev_eq_li, ev_ne_li, ev_eq_self, ev_ne_self, ev_eq_selfT, ev_ne_selfT, ev_ne_nil, ev_eq_nil, ev_sorted_i, ev_listRg, ev_oListRg, ev_in_ii, ev_thaw, ev_oThaw, ev_flatO, ev_tThaw, ev_otThaw, ev_move, ev_oMove, ev_iEnumG, ev_oEnumG_l, ev_oEnumG_t, ev_gNotB, ev_nD, ev_nL, ev_oNL, ev_xN, ev_nsNil, ev_nsCons, ev_oNs, ev_nDictQ, ev_nDictK, ev_nLst, ev_nTup, ev_toC_d, ev_toC_n, ev_setX, ev_oSetX, ev_setN, ev_oSetN, ev_dropX, ev_oDropX, ev_retX, ev_oRetX, ev_retXN, ev_seq_rx, ev_ifX, ev_oIfX_t, ev_oIfX_f, ev_oTxB, ev_txCmp, ev_oTxC, ev_txP, ev_txNot, ev_oTxN, ev_pNm, ev_nodeAt, ev_oNode, ev_sub0, ev_subS, ev_putAt, ev_oPutA, ev_put0, ev_putS, ev_oTp, ev_rN, ev_cell_own, ev_cell_ro, ev_cell_val, ev_cell_lst, ev_roN, ev_oRo, ev_rF, ev_oRF, ev_rI, ev_oRI, ev_rLeaf, ev_oLeaf, ev_rFlat, ev_rView, ev_flatV1, ev_flatV1d, ev_eOw, ev_oEow, ev_fldP, ev_ixP, ev_nd1, ev_nd2, decide_true, decide_false, List.nil_append, List.cons_append, ev_ix, ev_ixT, ev_ixB, ev_ixBT, L_Log_first_ready_0, hrd, z]
    | false =>
      obtain ⟨e, ih⟩ := first_loop h l (.val (kyD r)) fun x hx => hl x (List.mem_cons_of_mem _ hx)
      refine ⟨e, ?_⟩
      rw [List.find?_cons, z, List.map_cons]
      dsimp only
      rw [← ih]
      conv => lhs; unfold forF
      simp only [ev_bs, ev_bn, ev_ms, ev_mn, ev_g0, ev_gs, ev_s0, ev_ss, ev_bn1, ev_bn2, ev_seq, ev_seq_nx, ev_seq_rt, ev_seq_bk, ev_seq_ct, ev_nil, ev_brk, ev_cnt, ev_if, ev_if_t, ev_if_f, ev_set, ev_oset, ev_setL, ev_osetL, ev_drop, ev_odrop, ev_ret, ev_oret, ev_retN, ev_retL, ev_oretL, ev_orun, ev_orunN, ev_orunN_nx, ev_fz, ev_fz_l, ev_fz_v, ev_app, ev_app_s, ev_clear, ev_clear_s, ev_oNx, ev_asg, ev_asg_s, ev_par, ev_par_s, ev_aug, ev_aug_s, ev_setIx, ev_setIx_s, ev_augIx, ev_dictN, ev_notInN, ev_oNotInN, ev_putN, ev_oPutN, ev_for, ev_ofor, ev_V, ev_L, ev_B, ev_rdV, ev_rdLv, ev_rdLl, ev_rdBv, ev_rdBb, ev_C, ev_e2, ev_o2, ev_e1, ev_e3, ev_o3, ev_pN, ev_pS, ev_oPS, ev_aNil, ev_aCons, ev_oCons, ev_tup, ev_lst, ev_oLst, ev_scal, ev_scal_i, ev_scal_s, ev_scal_b, ev_neg, ev_oNeg, ev_tB, ev_asB, ev_tNot, ev_tAnd, ev_tOr, ev_oAnd_t, ev_oAnd_f, ev_oOr_t, ev_oOr_f, ev_eAnd, ev_eOr, ev_oAndD_t, ev_oAndD_f, ev_oOrD_t, ev_oOrD_f, ev_eNot, ev_oNot, ev_isi, ev_isi_ii, ev_isi_ib, ev_isi_il, ev_isi_it, ev_isi_is, ev_isi_ll, ev_isi_lt, ev_isi_li, ev_isi_lb, ev_isi_tt, ev_isi_tl, ev_isi_ss, ev_isi_bb, ev_isi_bi, ev_isN, ev_notN, ev_oIsN_n, ev_oIsN_i, ev_oIsN_l, ev_oIsN_t, ev_oNotN_n, ev_oNotN_i, ev_oNotN_l, ev_oNotN_t, ev_rev, ev_gRev, ev_iAny, ev_oAny_l, ev_oAny_t, ev_iSeqB, ev_oSeqB, ev_iEnum, ev_oEnum, ev_iZip, ev_oZip_ll, ev_oZip_tt, ev_oZip_lt, ev_oZip_tl, ev_iRng1, ev_rng1_s, ev_iRng2, ev_rng2_s, ev_tgN, ev_tgNil, ev_tgCons, ev_tgT, ev_wipe_nil, ev_wipe_cons, ev_lc, ev_oLc, ev_add, ev_addIS, ev_add_ll, ev_add_tt, ev_addL, ev_repL, ev_rep, ev_sub, ev_mul, ev_mod, ev_div, ev_modA, ev_divA, ev_pow, ev_lt, ev_le, ev_gt, ev_ge, ev_eq, ev_ne, ev_eqs, ev_nes, ev_eqb, ev_neb, ev_len, ev_lenT, ev_list, ev_listT, ev_tuple, ev_tupleT, ev_int, ev_intb, ev_sum, ev_sum0, ev_max2, ev_min2, ev_sl, ev_slT, ev_slL, ev_slB, ev_divAZ, ev_divZ, ev_onNx, ev_while, ev_eq_li, ev_ne_li, ev_eq_self, ev_ne_self, ev_eq_selfT, ev_ne_selfT, ev_ne_nil, ev_eq_nil, ev_sorted_i, ev_listRg, ev_oListRg, ev_in_ii, ev_thaw, ev_oThaw, ev_flatO, ev_tThaw, ev_otThaw, ev_move, ev_oMove, ev_iEnumG, ev_oEnumG_l, ev_oEnumG_t, ev_gNotB, ev_nD, ev_nL, ev_oNL, ev_xN, ev_nsNil, ev_nsCons, ev_oNs, ev_nDictQ, ev_nDictK, ev_nLst, ev_nTup, ev_toC_d, ev_toC_n, ev_setX, ev_oSetX, ev_setN, ev_oSetN, ev_dropX, ev_oDropX, ev_retX, ev_oRetX, ev_retXN, ev_seq_rx, ev_ifX, ev_oIfX_t, ev_oIfX_f, ev_oTxB, ev_txCmp, ev_oTxC, ev_txP, ev_txNot, ev_oTxN, ev_pNm, ev_nodeAt, ev_oNode, ev_sub0, ev_subS, ev_putAt, ev_oPutA, ev_put0, ev_putS, ev_oTp, ev_rN, ev_cell_own, ev_cell_ro, ev_cell_val, ev_cell_lst, ev_roN, ev_oRo, ev_rF, ev_oRF, ev_rI, ev_oRI, ev_rLeaf, ev_oLeaf, ev_rFlat, ev_rView, ev_flatV1, ev_flatV1d, ev_eOw, ev_oEow, ev_fldP, ev_ixP, ev_nd1, ev_nd2, decide_true, decide_false, List.nil_append, List.cons_append, ev_ix, ev_ixT, ev_ixB, ev_ixBT, L_Log_first_ready_0, hrd, z]
def keyO : Option Rw → D
  | none => .none
  | some r => kyD r
theorem noL_ky (r : Rw) : noL (kyD r) = true := rfl
theorem first_ok {n : Nat} {s : St} (h : StOk n s) : f_Log_first_ready [LogW s] = some (.d (keyO (fst s.many s.W))) := by
  refine (fe_Log_first_ready _ _).trans ?_
  show outT (b_Log_first_ready [.ro true (LogW s), .und]) = _
  unfold b_Log_first_ready
  obtain ⟨e, el⟩ := first_loop h (srt s.W) .und fun x hx => mem_srt.mp hx
  have es : rSort (rF "Log" "kept" (rN 0)) [.ro true (LogW s), .und] = some (.list ((srt s.W).map kyD)) := rSort_at (by simp only [ev_bs, ev_bn, ev_ms, ev_mn, ev_g0, ev_gs, ev_s0, ev_ss, ev_bn1, ev_bn2, ev_seq, ev_seq_nx, ev_seq_rt, ev_seq_bk, ev_seq_ct, ev_nil, ev_brk, ev_cnt, ev_if, ev_if_t, ev_if_f, ev_set, ev_oset, ev_setL, ev_osetL, ev_drop, ev_odrop, ev_ret, ev_oret, ev_retN, ev_retL, ev_oretL, ev_orun, ev_orunN, ev_orunN_nx, ev_fz, ev_fz_l, ev_fz_v, ev_app, ev_app_s, ev_clear, ev_clear_s, ev_oNx, ev_asg, ev_asg_s, ev_par, ev_par_s, ev_aug, ev_aug_s, ev_setIx, ev_setIx_s, ev_augIx, ev_dictN, ev_notInN, ev_oNotInN, ev_putN, ev_oPutN, ev_for, ev_ofor, ev_V, ev_L, ev_B, ev_rdV, ev_rdLv, ev_rdLl, ev_rdBv, ev_rdBb, ev_C, ev_e2, ev_o2, ev_e1, ev_e3, ev_o3, ev_pN, ev_pS, ev_oPS, ev_aNil, ev_aCons, ev_oCons, ev_tup, ev_lst, ev_oLst, ev_scal, ev_scal_i, ev_scal_s, ev_scal_b, ev_neg, ev_oNeg, ev_tB, ev_asB, ev_tNot, ev_tAnd, ev_tOr, ev_oAnd_t, ev_oAnd_f, ev_oOr_t, ev_oOr_f, ev_eAnd, ev_eOr, ev_oAndD_t, ev_oAndD_f, ev_oOrD_t, ev_oOrD_f, ev_eNot, ev_oNot, ev_isi, ev_isi_ii, ev_isi_ib, ev_isi_il, ev_isi_it, ev_isi_is, ev_isi_ll, ev_isi_lt, ev_isi_li, ev_isi_lb, ev_isi_tt, ev_isi_tl, ev_isi_ss, ev_isi_bb, ev_isi_bi, ev_isN, ev_notN, ev_oIsN_n, ev_oIsN_i, ev_oIsN_l, ev_oIsN_t, ev_oNotN_n, ev_oNotN_i, ev_oNotN_l, ev_oNotN_t, ev_rev, ev_gRev, ev_iAny, ev_oAny_l, ev_oAny_t, ev_iSeqB, ev_oSeqB, ev_iEnum, ev_oEnum, ev_iZip, ev_oZip_ll, ev_oZip_tt, ev_oZip_lt, ev_oZip_tl, ev_iRng1, ev_rng1_s, ev_iRng2, ev_rng2_s, ev_tgN, ev_tgNil, ev_tgCons, ev_tgT, ev_wipe_nil, ev_wipe_cons, ev_lc, ev_oLc, ev_add, ev_addIS, ev_add_ll, ev_add_tt, ev_addL, ev_repL, ev_rep, ev_sub, ev_mul, ev_mod, ev_div, ev_modA, ev_divA, ev_pow, ev_lt, ev_le, ev_gt, ev_ge, ev_eq, ev_ne, ev_eqs, ev_nes, ev_eqb, ev_neb, ev_len, ev_lenT, ev_list, ev_listT, ev_tuple, ev_tupleT, ev_int, ev_intb, ev_sum, ev_sum0, ev_max2, ev_min2, ev_sl, ev_slT, ev_slL, ev_slB, ev_divAZ, ev_divZ, ev_onNx, ev_while, ev_eq_li, ev_ne_li, ev_eq_self, ev_ne_self, ev_eq_selfT, ev_ne_selfT, ev_ne_nil, ev_eq_nil, ev_sorted_i, ev_listRg, ev_oListRg, ev_in_ii, ev_thaw, ev_oThaw, ev_flatO, ev_tThaw, ev_otThaw, ev_move, ev_oMove, ev_iEnumG, ev_oEnumG_l, ev_oEnumG_t, ev_gNotB, ev_nD, ev_nL, ev_oNL, ev_xN, ev_nsNil, ev_nsCons, ev_oNs, ev_nDictQ, ev_nDictK, ev_nLst, ev_nTup, ev_toC_d, ev_toC_n, ev_setX, ev_oSetX, ev_setN, ev_oSetN, ev_dropX, ev_oDropX, ev_retX, ev_oRetX, ev_retXN, ev_seq_rx, ev_ifX, ev_oIfX_t, ev_oIfX_f, ev_oTxB, ev_txCmp, ev_oTxC, ev_txP, ev_txNot, ev_oTxN, ev_pNm, ev_nodeAt, ev_oNode, ev_sub0, ev_subS, ev_putAt, ev_oPutA, ev_put0, ev_putS, ev_oTp, ev_rN, ev_cell_own, ev_cell_ro, ev_cell_val, ev_cell_lst, ev_roN, ev_oRo, ev_rF, ev_oRF, ev_rI, ev_oRI, ev_rLeaf, ev_oLeaf, ev_rFlat, ev_rView, ev_flatV1, ev_flatV1d, ev_eOw, ev_oEow, ev_fldP, ev_ixP, ev_nd1, ev_nd2, decide_true, decide_false, List.nil_append, List.cons_append, ev_ix, ev_ixT, ev_ixB, ev_ixBT, LogW_kept])
  simp only [ev_bs, ev_bn, ev_ms, ev_mn, ev_g0, ev_gs, ev_s0, ev_ss, ev_bn1, ev_bn2, ev_seq, ev_seq_nx, ev_seq_rt, ev_seq_bk, ev_seq_ct, ev_nil, ev_brk, ev_cnt, ev_if, ev_if_t, ev_if_f, ev_set, ev_oset, ev_setL, ev_osetL, ev_drop, ev_odrop, ev_ret, ev_oret, ev_retN, ev_retL, ev_oretL, ev_orun, ev_orunN, ev_orunN_nx, ev_fz, ev_fz_l, ev_fz_v, ev_app, ev_app_s, ev_clear, ev_clear_s, ev_oNx, ev_asg, ev_asg_s, ev_par, ev_par_s, ev_aug, ev_aug_s, ev_setIx, ev_setIx_s, ev_augIx, ev_dictN, ev_notInN, ev_oNotInN, ev_putN, ev_oPutN, ev_for, ev_ofor, ev_V, ev_L, ev_B, ev_rdV, ev_rdLv, ev_rdLl, ev_rdBv, ev_rdBb, ev_C, ev_e2, ev_o2, ev_e1, ev_e3, ev_o3, ev_pN, ev_pS, ev_oPS, ev_aNil, ev_aCons, ev_oCons, ev_tup, ev_lst, ev_oLst, ev_scal, ev_scal_i, ev_scal_s, ev_scal_b, ev_neg, ev_oNeg, ev_tB, ev_asB, ev_tNot, ev_tAnd, ev_tOr, ev_oAnd_t, ev_oAnd_f, ev_oOr_t, ev_oOr_f, ev_eAnd, ev_eOr, ev_oAndD_t, ev_oAndD_f, ev_oOrD_t, ev_oOrD_f, ev_eNot, ev_oNot, ev_isi, ev_isi_ii, ev_isi_ib, ev_isi_il, ev_isi_it, ev_isi_is, ev_isi_ll, ev_isi_lt, ev_isi_li, ev_isi_lb, ev_isi_tt, ev_isi_tl, ev_isi_ss, ev_isi_bb, ev_isi_bi, ev_isN, ev_notN, ev_oIsN_n, ev_oIsN_i, ev_oIsN_l, ev_oIsN_t, ev_oNotN_n, ev_oNotN_i, ev_oNotN_l, ev_oNotN_t, ev_rev, ev_gRev, ev_iAny, ev_oAny_l, ev_oAny_t, ev_iSeqB, ev_oSeqB, ev_iEnum, ev_oEnum, ev_iZip, ev_oZip_ll, ev_oZip_tt, ev_oZip_lt, ev_oZip_tl, ev_iRng1, ev_rng1_s, ev_iRng2, ev_rng2_s, ev_tgN, ev_tgNil, ev_tgCons, ev_tgT, ev_wipe_nil, ev_wipe_cons, ev_lc, ev_oLc, ev_add, ev_addIS, ev_add_ll, ev_add_tt, ev_addL, ev_repL, ev_rep, ev_sub, ev_mul, ev_mod, ev_div, ev_modA, ev_divA, ev_pow, ev_lt, ev_le, ev_gt, ev_ge, ev_eq, ev_ne, ev_eqs, ev_nes, ev_eqb, ev_neb, ev_len, ev_lenT, ev_list, ev_listT, ev_tuple, ev_tupleT, ev_int, ev_intb, ev_sum, ev_sum0, ev_max2, ev_min2, ev_sl, ev_slT, ev_slL, ev_slB, ev_divAZ, ev_divZ, ev_onNx, ev_while, ev_eq_li, ev_ne_li, ev_eq_self, ev_ne_self, ev_eq_selfT, ev_ne_selfT, ev_ne_nil, ev_eq_nil, ev_sorted_i, ev_listRg, ev_oListRg, ev_in_ii, ev_thaw, ev_oThaw, ev_flatO, ev_tThaw, ev_otThaw, ev_move, ev_oMove, ev_iEnumG, ev_oEnumG_l, ev_oEnumG_t, ev_gNotB, ev_nD, ev_nL, ev_oNL, ev_xN, ev_nsNil, ev_nsCons, ev_oNs, ev_nDictQ, ev_nDictK, ev_nLst, ev_nTup, ev_toC_d, ev_toC_n, ev_setX, ev_oSetX, ev_setN, ev_oSetN, ev_dropX, ev_oDropX, ev_retX, ev_oRetX, ev_retXN, ev_seq_rx, ev_ifX, ev_oIfX_t, ev_oIfX_f, ev_oTxB, ev_txCmp, ev_oTxC, ev_txP, ev_txNot, ev_oTxN, ev_pNm, ev_nodeAt, ev_oNode, ev_sub0, ev_subS, ev_putAt, ev_oPutA, ev_put0, ev_putS, ev_oTp, ev_rN, ev_cell_own, ev_cell_ro, ev_cell_val, ev_cell_lst, ev_roN, ev_oRo, ev_rF, ev_oRF, ev_rI, ev_oRI, ev_rLeaf, ev_oLeaf, ev_rFlat, ev_rView, ev_flatV1, ev_flatV1d, ev_eOw, ev_oEow, ev_fldP, ev_ixP, ev_nd1, ev_nd2, decide_true, decide_false, List.nil_append, List.cons_append, ev_ix, ev_ixT, ev_ixB, ev_ixBT, es, el]
  unfold fst
  cases (srt s.W).find? (rdy s.many) with
  | none => simp only [ev_bs, ev_bn, ev_ms, ev_mn, ev_g0, ev_gs, ev_s0, ev_ss, ev_bn1, ev_bn2, ev_seq, ev_seq_nx, ev_seq_rt, ev_seq_bk, ev_seq_ct, ev_nil, ev_brk, ev_cnt, ev_if, ev_if_t, ev_if_f, ev_set, ev_oset, ev_setL, ev_osetL, ev_drop, ev_odrop, ev_ret, ev_oret, ev_retN, ev_retL, ev_oretL, ev_orun, ev_orunN, ev_orunN_nx, ev_fz, ev_fz_l, ev_fz_v, ev_app, ev_app_s, ev_clear, ev_clear_s, ev_oNx, ev_asg, ev_asg_s, ev_par, ev_par_s, ev_aug, ev_aug_s, ev_setIx, ev_setIx_s, ev_augIx, ev_dictN, ev_notInN, ev_oNotInN, ev_putN, ev_oPutN, ev_for, ev_ofor, ev_V, ev_L, ev_B, ev_rdV, ev_rdLv, ev_rdLl, ev_rdBv, ev_rdBb, ev_C, ev_e2, ev_o2, ev_e1, ev_e3, ev_o3, ev_pN, ev_pS, ev_oPS, ev_aNil, ev_aCons, ev_oCons, ev_tup, ev_lst, ev_oLst, ev_scal, ev_scal_i, ev_scal_s, ev_scal_b, ev_neg, ev_oNeg, ev_tB, ev_asB, ev_tNot, ev_tAnd, ev_tOr, ev_oAnd_t, ev_oAnd_f, ev_oOr_t, ev_oOr_f, ev_eAnd, ev_eOr, ev_oAndD_t, ev_oAndD_f, ev_oOrD_t, ev_oOrD_f, ev_eNot, ev_oNot, ev_isi, ev_isi_ii, ev_isi_ib, ev_isi_il, ev_isi_it, ev_isi_is, ev_isi_ll, ev_isi_lt, ev_isi_li, ev_isi_lb, ev_isi_tt, ev_isi_tl, ev_isi_ss, ev_isi_bb, ev_isi_bi, ev_isN, ev_notN, ev_oIsN_n, ev_oIsN_i, ev_oIsN_l, ev_oIsN_t, ev_oNotN_n, ev_oNotN_i, ev_oNotN_l, ev_oNotN_t, ev_rev, ev_gRev, ev_iAny, ev_oAny_l, ev_oAny_t, ev_iSeqB, ev_oSeqB, ev_iEnum, ev_oEnum, ev_iZip, ev_oZip_ll, ev_oZip_tt, ev_oZip_lt, ev_oZip_tl, ev_iRng1, ev_rng1_s, ev_iRng2, ev_rng2_s, ev_tgN, ev_tgNil, ev_tgCons, ev_tgT, ev_wipe_nil, ev_wipe_cons, ev_lc, ev_oLc, ev_add, ev_addIS, ev_add_ll, ev_add_tt, ev_addL, ev_repL, ev_rep, ev_sub, ev_mul, ev_mod, ev_div, ev_modA, ev_divA, ev_pow, ev_lt, ev_le, ev_gt, ev_ge, ev_eq, ev_ne, ev_eqs, ev_nes, ev_eqb, ev_neb, ev_len, ev_lenT, ev_list, ev_listT, ev_tuple, ev_tupleT, ev_int, ev_intb, ev_sum, ev_sum0, ev_max2, ev_min2, ev_sl, ev_slT, ev_slL, ev_slB, ev_divAZ, ev_divZ, ev_onNx, ev_while, ev_eq_li, ev_ne_li, ev_eq_self, ev_ne_self, ev_eq_selfT, ev_ne_selfT, ev_ne_nil, ev_eq_nil, ev_sorted_i, ev_listRg, ev_oListRg, ev_in_ii, ev_thaw, ev_oThaw, ev_flatO, ev_tThaw, ev_otThaw, ev_move, ev_oMove, ev_iEnumG, ev_oEnumG_l, ev_oEnumG_t, ev_gNotB, ev_nD, ev_nL, ev_oNL, ev_xN, ev_nsNil, ev_nsCons, ev_oNs, ev_nDictQ, ev_nDictK, ev_nLst, ev_nTup, ev_toC_d, ev_toC_n, ev_setX, ev_oSetX, ev_setN, ev_oSetN, ev_dropX, ev_oDropX, ev_retX, ev_oRetX, ev_retXN, ev_seq_rx, ev_ifX, ev_oIfX_t, ev_oIfX_f, ev_oTxB, ev_txCmp, ev_oTxC, ev_txP, ev_txNot, ev_oTxN, ev_pNm, ev_nodeAt, ev_oNode, ev_sub0, ev_subS, ev_putAt, ev_oPutA, ev_put0, ev_putS, ev_oTp, ev_rN, ev_cell_own, ev_cell_ro, ev_cell_val, ev_cell_lst, ev_roN, ev_oRo, ev_rF, ev_oRF, ev_rI, ev_oRI, ev_rLeaf, ev_oLeaf, ev_rFlat, ev_rView, ev_flatV1, ev_flatV1d, ev_eOw, ev_oEow, ev_fldP, ev_ixP, ev_nd1, ev_nd2, decide_true, decide_false, List.nil_append, List.cons_append, ev_ix, ev_ixT, ev_ixB, ev_ixBT]; rfl
  | some r => simp only [ev_bs, ev_bn, ev_ms, ev_mn, ev_g0, ev_gs, ev_s0, ev_ss, ev_bn1, ev_bn2, ev_seq, ev_seq_nx, ev_seq_rt, ev_seq_bk, ev_seq_ct, ev_nil, ev_brk, ev_cnt, ev_if, ev_if_t, ev_if_f, ev_set, ev_oset, ev_setL, ev_osetL, ev_drop, ev_odrop, ev_ret, ev_oret, ev_retN, ev_retL, ev_oretL, ev_orun, ev_orunN, ev_orunN_nx, ev_fz, ev_fz_l, ev_fz_v, ev_app, ev_app_s, ev_clear, ev_clear_s, ev_oNx, ev_asg, ev_asg_s, ev_par, ev_par_s, ev_aug, ev_aug_s, ev_setIx, ev_setIx_s, ev_augIx, ev_dictN, ev_notInN, ev_oNotInN, ev_putN, ev_oPutN, ev_for, ev_ofor, ev_V, ev_L, ev_B, ev_rdV, ev_rdLv, ev_rdLl, ev_rdBv, ev_rdBb, ev_C, ev_e2, ev_o2, ev_e1, ev_e3, ev_o3, ev_pN, ev_pS, ev_oPS, ev_aNil, ev_aCons, ev_oCons, ev_tup, ev_lst, ev_oLst, ev_scal, ev_scal_i, ev_scal_s, ev_scal_b, ev_neg, ev_oNeg, ev_tB, ev_asB, ev_tNot, ev_tAnd, ev_tOr, ev_oAnd_t, ev_oAnd_f, ev_oOr_t, ev_oOr_f, ev_eAnd, ev_eOr, ev_oAndD_t, ev_oAndD_f, ev_oOrD_t, ev_oOrD_f, ev_eNot, ev_oNot, ev_isi, ev_isi_ii, ev_isi_ib, ev_isi_il, ev_isi_it, ev_isi_is, ev_isi_ll, ev_isi_lt, ev_isi_li, ev_isi_lb, ev_isi_tt, ev_isi_tl, ev_isi_ss, ev_isi_bb, ev_isi_bi, ev_isN, ev_notN, ev_oIsN_n, ev_oIsN_i, ev_oIsN_l, ev_oIsN_t, ev_oNotN_n, ev_oNotN_i, ev_oNotN_l, ev_oNotN_t, ev_rev, ev_gRev, ev_iAny, ev_oAny_l, ev_oAny_t, ev_iSeqB, ev_oSeqB, ev_iEnum, ev_oEnum, ev_iZip, ev_oZip_ll, ev_oZip_tt, ev_oZip_lt, ev_oZip_tl, ev_iRng1, ev_rng1_s, ev_iRng2, ev_rng2_s, ev_tgN, ev_tgNil, ev_tgCons, ev_tgT, ev_wipe_nil, ev_wipe_cons, ev_lc, ev_oLc, ev_add, ev_addIS, ev_add_ll, ev_add_tt, ev_addL, ev_repL, ev_rep, ev_sub, ev_mul, ev_mod, ev_div, ev_modA, ev_divA, ev_pow, ev_lt, ev_le, ev_gt, ev_ge, ev_eq, ev_ne, ev_eqs, ev_nes, ev_eqb, ev_neb, ev_len, ev_lenT, ev_list, ev_listT, ev_tuple, ev_tupleT, ev_int, ev_intb, ev_sum, ev_sum0, ev_max2, ev_min2, ev_sl, ev_slT, ev_slL, ev_slB, ev_divAZ, ev_divZ, ev_onNx, ev_while, ev_eq_li, ev_ne_li, ev_eq_self, ev_ne_self, ev_eq_selfT, ev_ne_selfT, ev_ne_nil, ev_eq_nil, ev_sorted_i, ev_listRg, ev_oListRg, ev_in_ii, ev_thaw, ev_oThaw, ev_flatO, ev_tThaw, ev_otThaw, ev_move, ev_oMove, ev_iEnumG, ev_oEnumG_l, ev_oEnumG_t, ev_gNotB, ev_nD, ev_nL, ev_oNL, ev_xN, ev_nsNil, ev_nsCons, ev_oNs, ev_nDictQ, ev_nDictK, ev_nLst, ev_nTup, ev_toC_d, ev_toC_n, ev_setX, ev_oSetX, ev_setN, ev_oSetN, ev_dropX, ev_oDropX, ev_retX, ev_oRetX, ev_retXN, ev_seq_rx, ev_ifX, ev_oIfX_t, ev_oIfX_f, ev_oTxB, ev_txCmp, ev_oTxC, ev_txP, ev_txNot, ev_oTxN, ev_pNm, ev_nodeAt, ev_oNode, ev_sub0, ev_subS, ev_putAt, ev_oPutA, ev_put0, ev_putS, ev_oTp, ev_rN, ev_cell_own, ev_cell_ro, ev_cell_val, ev_cell_lst, ev_roN, ev_oRo, ev_rF, ev_oRF, ev_rI, ev_oRI, ev_rLeaf, ev_oLeaf, ev_rFlat, ev_rView, ev_flatV1, ev_flatV1d, ev_eOw, ev_oEow, ev_fldP, ev_ixP, ev_nd1, ev_nd2, decide_true, decide_false, List.nil_append, List.cons_append, ev_ix, ev_ixT, ev_ixB, ev_ixBT]; rfl
theorem putL_ok {n : Nat} {s : St} {r : Rw} (h : StOk n s) (hr : RwOk n r) (ht : s.tk.length < 16000000) : f_Log_put [LogW s, .d (rwD r)] = some ([LogW (put s r)], .d .none) := by
  refine (put_ok hr.1 (by rw [h.len]; exact hr.2.1) (by rw [List.length_map]; exact ht)).trans ?_
  have e : s.tk.map rwD ++ [rowD r.h r.k r.cs r.dd] = (s.tk ++ [r]).map rwD := by rw [List.map_append]; rfl
  rw [e]; rfl
def envT (s : St) (row k : D) : List C := [.own (some 0) (LogW s), .val row, .val k]
theorem kept_pl (s : St) (row : D) (k : C) : pF "Log" "kept" (pNm 0) [.own (some 0) (LogW s), .val row, k] = some (0, [2]) := pF_at (p := []) rfl rfl fx_kept (by show 2 < 3; decide)
theorem popQ_log {s : St} {r : Rw} (u : Uq s.W) (hm : r ∈ s.W) (row : D) : xPopQ (pF "Log" "kept" (pNm 0)) (aCons (eV 2) aNil) (envT s row (kyD r)) = some (envT ⟨s.many, s.tk, del r s.W⟩ row (kyD r), .d (rwD r)) := by
  obtain ⟨j, k1, k2, k3, k4⟩ := kIx_mem u hm
  unfold xPopQ envT
  rw [kept_pl]
  show (match aCons (eV 2) aNil [.own (some 0) (LogW s), .val row, .val (kyD r)] with | some [d] => _ | _ => none) = _
  have ea : aCons (eV 2) aNil [.own (some 0) (LogW s), .val row, .val (kyD r)] = some [kyD r] := by simp only [ev_bs, ev_bn, ev_ms, ev_mn, ev_g0, ev_gs, ev_s0, ev_ss, ev_bn1, ev_bn2, ev_seq, ev_seq_nx, ev_seq_rt, ev_seq_bk, ev_seq_ct, ev_nil, ev_brk, ev_cnt, ev_if, ev_if_t, ev_if_f, ev_set, ev_oset, ev_setL, ev_osetL, ev_drop, ev_odrop, ev_ret, ev_oret, ev_retN, ev_retL, ev_oretL, ev_orun, ev_orunN, ev_orunN_nx, ev_fz, ev_fz_l, ev_fz_v, ev_app, ev_app_s, ev_clear, ev_clear_s, ev_oNx, ev_asg, ev_asg_s, ev_par, ev_par_s, ev_aug, ev_aug_s, ev_setIx, ev_setIx_s, ev_augIx, ev_dictN, ev_notInN, ev_oNotInN, ev_putN, ev_oPutN, ev_for, ev_ofor, ev_V, ev_L, ev_B, ev_rdV, ev_rdLv, ev_rdLl, ev_rdBv, ev_rdBb, ev_C, ev_e2, ev_o2, ev_e1, ev_e3, ev_o3, ev_pN, ev_pS, ev_oPS, ev_aNil, ev_aCons, ev_oCons, ev_tup, ev_lst, ev_oLst, ev_scal, ev_scal_i, ev_scal_s, ev_scal_b, ev_neg, ev_oNeg, ev_tB, ev_asB, ev_tNot, ev_tAnd, ev_tOr, ev_oAnd_t, ev_oAnd_f, ev_oOr_t, ev_oOr_f, ev_eAnd, ev_eOr, ev_oAndD_t, ev_oAndD_f, ev_oOrD_t, ev_oOrD_f, ev_eNot, ev_oNot, ev_isi, ev_isi_ii, ev_isi_ib, ev_isi_il, ev_isi_it, ev_isi_is, ev_isi_ll, ev_isi_lt, ev_isi_li, ev_isi_lb, ev_isi_tt, ev_isi_tl, ev_isi_ss, ev_isi_bb, ev_isi_bi, ev_isN, ev_notN, ev_oIsN_n, ev_oIsN_i, ev_oIsN_l, ev_oIsN_t, ev_oNotN_n, ev_oNotN_i, ev_oNotN_l, ev_oNotN_t, ev_rev, ev_gRev, ev_iAny, ev_oAny_l, ev_oAny_t, ev_iSeqB, ev_oSeqB, ev_iEnum, ev_oEnum, ev_iZip, ev_oZip_ll, ev_oZip_tt, ev_oZip_lt, ev_oZip_tl, ev_iRng1, ev_rng1_s, ev_iRng2, ev_rng2_s, ev_tgN, ev_tgNil, ev_tgCons, ev_tgT, ev_wipe_nil, ev_wipe_cons, ev_lc, ev_oLc, ev_add, ev_addIS, ev_add_ll, ev_add_tt, ev_addL, ev_repL, ev_rep, ev_sub, ev_mul, ev_mod, ev_div, ev_modA, ev_divA, ev_pow, ev_lt, ev_le, ev_gt, ev_ge, ev_eq, ev_ne, ev_eqs, ev_nes, ev_eqb, ev_neb, ev_len, ev_lenT, ev_list, ev_listT, ev_tuple, ev_tupleT, ev_int, ev_intb, ev_sum, ev_sum0, ev_max2, ev_min2, ev_sl, ev_slT, ev_slL, ev_slB, ev_divAZ, ev_divZ, ev_onNx, ev_while, ev_eq_li, ev_ne_li, ev_eq_self, ev_ne_self, ev_eq_selfT, ev_ne_selfT, ev_ne_nil, ev_eq_nil, ev_sorted_i, ev_listRg, ev_oListRg, ev_in_ii, ev_thaw, ev_oThaw, ev_flatO, ev_tThaw, ev_otThaw, ev_move, ev_oMove, ev_iEnumG, ev_oEnumG_l, ev_oEnumG_t, ev_gNotB, ev_nD, ev_nL, ev_oNL, ev_xN, ev_nsNil, ev_nsCons, ev_oNs, ev_nDictQ, ev_nDictK, ev_nLst, ev_nTup, ev_toC_d, ev_toC_n, ev_setX, ev_oSetX, ev_setN, ev_oSetN, ev_dropX, ev_oDropX, ev_retX, ev_oRetX, ev_retXN, ev_seq_rx, ev_ifX, ev_oIfX_t, ev_oIfX_f, ev_oTxB, ev_txCmp, ev_oTxC, ev_txP, ev_txNot, ev_oTxN, ev_pNm, ev_nodeAt, ev_oNode, ev_sub0, ev_subS, ev_putAt, ev_oPutA, ev_put0, ev_putS, ev_oTp, ev_rN, ev_cell_own, ev_cell_ro, ev_cell_val, ev_cell_lst, ev_roN, ev_oRo, ev_rF, ev_oRF, ev_rI, ev_oRI, ev_rLeaf, ev_oLeaf, ev_rFlat, ev_rView, ev_flatV1, ev_flatV1d, ev_eOw, ev_oEow, ev_fldP, ev_ixP, ev_nd1, ev_nd2, decide_true, decide_false, List.nil_append, List.cons_append, ev_ix, ev_ixT, ev_ixB, ev_ixBT]
  rw [ea]
  dsimp only
  rw [if_pos (okK_ky r), k1]
  dsimp only
  have et : ((s.W.map rwD).map T.d)[j]? = some (.d (rwD r)) := by rw [List.getElem?_map, List.getElem?_map, k3]; rfl
  rw [et]
  dsimp only
  rw [erase_map, erase_map, erase_map, k4]
  rfl
theorem take_while {n : Nat} (row : D) : ∀ (f : Nat) (s : St), StOk n s → s.W.length ≤ f → s.tk.length + s.W.length < 16000000 →
    whileF L_Log_take_0 L_Log_take_1 (f + 1) (envT s row (keyO (fst s.many s.W))) = .nx (envT (flush f s) row .none) := fun f => by
  induction f with
  | zero =>
    intro s h hl _
    have e : s.W = [] := List.length_eq_zero_iff.mp (by omega)
    have e2 : fst s.many s.W = none := by rw [e]; exact fst_nil _
    rw [e2]
    unfold whileF
    have : L_Log_take_0 (envT s row (keyO none)) = some false := by
      unfold L_Log_take_0 envT keyO
      simp only [ev_bs, ev_bn, ev_ms, ev_mn, ev_g0, ev_gs, ev_s0, ev_ss, ev_bn1, ev_bn2, ev_seq, ev_seq_nx, ev_seq_rt, ev_seq_bk, ev_seq_ct, ev_nil, ev_brk, ev_cnt, ev_if, ev_if_t, ev_if_f, ev_set, ev_oset, ev_setL, ev_osetL, ev_drop, ev_odrop, ev_ret, ev_oret, ev_retN, ev_retL, ev_oretL, ev_orun, ev_orunN, ev_orunN_nx, ev_fz, ev_fz_l, ev_fz_v, ev_app, ev_app_s, ev_clear, ev_clear_s, ev_oNx, ev_asg, ev_asg_s, ev_par, ev_par_s, ev_aug, ev_aug_s, ev_setIx, ev_setIx_s, ev_augIx, ev_dictN, ev_notInN, ev_oNotInN, ev_putN, ev_oPutN, ev_for, ev_ofor, ev_V, ev_L, ev_B, ev_rdV, ev_rdLv, ev_rdLl, ev_rdBv, ev_rdBb, ev_C, ev_e2, ev_o2, ev_e1, ev_e3, ev_o3, ev_pN, ev_pS, ev_oPS, ev_aNil, ev_aCons, ev_oCons, ev_tup, ev_lst, ev_oLst, ev_scal, ev_scal_i, ev_scal_s, ev_scal_b, ev_neg, ev_oNeg, ev_tB, ev_asB, ev_tNot, ev_tAnd, ev_tOr, ev_oAnd_t, ev_oAnd_f, ev_oOr_t, ev_oOr_f, ev_eAnd, ev_eOr, ev_oAndD_t, ev_oAndD_f, ev_oOrD_t, ev_oOrD_f, ev_eNot, ev_oNot, ev_isi, ev_isi_ii, ev_isi_ib, ev_isi_il, ev_isi_it, ev_isi_is, ev_isi_ll, ev_isi_lt, ev_isi_li, ev_isi_lb, ev_isi_tt, ev_isi_tl, ev_isi_ss, ev_isi_bb, ev_isi_bi, ev_isN, ev_notN, ev_oIsN_n, ev_oIsN_i, ev_oIsN_l, ev_oIsN_t, ev_oNotN_n, ev_oNotN_i, ev_oNotN_l, ev_oNotN_t, ev_rev, ev_gRev, ev_iAny, ev_oAny_l, ev_oAny_t, ev_iSeqB, ev_oSeqB, ev_iEnum, ev_oEnum, ev_iZip, ev_oZip_ll, ev_oZip_tt, ev_oZip_lt, ev_oZip_tl, ev_iRng1, ev_rng1_s, ev_iRng2, ev_rng2_s, ev_tgN, ev_tgNil, ev_tgCons, ev_tgT, ev_wipe_nil, ev_wipe_cons, ev_lc, ev_oLc, ev_add, ev_addIS, ev_add_ll, ev_add_tt, ev_addL, ev_repL, ev_rep, ev_sub, ev_mul, ev_mod, ev_div, ev_modA, ev_divA, ev_pow, ev_lt, ev_le, ev_gt, ev_ge, ev_eq, ev_ne, ev_eqs, ev_nes, ev_eqb, ev_neb, ev_len, ev_lenT, ev_list, ev_listT, ev_tuple, ev_tupleT, ev_int, ev_intb, ev_sum, ev_sum0, ev_max2, ev_min2, ev_sl, ev_slT, ev_slL, ev_slB, ev_divAZ, ev_divZ, ev_onNx, ev_while, ev_eq_li, ev_ne_li, ev_eq_self, ev_ne_self, ev_eq_selfT, ev_ne_selfT, ev_ne_nil, ev_eq_nil, ev_sorted_i, ev_listRg, ev_oListRg, ev_in_ii, ev_thaw, ev_oThaw, ev_flatO, ev_tThaw, ev_otThaw, ev_move, ev_oMove, ev_iEnumG, ev_oEnumG_l, ev_oEnumG_t, ev_gNotB, ev_nD, ev_nL, ev_oNL, ev_xN, ev_nsNil, ev_nsCons, ev_oNs, ev_nDictQ, ev_nDictK, ev_nLst, ev_nTup, ev_toC_d, ev_toC_n, ev_setX, ev_oSetX, ev_setN, ev_oSetN, ev_dropX, ev_oDropX, ev_retX, ev_oRetX, ev_retXN, ev_seq_rx, ev_ifX, ev_oIfX_t, ev_oIfX_f, ev_oTxB, ev_txCmp, ev_oTxC, ev_txP, ev_txNot, ev_oTxN, ev_pNm, ev_nodeAt, ev_oNode, ev_sub0, ev_subS, ev_putAt, ev_oPutA, ev_put0, ev_putS, ev_oTp, ev_rN, ev_cell_own, ev_cell_ro, ev_cell_val, ev_cell_lst, ev_roN, ev_oRo, ev_rF, ev_oRF, ev_rI, ev_oRI, ev_rLeaf, ev_oLeaf, ev_rFlat, ev_rView, ev_flatV1, ev_flatV1d, ev_eOw, ev_oEow, ev_fldP, ev_ixP, ev_nd1, ev_nd2, decide_true, decide_false, List.nil_append, List.cons_append, ev_ix, ev_ixT, ev_ixB, ev_ixBT, Bool.not_true]
    rw [this]; rfl
  | succ f ih =>
    intro s h hl ht
    cases e : fst s.many s.W with
    | none =>
      unfold whileF
      have : L_Log_take_0 (envT s row (keyO none)) = some false := by
        unfold L_Log_take_0 envT keyO
        simp only [ev_bs, ev_bn, ev_ms, ev_mn, ev_g0, ev_gs, ev_s0, ev_ss, ev_bn1, ev_bn2, ev_seq, ev_seq_nx, ev_seq_rt, ev_seq_bk, ev_seq_ct, ev_nil, ev_brk, ev_cnt, ev_if, ev_if_t, ev_if_f, ev_set, ev_oset, ev_setL, ev_osetL, ev_drop, ev_odrop, ev_ret, ev_oret, ev_retN, ev_retL, ev_oretL, ev_orun, ev_orunN, ev_orunN_nx, ev_fz, ev_fz_l, ev_fz_v, ev_app, ev_app_s, ev_clear, ev_clear_s, ev_oNx, ev_asg, ev_asg_s, ev_par, ev_par_s, ev_aug, ev_aug_s, ev_setIx, ev_setIx_s, ev_augIx, ev_dictN, ev_notInN, ev_oNotInN, ev_putN, ev_oPutN, ev_for, ev_ofor, ev_V, ev_L, ev_B, ev_rdV, ev_rdLv, ev_rdLl, ev_rdBv, ev_rdBb, ev_C, ev_e2, ev_o2, ev_e1, ev_e3, ev_o3, ev_pN, ev_pS, ev_oPS, ev_aNil, ev_aCons, ev_oCons, ev_tup, ev_lst, ev_oLst, ev_scal, ev_scal_i, ev_scal_s, ev_scal_b, ev_neg, ev_oNeg, ev_tB, ev_asB, ev_tNot, ev_tAnd, ev_tOr, ev_oAnd_t, ev_oAnd_f, ev_oOr_t, ev_oOr_f, ev_eAnd, ev_eOr, ev_oAndD_t, ev_oAndD_f, ev_oOrD_t, ev_oOrD_f, ev_eNot, ev_oNot, ev_isi, ev_isi_ii, ev_isi_ib, ev_isi_il, ev_isi_it, ev_isi_is, ev_isi_ll, ev_isi_lt, ev_isi_li, ev_isi_lb, ev_isi_tt, ev_isi_tl, ev_isi_ss, ev_isi_bb, ev_isi_bi, ev_isN, ev_notN, ev_oIsN_n, ev_oIsN_i, ev_oIsN_l, ev_oIsN_t, ev_oNotN_n, ev_oNotN_i, ev_oNotN_l, ev_oNotN_t, ev_rev, ev_gRev, ev_iAny, ev_oAny_l, ev_oAny_t, ev_iSeqB, ev_oSeqB, ev_iEnum, ev_oEnum, ev_iZip, ev_oZip_ll, ev_oZip_tt, ev_oZip_lt, ev_oZip_tl, ev_iRng1, ev_rng1_s, ev_iRng2, ev_rng2_s, ev_tgN, ev_tgNil, ev_tgCons, ev_tgT, ev_wipe_nil, ev_wipe_cons, ev_lc, ev_oLc, ev_add, ev_addIS, ev_add_ll, ev_add_tt, ev_addL, ev_repL, ev_rep, ev_sub, ev_mul, ev_mod, ev_div, ev_modA, ev_divA, ev_pow, ev_lt, ev_le, ev_gt, ev_ge, ev_eq, ev_ne, ev_eqs, ev_nes, ev_eqb, ev_neb, ev_len, ev_lenT, ev_list, ev_listT, ev_tuple, ev_tupleT, ev_int, ev_intb, ev_sum, ev_sum0, ev_max2, ev_min2, ev_sl, ev_slT, ev_slL, ev_slB, ev_divAZ, ev_divZ, ev_onNx, ev_while, ev_eq_li, ev_ne_li, ev_eq_self, ev_ne_self, ev_eq_selfT, ev_ne_selfT, ev_ne_nil, ev_eq_nil, ev_sorted_i, ev_listRg, ev_oListRg, ev_in_ii, ev_thaw, ev_oThaw, ev_flatO, ev_tThaw, ev_otThaw, ev_move, ev_oMove, ev_iEnumG, ev_oEnumG_l, ev_oEnumG_t, ev_gNotB, ev_nD, ev_nL, ev_oNL, ev_xN, ev_nsNil, ev_nsCons, ev_oNs, ev_nDictQ, ev_nDictK, ev_nLst, ev_nTup, ev_toC_d, ev_toC_n, ev_setX, ev_oSetX, ev_setN, ev_oSetN, ev_dropX, ev_oDropX, ev_retX, ev_oRetX, ev_retXN, ev_seq_rx, ev_ifX, ev_oIfX_t, ev_oIfX_f, ev_oTxB, ev_txCmp, ev_oTxC, ev_txP, ev_txNot, ev_oTxN, ev_pNm, ev_nodeAt, ev_oNode, ev_sub0, ev_subS, ev_putAt, ev_oPutA, ev_put0, ev_putS, ev_oTp, ev_rN, ev_cell_own, ev_cell_ro, ev_cell_val, ev_cell_lst, ev_roN, ev_oRo, ev_rF, ev_oRF, ev_rI, ev_oRI, ev_rLeaf, ev_oLeaf, ev_rFlat, ev_rView, ev_flatV1, ev_flatV1d, ev_eOw, ev_oEow, ev_fldP, ev_ixP, ev_nd1, ev_nd2, decide_true, decide_false, List.nil_append, List.cons_append, ev_ix, ev_ixT, ev_ixB, ev_ixBT, Bool.not_true]
      rw [this]
      have ef : flush (f + 1) s = s := by unfold flush; rw [e]
      rw [ef]; rfl
    | some r =>
      obtain ⟨hm, hz⟩ := fst_mem e
      have hs := h.step hm
      have hd := del_len h.uq hm
      have hs0 : StOk n ⟨s.many, s.tk, del r s.W⟩ := ⟨h.len, h.tk, fun x hx => h.w x (mem_del hx), h.uq.del⟩
      have t0 : L_Log_take_0 (envT s row (keyO (some r))) = some true := by
        unfold L_Log_take_0 envT keyO
        rfl
      have mp : xMethX "Log" "put" f_Log_put 0 (xPopQ (pF "Log" "kept" (pNm 0)) (aCons (eV 2) aNil)) (envT s row (kyD r)) = some (envT ⟨bump s.many r, s.tk ++ [r], del r s.W⟩ row (kyD r), .d .none) := by
        unfold xMethX
        rw [popQ_log h.uq hm]
        have n0 : ∀ (s : St), nodeAt (envT s row (kyD r)) (0, []) = some (LogW s) := fun s => rfl
        rw [n0]
        unfold LogW LogT
        dsimp only
        rw [if_pos ⟨rfl, fx_put⟩]
        have n1 := n0 ⟨s.many, s.tk, del r s.W⟩
        unfold LogW LogT at n1
        rw [n1]
        dsimp only
        have hp := putL_ok (s := ⟨s.many, s.tk, del r s.W⟩) hs0 (h.w r hm) (by show s.tk.length < 16000000; omega)
        unfold LogW LogT at hp
        dsimp only at hp
        rw [hp]
        rfl
      have fr : nMeth "Log" "first_ready" f_Log_first_ready (rN 0) nsNil (envT ⟨bump s.many r, s.tk ++ [r], del r s.W⟩ row (kyD r)) = some (.d (keyO (fst (bump s.many r) (del r s.W)))) :=
        (nMeth_at (fl := LF) rfl fx_first rfl).trans (first_ok hs)
      have t1 : L_Log_take_1 (envT s row (kyD r)) = .nx (envT ⟨bump s.many r, s.tk ++ [r], del r s.W⟩ row (keyO (fst (bump s.many r) (del r s.W)))) := by
        unfold L_Log_take_1
        simp only [ev_seq, ev_dropX, mp, ev_oDropX, ev_seq_nx, ev_set, ev_rLeaf, fr, ev_oLeaf]
        rfl
      refine (while_go t0 t1).trans ?_
      have ef : flush (f + 1) s = flush f ⟨bump s.many r, s.tk ++ [r], del r s.W⟩ := by
        conv => lhs; unfold flush
        rw [e]
      rw [ef]
      exact ih ⟨bump s.many r, s.tk ++ [r], del r s.W⟩ hs (by show (del r s.W).length ≤ f; omega) (by show (s.tk ++ [r]).length + (del r s.W).length < 16000000; simp only [List.length_append, List.length_singleton]; omega)
theorem many_log {s : St} {n : Nat} {r : Rw} (h : StOk n s) (hr : RwOk n r) : (ixN ((s.many.map PyData.int).map T.d).length r.h).bind (fun j => ((s.many.map PyData.int).map T.d)[j]?) = some (.d (.int (s.many.getD r.h.toNat 0))) :=
  many_at hr.1 (by rw [h.len]; exact hr.2.1)
theorem more_fuel {c : List C → Option Bool} {b : List C → Out} {e' : List C} : ∀ (f : Nat) (e : List C), whileF c b f e = .nx e' → ∀ g, f ≤ g → whileF c b g e = .nx e'
  | 0, e, h, _, _ => by unfold whileF at h; cases h
  | f + 1, e, h, 0, hg => absurd hg (by omega)
  | f + 1, e, h, g + 1, hg => by
    unfold whileF at h ⊢
    cases hc : c e with
    | none => rw [hc] at h; cases h
    | some v =>
      rw [hc] at h
      cases v with
      | false => exact h
      | true =>
        dsimp only at h ⊢
        cases hb : b e <;> rw [hb] at h <;> dsimp only at h ⊢ <;> first | exact more_fuel f _ h g (by omega) | exact h
theorem take_ok {n : Nat} {rs : List Rw} {s : St} {r : Rw} (u : Uq rs) (h : StOk n s) (hi : Idle rs s) (hr : RwOk n r) (hm : r ∈ rs) (ht : s.tk.length + s.W.length < 900) :
    f_Log_take [LogW s, .d (rwD r)] = some ([LogW (due s r).1], .d (.str (due s r).2)) := by
  have mn := many_log h hr
  refine (fe_Log_take LF [.n .l ((s.many.map PyData.int).map T.d), .n .l ((s.tk.map rwD).map T.d), keptT s.W] (rwD r)).trans ?_
  show outM [true, false] (b_Log_take [.own (some 0) (LogW s), .val (rwD r), .und]) = _
  have row : rwD r = .tuple [.int r.h, .int r.k, .tuple (r.cs.map .int), r.dd] := rfl
  have nm := ready_m (s := s) (r := r) (rr := rN 0) (rs := nsCons (nD (eV 1)) nsNil) (env := [.own (some 0) (LogW s), .val (rwD r), .und]) h hr rfl rfl
  have ka : ∀ s' : St, aCons (eTup (aCons (e2 gIxS (eV 1) (eC (.int 0))) (aCons (e2 gIxS (eV 1) (eC (.int 1))) aNil))) (aCons (eV 1) aNil) [.own (some 0) (LogW s'), .val (rwD r), .und] = some [kyD r, rwD r] := fun s' => by
    rw [row]
    simp only [ev_bs, ev_bn, ev_ms, ev_mn, ev_g0, ev_gs, ev_s0, ev_ss, ev_bn1, ev_bn2, ev_seq, ev_seq_nx, ev_seq_rt, ev_seq_bk, ev_seq_ct, ev_nil, ev_brk, ev_cnt, ev_if, ev_if_t, ev_if_f, ev_set, ev_oset, ev_setL, ev_osetL, ev_drop, ev_odrop, ev_ret, ev_oret, ev_retN, ev_retL, ev_oretL, ev_orun, ev_orunN, ev_orunN_nx, ev_fz, ev_fz_l, ev_fz_v, ev_app, ev_app_s, ev_clear, ev_clear_s, ev_oNx, ev_asg, ev_asg_s, ev_par, ev_par_s, ev_aug, ev_aug_s, ev_setIx, ev_setIx_s, ev_augIx, ev_dictN, ev_notInN, ev_oNotInN, ev_putN, ev_oPutN, ev_for, ev_ofor, ev_V, ev_L, ev_B, ev_rdV, ev_rdLv, ev_rdLl, ev_rdBv, ev_rdBb, ev_C, ev_e2, ev_o2, ev_e1, ev_e3, ev_o3, ev_pN, ev_pS, ev_oPS, ev_aNil, ev_aCons, ev_oCons, ev_tup, ev_lst, ev_oLst, ev_scal, ev_scal_i, ev_scal_s, ev_scal_b, ev_neg, ev_oNeg, ev_tB, ev_asB, ev_tNot, ev_tAnd, ev_tOr, ev_oAnd_t, ev_oAnd_f, ev_oOr_t, ev_oOr_f, ev_eAnd, ev_eOr, ev_oAndD_t, ev_oAndD_f, ev_oOrD_t, ev_oOrD_f, ev_eNot, ev_oNot, ev_isi, ev_isi_ii, ev_isi_ib, ev_isi_il, ev_isi_it, ev_isi_is, ev_isi_ll, ev_isi_lt, ev_isi_li, ev_isi_lb, ev_isi_tt, ev_isi_tl, ev_isi_ss, ev_isi_bb, ev_isi_bi, ev_isN, ev_notN, ev_oIsN_n, ev_oIsN_i, ev_oIsN_l, ev_oIsN_t, ev_oNotN_n, ev_oNotN_i, ev_oNotN_l, ev_oNotN_t, ev_rev, ev_gRev, ev_iAny, ev_oAny_l, ev_oAny_t, ev_iSeqB, ev_oSeqB, ev_iEnum, ev_oEnum, ev_iZip, ev_oZip_ll, ev_oZip_tt, ev_oZip_lt, ev_oZip_tl, ev_iRng1, ev_rng1_s, ev_iRng2, ev_rng2_s, ev_tgN, ev_tgNil, ev_tgCons, ev_tgT, ev_wipe_nil, ev_wipe_cons, ev_lc, ev_oLc, ev_add, ev_addIS, ev_add_ll, ev_add_tt, ev_addL, ev_repL, ev_rep, ev_sub, ev_mul, ev_mod, ev_div, ev_modA, ev_divA, ev_pow, ev_lt, ev_le, ev_gt, ev_ge, ev_eq, ev_ne, ev_eqs, ev_nes, ev_eqb, ev_neb, ev_len, ev_lenT, ev_list, ev_listT, ev_tuple, ev_tupleT, ev_int, ev_intb, ev_sum, ev_sum0, ev_max2, ev_min2, ev_sl, ev_slT, ev_slL, ev_slB, ev_divAZ, ev_divZ, ev_onNx, ev_while, ev_eq_li, ev_ne_li, ev_eq_self, ev_ne_self, ev_eq_selfT, ev_ne_selfT, ev_ne_nil, ev_eq_nil, ev_sorted_i, ev_listRg, ev_oListRg, ev_in_ii, ev_thaw, ev_oThaw, ev_flatO, ev_tThaw, ev_otThaw, ev_move, ev_oMove, ev_iEnumG, ev_oEnumG_l, ev_oEnumG_t, ev_gNotB, ev_nD, ev_nL, ev_oNL, ev_xN, ev_nsNil, ev_nsCons, ev_oNs, ev_nDictQ, ev_nDictK, ev_nLst, ev_nTup, ev_toC_d, ev_toC_n, ev_setX, ev_oSetX, ev_setN, ev_oSetN, ev_dropX, ev_oDropX, ev_retX, ev_oRetX, ev_retXN, ev_seq_rx, ev_ifX, ev_oIfX_t, ev_oIfX_f, ev_oTxB, ev_txCmp, ev_oTxC, ev_txP, ev_txNot, ev_oTxN, ev_pNm, ev_nodeAt, ev_oNode, ev_sub0, ev_subS, ev_putAt, ev_oPutA, ev_put0, ev_putS, ev_oTp, ev_rN, ev_cell_own, ev_cell_ro, ev_cell_val, ev_cell_lst, ev_roN, ev_oRo, ev_rF, ev_oRF, ev_rI, ev_oRI, ev_rLeaf, ev_oLeaf, ev_rFlat, ev_rView, ev_flatV1, ev_flatV1d, ev_eOw, ev_oEow, ev_fldP, ev_ixP, ev_nd1, ev_nd2, decide_true, decide_false, List.nil_append, List.cons_append, ev_ix, ev_ixT, ev_ixB, ev_ixBT, at0, at1]; rfl
  have ka2 : ∀ s' : St, aCons (eTup (aCons (e2 gIxS (eV 1) (eC (.int 0))) (aCons (e2 gIxS (eV 1) (eC (.int 1))) aNil))) (aCons (eC .none) aNil) [.own (some 0) (LogW s'), .val (rwD r), .und] = some [kyD r, .none] := fun s' => by
    rw [row]
    simp only [ev_bs, ev_bn, ev_ms, ev_mn, ev_g0, ev_gs, ev_s0, ev_ss, ev_bn1, ev_bn2, ev_seq, ev_seq_nx, ev_seq_rt, ev_seq_bk, ev_seq_ct, ev_nil, ev_brk, ev_cnt, ev_if, ev_if_t, ev_if_f, ev_set, ev_oset, ev_setL, ev_osetL, ev_drop, ev_odrop, ev_ret, ev_oret, ev_retN, ev_retL, ev_oretL, ev_orun, ev_orunN, ev_orunN_nx, ev_fz, ev_fz_l, ev_fz_v, ev_app, ev_app_s, ev_clear, ev_clear_s, ev_oNx, ev_asg, ev_asg_s, ev_par, ev_par_s, ev_aug, ev_aug_s, ev_setIx, ev_setIx_s, ev_augIx, ev_dictN, ev_notInN, ev_oNotInN, ev_putN, ev_oPutN, ev_for, ev_ofor, ev_V, ev_L, ev_B, ev_rdV, ev_rdLv, ev_rdLl, ev_rdBv, ev_rdBb, ev_C, ev_e2, ev_o2, ev_e1, ev_e3, ev_o3, ev_pN, ev_pS, ev_oPS, ev_aNil, ev_aCons, ev_oCons, ev_tup, ev_lst, ev_oLst, ev_scal, ev_scal_i, ev_scal_s, ev_scal_b, ev_neg, ev_oNeg, ev_tB, ev_asB, ev_tNot, ev_tAnd, ev_tOr, ev_oAnd_t, ev_oAnd_f, ev_oOr_t, ev_oOr_f, ev_eAnd, ev_eOr, ev_oAndD_t, ev_oAndD_f, ev_oOrD_t, ev_oOrD_f, ev_eNot, ev_oNot, ev_isi, ev_isi_ii, ev_isi_ib, ev_isi_il, ev_isi_it, ev_isi_is, ev_isi_ll, ev_isi_lt, ev_isi_li, ev_isi_lb, ev_isi_tt, ev_isi_tl, ev_isi_ss, ev_isi_bb, ev_isi_bi, ev_isN, ev_notN, ev_oIsN_n, ev_oIsN_i, ev_oIsN_l, ev_oIsN_t, ev_oNotN_n, ev_oNotN_i, ev_oNotN_l, ev_oNotN_t, ev_rev, ev_gRev, ev_iAny, ev_oAny_l, ev_oAny_t, ev_iSeqB, ev_oSeqB, ev_iEnum, ev_oEnum, ev_iZip, ev_oZip_ll, ev_oZip_tt, ev_oZip_lt, ev_oZip_tl, ev_iRng1, ev_rng1_s, ev_iRng2, ev_rng2_s, ev_tgN, ev_tgNil, ev_tgCons, ev_tgT, ev_wipe_nil, ev_wipe_cons, ev_lc, ev_oLc, ev_add, ev_addIS, ev_add_ll, ev_add_tt, ev_addL, ev_repL, ev_rep, ev_sub, ev_mul, ev_mod, ev_div, ev_modA, ev_divA, ev_pow, ev_lt, ev_le, ev_gt, ev_ge, ev_eq, ev_ne, ev_eqs, ev_nes, ev_eqb, ev_neb, ev_len, ev_lenT, ev_list, ev_listT, ev_tuple, ev_tupleT, ev_int, ev_intb, ev_sum, ev_sum0, ev_max2, ev_min2, ev_sl, ev_slT, ev_slL, ev_slB, ev_divAZ, ev_divZ, ev_onNx, ev_while, ev_eq_li, ev_ne_li, ev_eq_self, ev_ne_self, ev_eq_selfT, ev_ne_selfT, ev_ne_nil, ev_eq_nil, ev_sorted_i, ev_listRg, ev_oListRg, ev_in_ii, ev_thaw, ev_oThaw, ev_flatO, ev_tThaw, ev_otThaw, ev_move, ev_oMove, ev_iEnumG, ev_oEnumG_l, ev_oEnumG_t, ev_gNotB, ev_nD, ev_nL, ev_oNL, ev_xN, ev_nsNil, ev_nsCons, ev_oNs, ev_nDictQ, ev_nDictK, ev_nLst, ev_nTup, ev_toC_d, ev_toC_n, ev_setX, ev_oSetX, ev_setN, ev_oSetN, ev_dropX, ev_oDropX, ev_retX, ev_oRetX, ev_retXN, ev_seq_rx, ev_ifX, ev_oIfX_t, ev_oIfX_f, ev_oTxB, ev_txCmp, ev_oTxC, ev_txP, ev_txNot, ev_oTxN, ev_pNm, ev_nodeAt, ev_oNode, ev_sub0, ev_subS, ev_putAt, ev_oPutA, ev_put0, ev_putS, ev_oTp, ev_rN, ev_cell_own, ev_cell_ro, ev_cell_val, ev_cell_lst, ev_roN, ev_oRo, ev_rF, ev_oRF, ev_rI, ev_oRI, ev_rLeaf, ev_oLeaf, ev_rFlat, ev_rView, ev_flatV1, ev_flatV1d, ev_eOw, ev_oEow, ev_fldP, ev_ixP, ev_nd1, ev_nd2, decide_true, decide_false, List.nil_append, List.cons_append, ev_ix, ev_ixT, ev_ixB, ev_ixBT, at0, at1]; rfl
  have first : tB (e2 gLt (e2 gIxS (eV 1) (eC (.int 1))) (rLeaf (rI (e2 gIxS (eV 1) (eC (.int 0))) (rF "Log" "many" (rN 0))))) [.own (some 0) (LogW s), .val (rwD r), .und] = some (decide (r.k < s.many.getD r.h.toNat 0)) := by
    rw [row]
    simp only [ev_bs, ev_bn, ev_ms, ev_mn, ev_g0, ev_gs, ev_s0, ev_ss, ev_bn1, ev_bn2, ev_seq, ev_seq_nx, ev_seq_rt, ev_seq_bk, ev_seq_ct, ev_nil, ev_brk, ev_cnt, ev_if, ev_if_t, ev_if_f, ev_set, ev_oset, ev_setL, ev_osetL, ev_drop, ev_odrop, ev_ret, ev_oret, ev_retN, ev_retL, ev_oretL, ev_orun, ev_orunN, ev_orunN_nx, ev_fz, ev_fz_l, ev_fz_v, ev_app, ev_app_s, ev_clear, ev_clear_s, ev_oNx, ev_asg, ev_asg_s, ev_par, ev_par_s, ev_aug, ev_aug_s, ev_setIx, ev_setIx_s, ev_augIx, ev_dictN, ev_notInN, ev_oNotInN, ev_putN, ev_oPutN, ev_for, ev_ofor, ev_V, ev_L, ev_B, ev_rdV, ev_rdLv, ev_rdLl, ev_rdBv, ev_rdBb, ev_C, ev_e2, ev_o2, ev_e1, ev_e3, ev_o3, ev_pN, ev_pS, ev_oPS, ev_aNil, ev_aCons, ev_oCons, ev_tup, ev_lst, ev_oLst, ev_scal, ev_scal_i, ev_scal_s, ev_scal_b, ev_neg, ev_oNeg, ev_tB, ev_asB, ev_tNot, ev_tAnd, ev_tOr, ev_oAnd_t, ev_oAnd_f, ev_oOr_t, ev_oOr_f, ev_eAnd, ev_eOr, ev_oAndD_t, ev_oAndD_f, ev_oOrD_t, ev_oOrD_f, ev_eNot, ev_oNot, ev_isi, ev_isi_ii, ev_isi_ib, ev_isi_il, ev_isi_it, ev_isi_is, ev_isi_ll, ev_isi_lt, ev_isi_li, ev_isi_lb, ev_isi_tt, ev_isi_tl, ev_isi_ss, ev_isi_bb, ev_isi_bi, ev_isN, ev_notN, ev_oIsN_n, ev_oIsN_i, ev_oIsN_l, ev_oIsN_t, ev_oNotN_n, ev_oNotN_i, ev_oNotN_l, ev_oNotN_t, ev_rev, ev_gRev, ev_iAny, ev_oAny_l, ev_oAny_t, ev_iSeqB, ev_oSeqB, ev_iEnum, ev_oEnum, ev_iZip, ev_oZip_ll, ev_oZip_tt, ev_oZip_lt, ev_oZip_tl, ev_iRng1, ev_rng1_s, ev_iRng2, ev_rng2_s, ev_tgN, ev_tgNil, ev_tgCons, ev_tgT, ev_wipe_nil, ev_wipe_cons, ev_lc, ev_oLc, ev_add, ev_addIS, ev_add_ll, ev_add_tt, ev_addL, ev_repL, ev_rep, ev_sub, ev_mul, ev_mod, ev_div, ev_modA, ev_divA, ev_pow, ev_lt, ev_le, ev_gt, ev_ge, ev_eq, ev_ne, ev_eqs, ev_nes, ev_eqb, ev_neb, ev_len, ev_lenT, ev_list, ev_listT, ev_tuple, ev_tupleT, ev_int, ev_intb, ev_sum, ev_sum0, ev_max2, ev_min2, ev_sl, ev_slT, ev_slL, ev_slB, ev_divAZ, ev_divZ, ev_onNx, ev_while, ev_eq_li, ev_ne_li, ev_eq_self, ev_ne_self, ev_eq_selfT, ev_ne_selfT, ev_ne_nil, ev_eq_nil, ev_sorted_i, ev_listRg, ev_oListRg, ev_in_ii, ev_thaw, ev_oThaw, ev_flatO, ev_tThaw, ev_otThaw, ev_move, ev_oMove, ev_iEnumG, ev_oEnumG_l, ev_oEnumG_t, ev_gNotB, ev_nD, ev_nL, ev_oNL, ev_xN, ev_nsNil, ev_nsCons, ev_oNs, ev_nDictQ, ev_nDictK, ev_nLst, ev_nTup, ev_toC_d, ev_toC_n, ev_setX, ev_oSetX, ev_setN, ev_oSetN, ev_dropX, ev_oDropX, ev_retX, ev_oRetX, ev_retXN, ev_seq_rx, ev_ifX, ev_oIfX_t, ev_oIfX_f, ev_oTxB, ev_txCmp, ev_oTxC, ev_txP, ev_txNot, ev_oTxN, ev_pNm, ev_nodeAt, ev_oNode, ev_sub0, ev_subS, ev_putAt, ev_oPutA, ev_put0, ev_putS, ev_oTp, ev_rN, ev_cell_own, ev_cell_ro, ev_cell_val, ev_cell_lst, ev_roN, ev_oRo, ev_rF, ev_oRF, ev_rI, ev_oRI, ev_rLeaf, ev_oLeaf, ev_rFlat, ev_rView, ev_flatV1, ev_flatV1d, ev_eOw, ev_oEow, ev_fldP, ev_ixP, ev_nd1, ev_nd2, decide_true, decide_false, List.nil_append, List.cons_append, ev_ix, ev_ixT, ev_ixB, ev_ixBT, at0, at1, LogW_many, ev_oRI, mn]
  unfold b_Log_take
  by_cases hk : r.k < s.many.getD r.h.toNat 0
  · have hd : decide (r.k < s.many.getD r.h.toNat 0) = true := decide_eq_true hk
    rw [hd] at first
    have e : due s r = (s, ("known" : Str)) := by unfold due; rw [if_pos hk]
    rw [e]
    simp only [ev_seq, ev_if, first, ev_if_t, ev_retX, ev_xN, ev_nD, ev_C, ev_oRetX, ev_seq_rx]
    rfl
  · have hd : decide (r.k < s.many.getD r.h.toNat 0) = false := decide_eq_false hk
    rw [hd] at first
    cases z : rdy s.many r with
    | false =>
      rw [z] at nm
      have e : due s r = (wait s r, ("waits" : Str)) := by unfold due; rw [if_neg hk, z]; rfl
      rw [e]
      have sd : ∃ y, xSetdQ (pF "Log" "kept" (pNm 0)) (aCons (eTup (aCons (e2 gIxS (eV 1) (eC (.int 0))) (aCons (e2 gIxS (eV 1) (eC (.int 1))) aNil))) (aCons (eV 1) aNil)) [.own (some 0) (LogW s), .val (rwD r), .und] =
          some ([.own (some 0) (LogW (wait s r)), .val (rwD r), .und], y) := by
        unfold xSetdQ
        rw [kept_pl, ka]
        show ∃ y, (if okK (kyD r) = true then (match kIx (s.W.map kyD) (kyD r) with | some j => (match ((s.W.map rwD).map T.d)[j]? with | some (.d x) => some (_, T.d x) | _ => none) | none => _) else none) = _
        rw [if_pos (okK_ky r)]
        unfold wait
        by_cases hw : s.W.any (fun x => smB x r) = true
        · rw [if_pos hw]
          obtain ⟨x, hx, hxe⟩ := List.any_eq_true.mp hw
          obtain ⟨j, k1, k2, k3, k4⟩ := kIx_mem h.uq hx
          have k1' : kIx (s.W.map kyD) (kyD r) = some j := by
            rw [← k1]
            have : keyN (kyD r) = keyN (kyD x) := ((keyN_eq x r).mpr hxe).symm
            rw [kIx_ky, kIx_ky]
            have he : (fun y => smB y r) = fun y => smB y x := by
              funext y
              rw [Bool.eq_iff_iff, ← keyN_eq, ← keyN_eq, this]
            rw [he]
          rw [k1']
          dsimp only
          have et : ((s.W.map rwD).map T.d)[j]? = some (.d (rwD x)) := by rw [List.getElem?_map, List.getElem?_map, k3]; rfl
          rw [et]
          exact ⟨_, rfl⟩
        · rw [if_neg hw]
          have hw' : ∀ x ∈ s.W, smB x r = false := by simpa using hw
          rw [kIx_no hw']
          dsimp only
          rw [if_pos (by rw [List.length_map, List.length_map]; omega)]
          have ea : s.W.map kyD ++ [kyD r] = (s.W ++ [r]).map kyD := by rw [List.map_append]; rfl
          have eb : (s.W.map rwD).map T.d ++ [T.d (rwD r)] = ((s.W ++ [r]).map rwD).map T.d := by rw [List.map_append, List.map_append]; rfl
          rw [ea, eb]
          exact ⟨_, rfl⟩
      obtain ⟨y, sd⟩ := sd
      simp only [ev_seq, ev_if, first, ev_if_f, ev_nil, ev_seq_nx, ev_tNot, ev_tB, ev_rLeaf, nm, ev_oLeaf, ev_asB, ev_ms, Bool.not_false, ev_if_t, ev_dropX, sd, ev_oDropX, ev_retX, ev_xN, ev_nD, ev_C, ev_oRetX, ev_seq_rx]
      rfl
    | true =>
      rw [z] at nm
      have e : due s r = (flush s.W.length (put s r), ("taken" : Str)) := by unfold due; rw [if_neg hk, z]; rfl
      rw [e]
      have hp := putL_ok (r := r) h hr (by omega)
      have mp : xMeth "Log" "put" f_Log_put (pNm 0) (nsCons (nD (eV 1)) nsNil) [.own (some 0) (LogW s), .val (rwD r), .und] = some ([.own (some 0) (LogW (put s r)), .val (rwD r), .und], .d .none) :=
        (meth_at (i := 0) (p := []) (fl := LF) (us := [.d (rwD r)]) (ds := [rwD r]) rfl rfl fx_put rfl rfl hp).trans rfl
      have no := hi.no u hm z
      have pq : xPopQ2 (pF "Log" "kept" (pNm 0)) (aCons (eTup (aCons (e2 gIxS (eV 1) (eC (.int 0))) (aCons (e2 gIxS (eV 1) (eC (.int 1))) aNil))) (aCons (eC .none) aNil)) [.own (some 0) (LogW (put s r)), .val (rwD r), .und] =
          some ([.own (some 0) (LogW (put s r)), .val (rwD r), .und], .d .none) := by
        unfold xPopQ2
        rw [kept_pl, ka2]
        show (if okK (kyD r) = true then (match kIx (s.W.map kyD) (kyD r) with | some j => _ | none => some (_, T.d .none)) else none) = _
        rw [if_pos (okK_ky r), kIx_no no]
      have hs := h.put hr
      have fr : nMeth "Log" "first_ready" f_Log_first_ready (rN 0) nsNil [.own (some 0) (LogW (put s r)), .val (rwD r), .und] = some (.d (keyO (fst (put s r).many (put s r).W))) :=
        (nMeth_at (fl := LF) rfl fx_first rfl).trans (first_ok hs)
      have wh : whileF L_Log_take_0 L_Log_take_1 1000 (envT (put s r) (rwD r) (keyO (fst (put s r).many (put s r).W))) = .nx (envT (flush s.W.length (put s r)) (rwD r) .none) :=
        more_fuel _ _ (take_while (rwD r) s.W.length (put s r) hs (Nat.le_refl _) (by unfold put; simp only [List.length_append, List.length_singleton]; omega)) 1000 (by omega)
      have wh2 : whileF L_Log_take_0 L_Log_take_1 1000 [.own (some 0) (LogW (put s r)), .val (rwD r), .val (keyO (fst (put s r).many (put s r).W))] = .nx (envT (flush s.W.length (put s r)) (rwD r) .none) := wh
      simp only [ev_seq, ev_if, first, ev_if_f, ev_nil, ev_seq_nx, ev_tNot, ev_tB, ev_rLeaf, nm, ev_oLeaf, ev_asB, ev_ms, Bool.not_true, ev_dropX, mp, ev_oDropX, pq, ev_set, fr, ev_oset, ev_ss, ev_s0, ev_while, wh2, ev_retX, ev_xN, ev_nD, ev_C, ev_oRetX, ev_seq_rx]
      rfl
end DL
set_option Elab.async false
set_option linter.all false
set_option maxRecDepth 100000
set_option maxHeartbeats 4000000
namespace DL
open PySem PySem.Spec L2
theorem leAll_iff : ∀ (ms cs : List Int), ms.length = cs.length → (leAll ms cs = true ↔ ∀ k, k < ms.length → cs.getD k 0 ≤ ms.getD k 0)
  | [], cs, _ => ⟨fun _ k h => absurd h (Nat.not_lt_zero _), fun _ => by cases cs <;> rfl⟩
  | m :: ms, [], h => by cases h
  | m :: ms, c :: cs, h => by
    have ih := leAll_iff ms cs (by simpa using h)
    show (decide (c ≤ m) && leAll ms cs) = true ↔ _
    rw [Bool.and_eq_true, decide_eq_true_eq, ih]
    constructor
    · rintro ⟨h1, h2⟩ k hk
      cases k with
      | zero => simpa using h1
      | succ k => simpa using h2 k (by simpa using hk)
    · intro h2
      exact ⟨by simpa using h2 0 (by simp), fun k hk => by simpa using h2 (k + 1) (by simpa using hk)⟩
def ilT (l : List Int) : T := .n .l ((l.map PyData.int).map T.d)
def tkT (tk : List Rw) : T := .n .l ((tk.map rwD).map T.d)
theorem il_flat {l : List Int} : flatV1 (ilT l) = some (.list (l.map .int)) := ev_flatV1
theorem tk_flat {l : List Rw} : flatV1 (tkT l) = some (.list (l.map rwD)) := ev_flatV1
theorem intD_at {l : List Int} {k : Int} (h0 : 0 ≤ k) (h1 : k < l.length) : atI (l.map PyData.int) k = some (.int (l.getD k.toNat 0)) := by
  rw [ev_atm h0 h1, List.getElem?_eq_getElem (by omega)]
  simp [List.getD, List.getElem?_eq_getElem (show k.toNat < l.length by omega)]
theorem lay_ints (ns : List Int) : PyData.canLayAll0 (ns.map PyData.int) = true := layAll_map PyData.int (fun _ => rfl) ns
theorem dep_ints (ns : List Int) : PyData.depthAll (ns.map PyData.int) ≤ 0 := depthAll_mapD PyData.int (fun _ => Nat.le_refl _) ns
theorem noL_ints : ∀ ns : List Int, noLs (ns.map PyData.int) = true
  | [] => rfl
  | n :: ns => by
    show (noL (.int n) && noLs (ns.map PyData.int)) = true
    rw [noL_ints ns]; rfl
theorem lay_rw {n : Nat} {r : Rw} (h : RwOk n r) : (rwD r).canLay0 = true ∧ (rwD r).depth ≤ 2 := by
  unfold rwD rowD
  obtain ⟨_, _, _, l, d, _⟩ := h
  have := dep_ints r.cs
  refine ⟨by simp only [PyData.canLay0, PyData.canLayAll0, lay_ints, l, Bool.and_self, Bool.and_true, Bool.true_and], ?_⟩
  simp only [PyData.depth, PyData.depthAll]
  omega
theorem lay_rws {n : Nat} : ∀ {rs : List Rw}, (∀ r ∈ rs, RwOk n r) → PyData.canLayAll0 (rs.map rwD) = true ∧ PyData.depthAll (rs.map rwD) ≤ 2
  | [], _ => ⟨by simp only [List.map_nil, PyData.canLayAll0], Nat.zero_le _⟩
  | r :: rs, h => by
    obtain ⟨h1, h2⟩ := lay_rw (h r (List.mem_cons_self ..))
    obtain ⟨h3, h4⟩ := lay_rws fun r' hr' => h r' (List.mem_cons_of_mem _ hr')
    rw [List.map_cons]
    exact ⟨by simp only [PyData.canLayAll0, h1, h3, Bool.and_self], by simp only [PyData.depthAll]; omega⟩
theorem noL_rw {n : Nat} {r : Rw} (h : RwOk n r) : noL (rwD r) = true := by
  show (noL (.int r.h) && (noL (.int r.k) && (noL (.tuple (r.cs.map .int)) && (noL r.dd && true)))) = true
  have e : noL (.tuple (r.cs.map .int)) = true := noL_ints r.cs
  rw [e, h.2.2.2.2.2.1]; rfl
theorem noT_ds : ∀ ds : List D, (∀ d ∈ ds, noL d = true) → noTs (ds.map T.d) = true
  | [], _ => rfl
  | d :: ds, h => by
    show (noT (.d d) && noTs (ds.map T.d)) = true
    rw [noT_ds ds fun x hx => h x (List.mem_cons_of_mem _ hx)]
    show (noL d && true) = true
    rw [h d List.mem_cons_self]; rfl
theorem lay_kys : ∀ l : List Rw, PyData.canLayAll0 (l.map kyD) = true ∧ PyData.depthAll (l.map kyD) ≤ 1
  | [] => ⟨by simp only [List.map_nil, PyData.canLayAll0], Nat.zero_le _⟩
  | r :: l => by
    obtain ⟨h3, h4⟩ := lay_kys l
    rw [List.map_cons]
    refine ⟨?_, ?_⟩
    · simp only [PyData.canLayAll0, h3, kyD, PyData.canLay0, Bool.and_self]
    · simp only [PyData.depthAll, kyD, PyData.depth]; omega
def kysT (l : List Rw) : T := .n .l ((l.map kyD).map T.d)
theorem rows_eq {n : Nat} {s : St} (h : StOk n s) : f_Log_rows [LogW s] = some (tkT s.tk) := by
  refine (fe_Log_rows _ _).trans ?_
  show outT (b_Log_rows [.ro true (LogW s)]) = _
  unfold b_Log_rows
  have e : oRF (some (LogW s)) "Log" "taken" = some (.n .l ((s.tk.map rwD).map T.d)) := by
    show oRF (some (.n (.o "Log" LF) _)) "Log" "taken" = _
    rw [ev_oRF, fx_taken]; rfl
  simp only [ev_bs, ev_bn, ev_ms, ev_mn, ev_g0, ev_gs, ev_s0, ev_ss, ev_bn1, ev_bn2, ev_seq, ev_seq_nx, ev_seq_rt, ev_seq_bk, ev_seq_ct, ev_nil, ev_brk, ev_cnt, ev_if, ev_if_t, ev_if_f, ev_set, ev_oset, ev_setL, ev_osetL, ev_drop, ev_odrop, ev_ret, ev_oret, ev_retN, ev_retL, ev_oretL, ev_orun, ev_orunN, ev_orunN_nx, ev_fz, ev_fz_l, ev_fz_v, ev_app, ev_app_s, ev_clear, ev_clear_s, ev_oNx, ev_asg, ev_asg_s, ev_par, ev_par_s, ev_aug, ev_aug_s, ev_setIx, ev_setIx_s, ev_augIx, ev_dictN, ev_notInN, ev_oNotInN, ev_putN, ev_oPutN, ev_for, ev_ofor, ev_V, ev_L, ev_B, ev_rdV, ev_rdLv, ev_rdLl, ev_rdBv, ev_rdBb, ev_C, ev_e2, ev_o2, ev_e1, ev_e3, ev_o3, ev_pN, ev_pS, ev_oPS, ev_aNil, ev_aCons, ev_oCons, ev_tup, ev_lst, ev_oLst, ev_scal, ev_scal_i, ev_scal_s, ev_scal_b, ev_neg, ev_oNeg, ev_tB, ev_asB, ev_tNot, ev_tAnd, ev_tOr, ev_oAnd_t, ev_oAnd_f, ev_oOr_t, ev_oOr_f, ev_eAnd, ev_eOr, ev_oAndD_t, ev_oAndD_f, ev_oOrD_t, ev_oOrD_f, ev_eNot, ev_oNot, ev_isi, ev_isi_ii, ev_isi_ib, ev_isi_il, ev_isi_it, ev_isi_is, ev_isi_ll, ev_isi_lt, ev_isi_li, ev_isi_lb, ev_isi_tt, ev_isi_tl, ev_isi_ss, ev_isi_bb, ev_isi_bi, ev_isN, ev_notN, ev_oIsN_n, ev_oIsN_i, ev_oIsN_l, ev_oIsN_t, ev_oNotN_n, ev_oNotN_i, ev_oNotN_l, ev_oNotN_t, ev_rev, ev_gRev, ev_iAny, ev_oAny_l, ev_oAny_t, ev_iSeqB, ev_oSeqB, ev_iEnum, ev_oEnum, ev_iZip, ev_oZip_ll, ev_oZip_tt, ev_oZip_lt, ev_oZip_tl, ev_iRng1, ev_rng1_s, ev_iRng2, ev_rng2_s, ev_tgN, ev_tgNil, ev_tgCons, ev_tgT, ev_wipe_nil, ev_wipe_cons, ev_lc, ev_oLc, ev_add, ev_addIS, ev_add_ll, ev_add_tt, ev_addL, ev_repL, ev_rep, ev_sub, ev_mul, ev_mod, ev_div, ev_modA, ev_divA, ev_pow, ev_lt, ev_le, ev_gt, ev_ge, ev_eq, ev_ne, ev_eqs, ev_nes, ev_eqb, ev_neb, ev_len, ev_lenT, ev_list, ev_listT, ev_tuple, ev_tupleT, ev_int, ev_intb, ev_sum, ev_sum0, ev_max2, ev_min2, ev_sl, ev_slT, ev_slL, ev_slB, ev_divAZ, ev_divZ, ev_onNx, ev_while, ev_eq_li, ev_ne_li, ev_eq_self, ev_ne_self, ev_eq_selfT, ev_ne_selfT, ev_ne_nil, ev_eq_nil, ev_sorted_i, ev_listRg, ev_oListRg, ev_in_ii, ev_thaw, ev_oThaw, ev_flatO, ev_tThaw, ev_otThaw, ev_move, ev_oMove, ev_iEnumG, ev_oEnumG_l, ev_oEnumG_t, ev_gNotB, ev_nD, ev_nL, ev_oNL, ev_xN, ev_nsNil, ev_nsCons, ev_oNs, ev_nDictQ, ev_nDictK, ev_nLst, ev_nTup, ev_toC_d, ev_toC_n, ev_setX, ev_oSetX, ev_setN, ev_oSetN, ev_dropX, ev_oDropX, ev_retX, ev_oRetX, ev_retXN, ev_seq_rx, ev_ifX, ev_oIfX_t, ev_oIfX_f, ev_oTxB, ev_txCmp, ev_oTxC, ev_txP, ev_txNot, ev_oTxN, ev_pNm, ev_nodeAt, ev_oNode, ev_sub0, ev_subS, ev_putAt, ev_oPutA, ev_put0, ev_putS, ev_oTp, ev_rN, ev_cell_own, ev_cell_ro, ev_cell_val, ev_cell_lst, ev_roN, ev_oRo, ev_rF, ev_oRF, ev_rI, ev_oRI, ev_rLeaf, ev_oLeaf, ev_rFlat, ev_rView, ev_flatV1, ev_flatV1d, ev_eOw, ev_oEow, ev_fldP, ev_ixP, ev_nd1, ev_nd2, decide_true, decide_false, List.nil_append, List.cons_append, ev_ix, ev_ixT, ev_ixB, ev_ixBT, e, ev_flatV1]
  show (if noT (tkT s.tk) = true then some (tkT s.tk) else none) = _
  rw [if_pos]
  exact noT_ds _ fun d hd => by
    obtain ⟨r, hr, rfl⟩ := List.mem_map.mp hd
    exact noL_rw (h.tk r hr)
theorem waiting_eq {s : St} : f_Log_waiting [LogW s] = some (kysT (srt s.W)) := by
  refine (fe_Log_waiting _ _).trans ?_
  show outT (b_Log_waiting [.ro true (LogW s)]) = _
  unfold b_Log_waiting
  have es : rSort (rF "Log" "kept" (rN 0)) [.ro true (LogW s)] = some (.list ((srt s.W).map kyD)) := rSort_at (by simp only [ev_bs, ev_bn, ev_ms, ev_mn, ev_g0, ev_gs, ev_s0, ev_ss, ev_bn1, ev_bn2, ev_seq, ev_seq_nx, ev_seq_rt, ev_seq_bk, ev_seq_ct, ev_nil, ev_brk, ev_cnt, ev_if, ev_if_t, ev_if_f, ev_set, ev_oset, ev_setL, ev_osetL, ev_drop, ev_odrop, ev_ret, ev_oret, ev_retN, ev_retL, ev_oretL, ev_orun, ev_orunN, ev_orunN_nx, ev_fz, ev_fz_l, ev_fz_v, ev_app, ev_app_s, ev_clear, ev_clear_s, ev_oNx, ev_asg, ev_asg_s, ev_par, ev_par_s, ev_aug, ev_aug_s, ev_setIx, ev_setIx_s, ev_augIx, ev_dictN, ev_notInN, ev_oNotInN, ev_putN, ev_oPutN, ev_for, ev_ofor, ev_V, ev_L, ev_B, ev_rdV, ev_rdLv, ev_rdLl, ev_rdBv, ev_rdBb, ev_C, ev_e2, ev_o2, ev_e1, ev_e3, ev_o3, ev_pN, ev_pS, ev_oPS, ev_aNil, ev_aCons, ev_oCons, ev_tup, ev_lst, ev_oLst, ev_scal, ev_scal_i, ev_scal_s, ev_scal_b, ev_neg, ev_oNeg, ev_tB, ev_asB, ev_tNot, ev_tAnd, ev_tOr, ev_oAnd_t, ev_oAnd_f, ev_oOr_t, ev_oOr_f, ev_eAnd, ev_eOr, ev_oAndD_t, ev_oAndD_f, ev_oOrD_t, ev_oOrD_f, ev_eNot, ev_oNot, ev_isi, ev_isi_ii, ev_isi_ib, ev_isi_il, ev_isi_it, ev_isi_is, ev_isi_ll, ev_isi_lt, ev_isi_li, ev_isi_lb, ev_isi_tt, ev_isi_tl, ev_isi_ss, ev_isi_bb, ev_isi_bi, ev_isN, ev_notN, ev_oIsN_n, ev_oIsN_i, ev_oIsN_l, ev_oIsN_t, ev_oNotN_n, ev_oNotN_i, ev_oNotN_l, ev_oNotN_t, ev_rev, ev_gRev, ev_iAny, ev_oAny_l, ev_oAny_t, ev_iSeqB, ev_oSeqB, ev_iEnum, ev_oEnum, ev_iZip, ev_oZip_ll, ev_oZip_tt, ev_oZip_lt, ev_oZip_tl, ev_iRng1, ev_rng1_s, ev_iRng2, ev_rng2_s, ev_tgN, ev_tgNil, ev_tgCons, ev_tgT, ev_wipe_nil, ev_wipe_cons, ev_lc, ev_oLc, ev_add, ev_addIS, ev_add_ll, ev_add_tt, ev_addL, ev_repL, ev_rep, ev_sub, ev_mul, ev_mod, ev_div, ev_modA, ev_divA, ev_pow, ev_lt, ev_le, ev_gt, ev_ge, ev_eq, ev_ne, ev_eqs, ev_nes, ev_eqb, ev_neb, ev_len, ev_lenT, ev_list, ev_listT, ev_tuple, ev_tupleT, ev_int, ev_intb, ev_sum, ev_sum0, ev_max2, ev_min2, ev_sl, ev_slT, ev_slL, ev_slB, ev_divAZ, ev_divZ, ev_onNx, ev_while, ev_eq_li, ev_ne_li, ev_eq_self, ev_ne_self, ev_eq_selfT, ev_ne_selfT, ev_ne_nil, ev_eq_nil, ev_sorted_i, ev_listRg, ev_oListRg, ev_in_ii, ev_thaw, ev_oThaw, ev_flatO, ev_tThaw, ev_otThaw, ev_move, ev_oMove, ev_iEnumG, ev_oEnumG_l, ev_oEnumG_t, ev_gNotB, ev_nD, ev_nL, ev_oNL, ev_xN, ev_nsNil, ev_nsCons, ev_oNs, ev_nDictQ, ev_nDictK, ev_nLst, ev_nTup, ev_toC_d, ev_toC_n, ev_setX, ev_oSetX, ev_setN, ev_oSetN, ev_dropX, ev_oDropX, ev_retX, ev_oRetX, ev_retXN, ev_seq_rx, ev_ifX, ev_oIfX_t, ev_oIfX_f, ev_oTxB, ev_txCmp, ev_oTxC, ev_txP, ev_txNot, ev_oTxN, ev_pNm, ev_nodeAt, ev_oNode, ev_sub0, ev_subS, ev_putAt, ev_oPutA, ev_put0, ev_putS, ev_oTp, ev_rN, ev_cell_own, ev_cell_ro, ev_cell_val, ev_cell_lst, ev_roN, ev_oRo, ev_rF, ev_oRF, ev_rI, ev_oRI, ev_rLeaf, ev_oLeaf, ev_rFlat, ev_rView, ev_flatV1, ev_flatV1d, ev_eOw, ev_oEow, ev_fldP, ev_ixP, ev_nd1, ev_nd2, decide_true, decide_false, List.nil_append, List.cons_append, ev_ix, ev_ixT, ev_ixB, ev_ixBT, LogW_kept])
  simp only [ev_bs, ev_bn, ev_ms, ev_mn, ev_g0, ev_gs, ev_s0, ev_ss, ev_bn1, ev_bn2, ev_seq, ev_seq_nx, ev_seq_rt, ev_seq_bk, ev_seq_ct, ev_nil, ev_brk, ev_cnt, ev_if, ev_if_t, ev_if_f, ev_set, ev_oset, ev_setL, ev_osetL, ev_drop, ev_odrop, ev_ret, ev_oret, ev_retN, ev_retL, ev_oretL, ev_orun, ev_orunN, ev_orunN_nx, ev_fz, ev_fz_l, ev_fz_v, ev_app, ev_app_s, ev_clear, ev_clear_s, ev_oNx, ev_asg, ev_asg_s, ev_par, ev_par_s, ev_aug, ev_aug_s, ev_setIx, ev_setIx_s, ev_augIx, ev_dictN, ev_notInN, ev_oNotInN, ev_putN, ev_oPutN, ev_for, ev_ofor, ev_V, ev_L, ev_B, ev_rdV, ev_rdLv, ev_rdLl, ev_rdBv, ev_rdBb, ev_C, ev_e2, ev_o2, ev_e1, ev_e3, ev_o3, ev_pN, ev_pS, ev_oPS, ev_aNil, ev_aCons, ev_oCons, ev_tup, ev_lst, ev_oLst, ev_scal, ev_scal_i, ev_scal_s, ev_scal_b, ev_neg, ev_oNeg, ev_tB, ev_asB, ev_tNot, ev_tAnd, ev_tOr, ev_oAnd_t, ev_oAnd_f, ev_oOr_t, ev_oOr_f, ev_eAnd, ev_eOr, ev_oAndD_t, ev_oAndD_f, ev_oOrD_t, ev_oOrD_f, ev_eNot, ev_oNot, ev_isi, ev_isi_ii, ev_isi_ib, ev_isi_il, ev_isi_it, ev_isi_is, ev_isi_ll, ev_isi_lt, ev_isi_li, ev_isi_lb, ev_isi_tt, ev_isi_tl, ev_isi_ss, ev_isi_bb, ev_isi_bi, ev_isN, ev_notN, ev_oIsN_n, ev_oIsN_i, ev_oIsN_l, ev_oIsN_t, ev_oNotN_n, ev_oNotN_i, ev_oNotN_l, ev_oNotN_t, ev_rev, ev_gRev, ev_iAny, ev_oAny_l, ev_oAny_t, ev_iSeqB, ev_oSeqB, ev_iEnum, ev_oEnum, ev_iZip, ev_oZip_ll, ev_oZip_tt, ev_oZip_lt, ev_oZip_tl, ev_iRng1, ev_rng1_s, ev_iRng2, ev_rng2_s, ev_tgN, ev_tgNil, ev_tgCons, ev_tgT, ev_wipe_nil, ev_wipe_cons, ev_lc, ev_oLc, ev_add, ev_addIS, ev_add_ll, ev_add_tt, ev_addL, ev_repL, ev_rep, ev_sub, ev_mul, ev_mod, ev_div, ev_modA, ev_divA, ev_pow, ev_lt, ev_le, ev_gt, ev_ge, ev_eq, ev_ne, ev_eqs, ev_nes, ev_eqb, ev_neb, ev_len, ev_lenT, ev_list, ev_listT, ev_tuple, ev_tupleT, ev_int, ev_intb, ev_sum, ev_sum0, ev_max2, ev_min2, ev_sl, ev_slT, ev_slL, ev_slB, ev_divAZ, ev_divZ, ev_onNx, ev_while, ev_eq_li, ev_ne_li, ev_eq_self, ev_ne_self, ev_eq_selfT, ev_ne_selfT, ev_ne_nil, ev_eq_nil, ev_sorted_i, ev_listRg, ev_oListRg, ev_in_ii, ev_thaw, ev_oThaw, ev_flatO, ev_tThaw, ev_otThaw, ev_move, ev_oMove, ev_iEnumG, ev_oEnumG_l, ev_oEnumG_t, ev_gNotB, ev_nD, ev_nL, ev_oNL, ev_xN, ev_nsNil, ev_nsCons, ev_oNs, ev_nDictQ, ev_nDictK, ev_nLst, ev_nTup, ev_toC_d, ev_toC_n, ev_setX, ev_oSetX, ev_setN, ev_oSetN, ev_dropX, ev_oDropX, ev_retX, ev_oRetX, ev_retXN, ev_seq_rx, ev_ifX, ev_oIfX_t, ev_oIfX_f, ev_oTxB, ev_txCmp, ev_oTxC, ev_txP, ev_txNot, ev_oTxN, ev_pNm, ev_nodeAt, ev_oNode, ev_sub0, ev_subS, ev_putAt, ev_oPutA, ev_put0, ev_putS, ev_oTp, ev_rN, ev_cell_own, ev_cell_ro, ev_cell_val, ev_cell_lst, ev_roN, ev_oRo, ev_rF, ev_oRF, ev_rI, ev_oRI, ev_rLeaf, ev_oLeaf, ev_rFlat, ev_rView, ev_flatV1, ev_flatV1d, ev_eOw, ev_oEow, ev_fldP, ev_ixP, ev_nd1, ev_nd2, decide_true, decide_false, List.nil_append, List.cons_append, ev_ix, ev_ixT, ev_ixB, ev_ixBT, es]
  show (if noT (kysT (srt s.W)) = true then some (kysT (srt s.W)) else none) = _
  rw [if_pos]
  exact noT_ds _ fun d hd => by
    obtain ⟨r, hr, rfl⟩ := List.mem_map.mp hd
    rfl
theorem counts_eq {s : St} : f_Log_counts [LogW s] = some (.d (.tuple (s.many.map .int))) := by
  refine (fe_Log_counts _ _).trans ?_
  show outT (b_Log_counts [.ro true (LogW s)]) = _
  unfold b_Log_counts
  simp only [ev_bs, ev_bn, ev_ms, ev_mn, ev_g0, ev_gs, ev_s0, ev_ss, ev_bn1, ev_bn2, ev_seq, ev_seq_nx, ev_seq_rt, ev_seq_bk, ev_seq_ct, ev_nil, ev_brk, ev_cnt, ev_if, ev_if_t, ev_if_f, ev_set, ev_oset, ev_setL, ev_osetL, ev_drop, ev_odrop, ev_ret, ev_oret, ev_retN, ev_retL, ev_oretL, ev_orun, ev_orunN, ev_orunN_nx, ev_fz, ev_fz_l, ev_fz_v, ev_app, ev_app_s, ev_clear, ev_clear_s, ev_oNx, ev_asg, ev_asg_s, ev_par, ev_par_s, ev_aug, ev_aug_s, ev_setIx, ev_setIx_s, ev_augIx, ev_dictN, ev_notInN, ev_oNotInN, ev_putN, ev_oPutN, ev_for, ev_ofor, ev_V, ev_L, ev_B, ev_rdV, ev_rdLv, ev_rdLl, ev_rdBv, ev_rdBb, ev_C, ev_e2, ev_o2, ev_e1, ev_e3, ev_o3, ev_pN, ev_pS, ev_oPS, ev_aNil, ev_aCons, ev_oCons, ev_tup, ev_lst, ev_oLst, ev_scal, ev_scal_i, ev_scal_s, ev_scal_b, ev_neg, ev_oNeg, ev_tB, ev_asB, ev_tNot, ev_tAnd, ev_tOr, ev_oAnd_t, ev_oAnd_f, ev_oOr_t, ev_oOr_f, ev_eAnd, ev_eOr, ev_oAndD_t, ev_oAndD_f, ev_oOrD_t, ev_oOrD_f, ev_eNot, ev_oNot, ev_isi, ev_isi_ii, ev_isi_ib, ev_isi_il, ev_isi_it, ev_isi_is, ev_isi_ll, ev_isi_lt, ev_isi_li, ev_isi_lb, ev_isi_tt, ev_isi_tl, ev_isi_ss, ev_isi_bb, ev_isi_bi, ev_isN, ev_notN, ev_oIsN_n, ev_oIsN_i, ev_oIsN_l, ev_oIsN_t, ev_oNotN_n, ev_oNotN_i, ev_oNotN_l, ev_oNotN_t, ev_rev, ev_gRev, ev_iAny, ev_oAny_l, ev_oAny_t, ev_iSeqB, ev_oSeqB, ev_iEnum, ev_oEnum, ev_iZip, ev_oZip_ll, ev_oZip_tt, ev_oZip_lt, ev_oZip_tl, ev_iRng1, ev_rng1_s, ev_iRng2, ev_rng2_s, ev_tgN, ev_tgNil, ev_tgCons, ev_tgT, ev_wipe_nil, ev_wipe_cons, ev_lc, ev_oLc, ev_add, ev_addIS, ev_add_ll, ev_add_tt, ev_addL, ev_repL, ev_rep, ev_sub, ev_mul, ev_mod, ev_div, ev_modA, ev_divA, ev_pow, ev_lt, ev_le, ev_gt, ev_ge, ev_eq, ev_ne, ev_eqs, ev_nes, ev_eqb, ev_neb, ev_len, ev_lenT, ev_list, ev_listT, ev_tuple, ev_tupleT, ev_int, ev_intb, ev_sum, ev_sum0, ev_max2, ev_min2, ev_sl, ev_slT, ev_slL, ev_slB, ev_divAZ, ev_divZ, ev_onNx, ev_while, ev_eq_li, ev_ne_li, ev_eq_self, ev_ne_self, ev_eq_selfT, ev_ne_selfT, ev_ne_nil, ev_eq_nil, ev_sorted_i, ev_listRg, ev_oListRg, ev_in_ii, ev_thaw, ev_oThaw, ev_flatO, ev_tThaw, ev_otThaw, ev_move, ev_oMove, ev_iEnumG, ev_oEnumG_l, ev_oEnumG_t, ev_gNotB, ev_nD, ev_nL, ev_oNL, ev_xN, ev_nsNil, ev_nsCons, ev_oNs, ev_nDictQ, ev_nDictK, ev_nLst, ev_nTup, ev_toC_d, ev_toC_n, ev_setX, ev_oSetX, ev_setN, ev_oSetN, ev_dropX, ev_oDropX, ev_retX, ev_oRetX, ev_retXN, ev_seq_rx, ev_ifX, ev_oIfX_t, ev_oIfX_f, ev_oTxB, ev_txCmp, ev_oTxC, ev_txP, ev_txNot, ev_oTxN, ev_pNm, ev_nodeAt, ev_oNode, ev_sub0, ev_subS, ev_putAt, ev_oPutA, ev_put0, ev_putS, ev_oTp, ev_rN, ev_cell_own, ev_cell_ro, ev_cell_val, ev_cell_lst, ev_roN, ev_oRo, ev_rF, ev_oRF, ev_rI, ev_oRI, ev_rLeaf, ev_oLeaf, ev_rFlat, ev_rView, ev_flatV1, ev_flatV1d, ev_eOw, ev_oEow, ev_fldP, ev_ixP, ev_nd1, ev_nd2, decide_true, decide_false, List.nil_append, List.cons_append, ev_ix, ev_ixT, ev_ixB, ev_ixBT, LogW_many, ev_flatV1]
  show (if noL (.tuple (s.many.map .int)) = true then some (T.d (.tuple (s.many.map .int))) else none) = _
  rw [if_pos (show noL (.tuple (s.many.map .int)) = true from noL_ints s.many)]
theorem fx_rows : fIx "rows" LF = none := by decide +kernel
theorem fx_waiting : fIx "waiting" LF = none := by decide +kernel
theorem fx_counts : fIx "counts" LF = none := by decide +kernel
/-- the law's own look -/
theorem l_keeps_loop {n : Nat} (hn : n ≤ 1000) (c1 : C) : ∀ (rs : List Rw) (many : List Int) (x3 x4 x5 x6 : C), many.length = n → (∀ r ∈ rs, RwOk n r) →
    ∃ e, forF (tgT (tgCons (tgN 3) (tgCons (tgN 4) (tgCons (tgN 5) (tgCons (tgN 6) tgNil))))) L_l_keeps_0 (rs.map rwD) [.val (.int (n : Nat)), c1, .lst (many.map .int), x3, x4, x5, x6, .und] = if keepsB many rs = true then .nx e else .rt (.bool false)
  | [], many, x3, x4, x5, x6, _, _ => ⟨_, rfl⟩
  | r :: rs, many, x3, x4, x5, x6, hm, hr => by
    obtain ⟨h0, h1, h2, _⟩ := hr r (List.mem_cons_self ..)
    have hh : r.h.toNat < many.length := by omega
    have am : atI (many.map PyData.int) r.h = some (.int (many.getD r.h.toNat 0)) := by
      rw [ev_atm h0 (by omega), List.getElem?_eq_getElem hh]
      simp [List.getD, List.getElem?_eq_getElem hh]
    have rng0 := ev_rng1_s (k := (n : Int)) (by omega) (by omega)
    have lc : lcF (tgN 7) (tB (e2 gGt (e2 gIxS (eV 5) (eV 7)) (e2 gIxS (eL 2) (eV 7)))) (eV 7) [.val (.int (n : Nat)), c1, .lst (many.map .int), .val (.int r.h), .val (.int r.k), .val (.tuple (r.cs.map .int)), .val r.dd, .und] (rng 0 n) =
        some (((List.range n).filter fun k => decide (many.getD k 0 < r.cs.getD k 0)).map fun k => .int (0 + (k : Nat))) := by
      rw [rng_map]
      refine lcF_filt _ _ _ _ fun k hk => ?_
      have hk : k < n := List.mem_range.mp hk
      have a1 : atI (r.cs.map PyData.int) (0 + (k : Int)) = some (.int (r.cs.getD k 0)) := by
        rw [ev_atm (by omega) (by omega)]
        have e : (0 + (k : Int)).toNat = k := by omega
        rw [e, List.getElem?_eq_getElem (by omega)]
        simp [List.getD, List.getElem?_eq_getElem (show k < r.cs.length by omega)]
      have a2 : atI (many.map PyData.int) (0 + (k : Int)) = some (.int (many.getD k 0)) := by
        rw [ev_atm (by omega) (by omega)]
        have e : (0 + (k : Int)).toNat = k := by omega
        rw [e, List.getElem?_eq_getElem (by omega)]
        simp [List.getD, List.getElem?_eq_getElem (show k < many.length by omega)]
      refine ⟨_, rfl, ?_, fun _ => rfl⟩
      simp only [ev_bs, ev_bn, ev_ms, ev_mn, ev_g0, ev_gs, ev_s0, ev_ss, ev_bn1, ev_bn2, ev_seq, ev_seq_nx, ev_seq_rt, ev_seq_bk, ev_seq_ct, ev_nil, ev_brk, ev_cnt, ev_if, ev_if_t, ev_if_f, ev_set, ev_oset, ev_setL, ev_osetL, ev_drop, ev_odrop, ev_ret, ev_oret, ev_retN, ev_retL, ev_oretL, ev_orun, ev_orunN, ev_orunN_nx, ev_fz, ev_fz_l, ev_fz_v, ev_app, ev_app_s, ev_clear, ev_clear_s, ev_oNx, ev_asg, ev_asg_s, ev_par, ev_par_s, ev_aug, ev_aug_s, ev_setIx, ev_setIx_s, ev_augIx, ev_dictN, ev_notInN, ev_oNotInN, ev_putN, ev_oPutN, ev_for, ev_ofor, ev_V, ev_L, ev_B, ev_rdV, ev_rdLv, ev_rdLl, ev_rdBv, ev_rdBb, ev_C, ev_e2, ev_o2, ev_e1, ev_e3, ev_o3, ev_pN, ev_pS, ev_oPS, ev_aNil, ev_aCons, ev_oCons, ev_tup, ev_lst, ev_oLst, ev_scal, ev_scal_i, ev_scal_s, ev_scal_b, ev_neg, ev_oNeg, ev_tB, ev_asB, ev_tNot, ev_tAnd, ev_tOr, ev_oAnd_t, ev_oAnd_f, ev_oOr_t, ev_oOr_f, ev_eAnd, ev_eOr, ev_oAndD_t, ev_oAndD_f, ev_oOrD_t, ev_oOrD_f, ev_eNot, ev_oNot, ev_isi, ev_isi_ii, ev_isi_ib, ev_isi_il, ev_isi_it, ev_isi_is, ev_isi_ll, ev_isi_lt, ev_isi_li, ev_isi_lb, ev_isi_tt, ev_isi_tl, ev_isi_ss, ev_isi_bb, ev_isi_bi, ev_isN, ev_notN, ev_oIsN_n, ev_oIsN_i, ev_oIsN_l, ev_oIsN_t, ev_oNotN_n, ev_oNotN_i, ev_oNotN_l, ev_oNotN_t, ev_rev, ev_gRev, ev_iAny, ev_oAny_l, ev_oAny_t, ev_iSeqB, ev_oSeqB, ev_iEnum, ev_oEnum, ev_iZip, ev_oZip_ll, ev_oZip_tt, ev_oZip_lt, ev_oZip_tl, ev_iRng1, ev_rng1_s, ev_iRng2, ev_rng2_s, ev_tgN, ev_tgNil, ev_tgCons, ev_tgT, ev_wipe_nil, ev_wipe_cons, ev_lc, ev_oLc, ev_add, ev_addIS, ev_add_ll, ev_add_tt, ev_addL, ev_repL, ev_rep, ev_sub, ev_mul, ev_mod, ev_div, ev_modA, ev_divA, ev_pow, ev_lt, ev_le, ev_gt, ev_ge, ev_eq, ev_ne, ev_eqs, ev_nes, ev_eqb, ev_neb, ev_len, ev_lenT, ev_list, ev_listT, ev_tuple, ev_tupleT, ev_int, ev_intb, ev_sum, ev_sum0, ev_max2, ev_min2, ev_sl, ev_slT, ev_slL, ev_slB, ev_divAZ, ev_divZ, ev_onNx, ev_while, ev_eq_li, ev_ne_li, ev_eq_self, ev_ne_self, ev_eq_selfT, ev_ne_selfT, ev_ne_nil, ev_eq_nil, ev_sorted_i, ev_listRg, ev_oListRg, ev_in_ii, ev_thaw, ev_oThaw, ev_flatO, ev_tThaw, ev_otThaw, ev_move, ev_oMove, ev_iEnumG, ev_oEnumG_l, ev_oEnumG_t, ev_gNotB, ev_nD, ev_nL, ev_oNL, ev_xN, ev_nsNil, ev_nsCons, ev_oNs, ev_nDictQ, ev_nDictK, ev_nLst, ev_nTup, ev_toC_d, ev_toC_n, ev_setX, ev_oSetX, ev_setN, ev_oSetN, ev_dropX, ev_oDropX, ev_retX, ev_oRetX, ev_retXN, ev_seq_rx, ev_ifX, ev_oIfX_t, ev_oIfX_f, ev_oTxB, ev_txCmp, ev_oTxC, ev_txP, ev_txNot, ev_oTxN, ev_pNm, ev_nodeAt, ev_oNode, ev_sub0, ev_subS, ev_putAt, ev_oPutA, ev_put0, ev_putS, ev_oTp, ev_rN, ev_cell_own, ev_cell_ro, ev_cell_val, ev_cell_lst, ev_roN, ev_oRo, ev_rF, ev_oRF, ev_rI, ev_oRI, ev_rLeaf, ev_oLeaf, ev_rFlat, ev_rView, ev_flatV1, ev_flatV1d, ev_eOw, ev_oEow, ev_fldP, ev_ixP, ev_nd1, ev_nd2, decide_true, decide_false, List.nil_append, List.cons_append, ev_ix, ev_ixT, ev_ixB, ev_ixBT, a1, a2]
    have ff : (((List.range n).filter fun k => decide (many.getD k 0 < r.cs.getD k 0)).map fun k => PyData.int (0 + (k : Nat))) = ((((List.range n).filter fun k => decide (many.getD k 0 < r.cs.getD k 0)).map fun k => 0 + ((k : Nat) : Int))).map PyData.int := by rw [List.map_map]; rfl
    have fn : decide ((((List.range n).filter fun k => decide (many.getD k 0 < r.cs.getD k 0)).map fun k => 0 + ((k : Nat) : Int)) = []) = leAll many r.cs := by
      rw [Bool.eq_iff_iff, decide_eq_true_eq, List.map_eq_nil_iff, List.filter_eq_nil_iff, leAll_iff _ _ (by omega)]
      constructor
      · intro h k hk
        have := h k (List.mem_range.mpr (by omega))
        rw [decide_eq_true_eq] at this
        omega
      · intro h k hk
        have := h k (by have := List.mem_range.mp hk; omega)
        rw [decide_eq_true_eq]
        omega
    have tgt : tgT (tgCons (tgN 3) (tgCons (tgN 4) (tgCons (tgN 5) (tgCons (tgN 6) tgNil)))) (rwD r) [.val (.int (n : Nat)), c1, .lst (many.map .int), x3, x4, x5, x6, .und] = some [.val (.int (n : Nat)), c1, .lst (many.map .int), .val (.int r.h), .val (.int r.k), .val (.tuple (r.cs.map .int)), .val r.dd, .und] := rfl
    cases hb : readyB many r.h r.k r.cs with
    | true =>
      have hb2 := hb
      unfold readyB at hb2
      rw [Bool.and_eq_true] at hb2
      obtain ⟨hb3, hb4⟩ := hb2
      obtain ⟨e, ih⟩ := l_keeps_loop hn c1 rs (many.set r.h.toNat (many.getD r.h.toNat 0 + 1)) (.val (.int r.h)) (.val (.int r.k)) (.val (.tuple (r.cs.map .int))) (.val r.dd) (by rw [List.length_set]; exact hm) (fun r' hr' => hr r' (List.mem_cons_of_mem _ hr'))
      refine ⟨e, ?_⟩
      have hk : keepsB many (r :: rs) = keepsB (many.set r.h.toNat (many.getD r.h.toNat 0 + 1)) rs := by
        show (readyB many r.h r.k r.cs && _) = _
        rw [hb, Bool.true_and]
      have st : setAt (many.map PyData.int) r.h (.int (many.getD r.h.toNat 0 + 1)) = some ((many.set r.h.toNat (many.getD r.h.toNat 0 + 1)).map .int) := by
        rw [ev_setAt h0 (by rw [List.length_map]; omega), List.map_set]
      rw [hk, ← ih, List.map_cons]
      conv => lhs; unfold forF
      rw [tgt]
      simp only [ev_bs, ev_bn, ev_ms, ev_mn, ev_g0, ev_gs, ev_s0, ev_ss, ev_bn1, ev_bn2, ev_seq, ev_seq_nx, ev_seq_rt, ev_seq_bk, ev_seq_ct, ev_nil, ev_brk, ev_cnt, ev_if, ev_if_t, ev_if_f, ev_set, ev_oset, ev_setL, ev_osetL, ev_drop, ev_odrop, ev_ret, ev_oret, ev_retN, ev_retL, ev_oretL, ev_orun, ev_orunN, ev_orunN_nx, ev_fz, ev_fz_l, ev_fz_v, ev_app, ev_app_s, ev_clear, ev_clear_s, ev_oNx, ev_asg, ev_asg_s, ev_par, ev_par_s, ev_aug, ev_aug_s, ev_setIx, ev_setIx_s, ev_augIx, ev_dictN, ev_notInN, ev_oNotInN, ev_putN, ev_oPutN, ev_for, ev_ofor, ev_V, ev_L, ev_B, ev_rdV, ev_rdLv, ev_rdLl, ev_rdBv, ev_rdBb, ev_C, ev_e2, ev_o2, ev_e1, ev_e3, ev_o3, ev_pN, ev_pS, ev_oPS, ev_aNil, ev_aCons, ev_oCons, ev_tup, ev_lst, ev_oLst, ev_scal, ev_scal_i, ev_scal_s, ev_scal_b, ev_neg, ev_oNeg, ev_tB, ev_asB, ev_tNot, ev_tAnd, ev_tOr, ev_oAnd_t, ev_oAnd_f, ev_oOr_t, ev_oOr_f, ev_eAnd, ev_eOr, ev_oAndD_t, ev_oAndD_f, ev_oOrD_t, ev_oOrD_f, ev_eNot, ev_oNot, ev_isi, ev_isi_ii, ev_isi_ib, ev_isi_il, ev_isi_it, ev_isi_is, ev_isi_ll, ev_isi_lt, ev_isi_li, ev_isi_lb, ev_isi_tt, ev_isi_tl, ev_isi_ss, ev_isi_bb, ev_isi_bi, ev_isN, ev_notN, ev_oIsN_n, ev_oIsN_i, ev_oIsN_l, ev_oIsN_t, ev_oNotN_n, ev_oNotN_i, ev_oNotN_l, ev_oNotN_t, ev_rev, ev_gRev, ev_iAny, ev_oAny_l, ev_oAny_t, ev_iSeqB, ev_oSeqB, ev_iEnum, ev_oEnum, ev_iZip, ev_oZip_ll, ev_oZip_tt, ev_oZip_lt, ev_oZip_tl, ev_iRng1, ev_rng1_s, ev_iRng2, ev_rng2_s, ev_tgN, ev_tgNil, ev_tgCons, ev_tgT, ev_wipe_nil, ev_wipe_cons, ev_lc, ev_oLc, ev_add, ev_addIS, ev_add_ll, ev_add_tt, ev_addL, ev_repL, ev_rep, ev_sub, ev_mul, ev_mod, ev_div, ev_modA, ev_divA, ev_pow, ev_lt, ev_le, ev_gt, ev_ge, ev_eq, ev_ne, ev_eqs, ev_nes, ev_eqb, ev_neb, ev_len, ev_lenT, ev_list, ev_listT, ev_tuple, ev_tupleT, ev_int, ev_intb, ev_sum, ev_sum0, ev_max2, ev_min2, ev_sl, ev_slT, ev_slL, ev_slB, ev_divAZ, ev_divZ, ev_onNx, ev_while, ev_eq_li, ev_ne_li, ev_eq_self, ev_ne_self, ev_eq_selfT, ev_ne_selfT, ev_ne_nil, ev_eq_nil, ev_sorted_i, ev_listRg, ev_oListRg, ev_in_ii, ev_thaw, ev_oThaw, ev_flatO, ev_tThaw, ev_otThaw, ev_move, ev_oMove, ev_iEnumG, ev_oEnumG_l, ev_oEnumG_t, ev_gNotB, ev_nD, ev_nL, ev_oNL, ev_xN, ev_nsNil, ev_nsCons, ev_oNs, ev_nDictQ, ev_nDictK, ev_nLst, ev_nTup, ev_toC_d, ev_toC_n, ev_setX, ev_oSetX, ev_setN, ev_oSetN, ev_dropX, ev_oDropX, ev_retX, ev_oRetX, ev_retXN, ev_seq_rx, ev_ifX, ev_oIfX_t, ev_oIfX_f, ev_oTxB, ev_txCmp, ev_oTxC, ev_txP, ev_txNot, ev_oTxN, ev_pNm, ev_nodeAt, ev_oNode, ev_sub0, ev_subS, ev_putAt, ev_oPutA, ev_put0, ev_putS, ev_oTp, ev_rN, ev_cell_own, ev_cell_ro, ev_cell_val, ev_cell_lst, ev_roN, ev_oRo, ev_rF, ev_oRF, ev_rI, ev_oRI, ev_rLeaf, ev_oLeaf, ev_rFlat, ev_rView, ev_flatV1, ev_flatV1d, ev_eOw, ev_oEow, ev_fldP, ev_ixP, ev_nd1, ev_nd2, decide_true, decide_false, List.nil_append, List.cons_append, ev_ix, ev_ixT, ev_ixB, ev_ixBT, L_l_keeps_0, am, hb3, Bool.not_true, rng0, Int.toNat_natCast, lc, ff, ev_ne_nil, fn, hb4, st]
    | false =>
      have hk : keepsB many (r :: rs) = false := by
        show (readyB many r.h r.k r.cs && _) = _
        rw [hb, Bool.false_and]
      refine ⟨[], ?_⟩
      rw [hk, if_neg (by decide), List.map_cons]
      conv => lhs; unfold forF
      rw [tgt]
      cases hb3 : decide (r.k = many.getD r.h.toNat 0) with
      | false => simp only [ev_bs, ev_bn, ev_ms, ev_mn, ev_g0, ev_gs, ev_s0, ev_ss, ev_bn1, ev_bn2, ev_seq, ev_seq_nx, ev_seq_rt, ev_seq_bk, ev_seq_ct, ev_nil, ev_brk, ev_cnt, ev_if, ev_if_t, ev_if_f, ev_set, ev_oset, ev_setL, ev_osetL, ev_drop, ev_odrop, ev_ret, ev_oret, ev_retN, ev_retL, ev_oretL, ev_orun, ev_orunN, ev_orunN_nx, ev_fz, ev_fz_l, ev_fz_v, ev_app, ev_app_s, ev_clear, ev_clear_s, ev_oNx, ev_asg, ev_asg_s, ev_par, ev_par_s, ev_aug, ev_aug_s, ev_setIx, ev_setIx_s, ev_augIx, ev_dictN, ev_notInN, ev_oNotInN, ev_putN, ev_oPutN, ev_for, ev_ofor, ev_V, ev_L, ev_B, ev_rdV, ev_rdLv, ev_rdLl, ev_rdBv, ev_rdBb, ev_C, ev_e2, ev_o2, ev_e1, ev_e3, ev_o3, ev_pN, ev_pS, ev_oPS, ev_aNil, ev_aCons, ev_oCons, ev_tup, ev_lst, ev_oLst, ev_scal, ev_scal_i, ev_scal_s, ev_scal_b, ev_neg, ev_oNeg, ev_tB, ev_asB, ev_tNot, ev_tAnd, ev_tOr, ev_oAnd_t, ev_oAnd_f, ev_oOr_t, ev_oOr_f, ev_eAnd, ev_eOr, ev_oAndD_t, ev_oAndD_f, ev_oOrD_t, ev_oOrD_f, ev_eNot, ev_oNot, ev_isi, ev_isi_ii, ev_isi_ib, ev_isi_il, ev_isi_it, ev_isi_is, ev_isi_ll, ev_isi_lt, ev_isi_li, ev_isi_lb, ev_isi_tt, ev_isi_tl, ev_isi_ss, ev_isi_bb, ev_isi_bi, ev_isN, ev_notN, ev_oIsN_n, ev_oIsN_i, ev_oIsN_l, ev_oIsN_t, ev_oNotN_n, ev_oNotN_i, ev_oNotN_l, ev_oNotN_t, ev_rev, ev_gRev, ev_iAny, ev_oAny_l, ev_oAny_t, ev_iSeqB, ev_oSeqB, ev_iEnum, ev_oEnum, ev_iZip, ev_oZip_ll, ev_oZip_tt, ev_oZip_lt, ev_oZip_tl, ev_iRng1, ev_rng1_s, ev_iRng2, ev_rng2_s, ev_tgN, ev_tgNil, ev_tgCons, ev_tgT, ev_wipe_nil, ev_wipe_cons, ev_lc, ev_oLc, ev_add, ev_addIS, ev_add_ll, ev_add_tt, ev_addL, ev_repL, ev_rep, ev_sub, ev_mul, ev_mod, ev_div, ev_modA, ev_divA, ev_pow, ev_lt, ev_le, ev_gt, ev_ge, ev_eq, ev_ne, ev_eqs, ev_nes, ev_eqb, ev_neb, ev_len, ev_lenT, ev_list, ev_listT, ev_tuple, ev_tupleT, ev_int, ev_intb, ev_sum, ev_sum0, ev_max2, ev_min2, ev_sl, ev_slT, ev_slL, ev_slB, ev_divAZ, ev_divZ, ev_onNx, ev_while, ev_eq_li, ev_ne_li, ev_eq_self, ev_ne_self, ev_eq_selfT, ev_ne_selfT, ev_ne_nil, ev_eq_nil, ev_sorted_i, ev_listRg, ev_oListRg, ev_in_ii, ev_thaw, ev_oThaw, ev_flatO, ev_tThaw, ev_otThaw, ev_move, ev_oMove, ev_iEnumG, ev_oEnumG_l, ev_oEnumG_t, ev_gNotB, ev_nD, ev_nL, ev_oNL, ev_xN, ev_nsNil, ev_nsCons, ev_oNs, ev_nDictQ, ev_nDictK, ev_nLst, ev_nTup, ev_toC_d, ev_toC_n, ev_setX, ev_oSetX, ev_setN, ev_oSetN, ev_dropX, ev_oDropX, ev_retX, ev_oRetX, ev_retXN, ev_seq_rx, ev_ifX, ev_oIfX_t, ev_oIfX_f, ev_oTxB, ev_txCmp, ev_oTxC, ev_txP, ev_txNot, ev_oTxN, ev_pNm, ev_nodeAt, ev_oNode, ev_sub0, ev_subS, ev_putAt, ev_oPutA, ev_put0, ev_putS, ev_oTp, ev_rN, ev_cell_own, ev_cell_ro, ev_cell_val, ev_cell_lst, ev_roN, ev_oRo, ev_rF, ev_oRF, ev_rI, ev_oRI, ev_rLeaf, ev_oLeaf, ev_rFlat, ev_rView, ev_flatV1, ev_flatV1d, ev_eOw, ev_oEow, ev_fldP, ev_ixP, ev_nd1, ev_nd2, decide_true, decide_false, List.nil_append, List.cons_append, ev_ix, ev_ixT, ev_ixB, ev_ixBT, L_l_keeps_0, am, hb3, Bool.not_false]
      | true =>
        have hb4 : leAll many r.cs = false := by
          unfold readyB at hb
          rw [hb3, Bool.true_and] at hb
          exact hb
        simp only [ev_bs, ev_bn, ev_ms, ev_mn, ev_g0, ev_gs, ev_s0, ev_ss, ev_bn1, ev_bn2, ev_seq, ev_seq_nx, ev_seq_rt, ev_seq_bk, ev_seq_ct, ev_nil, ev_brk, ev_cnt, ev_if, ev_if_t, ev_if_f, ev_set, ev_oset, ev_setL, ev_osetL, ev_drop, ev_odrop, ev_ret, ev_oret, ev_retN, ev_retL, ev_oretL, ev_orun, ev_orunN, ev_orunN_nx, ev_fz, ev_fz_l, ev_fz_v, ev_app, ev_app_s, ev_clear, ev_clear_s, ev_oNx, ev_asg, ev_asg_s, ev_par, ev_par_s, ev_aug, ev_aug_s, ev_setIx, ev_setIx_s, ev_augIx, ev_dictN, ev_notInN, ev_oNotInN, ev_putN, ev_oPutN, ev_for, ev_ofor, ev_V, ev_L, ev_B, ev_rdV, ev_rdLv, ev_rdLl, ev_rdBv, ev_rdBb, ev_C, ev_e2, ev_o2, ev_e1, ev_e3, ev_o3, ev_pN, ev_pS, ev_oPS, ev_aNil, ev_aCons, ev_oCons, ev_tup, ev_lst, ev_oLst, ev_scal, ev_scal_i, ev_scal_s, ev_scal_b, ev_neg, ev_oNeg, ev_tB, ev_asB, ev_tNot, ev_tAnd, ev_tOr, ev_oAnd_t, ev_oAnd_f, ev_oOr_t, ev_oOr_f, ev_eAnd, ev_eOr, ev_oAndD_t, ev_oAndD_f, ev_oOrD_t, ev_oOrD_f, ev_eNot, ev_oNot, ev_isi, ev_isi_ii, ev_isi_ib, ev_isi_il, ev_isi_it, ev_isi_is, ev_isi_ll, ev_isi_lt, ev_isi_li, ev_isi_lb, ev_isi_tt, ev_isi_tl, ev_isi_ss, ev_isi_bb, ev_isi_bi, ev_isN, ev_notN, ev_oIsN_n, ev_oIsN_i, ev_oIsN_l, ev_oIsN_t, ev_oNotN_n, ev_oNotN_i, ev_oNotN_l, ev_oNotN_t, ev_rev, ev_gRev, ev_iAny, ev_oAny_l, ev_oAny_t, ev_iSeqB, ev_oSeqB, ev_iEnum, ev_oEnum, ev_iZip, ev_oZip_ll, ev_oZip_tt, ev_oZip_lt, ev_oZip_tl, ev_iRng1, ev_rng1_s, ev_iRng2, ev_rng2_s, ev_tgN, ev_tgNil, ev_tgCons, ev_tgT, ev_wipe_nil, ev_wipe_cons, ev_lc, ev_oLc, ev_add, ev_addIS, ev_add_ll, ev_add_tt, ev_addL, ev_repL, ev_rep, ev_sub, ev_mul, ev_mod, ev_div, ev_modA, ev_divA, ev_pow, ev_lt, ev_le, ev_gt, ev_ge, ev_eq, ev_ne, ev_eqs, ev_nes, ev_eqb, ev_neb, ev_len, ev_lenT, ev_list, ev_listT, ev_tuple, ev_tupleT, ev_int, ev_intb, ev_sum, ev_sum0, ev_max2, ev_min2, ev_sl, ev_slT, ev_slL, ev_slB, ev_divAZ, ev_divZ, ev_onNx, ev_while, ev_eq_li, ev_ne_li, ev_eq_self, ev_ne_self, ev_eq_selfT, ev_ne_selfT, ev_ne_nil, ev_eq_nil, ev_sorted_i, ev_listRg, ev_oListRg, ev_in_ii, ev_thaw, ev_oThaw, ev_flatO, ev_tThaw, ev_otThaw, ev_move, ev_oMove, ev_iEnumG, ev_oEnumG_l, ev_oEnumG_t, ev_gNotB, ev_nD, ev_nL, ev_oNL, ev_xN, ev_nsNil, ev_nsCons, ev_oNs, ev_nDictQ, ev_nDictK, ev_nLst, ev_nTup, ev_toC_d, ev_toC_n, ev_setX, ev_oSetX, ev_setN, ev_oSetN, ev_dropX, ev_oDropX, ev_retX, ev_oRetX, ev_retXN, ev_seq_rx, ev_ifX, ev_oIfX_t, ev_oIfX_f, ev_oTxB, ev_txCmp, ev_oTxC, ev_txP, ev_txNot, ev_oTxN, ev_pNm, ev_nodeAt, ev_oNode, ev_sub0, ev_subS, ev_putAt, ev_oPutA, ev_put0, ev_putS, ev_oTp, ev_rN, ev_cell_own, ev_cell_ro, ev_cell_val, ev_cell_lst, ev_roN, ev_oRo, ev_rF, ev_oRF, ev_rI, ev_oRI, ev_rLeaf, ev_oLeaf, ev_rFlat, ev_rView, ev_flatV1, ev_flatV1d, ev_eOw, ev_oEow, ev_fldP, ev_ixP, ev_nd1, ev_nd2, decide_true, decide_false, List.nil_append, List.cons_append, ev_ix, ev_ixT, ev_ixB, ev_ixBT, L_l_keeps_0, am, hb3, Bool.not_true, rng0, Int.toNat_natCast, lc, ff, ev_ne_nil, fn, hb4, Bool.not_false]
theorem l_keeps_ok {n : Nat} {rs : List Rw} (hn : n ≤ 1000) (hr : ∀ r ∈ rs, RwOk n r) : f_l_keeps [.int (n : Nat), .list (rs.map rwD)] = some (.bool (keepsB (List.replicate n 0) rs)) := by
  obtain ⟨e, el⟩ := l_keeps_loop hn (.val (.list (rs.map rwD))) rs (List.replicate n 0) .und .und .und .und (List.length_replicate ..) hr
  have hrp := ev_repL (x := .int 0) (n := n) (by omega)
  rw [List.map_replicate] at el
  rw [fe_l_keeps]
  unfold b_l_keeps
  simp only [ev_bs, ev_bn, ev_ms, ev_mn, ev_g0, ev_gs, ev_s0, ev_ss, ev_bn1, ev_bn2, ev_seq, ev_seq_nx, ev_seq_rt, ev_seq_bk, ev_seq_ct, ev_nil, ev_brk, ev_cnt, ev_if, ev_if_t, ev_if_f, ev_set, ev_oset, ev_setL, ev_osetL, ev_drop, ev_odrop, ev_ret, ev_oret, ev_retN, ev_retL, ev_oretL, ev_orun, ev_orunN, ev_orunN_nx, ev_fz, ev_fz_l, ev_fz_v, ev_app, ev_app_s, ev_clear, ev_clear_s, ev_oNx, ev_asg, ev_asg_s, ev_par, ev_par_s, ev_aug, ev_aug_s, ev_setIx, ev_setIx_s, ev_augIx, ev_dictN, ev_notInN, ev_oNotInN, ev_putN, ev_oPutN, ev_for, ev_ofor, ev_V, ev_L, ev_B, ev_rdV, ev_rdLv, ev_rdLl, ev_rdBv, ev_rdBb, ev_C, ev_e2, ev_o2, ev_e1, ev_e3, ev_o3, ev_pN, ev_pS, ev_oPS, ev_aNil, ev_aCons, ev_oCons, ev_tup, ev_lst, ev_oLst, ev_scal, ev_scal_i, ev_scal_s, ev_scal_b, ev_neg, ev_oNeg, ev_tB, ev_asB, ev_tNot, ev_tAnd, ev_tOr, ev_oAnd_t, ev_oAnd_f, ev_oOr_t, ev_oOr_f, ev_eAnd, ev_eOr, ev_oAndD_t, ev_oAndD_f, ev_oOrD_t, ev_oOrD_f, ev_eNot, ev_oNot, ev_isi, ev_isi_ii, ev_isi_ib, ev_isi_il, ev_isi_it, ev_isi_is, ev_isi_ll, ev_isi_lt, ev_isi_li, ev_isi_lb, ev_isi_tt, ev_isi_tl, ev_isi_ss, ev_isi_bb, ev_isi_bi, ev_isN, ev_notN, ev_oIsN_n, ev_oIsN_i, ev_oIsN_l, ev_oIsN_t, ev_oNotN_n, ev_oNotN_i, ev_oNotN_l, ev_oNotN_t, ev_rev, ev_gRev, ev_iAny, ev_oAny_l, ev_oAny_t, ev_iSeqB, ev_oSeqB, ev_iEnum, ev_oEnum, ev_iZip, ev_oZip_ll, ev_oZip_tt, ev_oZip_lt, ev_oZip_tl, ev_iRng1, ev_rng1_s, ev_iRng2, ev_rng2_s, ev_tgN, ev_tgNil, ev_tgCons, ev_tgT, ev_wipe_nil, ev_wipe_cons, ev_lc, ev_oLc, ev_add, ev_addIS, ev_add_ll, ev_add_tt, ev_addL, ev_repL, ev_rep, ev_sub, ev_mul, ev_mod, ev_div, ev_modA, ev_divA, ev_pow, ev_lt, ev_le, ev_gt, ev_ge, ev_eq, ev_ne, ev_eqs, ev_nes, ev_eqb, ev_neb, ev_len, ev_lenT, ev_list, ev_listT, ev_tuple, ev_tupleT, ev_int, ev_intb, ev_sum, ev_sum0, ev_max2, ev_min2, ev_sl, ev_slT, ev_slL, ev_slB, ev_divAZ, ev_divZ, ev_onNx, ev_while, ev_eq_li, ev_ne_li, ev_eq_self, ev_ne_self, ev_eq_selfT, ev_ne_selfT, ev_ne_nil, ev_eq_nil, ev_sorted_i, ev_listRg, ev_oListRg, ev_in_ii, ev_thaw, ev_oThaw, ev_flatO, ev_tThaw, ev_otThaw, ev_move, ev_oMove, ev_iEnumG, ev_oEnumG_l, ev_oEnumG_t, ev_gNotB, ev_nD, ev_nL, ev_oNL, ev_xN, ev_nsNil, ev_nsCons, ev_oNs, ev_nDictQ, ev_nDictK, ev_nLst, ev_nTup, ev_toC_d, ev_toC_n, ev_setX, ev_oSetX, ev_setN, ev_oSetN, ev_dropX, ev_oDropX, ev_retX, ev_oRetX, ev_retXN, ev_seq_rx, ev_ifX, ev_oIfX_t, ev_oIfX_f, ev_oTxB, ev_txCmp, ev_oTxC, ev_txP, ev_txNot, ev_oTxN, ev_pNm, ev_nodeAt, ev_oNode, ev_sub0, ev_subS, ev_putAt, ev_oPutA, ev_put0, ev_putS, ev_oTp, ev_rN, ev_cell_own, ev_cell_ro, ev_cell_val, ev_cell_lst, ev_roN, ev_oRo, ev_rF, ev_oRF, ev_rI, ev_oRI, ev_rLeaf, ev_oLeaf, ev_rFlat, ev_rView, ev_flatV1, ev_flatV1d, ev_eOw, ev_oEow, ev_fldP, ev_ixP, ev_nd1, ev_nd2, decide_true, decide_false, List.nil_append, List.cons_append, ev_ix, ev_ixT, ev_ixB, ev_ixBT, hrp, el]
  cases keepsB (List.replicate n 0) rs with
  | true => simp only [ev_bs, ev_bn, ev_ms, ev_mn, ev_g0, ev_gs, ev_s0, ev_ss, ev_bn1, ev_bn2, ev_seq, ev_seq_nx, ev_seq_rt, ev_seq_bk, ev_seq_ct, ev_nil, ev_brk, ev_cnt, ev_if, ev_if_t, ev_if_f, ev_set, ev_oset, ev_setL, ev_osetL, ev_drop, ev_odrop, ev_ret, ev_oret, ev_retN, ev_retL, ev_oretL, ev_orun, ev_orunN, ev_orunN_nx, ev_fz, ev_fz_l, ev_fz_v, ev_app, ev_app_s, ev_clear, ev_clear_s, ev_oNx, ev_asg, ev_asg_s, ev_par, ev_par_s, ev_aug, ev_aug_s, ev_setIx, ev_setIx_s, ev_augIx, ev_dictN, ev_notInN, ev_oNotInN, ev_putN, ev_oPutN, ev_for, ev_ofor, ev_V, ev_L, ev_B, ev_rdV, ev_rdLv, ev_rdLl, ev_rdBv, ev_rdBb, ev_C, ev_e2, ev_o2, ev_e1, ev_e3, ev_o3, ev_pN, ev_pS, ev_oPS, ev_aNil, ev_aCons, ev_oCons, ev_tup, ev_lst, ev_oLst, ev_scal, ev_scal_i, ev_scal_s, ev_scal_b, ev_neg, ev_oNeg, ev_tB, ev_asB, ev_tNot, ev_tAnd, ev_tOr, ev_oAnd_t, ev_oAnd_f, ev_oOr_t, ev_oOr_f, ev_eAnd, ev_eOr, ev_oAndD_t, ev_oAndD_f, ev_oOrD_t, ev_oOrD_f, ev_eNot, ev_oNot, ev_isi, ev_isi_ii, ev_isi_ib, ev_isi_il, ev_isi_it, ev_isi_is, ev_isi_ll, ev_isi_lt, ev_isi_li, ev_isi_lb, ev_isi_tt, ev_isi_tl, ev_isi_ss, ev_isi_bb, ev_isi_bi, ev_isN, ev_notN, ev_oIsN_n, ev_oIsN_i, ev_oIsN_l, ev_oIsN_t, ev_oNotN_n, ev_oNotN_i, ev_oNotN_l, ev_oNotN_t, ev_rev, ev_gRev, ev_iAny, ev_oAny_l, ev_oAny_t, ev_iSeqB, ev_oSeqB, ev_iEnum, ev_oEnum, ev_iZip, ev_oZip_ll, ev_oZip_tt, ev_oZip_lt, ev_oZip_tl, ev_iRng1, ev_rng1_s, ev_iRng2, ev_rng2_s, ev_tgN, ev_tgNil, ev_tgCons, ev_tgT, ev_wipe_nil, ev_wipe_cons, ev_lc, ev_oLc, ev_add, ev_addIS, ev_add_ll, ev_add_tt, ev_addL, ev_repL, ev_rep, ev_sub, ev_mul, ev_mod, ev_div, ev_modA, ev_divA, ev_pow, ev_lt, ev_le, ev_gt, ev_ge, ev_eq, ev_ne, ev_eqs, ev_nes, ev_eqb, ev_neb, ev_len, ev_lenT, ev_list, ev_listT, ev_tuple, ev_tupleT, ev_int, ev_intb, ev_sum, ev_sum0, ev_max2, ev_min2, ev_sl, ev_slT, ev_slL, ev_slB, ev_divAZ, ev_divZ, ev_onNx, ev_while, ev_eq_li, ev_ne_li, ev_eq_self, ev_ne_self, ev_eq_selfT, ev_ne_selfT, ev_ne_nil, ev_eq_nil, ev_sorted_i, ev_listRg, ev_oListRg, ev_in_ii, ev_thaw, ev_oThaw, ev_flatO, ev_tThaw, ev_otThaw, ev_move, ev_oMove, ev_iEnumG, ev_oEnumG_l, ev_oEnumG_t, ev_gNotB, ev_nD, ev_nL, ev_oNL, ev_xN, ev_nsNil, ev_nsCons, ev_oNs, ev_nDictQ, ev_nDictK, ev_nLst, ev_nTup, ev_toC_d, ev_toC_n, ev_setX, ev_oSetX, ev_setN, ev_oSetN, ev_dropX, ev_oDropX, ev_retX, ev_oRetX, ev_retXN, ev_seq_rx, ev_ifX, ev_oIfX_t, ev_oIfX_f, ev_oTxB, ev_txCmp, ev_oTxC, ev_txP, ev_txNot, ev_oTxN, ev_pNm, ev_nodeAt, ev_oNode, ev_sub0, ev_subS, ev_putAt, ev_oPutA, ev_put0, ev_putS, ev_oTp, ev_rN, ev_cell_own, ev_cell_ro, ev_cell_val, ev_cell_lst, ev_roN, ev_oRo, ev_rF, ev_oRF, ev_rI, ev_oRI, ev_rLeaf, ev_oLeaf, ev_rFlat, ev_rView, ev_flatV1, ev_flatV1d, ev_eOw, ev_oEow, ev_fldP, ev_ixP, ev_nd1, ev_nd2, decide_true, decide_false, List.nil_append, List.cons_append, ev_ix, ev_ixT, ev_ixB, ev_ixBT, if_true]
  | false => simp only [ev_bs, ev_bn, ev_ms, ev_mn, ev_g0, ev_gs, ev_s0, ev_ss, ev_bn1, ev_bn2, ev_seq, ev_seq_nx, ev_seq_rt, ev_seq_bk, ev_seq_ct, ev_nil, ev_brk, ev_cnt, ev_if, ev_if_t, ev_if_f, ev_set, ev_oset, ev_setL, ev_osetL, ev_drop, ev_odrop, ev_ret, ev_oret, ev_retN, ev_retL, ev_oretL, ev_orun, ev_orunN, ev_orunN_nx, ev_fz, ev_fz_l, ev_fz_v, ev_app, ev_app_s, ev_clear, ev_clear_s, ev_oNx, ev_asg, ev_asg_s, ev_par, ev_par_s, ev_aug, ev_aug_s, ev_setIx, ev_setIx_s, ev_augIx, ev_dictN, ev_notInN, ev_oNotInN, ev_putN, ev_oPutN, ev_for, ev_ofor, ev_V, ev_L, ev_B, ev_rdV, ev_rdLv, ev_rdLl, ev_rdBv, ev_rdBb, ev_C, ev_e2, ev_o2, ev_e1, ev_e3, ev_o3, ev_pN, ev_pS, ev_oPS, ev_aNil, ev_aCons, ev_oCons, ev_tup, ev_lst, ev_oLst, ev_scal, ev_scal_i, ev_scal_s, ev_scal_b, ev_neg, ev_oNeg, ev_tB, ev_asB, ev_tNot, ev_tAnd, ev_tOr, ev_oAnd_t, ev_oAnd_f, ev_oOr_t, ev_oOr_f, ev_eAnd, ev_eOr, ev_oAndD_t, ev_oAndD_f, ev_oOrD_t, ev_oOrD_f, ev_eNot, ev_oNot, ev_isi, ev_isi_ii, ev_isi_ib, ev_isi_il, ev_isi_it, ev_isi_is, ev_isi_ll, ev_isi_lt, ev_isi_li, ev_isi_lb, ev_isi_tt, ev_isi_tl, ev_isi_ss, ev_isi_bb, ev_isi_bi, ev_isN, ev_notN, ev_oIsN_n, ev_oIsN_i, ev_oIsN_l, ev_oIsN_t, ev_oNotN_n, ev_oNotN_i, ev_oNotN_l, ev_oNotN_t, ev_rev, ev_gRev, ev_iAny, ev_oAny_l, ev_oAny_t, ev_iSeqB, ev_oSeqB, ev_iEnum, ev_oEnum, ev_iZip, ev_oZip_ll, ev_oZip_tt, ev_oZip_lt, ev_oZip_tl, ev_iRng1, ev_rng1_s, ev_iRng2, ev_rng2_s, ev_tgN, ev_tgNil, ev_tgCons, ev_tgT, ev_wipe_nil, ev_wipe_cons, ev_lc, ev_oLc, ev_add, ev_addIS, ev_add_ll, ev_add_tt, ev_addL, ev_repL, ev_rep, ev_sub, ev_mul, ev_mod, ev_div, ev_modA, ev_divA, ev_pow, ev_lt, ev_le, ev_gt, ev_ge, ev_eq, ev_ne, ev_eqs, ev_nes, ev_eqb, ev_neb, ev_len, ev_lenT, ev_list, ev_listT, ev_tuple, ev_tupleT, ev_int, ev_intb, ev_sum, ev_sum0, ev_max2, ev_min2, ev_sl, ev_slT, ev_slL, ev_slB, ev_divAZ, ev_divZ, ev_onNx, ev_while, ev_eq_li, ev_ne_li, ev_eq_self, ev_ne_self, ev_eq_selfT, ev_ne_selfT, ev_ne_nil, ev_eq_nil, ev_sorted_i, ev_listRg, ev_oListRg, ev_in_ii, ev_thaw, ev_oThaw, ev_flatO, ev_tThaw, ev_otThaw, ev_move, ev_oMove, ev_iEnumG, ev_oEnumG_l, ev_oEnumG_t, ev_gNotB, ev_nD, ev_nL, ev_oNL, ev_xN, ev_nsNil, ev_nsCons, ev_oNs, ev_nDictQ, ev_nDictK, ev_nLst, ev_nTup, ev_toC_d, ev_toC_n, ev_setX, ev_oSetX, ev_setN, ev_oSetN, ev_dropX, ev_oDropX, ev_retX, ev_oRetX, ev_retXN, ev_seq_rx, ev_ifX, ev_oIfX_t, ev_oIfX_f, ev_oTxB, ev_txCmp, ev_oTxC, ev_txP, ev_txNot, ev_oTxN, ev_pNm, ev_nodeAt, ev_oNode, ev_sub0, ev_subS, ev_putAt, ev_oPutA, ev_put0, ev_putS, ev_oTp, ev_rN, ev_cell_own, ev_cell_ro, ev_cell_val, ev_cell_lst, ev_roN, ev_oRo, ev_rF, ev_oRF, ev_rI, ev_oRI, ev_rLeaf, ev_oLeaf, ev_rFlat, ev_rView, ev_flatV1, ev_flatV1d, ev_eOw, ev_oEow, ev_fldP, ev_ixP, ev_nd1, ev_nd2, decide_true, decide_false, List.nil_append, List.cons_append, ev_ix, ev_ixT, ev_ixB, ev_ixBT, Bool.false_eq_true, if_false]
end DL
set_option Elab.async false
set_option linter.all false
set_option maxRecDepth 100000
set_option maxHeartbeats 4000000
namespace DL
open PySem PySem.Spec L2
def atC (ns : List Int) (k : Int) : Int := if k < ns.length then ns.getD k.toNat 0 else 0
theorem cell_ok {ns : List Int} {k : Int} (h0 : 0 ≤ k) : f_l_cell_at [.list (ns.map .int), .int k] = some (.int (atC ns k)) := by
  rw [fe_l_cell_at]
  unfold b_l_cell_at
  simp only [ev_bs, ev_bn, ev_ms, ev_mn, ev_g0, ev_gs, ev_s0, ev_ss, ev_bn1, ev_bn2, ev_seq, ev_seq_nx, ev_seq_rt, ev_seq_bk, ev_seq_ct, ev_nil, ev_brk, ev_cnt, ev_if, ev_if_t, ev_if_f, ev_set, ev_oset, ev_setL, ev_osetL, ev_drop, ev_odrop, ev_ret, ev_oret, ev_retN, ev_retL, ev_oretL, ev_orun, ev_orunN, ev_orunN_nx, ev_fz, ev_fz_l, ev_fz_v, ev_app, ev_app_s, ev_clear, ev_clear_s, ev_oNx, ev_asg, ev_asg_s, ev_par, ev_par_s, ev_aug, ev_aug_s, ev_setIx, ev_setIx_s, ev_augIx, ev_dictN, ev_notInN, ev_oNotInN, ev_putN, ev_oPutN, ev_for, ev_ofor, ev_V, ev_L, ev_B, ev_rdV, ev_rdLv, ev_rdLl, ev_rdBv, ev_rdBb, ev_C, ev_e2, ev_o2, ev_e1, ev_e3, ev_o3, ev_pN, ev_pS, ev_oPS, ev_aNil, ev_aCons, ev_oCons, ev_tup, ev_lst, ev_oLst, ev_scal, ev_scal_i, ev_scal_s, ev_scal_b, ev_neg, ev_oNeg, ev_tB, ev_asB, ev_tNot, ev_tAnd, ev_tOr, ev_oAnd_t, ev_oAnd_f, ev_oOr_t, ev_oOr_f, ev_eAnd, ev_eOr, ev_oAndD_t, ev_oAndD_f, ev_oOrD_t, ev_oOrD_f, ev_eNot, ev_oNot, ev_isi, ev_isi_ii, ev_isi_ib, ev_isi_il, ev_isi_it, ev_isi_is, ev_isi_ll, ev_isi_lt, ev_isi_li, ev_isi_lb, ev_isi_tt, ev_isi_tl, ev_isi_ss, ev_isi_bb, ev_isi_bi, ev_isN, ev_notN, ev_oIsN_n, ev_oIsN_i, ev_oIsN_l, ev_oIsN_t, ev_oNotN_n, ev_oNotN_i, ev_oNotN_l, ev_oNotN_t, ev_rev, ev_gRev, ev_iAny, ev_oAny_l, ev_oAny_t, ev_iSeqB, ev_oSeqB, ev_iEnum, ev_oEnum, ev_iZip, ev_oZip_ll, ev_oZip_tt, ev_oZip_lt, ev_oZip_tl, ev_iRng1, ev_rng1_s, ev_iRng2, ev_rng2_s, ev_tgN, ev_tgNil, ev_tgCons, ev_tgT, ev_wipe_nil, ev_wipe_cons, ev_lc, ev_oLc, ev_add, ev_addIS, ev_add_ll, ev_add_tt, ev_addL, ev_repL, ev_rep, ev_sub, ev_mul, ev_mod, ev_div, ev_modA, ev_divA, ev_pow, ev_lt, ev_le, ev_gt, ev_ge, ev_eq, ev_ne, ev_eqs, ev_nes, ev_eqb, ev_neb, ev_len, ev_lenT, ev_list, ev_listT, ev_tuple, ev_tupleT, ev_int, ev_intb, ev_sum, ev_sum0, ev_max2, ev_min2, ev_sl, ev_slT, ev_slL, ev_slB, ev_divAZ, ev_divZ, ev_onNx, ev_while, ev_eq_li, ev_ne_li, ev_eq_self, ev_ne_self, ev_eq_selfT, ev_ne_selfT, ev_ne_nil, ev_eq_nil, ev_sorted_i, ev_listRg, ev_oListRg, ev_in_ii, ev_thaw, ev_oThaw, ev_flatO, ev_tThaw, ev_otThaw, ev_move, ev_oMove, ev_iEnumG, ev_oEnumG_l, ev_oEnumG_t, ev_gNotB, ev_nD, ev_nL, ev_oNL, ev_xN, ev_nsNil, ev_nsCons, ev_oNs, ev_nDictQ, ev_nDictK, ev_nLst, ev_nTup, ev_toC_d, ev_toC_n, ev_setX, ev_oSetX, ev_setN, ev_oSetN, ev_dropX, ev_oDropX, ev_retX, ev_oRetX, ev_retXN, ev_seq_rx, ev_ifX, ev_oIfX_t, ev_oIfX_f, ev_oTxB, ev_txCmp, ev_oTxC, ev_txP, ev_txNot, ev_oTxN, ev_pNm, ev_nodeAt, ev_oNode, ev_sub0, ev_subS, ev_putAt, ev_oPutA, ev_put0, ev_putS, ev_oTp, ev_rN, ev_cell_own, ev_cell_ro, ev_cell_val, ev_cell_lst, ev_roN, ev_oRo, ev_rF, ev_oRF, ev_rI, ev_oRI, ev_rLeaf, ev_oLeaf, ev_rFlat, ev_rView, ev_flatV1, ev_flatV1d, ev_eOw, ev_oEow, ev_fldP, ev_ixP, ev_nd1, ev_nd2, decide_true, decide_false, List.nil_append, List.cons_append, ev_ix, ev_ixT, ev_ixB, ev_ixBT, List.length_map]
  unfold atC
  by_cases h : k < ns.length
  · have e : atI (ns.map PyData.int) k = some (.int (ns.getD k.toNat 0)) := by
      rw [ev_atm h0 h, List.getD_eq_getElem?_getD, List.getElem?_eq_getElem (by omega)]; rfl
    simp only [ev_bs, ev_bn, ev_ms, ev_mn, ev_g0, ev_gs, ev_s0, ev_ss, ev_bn1, ev_bn2, ev_seq, ev_seq_nx, ev_seq_rt, ev_seq_bk, ev_seq_ct, ev_nil, ev_brk, ev_cnt, ev_if, ev_if_t, ev_if_f, ev_set, ev_oset, ev_setL, ev_osetL, ev_drop, ev_odrop, ev_ret, ev_oret, ev_retN, ev_retL, ev_oretL, ev_orun, ev_orunN, ev_orunN_nx, ev_fz, ev_fz_l, ev_fz_v, ev_app, ev_app_s, ev_clear, ev_clear_s, ev_oNx, ev_asg, ev_asg_s, ev_par, ev_par_s, ev_aug, ev_aug_s, ev_setIx, ev_setIx_s, ev_augIx, ev_dictN, ev_notInN, ev_oNotInN, ev_putN, ev_oPutN, ev_for, ev_ofor, ev_V, ev_L, ev_B, ev_rdV, ev_rdLv, ev_rdLl, ev_rdBv, ev_rdBb, ev_C, ev_e2, ev_o2, ev_e1, ev_e3, ev_o3, ev_pN, ev_pS, ev_oPS, ev_aNil, ev_aCons, ev_oCons, ev_tup, ev_lst, ev_oLst, ev_scal, ev_scal_i, ev_scal_s, ev_scal_b, ev_neg, ev_oNeg, ev_tB, ev_asB, ev_tNot, ev_tAnd, ev_tOr, ev_oAnd_t, ev_oAnd_f, ev_oOr_t, ev_oOr_f, ev_eAnd, ev_eOr, ev_oAndD_t, ev_oAndD_f, ev_oOrD_t, ev_oOrD_f, ev_eNot, ev_oNot, ev_isi, ev_isi_ii, ev_isi_ib, ev_isi_il, ev_isi_it, ev_isi_is, ev_isi_ll, ev_isi_lt, ev_isi_li, ev_isi_lb, ev_isi_tt, ev_isi_tl, ev_isi_ss, ev_isi_bb, ev_isi_bi, ev_isN, ev_notN, ev_oIsN_n, ev_oIsN_i, ev_oIsN_l, ev_oIsN_t, ev_oNotN_n, ev_oNotN_i, ev_oNotN_l, ev_oNotN_t, ev_rev, ev_gRev, ev_iAny, ev_oAny_l, ev_oAny_t, ev_iSeqB, ev_oSeqB, ev_iEnum, ev_oEnum, ev_iZip, ev_oZip_ll, ev_oZip_tt, ev_oZip_lt, ev_oZip_tl, ev_iRng1, ev_rng1_s, ev_iRng2, ev_rng2_s, ev_tgN, ev_tgNil, ev_tgCons, ev_tgT, ev_wipe_nil, ev_wipe_cons, ev_lc, ev_oLc, ev_add, ev_addIS, ev_add_ll, ev_add_tt, ev_addL, ev_repL, ev_rep, ev_sub, ev_mul, ev_mod, ev_div, ev_modA, ev_divA, ev_pow, ev_lt, ev_le, ev_gt, ev_ge, ev_eq, ev_ne, ev_eqs, ev_nes, ev_eqb, ev_neb, ev_len, ev_lenT, ev_list, ev_listT, ev_tuple, ev_tupleT, ev_int, ev_intb, ev_sum, ev_sum0, ev_max2, ev_min2, ev_sl, ev_slT, ev_slL, ev_slB, ev_divAZ, ev_divZ, ev_onNx, ev_while, ev_eq_li, ev_ne_li, ev_eq_self, ev_ne_self, ev_eq_selfT, ev_ne_selfT, ev_ne_nil, ev_eq_nil, ev_sorted_i, ev_listRg, ev_oListRg, ev_in_ii, ev_thaw, ev_oThaw, ev_flatO, ev_tThaw, ev_otThaw, ev_move, ev_oMove, ev_iEnumG, ev_oEnumG_l, ev_oEnumG_t, ev_gNotB, ev_nD, ev_nL, ev_oNL, ev_xN, ev_nsNil, ev_nsCons, ev_oNs, ev_nDictQ, ev_nDictK, ev_nLst, ev_nTup, ev_toC_d, ev_toC_n, ev_setX, ev_oSetX, ev_setN, ev_oSetN, ev_dropX, ev_oDropX, ev_retX, ev_oRetX, ev_retXN, ev_seq_rx, ev_ifX, ev_oIfX_t, ev_oIfX_f, ev_oTxB, ev_txCmp, ev_oTxC, ev_txP, ev_txNot, ev_oTxN, ev_pNm, ev_nodeAt, ev_oNode, ev_sub0, ev_subS, ev_putAt, ev_oPutA, ev_put0, ev_putS, ev_oTp, ev_rN, ev_cell_own, ev_cell_ro, ev_cell_val, ev_cell_lst, ev_roN, ev_oRo, ev_rF, ev_oRF, ev_rI, ev_oRI, ev_rLeaf, ev_oLeaf, ev_rFlat, ev_rView, ev_flatV1, ev_flatV1d, ev_eOw, ev_oEow, ev_fldP, ev_ixP, ev_nd1, ev_nd2, decide_true, decide_false, List.nil_append, List.cons_append, ev_ix, ev_ixT, ev_ixB, ev_ixBT, h, e, if_true]
  · simp only [ev_bs, ev_bn, ev_ms, ev_mn, ev_g0, ev_gs, ev_s0, ev_ss, ev_bn1, ev_bn2, ev_seq, ev_seq_nx, ev_seq_rt, ev_seq_bk, ev_seq_ct, ev_nil, ev_brk, ev_cnt, ev_if, ev_if_t, ev_if_f, ev_set, ev_oset, ev_setL, ev_osetL, ev_drop, ev_odrop, ev_ret, ev_oret, ev_retN, ev_retL, ev_oretL, ev_orun, ev_orunN, ev_orunN_nx, ev_fz, ev_fz_l, ev_fz_v, ev_app, ev_app_s, ev_clear, ev_clear_s, ev_oNx, ev_asg, ev_asg_s, ev_par, ev_par_s, ev_aug, ev_aug_s, ev_setIx, ev_setIx_s, ev_augIx, ev_dictN, ev_notInN, ev_oNotInN, ev_putN, ev_oPutN, ev_for, ev_ofor, ev_V, ev_L, ev_B, ev_rdV, ev_rdLv, ev_rdLl, ev_rdBv, ev_rdBb, ev_C, ev_e2, ev_o2, ev_e1, ev_e3, ev_o3, ev_pN, ev_pS, ev_oPS, ev_aNil, ev_aCons, ev_oCons, ev_tup, ev_lst, ev_oLst, ev_scal, ev_scal_i, ev_scal_s, ev_scal_b, ev_neg, ev_oNeg, ev_tB, ev_asB, ev_tNot, ev_tAnd, ev_tOr, ev_oAnd_t, ev_oAnd_f, ev_oOr_t, ev_oOr_f, ev_eAnd, ev_eOr, ev_oAndD_t, ev_oAndD_f, ev_oOrD_t, ev_oOrD_f, ev_eNot, ev_oNot, ev_isi, ev_isi_ii, ev_isi_ib, ev_isi_il, ev_isi_it, ev_isi_is, ev_isi_ll, ev_isi_lt, ev_isi_li, ev_isi_lb, ev_isi_tt, ev_isi_tl, ev_isi_ss, ev_isi_bb, ev_isi_bi, ev_isN, ev_notN, ev_oIsN_n, ev_oIsN_i, ev_oIsN_l, ev_oIsN_t, ev_oNotN_n, ev_oNotN_i, ev_oNotN_l, ev_oNotN_t, ev_rev, ev_gRev, ev_iAny, ev_oAny_l, ev_oAny_t, ev_iSeqB, ev_oSeqB, ev_iEnum, ev_oEnum, ev_iZip, ev_oZip_ll, ev_oZip_tt, ev_oZip_lt, ev_oZip_tl, ev_iRng1, ev_rng1_s, ev_iRng2, ev_rng2_s, ev_tgN, ev_tgNil, ev_tgCons, ev_tgT, ev_wipe_nil, ev_wipe_cons, ev_lc, ev_oLc, ev_add, ev_addIS, ev_add_ll, ev_add_tt, ev_addL, ev_repL, ev_rep, ev_sub, ev_mul, ev_mod, ev_div, ev_modA, ev_divA, ev_pow, ev_lt, ev_le, ev_gt, ev_ge, ev_eq, ev_ne, ev_eqs, ev_nes, ev_eqb, ev_neb, ev_len, ev_lenT, ev_list, ev_listT, ev_tuple, ev_tupleT, ev_int, ev_intb, ev_sum, ev_sum0, ev_max2, ev_min2, ev_sl, ev_slT, ev_slL, ev_slB, ev_divAZ, ev_divZ, ev_onNx, ev_while, ev_eq_li, ev_ne_li, ev_eq_self, ev_ne_self, ev_eq_selfT, ev_ne_selfT, ev_ne_nil, ev_eq_nil, ev_sorted_i, ev_listRg, ev_oListRg, ev_in_ii, ev_thaw, ev_oThaw, ev_flatO, ev_tThaw, ev_otThaw, ev_move, ev_oMove, ev_iEnumG, ev_oEnumG_l, ev_oEnumG_t, ev_gNotB, ev_nD, ev_nL, ev_oNL, ev_xN, ev_nsNil, ev_nsCons, ev_oNs, ev_nDictQ, ev_nDictK, ev_nLst, ev_nTup, ev_toC_d, ev_toC_n, ev_setX, ev_oSetX, ev_setN, ev_oSetN, ev_dropX, ev_oDropX, ev_retX, ev_oRetX, ev_retXN, ev_seq_rx, ev_ifX, ev_oIfX_t, ev_oIfX_f, ev_oTxB, ev_txCmp, ev_oTxC, ev_txP, ev_txNot, ev_oTxN, ev_pNm, ev_nodeAt, ev_oNode, ev_sub0, ev_subS, ev_putAt, ev_oPutA, ev_put0, ev_putS, ev_oTp, ev_rN, ev_cell_own, ev_cell_ro, ev_cell_val, ev_cell_lst, ev_roN, ev_oRo, ev_rF, ev_oRF, ev_rI, ev_oRI, ev_rLeaf, ev_oLeaf, ev_rFlat, ev_rView, ev_flatV1, ev_flatV1d, ev_eOw, ev_oEow, ev_fldP, ev_ixP, ev_nd1, ev_nd2, decide_true, decide_false, List.nil_append, List.cons_append, ev_ix, ev_ixT, ev_ixB, ev_ixBT, h, if_false]
theorem md_small {i : Int} (h0 : -(2 ^ 200) < i) (h1 : i < 2 ^ 200) : Md i := Md.of_lt h0 h1
theorem mix_ok {n p : Int} (h0 : 0 ≤ p) (h1 : p < 1000) : ∃ m, f_l_mix [.int n, .int p] = some (.int m) ∧ 0 ≤ m ∧ m < 2147483648 := by
  rw [fe_l_mix]
  unfold b_l_mix
  have z1 : (0 : Int) < 61 := by decide
  have z2 : (0 : Int) < 2147483648 := by decide
  have z3 : (0 : Int) < 2147483629 := by decide
  have z4 : (0 : Int) < 1000003 := by decide
  have z5 : (0 : Int) < 2147483587 := by decide
  have z6 : (0 : Int) < 2147483579 := by decide
  have z7 : (2147483648 : Int) < 2 ^ 250 := by decide
  have z8 : (0 : Int) < 7 := by decide
  have z9 : (7 : Int) < 2 ^ 250 := by decide
  have p1 : (0 : Int) ≤ 12 := by decide
  have p2 : (12 : Int) ≤ 1000000 := by decide
  have p3 : (10 : Int).natAbs < 2 ^ 64 := by decide
  have p4 : (10 : Int) ^ (12 : Int).toNat = 1000000000000 := by decide
  have p5 : (0 : Int) < 1000000000000 := by decide
  have p6 : (1000000000000 : Int) < 2 ^ 250 := by decide
  simp only [ev_bs, ev_bn, ev_ms, ev_mn, ev_g0, ev_gs, ev_s0, ev_ss, ev_bn1, ev_bn2, ev_seq, ev_seq_nx, ev_seq_rt, ev_seq_bk, ev_seq_ct, ev_nil, ev_brk, ev_cnt, ev_if, ev_if_t, ev_if_f, ev_set, ev_oset, ev_setL, ev_osetL, ev_drop, ev_odrop, ev_ret, ev_oret, ev_retN, ev_retL, ev_oretL, ev_orun, ev_orunN, ev_orunN_nx, ev_fz, ev_fz_l, ev_fz_v, ev_app, ev_app_s, ev_clear, ev_clear_s, ev_oNx, ev_asg, ev_asg_s, ev_par, ev_par_s, ev_aug, ev_aug_s, ev_setIx, ev_setIx_s, ev_augIx, ev_dictN, ev_notInN, ev_oNotInN, ev_putN, ev_oPutN, ev_for, ev_ofor, ev_V, ev_L, ev_B, ev_rdV, ev_rdLv, ev_rdLl, ev_rdBv, ev_rdBb, ev_C, ev_e2, ev_o2, ev_e1, ev_e3, ev_o3, ev_pN, ev_pS, ev_oPS, ev_aNil, ev_aCons, ev_oCons, ev_tup, ev_lst, ev_oLst, ev_scal, ev_scal_i, ev_scal_s, ev_scal_b, ev_neg, ev_oNeg, ev_tB, ev_asB, ev_tNot, ev_tAnd, ev_tOr, ev_oAnd_t, ev_oAnd_f, ev_oOr_t, ev_oOr_f, ev_eAnd, ev_eOr, ev_oAndD_t, ev_oAndD_f, ev_oOrD_t, ev_oOrD_f, ev_eNot, ev_oNot, ev_isi, ev_isi_ii, ev_isi_ib, ev_isi_il, ev_isi_it, ev_isi_is, ev_isi_ll, ev_isi_lt, ev_isi_li, ev_isi_lb, ev_isi_tt, ev_isi_tl, ev_isi_ss, ev_isi_bb, ev_isi_bi, ev_isN, ev_notN, ev_oIsN_n, ev_oIsN_i, ev_oIsN_l, ev_oIsN_t, ev_oNotN_n, ev_oNotN_i, ev_oNotN_l, ev_oNotN_t, ev_rev, ev_gRev, ev_iAny, ev_oAny_l, ev_oAny_t, ev_iSeqB, ev_oSeqB, ev_iEnum, ev_oEnum, ev_iZip, ev_oZip_ll, ev_oZip_tt, ev_oZip_lt, ev_oZip_tl, ev_iRng1, ev_rng1_s, ev_iRng2, ev_rng2_s, ev_tgN, ev_tgNil, ev_tgCons, ev_tgT, ev_wipe_nil, ev_wipe_cons, ev_lc, ev_oLc, ev_add, ev_addIS, ev_add_ll, ev_add_tt, ev_addL, ev_repL, ev_rep, ev_sub, ev_mul, ev_mod, ev_div, ev_modA, ev_divA, ev_pow, ev_lt, ev_le, ev_gt, ev_ge, ev_eq, ev_ne, ev_eqs, ev_nes, ev_eqb, ev_neb, ev_len, ev_lenT, ev_list, ev_listT, ev_tuple, ev_tupleT, ev_int, ev_intb, ev_sum, ev_sum0, ev_max2, ev_min2, ev_sl, ev_slT, ev_slL, ev_slB, ev_divAZ, ev_divZ, ev_onNx, ev_while, ev_eq_li, ev_ne_li, ev_eq_self, ev_ne_self, ev_eq_selfT, ev_ne_selfT, ev_ne_nil, ev_eq_nil, ev_sorted_i, ev_listRg, ev_oListRg, ev_in_ii, ev_thaw, ev_oThaw, ev_flatO, ev_tThaw, ev_otThaw, ev_move, ev_oMove, ev_iEnumG, ev_oEnumG_l, ev_oEnumG_t, ev_gNotB, ev_nD, ev_nL, ev_oNL, ev_xN, ev_nsNil, ev_nsCons, ev_oNs, ev_nDictQ, ev_nDictK, ev_nLst, ev_nTup, ev_toC_d, ev_toC_n, ev_setX, ev_oSetX, ev_setN, ev_oSetN, ev_dropX, ev_oDropX, ev_retX, ev_oRetX, ev_retXN, ev_seq_rx, ev_ifX, ev_oIfX_t, ev_oIfX_f, ev_oTxB, ev_txCmp, ev_oTxC, ev_txP, ev_txNot, ev_oTxN, ev_pNm, ev_nodeAt, ev_oNode, ev_sub0, ev_subS, ev_putAt, ev_oPutA, ev_put0, ev_putS, ev_oTp, ev_rN, ev_cell_own, ev_cell_ro, ev_cell_val, ev_cell_lst, ev_roN, ev_oRo, ev_rF, ev_oRF, ev_rI, ev_oRI, ev_rLeaf, ev_oLeaf, ev_rFlat, ev_rView, ev_flatV1, ev_flatV1d, ev_eOw, ev_oEow, ev_fldP, ev_ixP, ev_nd1, ev_nd2, decide_true, decide_false, List.nil_append, List.cons_append, ev_ix, ev_ixT, ev_ixB, ev_ixBT, z1, z2, z3, z4, z5, z6, z7, p1, p2, p3, p4, p5, p6]
  by_cases h : 1000000000000 ≤ n
  · have r1 : -(2 ^ 62) ≤ p % 61 := by omega
    have r2 : p % 61 ≤ 16777216 := by omega
    simp only [ev_bs, ev_bn, ev_ms, ev_mn, ev_g0, ev_gs, ev_s0, ev_ss, ev_bn1, ev_bn2, ev_seq, ev_seq_nx, ev_seq_rt, ev_seq_bk, ev_seq_ct, ev_nil, ev_brk, ev_cnt, ev_if, ev_if_t, ev_if_f, ev_set, ev_oset, ev_setL, ev_osetL, ev_drop, ev_odrop, ev_ret, ev_oret, ev_retN, ev_retL, ev_oretL, ev_orun, ev_orunN, ev_orunN_nx, ev_fz, ev_fz_l, ev_fz_v, ev_app, ev_app_s, ev_clear, ev_clear_s, ev_oNx, ev_asg, ev_asg_s, ev_par, ev_par_s, ev_aug, ev_aug_s, ev_setIx, ev_setIx_s, ev_augIx, ev_dictN, ev_notInN, ev_oNotInN, ev_putN, ev_oPutN, ev_for, ev_ofor, ev_V, ev_L, ev_B, ev_rdV, ev_rdLv, ev_rdLl, ev_rdBv, ev_rdBb, ev_C, ev_e2, ev_o2, ev_e1, ev_e3, ev_o3, ev_pN, ev_pS, ev_oPS, ev_aNil, ev_aCons, ev_oCons, ev_tup, ev_lst, ev_oLst, ev_scal, ev_scal_i, ev_scal_s, ev_scal_b, ev_neg, ev_oNeg, ev_tB, ev_asB, ev_tNot, ev_tAnd, ev_tOr, ev_oAnd_t, ev_oAnd_f, ev_oOr_t, ev_oOr_f, ev_eAnd, ev_eOr, ev_oAndD_t, ev_oAndD_f, ev_oOrD_t, ev_oOrD_f, ev_eNot, ev_oNot, ev_isi, ev_isi_ii, ev_isi_ib, ev_isi_il, ev_isi_it, ev_isi_is, ev_isi_ll, ev_isi_lt, ev_isi_li, ev_isi_lb, ev_isi_tt, ev_isi_tl, ev_isi_ss, ev_isi_bb, ev_isi_bi, ev_isN, ev_notN, ev_oIsN_n, ev_oIsN_i, ev_oIsN_l, ev_oIsN_t, ev_oNotN_n, ev_oNotN_i, ev_oNotN_l, ev_oNotN_t, ev_rev, ev_gRev, ev_iAny, ev_oAny_l, ev_oAny_t, ev_iSeqB, ev_oSeqB, ev_iEnum, ev_oEnum, ev_iZip, ev_oZip_ll, ev_oZip_tt, ev_oZip_lt, ev_oZip_tl, ev_iRng1, ev_rng1_s, ev_iRng2, ev_rng2_s, ev_tgN, ev_tgNil, ev_tgCons, ev_tgT, ev_wipe_nil, ev_wipe_cons, ev_lc, ev_oLc, ev_add, ev_addIS, ev_add_ll, ev_add_tt, ev_addL, ev_repL, ev_rep, ev_sub, ev_mul, ev_mod, ev_div, ev_modA, ev_divA, ev_pow, ev_lt, ev_le, ev_gt, ev_ge, ev_eq, ev_ne, ev_eqs, ev_nes, ev_eqb, ev_neb, ev_len, ev_lenT, ev_list, ev_listT, ev_tuple, ev_tupleT, ev_int, ev_intb, ev_sum, ev_sum0, ev_max2, ev_min2, ev_sl, ev_slT, ev_slL, ev_slB, ev_divAZ, ev_divZ, ev_onNx, ev_while, ev_eq_li, ev_ne_li, ev_eq_self, ev_ne_self, ev_eq_selfT, ev_ne_selfT, ev_ne_nil, ev_eq_nil, ev_sorted_i, ev_listRg, ev_oListRg, ev_in_ii, ev_thaw, ev_oThaw, ev_flatO, ev_tThaw, ev_otThaw, ev_move, ev_oMove, ev_iEnumG, ev_oEnumG_l, ev_oEnumG_t, ev_gNotB, ev_nD, ev_nL, ev_oNL, ev_xN, ev_nsNil, ev_nsCons, ev_oNs, ev_nDictQ, ev_nDictK, ev_nLst, ev_nTup, ev_toC_d, ev_toC_n, ev_setX, ev_oSetX, ev_setN, ev_oSetN, ev_dropX, ev_oDropX, ev_retX, ev_oRetX, ev_retXN, ev_seq_rx, ev_ifX, ev_oIfX_t, ev_oIfX_f, ev_oTxB, ev_txCmp, ev_oTxC, ev_txP, ev_txNot, ev_oTxN, ev_pNm, ev_nodeAt, ev_oNode, ev_sub0, ev_subS, ev_putAt, ev_oPutA, ev_put0, ev_putS, ev_oTp, ev_rN, ev_cell_own, ev_cell_ro, ev_cell_val, ev_cell_lst, ev_roN, ev_oRo, ev_rF, ev_oRF, ev_rI, ev_oRI, ev_rLeaf, ev_oLeaf, ev_rFlat, ev_rView, ev_flatV1, ev_flatV1d, ev_eOw, ev_oEow, ev_fldP, ev_ixP, ev_nd1, ev_nd2, decide_true, decide_false, List.nil_append, List.cons_append, ev_ix, ev_ixT, ev_ixB, ev_ixBT, h, z1, p1, p2, p3, p4, p5, p6, r1, r2]
    obtain ⟨e, he, v, t, rfl⟩ := forF_rng (lo := 0) (n := (p % 61).toNat) (v := 2) (b := L_l_mix_0) (env := [.val (.int (n / 1000000000000 - 1)), .val (.int p), .und, .und])
      (fun i env => ∃ v t, env = [.val (.int v), .val (.int p), t, .und]) ⟨_, _, rfl⟩ (fun i env hi hI => by
        obtain ⟨v, t, rfl⟩ := hI
        unfold L_l_mix_0
        simp only [ev_bs, ev_bn, ev_ms, ev_mn, ev_g0, ev_gs, ev_s0, ev_ss, ev_bn1, ev_bn2, ev_seq, ev_seq_nx, ev_seq_rt, ev_seq_bk, ev_seq_ct, ev_nil, ev_brk, ev_cnt, ev_if, ev_if_t, ev_if_f, ev_set, ev_oset, ev_setL, ev_osetL, ev_drop, ev_odrop, ev_ret, ev_oret, ev_retN, ev_retL, ev_oretL, ev_orun, ev_orunN, ev_orunN_nx, ev_fz, ev_fz_l, ev_fz_v, ev_app, ev_app_s, ev_clear, ev_clear_s, ev_oNx, ev_asg, ev_asg_s, ev_par, ev_par_s, ev_aug, ev_aug_s, ev_setIx, ev_setIx_s, ev_augIx, ev_dictN, ev_notInN, ev_oNotInN, ev_putN, ev_oPutN, ev_for, ev_ofor, ev_V, ev_L, ev_B, ev_rdV, ev_rdLv, ev_rdLl, ev_rdBv, ev_rdBb, ev_C, ev_e2, ev_o2, ev_e1, ev_e3, ev_o3, ev_pN, ev_pS, ev_oPS, ev_aNil, ev_aCons, ev_oCons, ev_tup, ev_lst, ev_oLst, ev_scal, ev_scal_i, ev_scal_s, ev_scal_b, ev_neg, ev_oNeg, ev_tB, ev_asB, ev_tNot, ev_tAnd, ev_tOr, ev_oAnd_t, ev_oAnd_f, ev_oOr_t, ev_oOr_f, ev_eAnd, ev_eOr, ev_oAndD_t, ev_oAndD_f, ev_oOrD_t, ev_oOrD_f, ev_eNot, ev_oNot, ev_isi, ev_isi_ii, ev_isi_ib, ev_isi_il, ev_isi_it, ev_isi_is, ev_isi_ll, ev_isi_lt, ev_isi_li, ev_isi_lb, ev_isi_tt, ev_isi_tl, ev_isi_ss, ev_isi_bb, ev_isi_bi, ev_isN, ev_notN, ev_oIsN_n, ev_oIsN_i, ev_oIsN_l, ev_oIsN_t, ev_oNotN_n, ev_oNotN_i, ev_oNotN_l, ev_oNotN_t, ev_rev, ev_gRev, ev_iAny, ev_oAny_l, ev_oAny_t, ev_iSeqB, ev_oSeqB, ev_iEnum, ev_oEnum, ev_iZip, ev_oZip_ll, ev_oZip_tt, ev_oZip_lt, ev_oZip_tl, ev_iRng1, ev_rng1_s, ev_iRng2, ev_rng2_s, ev_tgN, ev_tgNil, ev_tgCons, ev_tgT, ev_wipe_nil, ev_wipe_cons, ev_lc, ev_oLc, ev_add, ev_addIS, ev_add_ll, ev_add_tt, ev_addL, ev_repL, ev_rep, ev_sub, ev_mul, ev_mod, ev_div, ev_modA, ev_divA, ev_pow, ev_lt, ev_le, ev_gt, ev_ge, ev_eq, ev_ne, ev_eqs, ev_nes, ev_eqb, ev_neb, ev_len, ev_lenT, ev_list, ev_listT, ev_tuple, ev_tupleT, ev_int, ev_intb, ev_sum, ev_sum0, ev_max2, ev_min2, ev_sl, ev_slT, ev_slL, ev_slB, ev_divAZ, ev_divZ, ev_onNx, ev_while, ev_eq_li, ev_ne_li, ev_eq_self, ev_ne_self, ev_eq_selfT, ev_ne_selfT, ev_ne_nil, ev_eq_nil, ev_sorted_i, ev_listRg, ev_oListRg, ev_in_ii, ev_thaw, ev_oThaw, ev_flatO, ev_tThaw, ev_otThaw, ev_move, ev_oMove, ev_iEnumG, ev_oEnumG_l, ev_oEnumG_t, ev_gNotB, ev_nD, ev_nL, ev_oNL, ev_xN, ev_nsNil, ev_nsCons, ev_oNs, ev_nDictQ, ev_nDictK, ev_nLst, ev_nTup, ev_toC_d, ev_toC_n, ev_setX, ev_oSetX, ev_setN, ev_oSetN, ev_dropX, ev_oDropX, ev_retX, ev_oRetX, ev_retXN, ev_seq_rx, ev_ifX, ev_oIfX_t, ev_oIfX_f, ev_oTxB, ev_txCmp, ev_oTxC, ev_txP, ev_txNot, ev_oTxN, ev_pNm, ev_nodeAt, ev_oNode, ev_sub0, ev_subS, ev_putAt, ev_oPutA, ev_put0, ev_putS, ev_oTp, ev_rN, ev_cell_own, ev_cell_ro, ev_cell_val, ev_cell_lst, ev_roN, ev_oRo, ev_rF, ev_oRF, ev_rI, ev_oRI, ev_rLeaf, ev_oLeaf, ev_rFlat, ev_rView, ev_flatV1, ev_flatV1d, ev_eOw, ev_oEow, ev_fldP, ev_ixP, ev_nd1, ev_nd2, decide_true, decide_false, List.nil_append, List.cons_append, ev_ix, ev_ixT, ev_ixB, ev_ixBT, z2, z7]
        exact ⟨_, _, rfl⟩)
    rw [he]
    simp only [ev_bs, ev_bn, ev_ms, ev_mn, ev_g0, ev_gs, ev_s0, ev_ss, ev_bn1, ev_bn2, ev_seq, ev_seq_nx, ev_seq_rt, ev_seq_bk, ev_seq_ct, ev_nil, ev_brk, ev_cnt, ev_if, ev_if_t, ev_if_f, ev_set, ev_oset, ev_setL, ev_osetL, ev_drop, ev_odrop, ev_ret, ev_oret, ev_retN, ev_retL, ev_oretL, ev_orun, ev_orunN, ev_orunN_nx, ev_fz, ev_fz_l, ev_fz_v, ev_app, ev_app_s, ev_clear, ev_clear_s, ev_oNx, ev_asg, ev_asg_s, ev_par, ev_par_s, ev_aug, ev_aug_s, ev_setIx, ev_setIx_s, ev_augIx, ev_dictN, ev_notInN, ev_oNotInN, ev_putN, ev_oPutN, ev_for, ev_ofor, ev_V, ev_L, ev_B, ev_rdV, ev_rdLv, ev_rdLl, ev_rdBv, ev_rdBb, ev_C, ev_e2, ev_o2, ev_e1, ev_e3, ev_o3, ev_pN, ev_pS, ev_oPS, ev_aNil, ev_aCons, ev_oCons, ev_tup, ev_lst, ev_oLst, ev_scal, ev_scal_i, ev_scal_s, ev_scal_b, ev_neg, ev_oNeg, ev_tB, ev_asB, ev_tNot, ev_tAnd, ev_tOr, ev_oAnd_t, ev_oAnd_f, ev_oOr_t, ev_oOr_f, ev_eAnd, ev_eOr, ev_oAndD_t, ev_oAndD_f, ev_oOrD_t, ev_oOrD_f, ev_eNot, ev_oNot, ev_isi, ev_isi_ii, ev_isi_ib, ev_isi_il, ev_isi_it, ev_isi_is, ev_isi_ll, ev_isi_lt, ev_isi_li, ev_isi_lb, ev_isi_tt, ev_isi_tl, ev_isi_ss, ev_isi_bb, ev_isi_bi, ev_isN, ev_notN, ev_oIsN_n, ev_oIsN_i, ev_oIsN_l, ev_oIsN_t, ev_oNotN_n, ev_oNotN_i, ev_oNotN_l, ev_oNotN_t, ev_rev, ev_gRev, ev_iAny, ev_oAny_l, ev_oAny_t, ev_iSeqB, ev_oSeqB, ev_iEnum, ev_oEnum, ev_iZip, ev_oZip_ll, ev_oZip_tt, ev_oZip_lt, ev_oZip_tl, ev_iRng1, ev_rng1_s, ev_iRng2, ev_rng2_s, ev_tgN, ev_tgNil, ev_tgCons, ev_tgT, ev_wipe_nil, ev_wipe_cons, ev_lc, ev_oLc, ev_add, ev_addIS, ev_add_ll, ev_add_tt, ev_addL, ev_repL, ev_rep, ev_sub, ev_mul, ev_mod, ev_div, ev_modA, ev_divA, ev_pow, ev_lt, ev_le, ev_gt, ev_ge, ev_eq, ev_ne, ev_eqs, ev_nes, ev_eqb, ev_neb, ev_len, ev_lenT, ev_list, ev_listT, ev_tuple, ev_tupleT, ev_int, ev_intb, ev_sum, ev_sum0, ev_max2, ev_min2, ev_sl, ev_slT, ev_slL, ev_slB, ev_divAZ, ev_divZ, ev_onNx, ev_while, ev_eq_li, ev_ne_li, ev_eq_self, ev_ne_self, ev_eq_selfT, ev_ne_selfT, ev_ne_nil, ev_eq_nil, ev_sorted_i, ev_listRg, ev_oListRg, ev_in_ii, ev_thaw, ev_oThaw, ev_flatO, ev_tThaw, ev_otThaw, ev_move, ev_oMove, ev_iEnumG, ev_oEnumG_l, ev_oEnumG_t, ev_gNotB, ev_nD, ev_nL, ev_oNL, ev_xN, ev_nsNil, ev_nsCons, ev_oNs, ev_nDictQ, ev_nDictK, ev_nLst, ev_nTup, ev_toC_d, ev_toC_n, ev_setX, ev_oSetX, ev_setN, ev_oSetN, ev_dropX, ev_oDropX, ev_retX, ev_oRetX, ev_retXN, ev_seq_rx, ev_ifX, ev_oIfX_t, ev_oIfX_f, ev_oTxB, ev_txCmp, ev_oTxC, ev_txP, ev_txNot, ev_oTxN, ev_pNm, ev_nodeAt, ev_oNode, ev_sub0, ev_subS, ev_putAt, ev_oPutA, ev_put0, ev_putS, ev_oTp, ev_rN, ev_cell_own, ev_cell_ro, ev_cell_val, ev_cell_lst, ev_roN, ev_oRo, ev_rF, ev_oRF, ev_rI, ev_oRI, ev_rLeaf, ev_oLeaf, ev_rFlat, ev_rView, ev_flatV1, ev_flatV1d, ev_eOw, ev_oEow, ev_fldP, ev_ixP, ev_nd1, ev_nd2, decide_true, decide_false, List.nil_append, List.cons_append, ev_ix, ev_ixT, ev_ixB, ev_ixBT, z2, Option.some.injEq, PyData.int.injEq]
    exact ⟨_, rfl, Int.emod_nonneg _ (by decide), Int.emod_lt_of_pos _ (by decide)⟩
  · have sk : Sz 10 p := Sz.of (by omega) (by omega)
    have s7 : Sz 20 7919 := Sz.of (by decide) (by decide)
    have s4 : Sz 20 48271 := Sz.of (by decide) (by decide)
    have sn : Sz 40 (n % 1000003) := Sz.of (by omega) (by omega)
    have m1 := sk.md
    have m2 := s7.md
    have m3 := (sk.mul sk).md
    have m4 := s4.md
    have m5 := ((sn.add (((sk.mul sk).mul s7).mono (by decide))).add (sk.mono (by decide))).md
    simp only [ev_bs, ev_bn, ev_ms, ev_mn, ev_g0, ev_gs, ev_s0, ev_ss, ev_bn1, ev_bn2, ev_seq, ev_seq_nx, ev_seq_rt, ev_seq_bk, ev_seq_ct, ev_nil, ev_brk, ev_cnt, ev_if, ev_if_t, ev_if_f, ev_set, ev_oset, ev_setL, ev_osetL, ev_drop, ev_odrop, ev_ret, ev_oret, ev_retN, ev_retL, ev_oretL, ev_orun, ev_orunN, ev_orunN_nx, ev_fz, ev_fz_l, ev_fz_v, ev_app, ev_app_s, ev_clear, ev_clear_s, ev_oNx, ev_asg, ev_asg_s, ev_par, ev_par_s, ev_aug, ev_aug_s, ev_setIx, ev_setIx_s, ev_augIx, ev_dictN, ev_notInN, ev_oNotInN, ev_putN, ev_oPutN, ev_for, ev_ofor, ev_V, ev_L, ev_B, ev_rdV, ev_rdLv, ev_rdLl, ev_rdBv, ev_rdBb, ev_C, ev_e2, ev_o2, ev_e1, ev_e3, ev_o3, ev_pN, ev_pS, ev_oPS, ev_aNil, ev_aCons, ev_oCons, ev_tup, ev_lst, ev_oLst, ev_scal, ev_scal_i, ev_scal_s, ev_scal_b, ev_neg, ev_oNeg, ev_tB, ev_asB, ev_tNot, ev_tAnd, ev_tOr, ev_oAnd_t, ev_oAnd_f, ev_oOr_t, ev_oOr_f, ev_eAnd, ev_eOr, ev_oAndD_t, ev_oAndD_f, ev_oOrD_t, ev_oOrD_f, ev_eNot, ev_oNot, ev_isi, ev_isi_ii, ev_isi_ib, ev_isi_il, ev_isi_it, ev_isi_is, ev_isi_ll, ev_isi_lt, ev_isi_li, ev_isi_lb, ev_isi_tt, ev_isi_tl, ev_isi_ss, ev_isi_bb, ev_isi_bi, ev_isN, ev_notN, ev_oIsN_n, ev_oIsN_i, ev_oIsN_l, ev_oIsN_t, ev_oNotN_n, ev_oNotN_i, ev_oNotN_l, ev_oNotN_t, ev_rev, ev_gRev, ev_iAny, ev_oAny_l, ev_oAny_t, ev_iSeqB, ev_oSeqB, ev_iEnum, ev_oEnum, ev_iZip, ev_oZip_ll, ev_oZip_tt, ev_oZip_lt, ev_oZip_tl, ev_iRng1, ev_rng1_s, ev_iRng2, ev_rng2_s, ev_tgN, ev_tgNil, ev_tgCons, ev_tgT, ev_wipe_nil, ev_wipe_cons, ev_lc, ev_oLc, ev_add, ev_addIS, ev_add_ll, ev_add_tt, ev_addL, ev_repL, ev_rep, ev_sub, ev_mul, ev_mod, ev_div, ev_modA, ev_divA, ev_pow, ev_lt, ev_le, ev_gt, ev_ge, ev_eq, ev_ne, ev_eqs, ev_nes, ev_eqb, ev_neb, ev_len, ev_lenT, ev_list, ev_listT, ev_tuple, ev_tupleT, ev_int, ev_intb, ev_sum, ev_sum0, ev_max2, ev_min2, ev_sl, ev_slT, ev_slL, ev_slB, ev_divAZ, ev_divZ, ev_onNx, ev_while, ev_eq_li, ev_ne_li, ev_eq_self, ev_ne_self, ev_eq_selfT, ev_ne_selfT, ev_ne_nil, ev_eq_nil, ev_sorted_i, ev_listRg, ev_oListRg, ev_in_ii, ev_thaw, ev_oThaw, ev_flatO, ev_tThaw, ev_otThaw, ev_move, ev_oMove, ev_iEnumG, ev_oEnumG_l, ev_oEnumG_t, ev_gNotB, ev_nD, ev_nL, ev_oNL, ev_xN, ev_nsNil, ev_nsCons, ev_oNs, ev_nDictQ, ev_nDictK, ev_nLst, ev_nTup, ev_toC_d, ev_toC_n, ev_setX, ev_oSetX, ev_setN, ev_oSetN, ev_dropX, ev_oDropX, ev_retX, ev_oRetX, ev_retXN, ev_seq_rx, ev_ifX, ev_oIfX_t, ev_oIfX_f, ev_oTxB, ev_txCmp, ev_oTxC, ev_txP, ev_txNot, ev_oTxN, ev_pNm, ev_nodeAt, ev_oNode, ev_sub0, ev_subS, ev_putAt, ev_oPutA, ev_put0, ev_putS, ev_oTp, ev_rN, ev_cell_own, ev_cell_ro, ev_cell_val, ev_cell_lst, ev_roN, ev_oRo, ev_rF, ev_oRF, ev_rI, ev_oRI, ev_rLeaf, ev_oLeaf, ev_rFlat, ev_rView, ev_flatV1, ev_flatV1d, ev_eOw, ev_oEow, ev_fldP, ev_ixP, ev_nd1, ev_nd2, decide_true, decide_false, List.nil_append, List.cons_append, ev_ix, ev_ixT, ev_ixB, ev_ixBT, h, m1, m2, m3, m4, m5, z3, z4]
    have g1 : ∀ x : Int, 0 ≤ x % 2147483629 ∧ x % 2147483629 < 2147483629 := fun x => ⟨Int.emod_nonneg _ (by decide), Int.emod_lt_of_pos _ (by decide)⟩
    generalize hx : (n % 1000003 + p * p * 7919 + p) * 48271 % 2147483629 = x
    have b1 := g1 ((n % 1000003 + p * p * 7919 + p) * 48271)
    rw [hx] at b1
    have m6 : Md x := md_small (by omega) (by omega)
    simp only [ev_bs, ev_bn, ev_ms, ev_mn, ev_g0, ev_gs, ev_s0, ev_ss, ev_bn1, ev_bn2, ev_seq, ev_seq_nx, ev_seq_rt, ev_seq_bk, ev_seq_ct, ev_nil, ev_brk, ev_cnt, ev_if, ev_if_t, ev_if_f, ev_set, ev_oset, ev_setL, ev_osetL, ev_drop, ev_odrop, ev_ret, ev_oret, ev_retN, ev_retL, ev_oretL, ev_orun, ev_orunN, ev_orunN_nx, ev_fz, ev_fz_l, ev_fz_v, ev_app, ev_app_s, ev_clear, ev_clear_s, ev_oNx, ev_asg, ev_asg_s, ev_par, ev_par_s, ev_aug, ev_aug_s, ev_setIx, ev_setIx_s, ev_augIx, ev_dictN, ev_notInN, ev_oNotInN, ev_putN, ev_oPutN, ev_for, ev_ofor, ev_V, ev_L, ev_B, ev_rdV, ev_rdLv, ev_rdLl, ev_rdBv, ev_rdBb, ev_C, ev_e2, ev_o2, ev_e1, ev_e3, ev_o3, ev_pN, ev_pS, ev_oPS, ev_aNil, ev_aCons, ev_oCons, ev_tup, ev_lst, ev_oLst, ev_scal, ev_scal_i, ev_scal_s, ev_scal_b, ev_neg, ev_oNeg, ev_tB, ev_asB, ev_tNot, ev_tAnd, ev_tOr, ev_oAnd_t, ev_oAnd_f, ev_oOr_t, ev_oOr_f, ev_eAnd, ev_eOr, ev_oAndD_t, ev_oAndD_f, ev_oOrD_t, ev_oOrD_f, ev_eNot, ev_oNot, ev_isi, ev_isi_ii, ev_isi_ib, ev_isi_il, ev_isi_it, ev_isi_is, ev_isi_ll, ev_isi_lt, ev_isi_li, ev_isi_lb, ev_isi_tt, ev_isi_tl, ev_isi_ss, ev_isi_bb, ev_isi_bi, ev_isN, ev_notN, ev_oIsN_n, ev_oIsN_i, ev_oIsN_l, ev_oIsN_t, ev_oNotN_n, ev_oNotN_i, ev_oNotN_l, ev_oNotN_t, ev_rev, ev_gRev, ev_iAny, ev_oAny_l, ev_oAny_t, ev_iSeqB, ev_oSeqB, ev_iEnum, ev_oEnum, ev_iZip, ev_oZip_ll, ev_oZip_tt, ev_oZip_lt, ev_oZip_tl, ev_iRng1, ev_rng1_s, ev_iRng2, ev_rng2_s, ev_tgN, ev_tgNil, ev_tgCons, ev_tgT, ev_wipe_nil, ev_wipe_cons, ev_lc, ev_oLc, ev_add, ev_addIS, ev_add_ll, ev_add_tt, ev_addL, ev_repL, ev_rep, ev_sub, ev_mul, ev_mod, ev_div, ev_modA, ev_divA, ev_pow, ev_lt, ev_le, ev_gt, ev_ge, ev_eq, ev_ne, ev_eqs, ev_nes, ev_eqb, ev_neb, ev_len, ev_lenT, ev_list, ev_listT, ev_tuple, ev_tupleT, ev_int, ev_intb, ev_sum, ev_sum0, ev_max2, ev_min2, ev_sl, ev_slT, ev_slL, ev_slB, ev_divAZ, ev_divZ, ev_onNx, ev_while, ev_eq_li, ev_ne_li, ev_eq_self, ev_ne_self, ev_eq_selfT, ev_ne_selfT, ev_ne_nil, ev_eq_nil, ev_sorted_i, ev_listRg, ev_oListRg, ev_in_ii, ev_thaw, ev_oThaw, ev_flatO, ev_tThaw, ev_otThaw, ev_move, ev_oMove, ev_iEnumG, ev_oEnumG_l, ev_oEnumG_t, ev_gNotB, ev_nD, ev_nL, ev_oNL, ev_xN, ev_nsNil, ev_nsCons, ev_oNs, ev_nDictQ, ev_nDictK, ev_nLst, ev_nTup, ev_toC_d, ev_toC_n, ev_setX, ev_oSetX, ev_setN, ev_oSetN, ev_dropX, ev_oDropX, ev_retX, ev_oRetX, ev_retXN, ev_seq_rx, ev_ifX, ev_oIfX_t, ev_oIfX_f, ev_oTxB, ev_txCmp, ev_oTxC, ev_txP, ev_txNot, ev_oTxN, ev_pNm, ev_nodeAt, ev_oNode, ev_sub0, ev_subS, ev_putAt, ev_oPutA, ev_put0, ev_putS, ev_oTp, ev_rN, ev_cell_own, ev_cell_ro, ev_cell_val, ev_cell_lst, ev_roN, ev_oRo, ev_rF, ev_oRF, ev_rI, ev_oRI, ev_rLeaf, ev_oLeaf, ev_rFlat, ev_rView, ev_flatV1, ev_flatV1d, ev_eOw, ev_oEow, ev_fldP, ev_ixP, ev_nd1, ev_nd2, decide_true, decide_false, List.nil_append, List.cons_append, ev_ix, ev_ixT, ev_ixB, ev_ixBT, m6, z5]
    have g2 : ∀ x : Int, 0 ≤ x % 2147483587 ∧ x % 2147483587 < 2147483587 := fun x => ⟨Int.emod_nonneg _ (by decide), Int.emod_lt_of_pos _ (by decide)⟩
    generalize hy : x * x % 2147483587 = y
    have b2 := g2 (x * x)
    rw [hy] at b2
    have m7 : Md y := md_small (by omega) (by omega)
    have m8 : Md (y + 2) := md_small (by omega) (by omega)
    simp only [ev_bs, ev_bn, ev_ms, ev_mn, ev_g0, ev_gs, ev_s0, ev_ss, ev_bn1, ev_bn2, ev_seq, ev_seq_nx, ev_seq_rt, ev_seq_bk, ev_seq_ct, ev_nil, ev_brk, ev_cnt, ev_if, ev_if_t, ev_if_f, ev_set, ev_oset, ev_setL, ev_osetL, ev_drop, ev_odrop, ev_ret, ev_oret, ev_retN, ev_retL, ev_oretL, ev_orun, ev_orunN, ev_orunN_nx, ev_fz, ev_fz_l, ev_fz_v, ev_app, ev_app_s, ev_clear, ev_clear_s, ev_oNx, ev_asg, ev_asg_s, ev_par, ev_par_s, ev_aug, ev_aug_s, ev_setIx, ev_setIx_s, ev_augIx, ev_dictN, ev_notInN, ev_oNotInN, ev_putN, ev_oPutN, ev_for, ev_ofor, ev_V, ev_L, ev_B, ev_rdV, ev_rdLv, ev_rdLl, ev_rdBv, ev_rdBb, ev_C, ev_e2, ev_o2, ev_e1, ev_e3, ev_o3, ev_pN, ev_pS, ev_oPS, ev_aNil, ev_aCons, ev_oCons, ev_tup, ev_lst, ev_oLst, ev_scal, ev_scal_i, ev_scal_s, ev_scal_b, ev_neg, ev_oNeg, ev_tB, ev_asB, ev_tNot, ev_tAnd, ev_tOr, ev_oAnd_t, ev_oAnd_f, ev_oOr_t, ev_oOr_f, ev_eAnd, ev_eOr, ev_oAndD_t, ev_oAndD_f, ev_oOrD_t, ev_oOrD_f, ev_eNot, ev_oNot, ev_isi, ev_isi_ii, ev_isi_ib, ev_isi_il, ev_isi_it, ev_isi_is, ev_isi_ll, ev_isi_lt, ev_isi_li, ev_isi_lb, ev_isi_tt, ev_isi_tl, ev_isi_ss, ev_isi_bb, ev_isi_bi, ev_isN, ev_notN, ev_oIsN_n, ev_oIsN_i, ev_oIsN_l, ev_oIsN_t, ev_oNotN_n, ev_oNotN_i, ev_oNotN_l, ev_oNotN_t, ev_rev, ev_gRev, ev_iAny, ev_oAny_l, ev_oAny_t, ev_iSeqB, ev_oSeqB, ev_iEnum, ev_oEnum, ev_iZip, ev_oZip_ll, ev_oZip_tt, ev_oZip_lt, ev_oZip_tl, ev_iRng1, ev_rng1_s, ev_iRng2, ev_rng2_s, ev_tgN, ev_tgNil, ev_tgCons, ev_tgT, ev_wipe_nil, ev_wipe_cons, ev_lc, ev_oLc, ev_add, ev_addIS, ev_add_ll, ev_add_tt, ev_addL, ev_repL, ev_rep, ev_sub, ev_mul, ev_mod, ev_div, ev_modA, ev_divA, ev_pow, ev_lt, ev_le, ev_gt, ev_ge, ev_eq, ev_ne, ev_eqs, ev_nes, ev_eqb, ev_neb, ev_len, ev_lenT, ev_list, ev_listT, ev_tuple, ev_tupleT, ev_int, ev_intb, ev_sum, ev_sum0, ev_max2, ev_min2, ev_sl, ev_slT, ev_slL, ev_slB, ev_divAZ, ev_divZ, ev_onNx, ev_while, ev_eq_li, ev_ne_li, ev_eq_self, ev_ne_self, ev_eq_selfT, ev_ne_selfT, ev_ne_nil, ev_eq_nil, ev_sorted_i, ev_listRg, ev_oListRg, ev_in_ii, ev_thaw, ev_oThaw, ev_flatO, ev_tThaw, ev_otThaw, ev_move, ev_oMove, ev_iEnumG, ev_oEnumG_l, ev_oEnumG_t, ev_gNotB, ev_nD, ev_nL, ev_oNL, ev_xN, ev_nsNil, ev_nsCons, ev_oNs, ev_nDictQ, ev_nDictK, ev_nLst, ev_nTup, ev_toC_d, ev_toC_n, ev_setX, ev_oSetX, ev_setN, ev_oSetN, ev_dropX, ev_oDropX, ev_retX, ev_oRetX, ev_retXN, ev_seq_rx, ev_ifX, ev_oIfX_t, ev_oIfX_f, ev_oTxB, ev_txCmp, ev_oTxC, ev_txP, ev_txNot, ev_oTxN, ev_pNm, ev_nodeAt, ev_oNode, ev_sub0, ev_subS, ev_putAt, ev_oPutA, ev_put0, ev_putS, ev_oTp, ev_rN, ev_cell_own, ev_cell_ro, ev_cell_val, ev_cell_lst, ev_roN, ev_oRo, ev_rF, ev_oRF, ev_rI, ev_oRI, ev_rLeaf, ev_oLeaf, ev_rFlat, ev_rView, ev_flatV1, ev_flatV1d, ev_eOw, ev_oEow, ev_fldP, ev_ixP, ev_nd1, ev_nd2, decide_true, decide_false, List.nil_append, List.cons_append, ev_ix, ev_ixT, ev_ixB, ev_ixBT, m7, m8, z6, z8, z9, Option.some.injEq, PyData.int.injEq]
    have := Int.emod_lt_of_pos (y * (y + 2)) (b := 2147483579) (by decide)
    have := Int.emod_nonneg (y * (y + 2)) (b := 2147483579) (by decide)
    exact ⟨_, rfl, by omega, by omega⟩
noncomputable def mixZ (n p : Int) : Int := if h : 0 ≤ p ∧ p < 1000 then (mix_ok (n := n) h.1 h.2).choose else 0
theorem mixZ_ok {n p : Int} (h0 : 0 ≤ p) (h1 : p < 1000) : f_l_mix [.int n, .int p] = some (.int (mixZ n p)) ∧ 0 ≤ mixZ n p ∧ mixZ n p < 2147483648 := by
  unfold mixZ
  rw [dif_pos ⟨h0, h1⟩]
  exact (mix_ok (n := n) h0 h1).choose_spec
/-! own counts, house by house -/
def OT (O : List (List Int)) : T := .n .l (O.map ilT)
theorem view_il (l : List Int) : viewT (ilT l) = some (.list (l.map .int)) := by
  show (viewTs ((l.map PyData.int).map T.d)).map PyData.list = _
  have : ∀ ds : List D, viewTs (ds.map T.d) = some ds := fun ds => by
    induction ds with
    | nil => rfl
    | cons d ds ih => show (viewT (.d d)).bind (fun x => (viewTs (ds.map T.d)).map (x :: ·)) = _; rw [ih]; rfl
  rw [this]; rfl
theorem view_OT (O : List (List Int)) : viewT (OT O) = some (.list (O.map fun l => .list (l.map .int))) := by
  show (viewTs (O.map ilT)).map PyData.list = _
  have : viewTs (O.map ilT) = some (O.map fun l => .list (l.map .int)) := by
    induction O with
    | nil => rfl
    | cons l O ih => show (viewT (ilT l)).bind (fun x => (viewTs (O.map ilT)).map (x :: ·)) = _; rw [view_il, ih]; rfl
  rw [this]; rfl
theorem map_at {α β : Type} (f : α → β) (a : α) {l : List α} {h : Int} (h0 : 0 ≤ h) (h1 : h < l.length) : ((ixN (l.map f).length h).bind fun j => (l.map f)[j]?) = some (f (l.getD h.toNat a)) := by
  rw [List.length_map, ixN_pos h0 h1]
  show (l.map f)[h.toNat]? = _
  have hl : h.toNat < l.length := by omega
  rw [List.getElem?_map, List.getElem?_eq_getElem hl]
  simp [List.getD, List.getElem?_eq_getElem hl]
def OOk (n : Nat) (O : List (List Int)) : Prop := O.length = n ∧ ∀ l ∈ O, l.length = n
theorem OOk.at {n : Nat} {O : List (List Int)} (h : OOk n O) {k : Nat} (hk : k < n) : (O.getD k []).length = n := by
  have hl : k < O.length := by rw [h.1]; exact hk
  have e : O.getD k [] = O[k] := by simp [List.getD, List.getElem?_eq_getElem hl]
  rw [e]; exact h.2 _ (List.getElem_mem hl)
theorem OOk.set {n : Nat} {O : List (List Int)} (h : OOk n O) {k : Nat} {l : List Int} (hl : l.length = n) : OOk n (O.set k l) := by
  refine ⟨by rw [List.length_set]; exact h.1, fun x hx => ?_⟩
  rcases List.mem_or_eq_of_mem_set hx with z | z
  · exact h.2 x z
  · rw [z]; exact hl
theorem ok_do : PyData.strOk ("do" : Str) = true := by kernel_rfl
theorem ok_give : PyData.strOk ("give" : Str) = true := by kernel_rfl
theorem lay_do (a b : Int) : (PyData.tuple [.str "do", .int a, .int b]).canLay0 = true ∧ (PyData.tuple [.str "do", .int a, .int b]).depth ≤ 1 ∧ noL (PyData.tuple [.str "do", .int a, .int b]) = true ∧ DdOk (PyData.tuple [.str "do", .int a, .int b]) := by
  refine ⟨by simp only [PyData.canLay0, PyData.canLayAll0, ok_do, ok_give, Bool.and_self, Bool.and_true, Bool.true_and], ?_, rfl, .inl ⟨a, b, rfl⟩⟩
  simp only [PyData.depth, PyData.depthAll]
  omega
theorem lay_give (a b c : Int) : (PyData.tuple [.str "give", .int a, .int b, .int c]).canLay0 = true ∧ (PyData.tuple [.str "give", .int a, .int b, .int c]).depth ≤ 1 ∧ noL (PyData.tuple [.str "give", .int a, .int b, .int c]) = true ∧ DdOk (PyData.tuple [.str "give", .int a, .int b, .int c]) := by
  refine ⟨by simp only [PyData.canLay0, PyData.canLayAll0, ok_do, ok_give, Bool.and_self, Bool.and_true, Bool.true_and], ?_, rfl, .inr ⟨a, b, c, rfl⟩⟩
  simp only [PyData.depth, PyData.depthAll]
  omega
theorem OT_at {O : List (List Int)} {h : Int} (h0 : 0 ≤ h) (h1 : h < O.length) : oRI (some (OT O)) (some (.int h)) = some (ilT (O.getD h.toNat [])) := map_at ilT [] h0 h1
theorem il_at {l : List Int} {h : Int} (h0 : 0 ≤ h) (h1 : h < l.length) : oRI (some (ilT l)) (some (.int h)) = some (.d (.int (l.getD h.toNat 0))) := by
  have := map_at (fun i => T.d (.int i)) 0 h0 h1
  have e : (l.map fun i => T.d (.int i)) = (l.map PyData.int).map T.d := by rw [List.map_map]; rfl
  rw [e] at this
  exact this
theorem max_at {a b : List Int} (hl : a.length = b.length) {k : Nat} (hk : k < a.length) : (((a.zip b).map fun p => if p.2 > p.1 then p.2 else p.1).getD k 0) = if b.getD k 0 > a.getD k 0 then b.getD k 0 else a.getD k 0 := by
  have hb : k < b.length := by omega
  have hz : k < (a.zip b).length := by rw [List.length_zip]; omega
  simp only [List.getD_eq_getElem?_getD, List.getElem?_map, List.getElem?_eq_getElem hk, List.getElem?_eq_getElem hb, List.getElem?_eq_getElem hz, List.getElem_zip, Option.map_some, Option.getD_some]
/-- what the houses know, beside how many rows there are of each -/
def OwnG (n : Nat) (O : List (List Int)) (c : List Int) : Prop := c.length = n ∧ (∀ h, h < n → (O.getD h []).getD h 0 = c.getD h 0) ∧ ∀ h, h < n → ∀ j, j < n → (O.getD h []).getD j 0 ≤ c.getD j 0
theorem OwnG.max {n : Nat} {O : List (List Int)} {c : List Int} (hO : OOk n O) (h : OwnG n O c) {i g : Nat} (hi : i < n) (hg : g < n) :
    OwnG n (O.set i (((O.getD i []).zip (O.getD g [])).map fun p => if p.2 > p.1 then p.2 else p.1)) c := by
  obtain ⟨h1, h2, h3⟩ := h
  have li := hO.at hi
  have lg := hO.at hg
  have key : ∀ j, j < n → (((O.getD i []).zip (O.getD g [])).map fun p => if p.2 > p.1 then p.2 else p.1).getD j 0 ≤ c.getD j 0 := fun j hj => by
    rw [max_at (by omega) (by omega)]
    have a1 := h3 i hi j hj
    have a2 := h3 g hg j hj
    split <;> omega
  refine ⟨h1, fun k hk => ?_, fun k hk j hj => ?_⟩
  · rw [getD_set O [] (by rw [hO.1]; exact hi)]
    by_cases e : k = i
    · rw [if_pos e]
      subst e
      rw [max_at (by omega) (by omega), h2 k hk]
      have a2 := h3 g hg k hk
      split <;> omega
    · rw [if_neg e]; exact h2 k hk
  · rw [getD_set O [] (by rw [hO.1]; exact hi)]
    by_cases e : k = i
    · rw [if_pos e]; exact key j hj
    · rw [if_neg e]; exact h3 k hk j hj
theorem OwnG.row {n : Nat} {O : List (List Int)} {c : List Int} (hO : OOk n O) (h : OwnG n O c) {a : Int} {dd : D} (hr : RwOk n ⟨a, (O.getD a.toNat []).getD a.toNat 0, O.getD a.toNat [], dd⟩) :
    rdy c ⟨a, (O.getD a.toNat []).getD a.toNat 0, O.getD a.toNat [], dd⟩ = true ∧ OwnG n (O.set a.toNat ((O.getD a.toNat []).set a.toNat ((O.getD a.toNat []).getD a.toNat 0 + 1))) (bump c ⟨a, (O.getD a.toNat []).getD a.toNat 0, O.getD a.toNat [], dd⟩) := by
  obtain ⟨h1, h2, h3⟩ := h
  have h0 : 0 ≤ a := hr.1
  have hn : a < n := hr.2.1
  have hi : a.toNat < n := by omega
  have li := hO.at hi
  have bp := bump_at h1 hr
  refine ⟨?_, (bump_len ..).trans h1, fun k hk => ?_, fun k hk j hj => ?_⟩
  · unfold rdy readyB
    dsimp only
    rw [Bool.and_eq_true, decide_eq_true_eq, leAll_iff _ _ (by omega)]
    exact ⟨h2 _ hi, fun k hk => h3 _ hi k (by omega)⟩
  · rw [bp, getD_set O [] (by rw [hO.1]; exact hi)]
    dsimp only
    by_cases e : k = a.toNat
    · rw [if_pos e, if_pos e, e, getD_set _ _ (by omega), if_pos rfl, h2 _ hi]
    · rw [if_neg e, if_neg e]; exact h2 k hk
  · rw [bp, getD_set O [] (by rw [hO.1]; exact hi)]
    dsimp only
    have h2i := h2 _ hi
    by_cases e : k = a.toNat
    · rw [if_pos e, getD_set _ _ (by omega)]
      by_cases e2 : j = a.toNat
      · rw [if_pos e2, if_pos e2]; omega
      · rw [if_neg e2, if_neg e2]; exact h3 _ hi j hj
    · rw [if_neg e]
      have := h3 k hk j hj
      by_cases e2 : j = a.toNat
      · rw [if_pos e2]; rw [e2] at this ⊢; omega
      · rw [if_neg e2]; exact this
/-- a turn of the rows' loop -/
def rowsE (c0 c1 : C) (O : List (List Int)) (rs : List Rw) (t4 t5 t6 t7 t8 t9 : C) : List C := [c0, c1, .own none (OT O), .lst (rs.map rwD), t4, t5, t6, t7, t8, t9, .und, .und]
theorem rows_turn {n : Nat} (hn2 : 2 ≤ n) (hn4 : n ≤ 4) (c0 : C) {O : List (List Int)} {rs : List Rw} {t6 t7 t8 t9 : C} {a c : Int} (hO : OOk n O) (hr : ∀ r ∈ rs, RwOk n r) (hl : rs.length < 1000000) (ha : 0 ≤ a) (ha2 : a < 600) :
    ∃ O' rs' u4 u5 u6 u7 u8 u9, OOk n O' ∧ (∀ r ∈ rs', RwOk n r) ∧ rs'.length ≤ rs.length + 1 ∧ (∀ c, OwnG n O c → ∃ c', OwnG n O' c' ∧ ((rs' = rs ∧ c' = c) ∨ ∃ r, rs' = rs ++ [r] ∧ rdy c r = true ∧ c' = bump c r)) ∧
      (L_l_rows_0 (rowsE c0 (.val (.int (n : Nat))) O rs (.val (.int a)) (.val (.int c)) t6 t7 t8 t9) = .nx (rowsE c0 (.val (.int (n : Nat))) O' rs' u4 u5 u6 u7 u8 u9) ∨
       L_l_rows_0 (rowsE c0 (.val (.int (n : Nat))) O rs (.val (.int a)) (.val (.int c)) t6 t7 t8 t9) = .ct (rowsE c0 (.val (.int (n : Nat))) O' rs' u4 u5 u6 u7 u8 u9)) := by
  obtain ⟨m, em, m0, m1⟩ := mix_ok (n := c) (p := 400 + a) (by omega) (by omega)
  have zn : (0 : Int) < (n : Int) := by omega
  have h0 := Int.emod_nonneg m (b := (n : Int)) (by omega)
  have h1 := Int.emod_lt_of_pos m (b := (n : Int)) zn
  generalize hh : m % (n : Int) = h at h0 h1
  have q4 : (0 : Int) < 4 := by decide
  have q4' : (4 : Int) < 2 ^ 250 := by decide
  have q3 : (0 : Int) < 3 := by decide
  have q12 : (0 : Int) < 12 := by decide
  have q12' : (12 : Int) < 2 ^ 250 := by decide
  have q36 : (0 : Int) < 36 := by decide
  have q36' : (36 : Int) < 2 ^ 250 := by decide
  have q9 : (0 : Int) < 9 := by decide
  have q400 : (0 : Int) < 400 := by decide
  have q400' : (400 : Int) < 2 ^ 250 := by decide
  have zn1 : (0 : Int) < (n : Int) - 1 := by omega
  have hOl : h < O.length := by rw [hO.1]; exact h1
  have lo := hO.at (k := h.toNat) (by omega)
  cases hd : decide (m / 4 % 3 = 0) with
  | true =>
    have g0 := Int.emod_nonneg (h + 1 + m / 12 % ((n : Int) - 1)) (b := (n : Int)) (by omega)
    have g1 := Int.emod_lt_of_pos (h + 1 + m / 12 % ((n : Int) - 1)) (b := (n : Int)) zn
    generalize hg : (h + 1 + m / 12 % ((n : Int) - 1)) % (n : Int) = g at g0 g1
    have lg := hO.at (k := g.toNat) (by omega)
    have cm : eFv 2 (eLc [10, 11] (iZipG (e2 gIxS (eV 2) (eV 7)) (e2 gIxS (eV 2) (eV 8))) (tgT (tgCons (tgN 10) (tgCons (tgN 11) tgNil))) (fun _ => some true) (e1 gMax2 (aCons (eV 10) (aCons (eV 11) aNil))))
        (rowsE c0 (.val (.int (n : Nat))) O rs (.val (.int a)) (.val (.int c)) (.val (.int m)) (.val (.int h)) (.val (.int g)) t9) = some (.list ((((O.getD h.toNat []).zip (O.getD g.toNat [])).map fun p => if p.2 > p.1 then p.2 else p.1).map PyData.int)) := by
      have pf : putFz 2 (rowsE c0 (.val (.int (n : Nat))) O rs (.val (.int a)) (.val (.int c)) (.val (.int m)) (.val (.int h)) (.val (.int g)) t9) = some [c0, .val (.int (n : Nat)), .val (.list (O.map fun l => .list (l.map .int))), .lst (rs.map rwD), .val (.int a), .val (.int c), .val (.int m), .val (.int h), .val (.int g), t9, .und, .und] := by
        show (viewT (OT O)).map _ = _
        rw [view_OT]; rfl
      have a1 : atI (O.map fun l => PyData.list (l.map .int)) h = some (.list ((O.getD h.toNat []).map .int)) := by
        rw [ev_atm h0 hOl, List.getElem?_eq_getElem (by omega)]
        simp [List.getD, List.getElem?_eq_getElem (show h.toNat < O.length by omega)]
      have a2 : atI (O.map fun l => PyData.list (l.map .int)) g = some (.list ((O.getD g.toNat []).map .int)) := by
        rw [ev_atm g0 (by rw [hO.1]; exact g1), List.getElem?_eq_getElem (by rw [hO.1]; omega)]
        simp [List.getD, List.getElem?_eq_getElem (show g.toNat < O.length by rw [hO.1]; omega)]
      unfold eFv
      rw [pf]
      dsimp only
      simp only [ev_bs, ev_bn, ev_ms, ev_mn, ev_g0, ev_gs, ev_s0, ev_ss, ev_bn1, ev_bn2, ev_seq, ev_seq_nx, ev_seq_rt, ev_seq_bk, ev_seq_ct, ev_nil, ev_brk, ev_cnt, ev_if, ev_if_t, ev_if_f, ev_set, ev_oset, ev_setL, ev_osetL, ev_drop, ev_odrop, ev_ret, ev_oret, ev_retN, ev_retL, ev_oretL, ev_orun, ev_orunN, ev_orunN_nx, ev_fz, ev_fz_l, ev_fz_v, ev_app, ev_app_s, ev_clear, ev_clear_s, ev_oNx, ev_asg, ev_asg_s, ev_par, ev_par_s, ev_aug, ev_aug_s, ev_setIx, ev_setIx_s, ev_augIx, ev_dictN, ev_notInN, ev_oNotInN, ev_putN, ev_oPutN, ev_for, ev_ofor, ev_V, ev_L, ev_B, ev_rdV, ev_rdLv, ev_rdLl, ev_rdBv, ev_rdBb, ev_C, ev_e2, ev_o2, ev_e1, ev_e3, ev_o3, ev_pN, ev_pS, ev_oPS, ev_aNil, ev_aCons, ev_oCons, ev_tup, ev_lst, ev_oLst, ev_scal, ev_scal_i, ev_scal_s, ev_scal_b, ev_neg, ev_oNeg, ev_tB, ev_asB, ev_tNot, ev_tAnd, ev_tOr, ev_oAnd_t, ev_oAnd_f, ev_oOr_t, ev_oOr_f, ev_eAnd, ev_eOr, ev_oAndD_t, ev_oAndD_f, ev_oOrD_t, ev_oOrD_f, ev_eNot, ev_oNot, ev_isi, ev_isi_ii, ev_isi_ib, ev_isi_il, ev_isi_it, ev_isi_is, ev_isi_ll, ev_isi_lt, ev_isi_li, ev_isi_lb, ev_isi_tt, ev_isi_tl, ev_isi_ss, ev_isi_bb, ev_isi_bi, ev_isN, ev_notN, ev_oIsN_n, ev_oIsN_i, ev_oIsN_l, ev_oIsN_t, ev_oNotN_n, ev_oNotN_i, ev_oNotN_l, ev_oNotN_t, ev_rev, ev_gRev, ev_iAny, ev_oAny_l, ev_oAny_t, ev_iSeqB, ev_oSeqB, ev_iEnum, ev_oEnum, ev_iZip, ev_oZip_ll, ev_oZip_tt, ev_oZip_lt, ev_oZip_tl, ev_iRng1, ev_rng1_s, ev_iRng2, ev_rng2_s, ev_tgN, ev_tgNil, ev_tgCons, ev_tgT, ev_wipe_nil, ev_wipe_cons, ev_lc, ev_oLc, ev_add, ev_addIS, ev_add_ll, ev_add_tt, ev_addL, ev_repL, ev_rep, ev_sub, ev_mul, ev_mod, ev_div, ev_modA, ev_divA, ev_pow, ev_lt, ev_le, ev_gt, ev_ge, ev_eq, ev_ne, ev_eqs, ev_nes, ev_eqb, ev_neb, ev_len, ev_lenT, ev_list, ev_listT, ev_tuple, ev_tupleT, ev_int, ev_intb, ev_sum, ev_sum0, ev_max2, ev_min2, ev_sl, ev_slT, ev_slL, ev_slB, ev_divAZ, ev_divZ, ev_onNx, ev_while, ev_eq_li, ev_ne_li, ev_eq_self, ev_ne_self, ev_eq_selfT, ev_ne_selfT, ev_ne_nil, ev_eq_nil, ev_sorted_i, ev_listRg, ev_oListRg, ev_in_ii, ev_thaw, ev_oThaw, ev_flatO, ev_tThaw, ev_otThaw, ev_move, ev_oMove, ev_iEnumG, ev_oEnumG_l, ev_oEnumG_t, ev_gNotB, ev_nD, ev_nL, ev_oNL, ev_xN, ev_nsNil, ev_nsCons, ev_oNs, ev_nDictQ, ev_nDictK, ev_nLst, ev_nTup, ev_toC_d, ev_toC_n, ev_setX, ev_oSetX, ev_setN, ev_oSetN, ev_dropX, ev_oDropX, ev_retX, ev_oRetX, ev_retXN, ev_seq_rx, ev_ifX, ev_oIfX_t, ev_oIfX_f, ev_oTxB, ev_txCmp, ev_oTxC, ev_txP, ev_txNot, ev_oTxN, ev_pNm, ev_nodeAt, ev_oNode, ev_sub0, ev_subS, ev_putAt, ev_oPutA, ev_put0, ev_putS, ev_oTp, ev_rN, ev_cell_own, ev_cell_ro, ev_cell_val, ev_cell_lst, ev_roN, ev_oRo, ev_rF, ev_oRF, ev_rI, ev_oRI, ev_rLeaf, ev_oLeaf, ev_rFlat, ev_rView, ev_flatV1, ev_flatV1d, ev_eOw, ev_oEow, ev_fldP, ev_ixP, ev_nd1, ev_nd2, decide_true, decide_false, List.nil_append, List.cons_append, ev_ix, ev_ixT, ev_ixB, ev_ixBT, a1, a2, zip_map]
      have lc : ∀ env : List C, 11 < env.length → lcF (tgT (tgCons (tgN 10) (tgCons (tgN 11) tgNil))) (fun _ => some true) (e1 gMax2 (aCons (eV 10) (aCons (eV 11) aNil))) env (((O.getD h.toNat []).zip (O.getD g.toNat [])).map fun p => .tuple [.int p.1, .int p.2]) =
          some (((O.getD h.toNat []).zip (O.getD g.toNat [])).map fun p => PyData.int (if p.2 > p.1 then p.2 else p.1)) := fun env he => by
        refine lcF_map _ _ _ fun p hp => ⟨_, rfl, rfl, ?_⟩
        have e10 : ((env.set 10 (.val (.int p.1))).set 11 (.val (.int p.2)))[10]? = some (.val (.int p.1)) := by
          rw [List.getElem?_set_ne (by decide), List.getElem?_set_self (by omega)]
        have e11 : ((env.set 10 (.val (.int p.1))).set 11 (.val (.int p.2)))[11]? = some (.val (.int p.2)) := by
          rw [List.getElem?_set_self (by rw [List.length_set]; omega)]
        simp only [ev_e1, ev_aCons, ev_aNil, ev_V, e10, e11, ev_rdV, ev_oCons, ev_bs, ev_max2]
      rw [lc _ (by show 11 < 12; decide)]
      have e : (((O.getD h.toNat []).zip (O.getD g.toNat [])).map fun p => PyData.int (if p.2 > p.1 then p.2 else p.1)) = (((O.getD h.toNat []).zip (O.getD g.toNat [])).map fun p => if p.2 > p.1 then p.2 else p.1).map PyData.int := by rw [List.map_map]; rfl
      rw [e, ev_ms, ev_flatO]
    have hmx := fun c z => OwnG.max (n := n) (O := O) (c := c) hO z (i := h.toNat) (g := g.toNat) (by omega) (by omega)
    generalize hml : (((O.getD h.toNat []).zip (O.getD g.toNat [])).map fun p => if p.2 > p.1 then p.2 else p.1) = ml at cm hmx
    have lml : ml.length = n := by rw [← hml, List.length_map, List.length_zip, lo, lg, Nat.min_self]
    refine ⟨O.set h.toNat ml, rs, .val (.int a), .val (.int c), .val (.int m), .val (.int h), .val (.int g), t9, hO.set lml, hr, Nat.le_succ _, (fun c z => ⟨c, hmx c z, .inl ⟨rfl, rfl⟩⟩), .inr ?_⟩
    have st : oIxP (some (rowsE c0 (.val (.int (n : Nat))) O rs (.val (.int a)) (.val (.int c)) (.val (.int m)) (.val (.int h)) (.val (.int g)) t9, ilT ml)) (pNm 2) (eV 7) = .nx (rowsE c0 (.val (.int (n : Nat))) (O.set h.toNat ml) rs (.val (.int a)) (.val (.int c)) (.val (.int m)) (.val (.int h)) (.val (.int g)) t9) := by
      refine (ixP_at (i := 2) (p := []) (ts := O.map ilT) (k := h) (j := h.toNat) rfl rfl rfl (by rw [List.length_map]; exact ixN_pos h0 hOl)).trans ?_
      rw [← List.map_set]; rfl
    unfold rowsE at cm st ⊢
    unfold L_l_rows_0
    simp only [ev_bs, ev_bn, ev_ms, ev_mn, ev_g0, ev_gs, ev_s0, ev_ss, ev_bn1, ev_bn2, ev_seq, ev_seq_nx, ev_seq_rt, ev_seq_bk, ev_seq_ct, ev_nil, ev_brk, ev_cnt, ev_if, ev_if_t, ev_if_f, ev_set, ev_oset, ev_setL, ev_osetL, ev_drop, ev_odrop, ev_ret, ev_oret, ev_retN, ev_retL, ev_oretL, ev_orun, ev_orunN, ev_orunN_nx, ev_fz, ev_fz_l, ev_fz_v, ev_app, ev_app_s, ev_clear, ev_clear_s, ev_oNx, ev_asg, ev_asg_s, ev_par, ev_par_s, ev_aug, ev_aug_s, ev_setIx, ev_setIx_s, ev_augIx, ev_dictN, ev_notInN, ev_oNotInN, ev_putN, ev_oPutN, ev_for, ev_ofor, ev_V, ev_L, ev_B, ev_rdV, ev_rdLv, ev_rdLl, ev_rdBv, ev_rdBb, ev_C, ev_e2, ev_o2, ev_e1, ev_e3, ev_o3, ev_pN, ev_pS, ev_oPS, ev_aNil, ev_aCons, ev_oCons, ev_tup, ev_lst, ev_oLst, ev_scal, ev_scal_i, ev_scal_s, ev_scal_b, ev_neg, ev_oNeg, ev_tB, ev_asB, ev_tNot, ev_tAnd, ev_tOr, ev_oAnd_t, ev_oAnd_f, ev_oOr_t, ev_oOr_f, ev_eAnd, ev_eOr, ev_oAndD_t, ev_oAndD_f, ev_oOrD_t, ev_oOrD_f, ev_eNot, ev_oNot, ev_isi, ev_isi_ii, ev_isi_ib, ev_isi_il, ev_isi_it, ev_isi_is, ev_isi_ll, ev_isi_lt, ev_isi_li, ev_isi_lb, ev_isi_tt, ev_isi_tl, ev_isi_ss, ev_isi_bb, ev_isi_bi, ev_isN, ev_notN, ev_oIsN_n, ev_oIsN_i, ev_oIsN_l, ev_oIsN_t, ev_oNotN_n, ev_oNotN_i, ev_oNotN_l, ev_oNotN_t, ev_rev, ev_gRev, ev_iAny, ev_oAny_l, ev_oAny_t, ev_iSeqB, ev_oSeqB, ev_iEnum, ev_oEnum, ev_iZip, ev_oZip_ll, ev_oZip_tt, ev_oZip_lt, ev_oZip_tl, ev_iRng1, ev_rng1_s, ev_iRng2, ev_rng2_s, ev_tgN, ev_tgNil, ev_tgCons, ev_tgT, ev_wipe_nil, ev_wipe_cons, ev_lc, ev_oLc, ev_add, ev_addIS, ev_add_ll, ev_add_tt, ev_addL, ev_repL, ev_rep, ev_sub, ev_mul, ev_mod, ev_div, ev_modA, ev_divA, ev_pow, ev_lt, ev_le, ev_gt, ev_ge, ev_eq, ev_ne, ev_eqs, ev_nes, ev_eqb, ev_neb, ev_len, ev_lenT, ev_list, ev_listT, ev_tuple, ev_tupleT, ev_int, ev_intb, ev_sum, ev_sum0, ev_max2, ev_min2, ev_sl, ev_slT, ev_slL, ev_slB, ev_divAZ, ev_divZ, ev_onNx, ev_while, ev_eq_li, ev_ne_li, ev_eq_self, ev_ne_self, ev_eq_selfT, ev_ne_selfT, ev_ne_nil, ev_eq_nil, ev_sorted_i, ev_listRg, ev_oListRg, ev_in_ii, ev_thaw, ev_oThaw, ev_flatO, ev_tThaw, ev_otThaw, ev_move, ev_oMove, ev_iEnumG, ev_oEnumG_l, ev_oEnumG_t, ev_gNotB, ev_nD, ev_nL, ev_oNL, ev_xN, ev_nsNil, ev_nsCons, ev_oNs, ev_nDictQ, ev_nDictK, ev_nLst, ev_nTup, ev_toC_d, ev_toC_n, ev_setX, ev_oSetX, ev_setN, ev_oSetN, ev_dropX, ev_oDropX, ev_retX, ev_oRetX, ev_retXN, ev_seq_rx, ev_ifX, ev_oIfX_t, ev_oIfX_f, ev_oTxB, ev_txCmp, ev_oTxC, ev_txP, ev_txNot, ev_oTxN, ev_pNm, ev_nodeAt, ev_oNode, ev_sub0, ev_subS, ev_putAt, ev_oPutA, ev_put0, ev_putS, ev_oTp, ev_rN, ev_cell_own, ev_cell_ro, ev_cell_val, ev_cell_lst, ev_roN, ev_oRo, ev_rF, ev_oRF, ev_rI, ev_oRI, ev_rLeaf, ev_oLeaf, ev_rFlat, ev_rView, ev_flatV1, ev_flatV1d, ev_eOw, ev_oEow, ev_fldP, ev_ixP, ev_nd1, ev_nd2, decide_true, decide_false, List.nil_append, List.cons_append, ev_ix, ev_ixT, ev_ixB, ev_ixBT, em, hh, zn, q4, q4', q3, hd, q12, q12', zn1, hg, ev_ixP, cm]
    show (oSeq (oIxP (some (_, ilT ml)) (pNm 2) (eV 7)) sCnt |> fun o => oSeq o _) = _
    rw [st]
    simp only [ev_bs, ev_bn, ev_ms, ev_mn, ev_g0, ev_gs, ev_s0, ev_ss, ev_bn1, ev_bn2, ev_seq, ev_seq_nx, ev_seq_rt, ev_seq_bk, ev_seq_ct, ev_nil, ev_brk, ev_cnt, ev_if, ev_if_t, ev_if_f, ev_set, ev_oset, ev_setL, ev_osetL, ev_drop, ev_odrop, ev_ret, ev_oret, ev_retN, ev_retL, ev_oretL, ev_orun, ev_orunN, ev_orunN_nx, ev_fz, ev_fz_l, ev_fz_v, ev_app, ev_app_s, ev_clear, ev_clear_s, ev_oNx, ev_asg, ev_asg_s, ev_par, ev_par_s, ev_aug, ev_aug_s, ev_setIx, ev_setIx_s, ev_augIx, ev_dictN, ev_notInN, ev_oNotInN, ev_putN, ev_oPutN, ev_for, ev_ofor, ev_V, ev_L, ev_B, ev_rdV, ev_rdLv, ev_rdLl, ev_rdBv, ev_rdBb, ev_C, ev_e2, ev_o2, ev_e1, ev_e3, ev_o3, ev_pN, ev_pS, ev_oPS, ev_aNil, ev_aCons, ev_oCons, ev_tup, ev_lst, ev_oLst, ev_scal, ev_scal_i, ev_scal_s, ev_scal_b, ev_neg, ev_oNeg, ev_tB, ev_asB, ev_tNot, ev_tAnd, ev_tOr, ev_oAnd_t, ev_oAnd_f, ev_oOr_t, ev_oOr_f, ev_eAnd, ev_eOr, ev_oAndD_t, ev_oAndD_f, ev_oOrD_t, ev_oOrD_f, ev_eNot, ev_oNot, ev_isi, ev_isi_ii, ev_isi_ib, ev_isi_il, ev_isi_it, ev_isi_is, ev_isi_ll, ev_isi_lt, ev_isi_li, ev_isi_lb, ev_isi_tt, ev_isi_tl, ev_isi_ss, ev_isi_bb, ev_isi_bi, ev_isN, ev_notN, ev_oIsN_n, ev_oIsN_i, ev_oIsN_l, ev_oIsN_t, ev_oNotN_n, ev_oNotN_i, ev_oNotN_l, ev_oNotN_t, ev_rev, ev_gRev, ev_iAny, ev_oAny_l, ev_oAny_t, ev_iSeqB, ev_oSeqB, ev_iEnum, ev_oEnum, ev_iZip, ev_oZip_ll, ev_oZip_tt, ev_oZip_lt, ev_oZip_tl, ev_iRng1, ev_rng1_s, ev_iRng2, ev_rng2_s, ev_tgN, ev_tgNil, ev_tgCons, ev_tgT, ev_wipe_nil, ev_wipe_cons, ev_lc, ev_oLc, ev_add, ev_addIS, ev_add_ll, ev_add_tt, ev_addL, ev_repL, ev_rep, ev_sub, ev_mul, ev_mod, ev_div, ev_modA, ev_divA, ev_pow, ev_lt, ev_le, ev_gt, ev_ge, ev_eq, ev_ne, ev_eqs, ev_nes, ev_eqb, ev_neb, ev_len, ev_lenT, ev_list, ev_listT, ev_tuple, ev_tupleT, ev_int, ev_intb, ev_sum, ev_sum0, ev_max2, ev_min2, ev_sl, ev_slT, ev_slL, ev_slB, ev_divAZ, ev_divZ, ev_onNx, ev_while, ev_eq_li, ev_ne_li, ev_eq_self, ev_ne_self, ev_eq_selfT, ev_ne_selfT, ev_ne_nil, ev_eq_nil, ev_sorted_i, ev_listRg, ev_oListRg, ev_in_ii, ev_thaw, ev_oThaw, ev_flatO, ev_tThaw, ev_otThaw, ev_move, ev_oMove, ev_iEnumG, ev_oEnumG_l, ev_oEnumG_t, ev_gNotB, ev_nD, ev_nL, ev_oNL, ev_xN, ev_nsNil, ev_nsCons, ev_oNs, ev_nDictQ, ev_nDictK, ev_nLst, ev_nTup, ev_toC_d, ev_toC_n, ev_setX, ev_oSetX, ev_setN, ev_oSetN, ev_dropX, ev_oDropX, ev_retX, ev_oRetX, ev_retXN, ev_seq_rx, ev_ifX, ev_oIfX_t, ev_oIfX_f, ev_oTxB, ev_txCmp, ev_oTxC, ev_txP, ev_txNot, ev_oTxN, ev_pNm, ev_nodeAt, ev_oNode, ev_sub0, ev_subS, ev_putAt, ev_oPutA, ev_put0, ev_putS, ev_oTp, ev_rN, ev_cell_own, ev_cell_ro, ev_cell_val, ev_cell_lst, ev_roN, ev_oRo, ev_rF, ev_oRF, ev_rI, ev_oRI, ev_rLeaf, ev_oLeaf, ev_rFlat, ev_rView, ev_flatV1, ev_flatV1d, ev_eOw, ev_oEow, ev_fldP, ev_ixP, ev_nd1, ev_nd2, decide_true, decide_false, List.nil_append, List.cons_append, ev_ix, ev_ixT, ev_ixB, ev_ixBT]
  | false =>
    have hh2 : h.toNat < O.length := by omega
    have hl2 : h.toNat < (O.getD h.toNat []).length := by omega
    have fin : ∀ dd : D, dd.canLay0 = true → dd.depth ≤ 1 → noL dd = true → DdOk dd → ∃ O', OOk n O' ∧ RwOk n ⟨h, (O.getD h.toNat []).getD h.toNat 0, O.getD h.toNat [], dd⟩ ∧ (∀ c, OwnG n O c → ∃ c', OwnG n O' c' ∧ ∃ r, rs ++ [(⟨h, (O.getD h.toNat []).getD h.toNat 0, O.getD h.toNat [], dd⟩ : Rw)] = rs ++ [r] ∧ rdy c r = true ∧ c' = bump c r) ∧
        oSeq (oApp (some (.lst (rs.map rwD))) (some (rwD ⟨h, (O.getD h.toNat []).getD h.toNat 0, O.getD h.toNat [], dd⟩)) 3 (rowsE c0 (.val (.int (n : Nat))) O rs (.val (.int a)) (.val (.int c)) (.val (.int m)) (.val (.int h)) t8 (.val dd)))
          (sIxP (pI (eV 7) (pNm 2)) (eV 7) (xN (nD (e2 gAdd (rLeaf (rI (eV 7) (rI (eV 7) (rN 2)))) (eC (.int 1)))))) =
        .nx (rowsE c0 (.val (.int (n : Nat))) O' (rs ++ [(⟨h, (O.getD h.toNat []).getD h.toNat 0, O.getD h.toNat [], dd⟩ : Rw)]) (.val (.int a)) (.val (.int c)) (.val (.int m)) (.val (.int h)) t8 (.val dd)) := fun dd d1 d2 d3 d4 => by
      refine ⟨O.set h.toNat ((O.getD h.toNat []).set h.toNat ((O.getD h.toNat []).getD h.toNat 0 + 1)), hO.set (by rw [List.length_set]; exact lo), ⟨h0, h1, lo, d1, d2, d3, d4⟩, (fun c z => ⟨_, (OwnG.row hO z (dd := dd) ⟨h0, h1, lo, d1, d2, d3, d4⟩).2, _, rfl, (OwnG.row hO z (dd := dd) ⟨h0, h1, lo, d1, d2, d3, d4⟩).1, rfl⟩), ?_⟩
      rw [ev_app_s (by rw [List.length_map]; omega)]
      have er : rs.map rwD ++ [rwD ⟨h, (O.getD h.toNat []).getD h.toNat 0, O.getD h.toNat [], dd⟩] = (rs ++ [(⟨h, (O.getD h.toNat []).getD h.toNat 0, O.getD h.toNat [], dd⟩ : Rw)]).map rwD := by rw [List.map_append]; rfl
      rw [er, ev_seq_nx]
      show sIxP (pI (eV 7) (pNm 2)) (eV 7) (xN (nD (e2 gAdd (rLeaf (rI (eV 7) (rI (eV 7) (rN 2)))) (eC (.int 1))))) (rowsE c0 (.val (.int (n : Nat))) O (rs ++ [(⟨h, (O.getD h.toNat []).getD h.toNat 0, O.getD h.toNat [], dd⟩ : Rw)]) (.val (.int a)) (.val (.int c)) (.val (.int m)) (.val (.int h)) t8 (.val dd)) = _
      generalize rs ++ [(⟨h, (O.getD h.toNat []).getD h.toNat 0, O.getD h.toNat [], dd⟩ : Rw)] = rs2
      have ev : xN (nD (e2 gAdd (rLeaf (rI (eV 7) (rI (eV 7) (rN 2)))) (eC (.int 1)))) (rowsE c0 (.val (.int (n : Nat))) O rs2 (.val (.int a)) (.val (.int c)) (.val (.int m)) (.val (.int h)) t8 (.val dd)) =
          some (rowsE c0 (.val (.int (n : Nat))) O rs2 (.val (.int a)) (.val (.int c)) (.val (.int m)) (.val (.int h)) t8 (.val dd), .d (.int ((O.getD h.toNat []).getD h.toNat 0 + 1))) := by
        unfold rowsE
        simp only [ev_bs, ev_bn, ev_ms, ev_mn, ev_g0, ev_gs, ev_s0, ev_ss, ev_bn1, ev_bn2, ev_seq, ev_seq_nx, ev_seq_rt, ev_seq_bk, ev_seq_ct, ev_nil, ev_brk, ev_cnt, ev_if, ev_if_t, ev_if_f, ev_set, ev_oset, ev_setL, ev_osetL, ev_drop, ev_odrop, ev_ret, ev_oret, ev_retN, ev_retL, ev_oretL, ev_orun, ev_orunN, ev_orunN_nx, ev_fz, ev_fz_l, ev_fz_v, ev_app, ev_app_s, ev_clear, ev_clear_s, ev_oNx, ev_asg, ev_asg_s, ev_par, ev_par_s, ev_aug, ev_aug_s, ev_setIx, ev_setIx_s, ev_augIx, ev_dictN, ev_notInN, ev_oNotInN, ev_putN, ev_oPutN, ev_for, ev_ofor, ev_V, ev_L, ev_B, ev_rdV, ev_rdLv, ev_rdLl, ev_rdBv, ev_rdBb, ev_C, ev_e2, ev_o2, ev_e1, ev_e3, ev_o3, ev_pN, ev_pS, ev_oPS, ev_aNil, ev_aCons, ev_oCons, ev_tup, ev_lst, ev_oLst, ev_scal, ev_scal_i, ev_scal_s, ev_scal_b, ev_neg, ev_oNeg, ev_tB, ev_asB, ev_tNot, ev_tAnd, ev_tOr, ev_oAnd_t, ev_oAnd_f, ev_oOr_t, ev_oOr_f, ev_eAnd, ev_eOr, ev_oAndD_t, ev_oAndD_f, ev_oOrD_t, ev_oOrD_f, ev_eNot, ev_oNot, ev_isi, ev_isi_ii, ev_isi_ib, ev_isi_il, ev_isi_it, ev_isi_is, ev_isi_ll, ev_isi_lt, ev_isi_li, ev_isi_lb, ev_isi_tt, ev_isi_tl, ev_isi_ss, ev_isi_bb, ev_isi_bi, ev_isN, ev_notN, ev_oIsN_n, ev_oIsN_i, ev_oIsN_l, ev_oIsN_t, ev_oNotN_n, ev_oNotN_i, ev_oNotN_l, ev_oNotN_t, ev_rev, ev_gRev, ev_iAny, ev_oAny_l, ev_oAny_t, ev_iSeqB, ev_oSeqB, ev_iEnum, ev_oEnum, ev_iZip, ev_oZip_ll, ev_oZip_tt, ev_oZip_lt, ev_oZip_tl, ev_iRng1, ev_rng1_s, ev_iRng2, ev_rng2_s, ev_tgN, ev_tgNil, ev_tgCons, ev_tgT, ev_wipe_nil, ev_wipe_cons, ev_lc, ev_oLc, ev_add, ev_addIS, ev_add_ll, ev_add_tt, ev_addL, ev_repL, ev_rep, ev_sub, ev_mul, ev_mod, ev_div, ev_modA, ev_divA, ev_pow, ev_lt, ev_le, ev_gt, ev_ge, ev_eq, ev_ne, ev_eqs, ev_nes, ev_eqb, ev_neb, ev_len, ev_lenT, ev_list, ev_listT, ev_tuple, ev_tupleT, ev_int, ev_intb, ev_sum, ev_sum0, ev_max2, ev_min2, ev_sl, ev_slT, ev_slL, ev_slB, ev_divAZ, ev_divZ, ev_onNx, ev_while, ev_eq_li, ev_ne_li, ev_eq_self, ev_ne_self, ev_eq_selfT, ev_ne_selfT, ev_ne_nil, ev_eq_nil, ev_sorted_i, ev_listRg, ev_oListRg, ev_in_ii, ev_thaw, ev_oThaw, ev_flatO, ev_tThaw, ev_otThaw, ev_move, ev_oMove, ev_iEnumG, ev_oEnumG_l, ev_oEnumG_t, ev_gNotB, ev_nD, ev_nL, ev_oNL, ev_xN, ev_nsNil, ev_nsCons, ev_oNs, ev_nDictQ, ev_nDictK, ev_nLst, ev_nTup, ev_toC_d, ev_toC_n, ev_setX, ev_oSetX, ev_setN, ev_oSetN, ev_dropX, ev_oDropX, ev_retX, ev_oRetX, ev_retXN, ev_seq_rx, ev_ifX, ev_oIfX_t, ev_oIfX_f, ev_oTxB, ev_txCmp, ev_oTxC, ev_txP, ev_txNot, ev_oTxN, ev_pNm, ev_nodeAt, ev_oNode, ev_sub0, ev_subS, ev_putAt, ev_oPutA, ev_put0, ev_putS, ev_oTp, ev_rN, ev_cell_own, ev_cell_ro, ev_cell_val, ev_cell_lst, ev_roN, ev_oRo, ev_rF, ev_oRF, ev_rI, ev_oRI, ev_rLeaf, ev_oLeaf, ev_rFlat, ev_rView, ev_flatV1, ev_flatV1d, ev_eOw, ev_oEow, ev_fldP, ev_ixP, ev_nd1, ev_nd2, decide_true, decide_false, List.nil_append, List.cons_append, ev_ix, ev_ixT, ev_ixB, ev_ixBT, OT_at h0 hOl, il_at h0 (by omega : h < (O.getD h.toNat []).length)]
      have nd : nodeAt (rowsE c0 (.val (.int (n : Nat))) O rs2 (.val (.int a)) (.val (.int c)) (.val (.int m)) (.val (.int h)) t8 (.val dd)) (2, [h.toNat]) = some (ilT (O.getD h.toNat [])) := by
        show ((O.map ilT)[h.toNat]?).bind (T.sub []) = _
        rw [List.getElem?_map, List.getElem?_eq_getElem hh2]
        simp [List.getD, List.getElem?_eq_getElem hh2, T.sub]
      rw [ev_ixP, ev]
      refine (ixP_at (i := 2) (p := [h.toNat]) (ts := ((O.getD h.toNat []).map PyData.int).map T.d) (k := h) (j := h.toNat) (pI_at (p := []) (ts := O.map ilT) (k := h) rfl rfl rfl (by rw [List.length_map]; exact ixN_pos h0 hOl)) nd rfl (by rw [List.length_map, List.length_map]; exact ixN_pos h0 (by omega))).trans ?_
      have eset : ((((O.getD h.toNat []).map PyData.int).map T.d).set h.toNat (.d (.int ((O.getD h.toNat []).getD h.toNat 0 + 1)))) = ((((O.getD h.toNat []).set h.toNat ((O.getD h.toNat []).getD h.toNat 0 + 1)).map PyData.int).map T.d) := by rw [List.map_set, List.map_set]
      rw [eset]
      have ep : T.put [h.toNat] (OT O) (.n .l (((((O.getD h.toNat []).set h.toNat ((O.getD h.toNat []).getD h.toNat 0 + 1)).map PyData.int).map T.d))) = OT (O.set h.toNat ((O.getD h.toNat []).set h.toNat ((O.getD h.toNat []).getD h.toNat 0 + 1))) := by
        show oTp (O.map ilT)[h.toNat]? [] .l (O.map ilT) h.toNat _ = _
        rw [List.getElem?_map, List.getElem?_eq_getElem hh2]
        show T.n .l ((O.map ilT).set h.toNat (ilT _)) = _
        rw [← List.map_set]; rfl
      show Out.nx ((rowsE c0 (.val (.int (n : Nat))) O rs2 (.val (.int a)) (.val (.int c)) (.val (.int m)) (.val (.int h)) t8 (.val dd)).set 2 (.own none (T.put [h.toNat] (OT O) _))) = _
      rw [ep]; rfl
    cases hd2 : decide (m / 400 % 4 = 1) with
    | true =>
      obtain ⟨l1, l2, l3, l4⟩ := lay_give (m / 12 % 3) ((h + 1) % (n : Int)) (1 + m / 36 % 9)
      obtain ⟨O', f1, f2, f4, f3⟩ := fin _ l1 l2 l3 l4
      refine ⟨O', rs ++ [(⟨h, (O.getD h.toNat []).getD h.toNat 0, O.getD h.toNat [], .tuple [.str "give", .int (m / 12 % 3), .int ((h + 1) % (n : Int)), .int (1 + m / 36 % 9)]⟩ : Rw)], .val (.int a), .val (.int c), .val (.int m), .val (.int h), t8, .val (.tuple [.str "give", .int (m / 12 % 3), .int ((h + 1) % (n : Int)), .int (1 + m / 36 % 9)]), f1, ?_, ?_, (fun c z => let ⟨c', y1, y2⟩ := f4 c z; ⟨c', y1, .inr y2⟩), .inl ?_⟩
      · intro r hr'
        rcases List.mem_append.mp hr' with z | z
        · exact hr r z
        · rw [List.mem_singleton.mp z]; exact f2
      · simp
      · rw [← f3]
        unfold rowsE L_l_rows_0
        simp only [ev_bs, ev_bn, ev_ms, ev_mn, ev_g0, ev_gs, ev_s0, ev_ss, ev_bn1, ev_bn2, ev_seq, ev_seq_nx, ev_seq_rt, ev_seq_bk, ev_seq_ct, ev_nil, ev_brk, ev_cnt, ev_if, ev_if_t, ev_if_f, ev_set, ev_oset, ev_setL, ev_osetL, ev_drop, ev_odrop, ev_ret, ev_oret, ev_retN, ev_retL, ev_oretL, ev_orun, ev_orunN, ev_orunN_nx, ev_fz, ev_fz_l, ev_fz_v, ev_app, ev_app_s, ev_clear, ev_clear_s, ev_oNx, ev_asg, ev_asg_s, ev_par, ev_par_s, ev_aug, ev_aug_s, ev_setIx, ev_setIx_s, ev_augIx, ev_dictN, ev_notInN, ev_oNotInN, ev_putN, ev_oPutN, ev_for, ev_ofor, ev_V, ev_L, ev_B, ev_rdV, ev_rdLv, ev_rdLl, ev_rdBv, ev_rdBb, ev_C, ev_e2, ev_o2, ev_e1, ev_e3, ev_o3, ev_pN, ev_pS, ev_oPS, ev_aNil, ev_aCons, ev_oCons, ev_tup, ev_lst, ev_oLst, ev_scal, ev_scal_i, ev_scal_s, ev_scal_b, ev_neg, ev_oNeg, ev_tB, ev_asB, ev_tNot, ev_tAnd, ev_tOr, ev_oAnd_t, ev_oAnd_f, ev_oOr_t, ev_oOr_f, ev_eAnd, ev_eOr, ev_oAndD_t, ev_oAndD_f, ev_oOrD_t, ev_oOrD_f, ev_eNot, ev_oNot, ev_isi, ev_isi_ii, ev_isi_ib, ev_isi_il, ev_isi_it, ev_isi_is, ev_isi_ll, ev_isi_lt, ev_isi_li, ev_isi_lb, ev_isi_tt, ev_isi_tl, ev_isi_ss, ev_isi_bb, ev_isi_bi, ev_isN, ev_notN, ev_oIsN_n, ev_oIsN_i, ev_oIsN_l, ev_oIsN_t, ev_oNotN_n, ev_oNotN_i, ev_oNotN_l, ev_oNotN_t, ev_rev, ev_gRev, ev_iAny, ev_oAny_l, ev_oAny_t, ev_iSeqB, ev_oSeqB, ev_iEnum, ev_oEnum, ev_iZip, ev_oZip_ll, ev_oZip_tt, ev_oZip_lt, ev_oZip_tl, ev_iRng1, ev_rng1_s, ev_iRng2, ev_rng2_s, ev_tgN, ev_tgNil, ev_tgCons, ev_tgT, ev_wipe_nil, ev_wipe_cons, ev_lc, ev_oLc, ev_add, ev_addIS, ev_add_ll, ev_add_tt, ev_addL, ev_repL, ev_rep, ev_sub, ev_mul, ev_mod, ev_div, ev_modA, ev_divA, ev_pow, ev_lt, ev_le, ev_gt, ev_ge, ev_eq, ev_ne, ev_eqs, ev_nes, ev_eqb, ev_neb, ev_len, ev_lenT, ev_list, ev_listT, ev_tuple, ev_tupleT, ev_int, ev_intb, ev_sum, ev_sum0, ev_max2, ev_min2, ev_sl, ev_slT, ev_slL, ev_slB, ev_divAZ, ev_divZ, ev_onNx, ev_while, ev_eq_li, ev_ne_li, ev_eq_self, ev_ne_self, ev_eq_selfT, ev_ne_selfT, ev_ne_nil, ev_eq_nil, ev_sorted_i, ev_listRg, ev_oListRg, ev_in_ii, ev_thaw, ev_oThaw, ev_flatO, ev_tThaw, ev_otThaw, ev_move, ev_oMove, ev_iEnumG, ev_oEnumG_l, ev_oEnumG_t, ev_gNotB, ev_nD, ev_nL, ev_oNL, ev_xN, ev_nsNil, ev_nsCons, ev_oNs, ev_nDictQ, ev_nDictK, ev_nLst, ev_nTup, ev_toC_d, ev_toC_n, ev_setX, ev_oSetX, ev_setN, ev_oSetN, ev_dropX, ev_oDropX, ev_retX, ev_oRetX, ev_retXN, ev_seq_rx, ev_ifX, ev_oIfX_t, ev_oIfX_f, ev_oTxB, ev_txCmp, ev_oTxC, ev_txP, ev_txNot, ev_oTxN, ev_pNm, ev_nodeAt, ev_oNode, ev_sub0, ev_subS, ev_putAt, ev_oPutA, ev_put0, ev_putS, ev_oTp, ev_rN, ev_cell_own, ev_cell_ro, ev_cell_val, ev_cell_lst, ev_roN, ev_oRo, ev_rF, ev_oRF, ev_rI, ev_oRI, ev_rLeaf, ev_oLeaf, ev_rFlat, ev_rView, ev_flatV1, ev_flatV1d, ev_eOw, ev_oEow, ev_fldP, ev_ixP, ev_nd1, ev_nd2, decide_true, decide_false, List.nil_append, List.cons_append, ev_ix, ev_ixT, ev_ixB, ev_ixBT, em, hh, zn, q4, q4', q3, hd, q12, q12', q36, q36', q9, q400, q400', hd2, OT_at h0 hOl, il_at h0 (by omega : h < (O.getD h.toNat []).length), il_flat]
        rfl
    | false =>
      obtain ⟨l1, l2, l3, l4⟩ := lay_do (m / 12 % 3) (m / 36 % 9 - 2)
      obtain ⟨O', f1, f2, f4, f3⟩ := fin _ l1 l2 l3 l4
      refine ⟨O', rs ++ [(⟨h, (O.getD h.toNat []).getD h.toNat 0, O.getD h.toNat [], .tuple [.str "do", .int (m / 12 % 3), .int (m / 36 % 9 - 2)]⟩ : Rw)], .val (.int a), .val (.int c), .val (.int m), .val (.int h), t8, .val (.tuple [.str "do", .int (m / 12 % 3), .int (m / 36 % 9 - 2)]), f1, ?_, ?_, (fun c z => let ⟨c', y1, y2⟩ := f4 c z; ⟨c', y1, .inr y2⟩), .inl ?_⟩
      · intro r hr'
        rcases List.mem_append.mp hr' with z | z
        · exact hr r z
        · rw [List.mem_singleton.mp z]; exact f2
      · simp
      · rw [← f3]
        unfold rowsE L_l_rows_0
        simp only [ev_bs, ev_bn, ev_ms, ev_mn, ev_g0, ev_gs, ev_s0, ev_ss, ev_bn1, ev_bn2, ev_seq, ev_seq_nx, ev_seq_rt, ev_seq_bk, ev_seq_ct, ev_nil, ev_brk, ev_cnt, ev_if, ev_if_t, ev_if_f, ev_set, ev_oset, ev_setL, ev_osetL, ev_drop, ev_odrop, ev_ret, ev_oret, ev_retN, ev_retL, ev_oretL, ev_orun, ev_orunN, ev_orunN_nx, ev_fz, ev_fz_l, ev_fz_v, ev_app, ev_app_s, ev_clear, ev_clear_s, ev_oNx, ev_asg, ev_asg_s, ev_par, ev_par_s, ev_aug, ev_aug_s, ev_setIx, ev_setIx_s, ev_augIx, ev_dictN, ev_notInN, ev_oNotInN, ev_putN, ev_oPutN, ev_for, ev_ofor, ev_V, ev_L, ev_B, ev_rdV, ev_rdLv, ev_rdLl, ev_rdBv, ev_rdBb, ev_C, ev_e2, ev_o2, ev_e1, ev_e3, ev_o3, ev_pN, ev_pS, ev_oPS, ev_aNil, ev_aCons, ev_oCons, ev_tup, ev_lst, ev_oLst, ev_scal, ev_scal_i, ev_scal_s, ev_scal_b, ev_neg, ev_oNeg, ev_tB, ev_asB, ev_tNot, ev_tAnd, ev_tOr, ev_oAnd_t, ev_oAnd_f, ev_oOr_t, ev_oOr_f, ev_eAnd, ev_eOr, ev_oAndD_t, ev_oAndD_f, ev_oOrD_t, ev_oOrD_f, ev_eNot, ev_oNot, ev_isi, ev_isi_ii, ev_isi_ib, ev_isi_il, ev_isi_it, ev_isi_is, ev_isi_ll, ev_isi_lt, ev_isi_li, ev_isi_lb, ev_isi_tt, ev_isi_tl, ev_isi_ss, ev_isi_bb, ev_isi_bi, ev_isN, ev_notN, ev_oIsN_n, ev_oIsN_i, ev_oIsN_l, ev_oIsN_t, ev_oNotN_n, ev_oNotN_i, ev_oNotN_l, ev_oNotN_t, ev_rev, ev_gRev, ev_iAny, ev_oAny_l, ev_oAny_t, ev_iSeqB, ev_oSeqB, ev_iEnum, ev_oEnum, ev_iZip, ev_oZip_ll, ev_oZip_tt, ev_oZip_lt, ev_oZip_tl, ev_iRng1, ev_rng1_s, ev_iRng2, ev_rng2_s, ev_tgN, ev_tgNil, ev_tgCons, ev_tgT, ev_wipe_nil, ev_wipe_cons, ev_lc, ev_oLc, ev_add, ev_addIS, ev_add_ll, ev_add_tt, ev_addL, ev_repL, ev_rep, ev_sub, ev_mul, ev_mod, ev_div, ev_modA, ev_divA, ev_pow, ev_lt, ev_le, ev_gt, ev_ge, ev_eq, ev_ne, ev_eqs, ev_nes, ev_eqb, ev_neb, ev_len, ev_lenT, ev_list, ev_listT, ev_tuple, ev_tupleT, ev_int, ev_intb, ev_sum, ev_sum0, ev_max2, ev_min2, ev_sl, ev_slT, ev_slL, ev_slB, ev_divAZ, ev_divZ, ev_onNx, ev_while, ev_eq_li, ev_ne_li, ev_eq_self, ev_ne_self, ev_eq_selfT, ev_ne_selfT, ev_ne_nil, ev_eq_nil, ev_sorted_i, ev_listRg, ev_oListRg, ev_in_ii, ev_thaw, ev_oThaw, ev_flatO, ev_tThaw, ev_otThaw, ev_move, ev_oMove, ev_iEnumG, ev_oEnumG_l, ev_oEnumG_t, ev_gNotB, ev_nD, ev_nL, ev_oNL, ev_xN, ev_nsNil, ev_nsCons, ev_oNs, ev_nDictQ, ev_nDictK, ev_nLst, ev_nTup, ev_toC_d, ev_toC_n, ev_setX, ev_oSetX, ev_setN, ev_oSetN, ev_dropX, ev_oDropX, ev_retX, ev_oRetX, ev_retXN, ev_seq_rx, ev_ifX, ev_oIfX_t, ev_oIfX_f, ev_oTxB, ev_txCmp, ev_oTxC, ev_txP, ev_txNot, ev_oTxN, ev_pNm, ev_nodeAt, ev_oNode, ev_sub0, ev_subS, ev_putAt, ev_oPutA, ev_put0, ev_putS, ev_oTp, ev_rN, ev_cell_own, ev_cell_ro, ev_cell_val, ev_cell_lst, ev_roN, ev_oRo, ev_rF, ev_oRF, ev_rI, ev_oRI, ev_rLeaf, ev_oLeaf, ev_rFlat, ev_rView, ev_flatV1, ev_flatV1d, ev_eOw, ev_oEow, ev_fldP, ev_ixP, ev_nd1, ev_nd2, decide_true, decide_false, List.nil_append, List.cons_append, ev_ix, ev_ixT, ev_ixB, ev_ixBT, em, hh, zn, q4, q4', q3, hd, q12, q12', q36, q36', q9, q400, q400', hd2, OT_at h0 hOl, il_at h0 (by omega : h < (O.getD h.toNat []).length), il_flat]
        rfl
end DL
set_option Elab.async false
set_option linter.all false
set_option maxRecDepth 100000
set_option maxHeartbeats 4000000
namespace DL
open PySem PySem.Spec L2
theorem cutD_map {α β : Type} (f : α → β) (l : List α) (a b : Option Int) : cutD (l.map f) a b = (cutD l a b).map f := by
  unfold cutD
  rw [List.length_map, List.map_take, List.map_drop]
theorem cutD_mem {α : Type} {l : List α} {a b : Option Int} {x : α} (h : x ∈ cutD l a b) : x ∈ l := by
  unfold cutD at h
  exact List.mem_of_mem_drop (List.mem_of_mem_take h)
theorem cutD_len {α : Type} (l : List α) (a b : Option Int) : (cutD l a b).length ≤ l.length := by
  unfold cutD
  rw [List.length_take, List.length_drop]
  omega
theorem cut_from {α : Type} {l : List α} {i : Int} (h : 0 ≤ i) : cutD l (some i) none = l.drop i.toNat := by
  unfold cutD
  have e0 : HT.sIx l.length l.length none = l.length := rfl
  rw [e0]
  unfold HT.sIx
  have : ¬ i < 0 := by omega
  simp only [this, if_false]
  by_cases hl : i.toNat ≤ l.length
  · rw [List.take_of_length_le (by rw [List.length_drop]; omega)]
    congr 1
    omega
  · rw [List.drop_of_length_le (by omega : l.length ≤ i.toNat), List.drop_of_length_le (by omega)]
    simp
theorem ownG0 (n : Nat) : OwnG n (List.replicate n (List.replicate n 0)) (List.replicate n 0) := by
  have g : ∀ h j, ((List.replicate n (List.replicate n (0 : Int))).getD h []).getD j 0 = 0 := fun h j => by
    simp only [List.getD_eq_getElem?_getD, List.getElem?_replicate]
    by_cases hh : h < n
    · rw [if_pos hh]
      simp only [Option.getD_some, List.getElem?_replicate]
      by_cases hj : j < n
      · rw [if_pos hj]; rfl
      · rw [if_neg hj]; rfl
    · rw [if_neg hh]; simp
  have g2 : ∀ j, (List.replicate n (0 : Int)).getD j 0 = 0 := fun j => by
    simp only [List.getD_eq_getElem?_getD, List.getElem?_replicate]
    by_cases hj : j < n
    · rw [if_pos hj]; rfl
    · rw [if_neg hj]; rfl
  exact ⟨List.length_replicate .., fun h _ => by rw [g, g2], fun h _ j _ => by rw [g, g2]; omega⟩
theorem rows_ok {ns : List Int} (hl : ns.length ≤ 63) {n : Nat} (hn2 : 2 ≤ n) (hn4 : n ≤ 4) : ∃ rs : List Rw, f_l_rows [.list (ns.map .int), .int (n : Nat)] = some (.list (rs.map rwD)) ∧ (∀ r ∈ rs, RwOk n r) ∧ rs.length ≤ 63 ∧ keepsB (List.replicate n 0) rs = true := by
  rw [fe_l_rows]
  have hrp := ev_repL (x := .int 0) (n := n) (by omega)
  have rng0 := ev_rng1_s (k := (n : Int)) (by omega) (by omega)
  have comp : nLc [7] (iRng1F (eV 1)) (tgN 7) (fun _ => some true) (nL (e2 gMulL (eLst (aCons (eC (.int 0)) aNil)) (eV 1))) [.brw (.list (ns.map .int)), .val (.int (n : Nat)), .und, .und, .und, .und, .und, .und, .und, .und, .und, .und] = some (OT (List.replicate n (List.replicate n 0))) := by
    unfold nLc
    simp only [ev_bs, ev_bn, ev_ms, ev_mn, ev_g0, ev_gs, ev_s0, ev_ss, ev_bn1, ev_bn2, ev_seq, ev_seq_nx, ev_seq_rt, ev_seq_bk, ev_seq_ct, ev_nil, ev_brk, ev_cnt, ev_if, ev_if_t, ev_if_f, ev_set, ev_oset, ev_setL, ev_osetL, ev_drop, ev_odrop, ev_ret, ev_oret, ev_retN, ev_retL, ev_oretL, ev_orun, ev_orunN, ev_orunN_nx, ev_fz, ev_fz_l, ev_fz_v, ev_app, ev_app_s, ev_clear, ev_clear_s, ev_oNx, ev_asg, ev_asg_s, ev_par, ev_par_s, ev_aug, ev_aug_s, ev_setIx, ev_setIx_s, ev_augIx, ev_dictN, ev_notInN, ev_oNotInN, ev_putN, ev_oPutN, ev_for, ev_ofor, ev_V, ev_L, ev_B, ev_rdV, ev_rdLv, ev_rdLl, ev_rdBv, ev_rdBb, ev_C, ev_e2, ev_o2, ev_e1, ev_e3, ev_o3, ev_pN, ev_pS, ev_oPS, ev_aNil, ev_aCons, ev_oCons, ev_tup, ev_lst, ev_oLst, ev_scal, ev_scal_i, ev_scal_s, ev_scal_b, ev_neg, ev_oNeg, ev_tB, ev_asB, ev_tNot, ev_tAnd, ev_tOr, ev_oAnd_t, ev_oAnd_f, ev_oOr_t, ev_oOr_f, ev_eAnd, ev_eOr, ev_oAndD_t, ev_oAndD_f, ev_oOrD_t, ev_oOrD_f, ev_eNot, ev_oNot, ev_isi, ev_isi_ii, ev_isi_ib, ev_isi_il, ev_isi_it, ev_isi_is, ev_isi_ll, ev_isi_lt, ev_isi_li, ev_isi_lb, ev_isi_tt, ev_isi_tl, ev_isi_ss, ev_isi_bb, ev_isi_bi, ev_isN, ev_notN, ev_oIsN_n, ev_oIsN_i, ev_oIsN_l, ev_oIsN_t, ev_oNotN_n, ev_oNotN_i, ev_oNotN_l, ev_oNotN_t, ev_rev, ev_gRev, ev_iAny, ev_oAny_l, ev_oAny_t, ev_iSeqB, ev_oSeqB, ev_iEnum, ev_oEnum, ev_iZip, ev_oZip_ll, ev_oZip_tt, ev_oZip_lt, ev_oZip_tl, ev_iRng1, ev_rng1_s, ev_iRng2, ev_rng2_s, ev_tgN, ev_tgNil, ev_tgCons, ev_tgT, ev_wipe_nil, ev_wipe_cons, ev_lc, ev_oLc, ev_add, ev_addIS, ev_add_ll, ev_add_tt, ev_addL, ev_repL, ev_rep, ev_sub, ev_mul, ev_mod, ev_div, ev_modA, ev_divA, ev_pow, ev_lt, ev_le, ev_gt, ev_ge, ev_eq, ev_ne, ev_eqs, ev_nes, ev_eqb, ev_neb, ev_len, ev_lenT, ev_list, ev_listT, ev_tuple, ev_tupleT, ev_int, ev_intb, ev_sum, ev_sum0, ev_max2, ev_min2, ev_sl, ev_slT, ev_slL, ev_slB, ev_divAZ, ev_divZ, ev_onNx, ev_while, ev_eq_li, ev_ne_li, ev_eq_self, ev_ne_self, ev_eq_selfT, ev_ne_selfT, ev_ne_nil, ev_eq_nil, ev_sorted_i, ev_listRg, ev_oListRg, ev_in_ii, ev_thaw, ev_oThaw, ev_flatO, ev_tThaw, ev_otThaw, ev_move, ev_oMove, ev_iEnumG, ev_oEnumG_l, ev_oEnumG_t, ev_gNotB, ev_nD, ev_nL, ev_oNL, ev_xN, ev_nsNil, ev_nsCons, ev_oNs, ev_nDictQ, ev_nDictK, ev_nLst, ev_nTup, ev_toC_d, ev_toC_n, ev_setX, ev_oSetX, ev_setN, ev_oSetN, ev_dropX, ev_oDropX, ev_retX, ev_oRetX, ev_retXN, ev_seq_rx, ev_ifX, ev_oIfX_t, ev_oIfX_f, ev_oTxB, ev_txCmp, ev_oTxC, ev_txP, ev_txNot, ev_oTxN, ev_pNm, ev_nodeAt, ev_oNode, ev_sub0, ev_subS, ev_putAt, ev_oPutA, ev_put0, ev_putS, ev_oTp, ev_rN, ev_cell_own, ev_cell_ro, ev_cell_val, ev_cell_lst, ev_roN, ev_oRo, ev_rF, ev_oRF, ev_rI, ev_oRI, ev_rLeaf, ev_oLeaf, ev_rFlat, ev_rView, ev_flatV1, ev_flatV1d, ev_eOw, ev_oEow, ev_fldP, ev_ixP, ev_nd1, ev_nd2, decide_true, decide_false, List.nil_append, List.cons_append, ev_ix, ev_ixT, ev_ixB, ev_ixBT, rng0, Int.toNat_natCast]
    show (lcT _ _ _ _ (rng 0 n)).map (T.n .l) = _
    rw [rng_map]
    rw [lcT_map (fun i : Nat => PyData.int (0 + (i : Nat))) (fun _ => ilT (List.replicate n 0)) (List.range n) fun i hi => ⟨_, rfl, rfl, by
      show nL _ [.brw (.list (ns.map .int)), .val (.int (n : Nat)), .und, .und, .und, .und, .und, .val (.int (0 + (i : Nat))), .und, .und, .und, .und] = _
      simp only [ev_bs, ev_bn, ev_ms, ev_mn, ev_g0, ev_gs, ev_s0, ev_ss, ev_bn1, ev_bn2, ev_seq, ev_seq_nx, ev_seq_rt, ev_seq_bk, ev_seq_ct, ev_nil, ev_brk, ev_cnt, ev_if, ev_if_t, ev_if_f, ev_set, ev_oset, ev_setL, ev_osetL, ev_drop, ev_odrop, ev_ret, ev_oret, ev_retN, ev_retL, ev_oretL, ev_orun, ev_orunN, ev_orunN_nx, ev_fz, ev_fz_l, ev_fz_v, ev_app, ev_app_s, ev_clear, ev_clear_s, ev_oNx, ev_asg, ev_asg_s, ev_par, ev_par_s, ev_aug, ev_aug_s, ev_setIx, ev_setIx_s, ev_augIx, ev_dictN, ev_notInN, ev_oNotInN, ev_putN, ev_oPutN, ev_for, ev_ofor, ev_V, ev_L, ev_B, ev_rdV, ev_rdLv, ev_rdLl, ev_rdBv, ev_rdBb, ev_C, ev_e2, ev_o2, ev_e1, ev_e3, ev_o3, ev_pN, ev_pS, ev_oPS, ev_aNil, ev_aCons, ev_oCons, ev_tup, ev_lst, ev_oLst, ev_scal, ev_scal_i, ev_scal_s, ev_scal_b, ev_neg, ev_oNeg, ev_tB, ev_asB, ev_tNot, ev_tAnd, ev_tOr, ev_oAnd_t, ev_oAnd_f, ev_oOr_t, ev_oOr_f, ev_eAnd, ev_eOr, ev_oAndD_t, ev_oAndD_f, ev_oOrD_t, ev_oOrD_f, ev_eNot, ev_oNot, ev_isi, ev_isi_ii, ev_isi_ib, ev_isi_il, ev_isi_it, ev_isi_is, ev_isi_ll, ev_isi_lt, ev_isi_li, ev_isi_lb, ev_isi_tt, ev_isi_tl, ev_isi_ss, ev_isi_bb, ev_isi_bi, ev_isN, ev_notN, ev_oIsN_n, ev_oIsN_i, ev_oIsN_l, ev_oIsN_t, ev_oNotN_n, ev_oNotN_i, ev_oNotN_l, ev_oNotN_t, ev_rev, ev_gRev, ev_iAny, ev_oAny_l, ev_oAny_t, ev_iSeqB, ev_oSeqB, ev_iEnum, ev_oEnum, ev_iZip, ev_oZip_ll, ev_oZip_tt, ev_oZip_lt, ev_oZip_tl, ev_iRng1, ev_rng1_s, ev_iRng2, ev_rng2_s, ev_tgN, ev_tgNil, ev_tgCons, ev_tgT, ev_wipe_nil, ev_wipe_cons, ev_lc, ev_oLc, ev_add, ev_addIS, ev_add_ll, ev_add_tt, ev_addL, ev_repL, ev_rep, ev_sub, ev_mul, ev_mod, ev_div, ev_modA, ev_divA, ev_pow, ev_lt, ev_le, ev_gt, ev_ge, ev_eq, ev_ne, ev_eqs, ev_nes, ev_eqb, ev_neb, ev_len, ev_lenT, ev_list, ev_listT, ev_tuple, ev_tupleT, ev_int, ev_intb, ev_sum, ev_sum0, ev_max2, ev_min2, ev_sl, ev_slT, ev_slL, ev_slB, ev_divAZ, ev_divZ, ev_onNx, ev_while, ev_eq_li, ev_ne_li, ev_eq_self, ev_ne_self, ev_eq_selfT, ev_ne_selfT, ev_ne_nil, ev_eq_nil, ev_sorted_i, ev_listRg, ev_oListRg, ev_in_ii, ev_thaw, ev_oThaw, ev_flatO, ev_tThaw, ev_otThaw, ev_move, ev_oMove, ev_iEnumG, ev_oEnumG_l, ev_oEnumG_t, ev_gNotB, ev_nD, ev_nL, ev_oNL, ev_xN, ev_nsNil, ev_nsCons, ev_oNs, ev_nDictQ, ev_nDictK, ev_nLst, ev_nTup, ev_toC_d, ev_toC_n, ev_setX, ev_oSetX, ev_setN, ev_oSetN, ev_dropX, ev_oDropX, ev_retX, ev_oRetX, ev_retXN, ev_seq_rx, ev_ifX, ev_oIfX_t, ev_oIfX_f, ev_oTxB, ev_txCmp, ev_oTxC, ev_txP, ev_txNot, ev_oTxN, ev_pNm, ev_nodeAt, ev_oNode, ev_sub0, ev_subS, ev_putAt, ev_oPutA, ev_put0, ev_putS, ev_oTp, ev_rN, ev_cell_own, ev_cell_ro, ev_cell_val, ev_cell_lst, ev_roN, ev_oRo, ev_rF, ev_oRF, ev_rI, ev_oRI, ev_rLeaf, ev_oLeaf, ev_rFlat, ev_rView, ev_flatV1, ev_flatV1d, ev_eOw, ev_oEow, ev_fldP, ev_ixP, ev_nd1, ev_nd2, decide_true, decide_false, List.nil_append, List.cons_append, ev_ix, ev_ixT, ev_ixB, ev_ixBT, hrp]
      unfold ilT
      simp only [List.map_replicate]⟩]
    have er : ((List.range n).map fun _ => ilT (List.replicate n 0)) = (List.replicate n (List.replicate n 0)).map ilT := by
      apply List.ext_getElem?
      intro k
      rw [List.getElem?_map, List.getElem?_map, List.getElem?_replicate]
      by_cases hk : k < n
      · rw [List.getElem?_range hk, if_pos hk]; rfl
      · rw [List.getElem?_eq_none (by rw [List.length_range]; omega), if_neg hk]; rfl
    rw [er]; rfl
  generalize hc : cutD ns (some 2) (some 40) = cs
  have hcl : cs.length ≤ 63 := by rw [← hc]; exact Nat.le_trans (cutD_len ..) hl
  obtain ⟨e, el, O, rs, u4, u5, u6, u7, u8, u9, rfl, hO, hr, hrl, cc, hup, huq, hcc⟩ := forF_invD (g := tgT (tgCons (tgN 4) (tgCons (tgN 5) tgNil))) (b := L_l_rows_0) (items := cs.zipIdx.map fun p => .tuple [.int (p.2 : Nat), .int p.1])
    (env := rowsE (.brw (.list (ns.map .int))) (.val (.int (n : Nat))) (List.replicate n (List.replicate n 0)) [] .und .und .und .und .und .und)
    (fun i env => ∃ (O : List (List Int)) (rs : List Rw) (u4 u5 u6 u7 u8 u9 : C), env = rowsE (.brw (.list (ns.map .int))) (.val (.int (n : Nat))) O rs u4 u5 u6 u7 u8 u9 ∧ OOk n O ∧ (∀ r ∈ rs, RwOk n r) ∧ rs.length ≤ i ∧ ∃ cc, OwnG n O cc ∧ keepsB (List.replicate n 0) rs = true ∧ cnt (List.replicate n 0) rs = cc)
    ⟨_, _, _, _, _, _, _, _, rfl, ⟨List.length_replicate .., fun l hl => by rw [(List.mem_replicate.mp hl).2, List.length_replicate]⟩, (fun _ m => nomatch m), Nat.le_refl _, List.replicate n 0, ownG0 n, rfl, rfl⟩ (fun i d env hd hI => by
      obtain ⟨O, rs, u4, u5, u6, u7, u8, u9, rfl, hO, hr, hrl, cc, hup, huq, hcc⟩ := hI
      have hi := (List.getElem?_eq_some_iff.mp hd).1
      rw [List.length_map, List.length_zipIdx] at hi
      rw [List.getElem?_map, List.getElem?_zipIdx, List.getElem?_eq_getElem hi] at hd
      cases hd
      obtain ⟨O', rs', v4, v5, v6, v7, v8, v9, g1, g2, g3, g5, g4⟩ := rows_turn hn2 hn4 (.brw (.list (ns.map .int))) (t6 := u6) (t7 := u7) (t8 := u8) (t9 := u9) (a := ((0 + i : Nat) : Int)) (c := cs[i]) hO hr (by omega) (by omega) (by omega)
      obtain ⟨cc', y1, y2⟩ := g5 cc hup
      have y3 : keepsB (List.replicate n 0) rs' = true ∧ cnt (List.replicate n 0) rs' = cc' := by
        rcases y2 with ⟨rfl, rfl⟩ | ⟨r, rfl, z1, rfl⟩
        · exact ⟨huq, hcc⟩
        · rw [keepsB_app, cnt_app, keepsB_one, hcc, huq, z1]
          exact ⟨rfl, rfl⟩
      refine ⟨_, rfl, ?_⟩
      show onND (L_l_rows_0 (rowsE _ _ O rs (.val (.int ((0 + i : Nat) : Int))) (.val (.int cs[i])) u6 u7 u8 u9)) _
      rcases g4 with g4 | g4
      · rw [g4, ev_nd1]; exact ⟨O', rs', v4, v5, v6, v7, v8, v9, rfl, g1, g2, by omega, cc', y1, y3⟩
      · rw [g4, ev_nd2]; exact ⟨O', rs', v4, v5, v6, v7, v8, v9, rfl, g1, g2, by omega, cc', y1, y3⟩)
  rw [List.length_map, List.length_zipIdx] at hrl
  refine ⟨rs, ?_, hr, by omega, huq⟩
  have tc : toC (OT (List.replicate n (List.replicate n 0))) = .own none (OT (List.replicate n (List.replicate n 0))) := rfl
  unfold b_l_rows
  simp only [ev_bs, ev_bn, ev_ms, ev_mn, ev_g0, ev_gs, ev_s0, ev_ss, ev_bn1, ev_bn2, ev_seq, ev_seq_nx, ev_seq_rt, ev_seq_bk, ev_seq_ct, ev_nil, ev_brk, ev_cnt, ev_if, ev_if_t, ev_if_f, ev_set, ev_oset, ev_setL, ev_osetL, ev_drop, ev_odrop, ev_ret, ev_oret, ev_retN, ev_retL, ev_oretL, ev_orun, ev_orunN, ev_orunN_nx, ev_fz, ev_fz_l, ev_fz_v, ev_app, ev_app_s, ev_clear, ev_clear_s, ev_oNx, ev_asg, ev_asg_s, ev_par, ev_par_s, ev_aug, ev_aug_s, ev_setIx, ev_setIx_s, ev_augIx, ev_dictN, ev_notInN, ev_oNotInN, ev_putN, ev_oPutN, ev_for, ev_ofor, ev_V, ev_L, ev_B, ev_rdV, ev_rdLv, ev_rdLl, ev_rdBv, ev_rdBb, ev_C, ev_e2, ev_o2, ev_e1, ev_e3, ev_o3, ev_pN, ev_pS, ev_oPS, ev_aNil, ev_aCons, ev_oCons, ev_tup, ev_lst, ev_oLst, ev_scal, ev_scal_i, ev_scal_s, ev_scal_b, ev_neg, ev_oNeg, ev_tB, ev_asB, ev_tNot, ev_tAnd, ev_tOr, ev_oAnd_t, ev_oAnd_f, ev_oOr_t, ev_oOr_f, ev_eAnd, ev_eOr, ev_oAndD_t, ev_oAndD_f, ev_oOrD_t, ev_oOrD_f, ev_eNot, ev_oNot, ev_isi, ev_isi_ii, ev_isi_ib, ev_isi_il, ev_isi_it, ev_isi_is, ev_isi_ll, ev_isi_lt, ev_isi_li, ev_isi_lb, ev_isi_tt, ev_isi_tl, ev_isi_ss, ev_isi_bb, ev_isi_bi, ev_isN, ev_notN, ev_oIsN_n, ev_oIsN_i, ev_oIsN_l, ev_oIsN_t, ev_oNotN_n, ev_oNotN_i, ev_oNotN_l, ev_oNotN_t, ev_rev, ev_gRev, ev_iAny, ev_oAny_l, ev_oAny_t, ev_iSeqB, ev_oSeqB, ev_iEnum, ev_oEnum, ev_iZip, ev_oZip_ll, ev_oZip_tt, ev_oZip_lt, ev_oZip_tl, ev_iRng1, ev_rng1_s, ev_iRng2, ev_rng2_s, ev_tgN, ev_tgNil, ev_tgCons, ev_tgT, ev_wipe_nil, ev_wipe_cons, ev_lc, ev_oLc, ev_add, ev_addIS, ev_add_ll, ev_add_tt, ev_addL, ev_repL, ev_rep, ev_sub, ev_mul, ev_mod, ev_div, ev_modA, ev_divA, ev_pow, ev_lt, ev_le, ev_gt, ev_ge, ev_eq, ev_ne, ev_eqs, ev_nes, ev_eqb, ev_neb, ev_len, ev_lenT, ev_list, ev_listT, ev_tuple, ev_tupleT, ev_int, ev_intb, ev_sum, ev_sum0, ev_max2, ev_min2, ev_sl, ev_slT, ev_slL, ev_slB, ev_divAZ, ev_divZ, ev_onNx, ev_while, ev_eq_li, ev_ne_li, ev_eq_self, ev_ne_self, ev_eq_selfT, ev_ne_selfT, ev_ne_nil, ev_eq_nil, ev_sorted_i, ev_listRg, ev_oListRg, ev_in_ii, ev_thaw, ev_oThaw, ev_flatO, ev_tThaw, ev_otThaw, ev_move, ev_oMove, ev_iEnumG, ev_oEnumG_l, ev_oEnumG_t, ev_gNotB, ev_nD, ev_nL, ev_oNL, ev_xN, ev_nsNil, ev_nsCons, ev_oNs, ev_nDictQ, ev_nDictK, ev_nLst, ev_nTup, ev_toC_d, ev_toC_n, ev_setX, ev_oSetX, ev_setN, ev_oSetN, ev_dropX, ev_oDropX, ev_retX, ev_oRetX, ev_retXN, ev_seq_rx, ev_ifX, ev_oIfX_t, ev_oIfX_f, ev_oTxB, ev_txCmp, ev_oTxC, ev_txP, ev_txNot, ev_oTxN, ev_pNm, ev_nodeAt, ev_oNode, ev_sub0, ev_subS, ev_putAt, ev_oPutA, ev_put0, ev_putS, ev_oTp, ev_rN, ev_cell_own, ev_cell_ro, ev_cell_val, ev_cell_lst, ev_roN, ev_oRo, ev_rF, ev_oRF, ev_rI, ev_oRI, ev_rLeaf, ev_oLeaf, ev_rFlat, ev_rView, ev_flatV1, ev_flatV1d, ev_eOw, ev_oEow, ev_fldP, ev_ixP, ev_nd1, ev_nd2, decide_true, decide_false, List.nil_append, List.cons_append, ev_ix, ev_ixT, ev_ixB, ev_ixBT, comp, tc, hc, enum_map]
  show oRun (oSeq (forF _ L_l_rows_0 _ (rowsE (.brw (.list (ns.map .int))) (.val (.int (n : Nat))) (List.replicate n (List.replicate n 0)) [] .und .und .und .und .und .und)) _) = _
  rw [el]
  unfold rowsE
  simp only [ev_bs, ev_bn, ev_ms, ev_mn, ev_g0, ev_gs, ev_s0, ev_ss, ev_bn1, ev_bn2, ev_seq, ev_seq_nx, ev_seq_rt, ev_seq_bk, ev_seq_ct, ev_nil, ev_brk, ev_cnt, ev_if, ev_if_t, ev_if_f, ev_set, ev_oset, ev_setL, ev_osetL, ev_drop, ev_odrop, ev_ret, ev_oret, ev_retN, ev_retL, ev_oretL, ev_orun, ev_orunN, ev_orunN_nx, ev_fz, ev_fz_l, ev_fz_v, ev_app, ev_app_s, ev_clear, ev_clear_s, ev_oNx, ev_asg, ev_asg_s, ev_par, ev_par_s, ev_aug, ev_aug_s, ev_setIx, ev_setIx_s, ev_augIx, ev_dictN, ev_notInN, ev_oNotInN, ev_putN, ev_oPutN, ev_for, ev_ofor, ev_V, ev_L, ev_B, ev_rdV, ev_rdLv, ev_rdLl, ev_rdBv, ev_rdBb, ev_C, ev_e2, ev_o2, ev_e1, ev_e3, ev_o3, ev_pN, ev_pS, ev_oPS, ev_aNil, ev_aCons, ev_oCons, ev_tup, ev_lst, ev_oLst, ev_scal, ev_scal_i, ev_scal_s, ev_scal_b, ev_neg, ev_oNeg, ev_tB, ev_asB, ev_tNot, ev_tAnd, ev_tOr, ev_oAnd_t, ev_oAnd_f, ev_oOr_t, ev_oOr_f, ev_eAnd, ev_eOr, ev_oAndD_t, ev_oAndD_f, ev_oOrD_t, ev_oOrD_f, ev_eNot, ev_oNot, ev_isi, ev_isi_ii, ev_isi_ib, ev_isi_il, ev_isi_it, ev_isi_is, ev_isi_ll, ev_isi_lt, ev_isi_li, ev_isi_lb, ev_isi_tt, ev_isi_tl, ev_isi_ss, ev_isi_bb, ev_isi_bi, ev_isN, ev_notN, ev_oIsN_n, ev_oIsN_i, ev_oIsN_l, ev_oIsN_t, ev_oNotN_n, ev_oNotN_i, ev_oNotN_l, ev_oNotN_t, ev_rev, ev_gRev, ev_iAny, ev_oAny_l, ev_oAny_t, ev_iSeqB, ev_oSeqB, ev_iEnum, ev_oEnum, ev_iZip, ev_oZip_ll, ev_oZip_tt, ev_oZip_lt, ev_oZip_tl, ev_iRng1, ev_rng1_s, ev_iRng2, ev_rng2_s, ev_tgN, ev_tgNil, ev_tgCons, ev_tgT, ev_wipe_nil, ev_wipe_cons, ev_lc, ev_oLc, ev_add, ev_addIS, ev_add_ll, ev_add_tt, ev_addL, ev_repL, ev_rep, ev_sub, ev_mul, ev_mod, ev_div, ev_modA, ev_divA, ev_pow, ev_lt, ev_le, ev_gt, ev_ge, ev_eq, ev_ne, ev_eqs, ev_nes, ev_eqb, ev_neb, ev_len, ev_lenT, ev_list, ev_listT, ev_tuple, ev_tupleT, ev_int, ev_intb, ev_sum, ev_sum0, ev_max2, ev_min2, ev_sl, ev_slT, ev_slL, ev_slB, ev_divAZ, ev_divZ, ev_onNx, ev_while, ev_eq_li, ev_ne_li, ev_eq_self, ev_ne_self, ev_eq_selfT, ev_ne_selfT, ev_ne_nil, ev_eq_nil, ev_sorted_i, ev_listRg, ev_oListRg, ev_in_ii, ev_thaw, ev_oThaw, ev_flatO, ev_tThaw, ev_otThaw, ev_move, ev_oMove, ev_iEnumG, ev_oEnumG_l, ev_oEnumG_t, ev_gNotB, ev_nD, ev_nL, ev_oNL, ev_xN, ev_nsNil, ev_nsCons, ev_oNs, ev_nDictQ, ev_nDictK, ev_nLst, ev_nTup, ev_toC_d, ev_toC_n, ev_setX, ev_oSetX, ev_setN, ev_oSetN, ev_dropX, ev_oDropX, ev_retX, ev_oRetX, ev_retXN, ev_seq_rx, ev_ifX, ev_oIfX_t, ev_oIfX_f, ev_oTxB, ev_txCmp, ev_oTxC, ev_txP, ev_txNot, ev_oTxN, ev_pNm, ev_nodeAt, ev_oNode, ev_sub0, ev_subS, ev_putAt, ev_oPutA, ev_put0, ev_putS, ev_oTp, ev_rN, ev_cell_own, ev_cell_ro, ev_cell_val, ev_cell_lst, ev_roN, ev_oRo, ev_rF, ev_oRF, ev_rI, ev_oRI, ev_rLeaf, ev_oLeaf, ev_rFlat, ev_rView, ev_flatV1, ev_flatV1d, ev_eOw, ev_oEow, ev_fldP, ev_ixP, ev_nd1, ev_nd2, decide_true, decide_false, List.nil_append, List.cons_append, ev_ix, ev_ixT, ev_ixB, ev_ixBT]
end DL
set_option Elab.async false
set_option linter.all false
set_option maxRecDepth 100000
set_option maxHeartbeats 4000000
namespace DL
open PySem PySem.Spec L2
def PsOk (m : Nat) (ps : List Int) : Prop := ∀ x ∈ ps, 0 ≤ x ∧ x < m
theorem PsOk.at {m : Nat} {ps : List Int} (h : PsOk m ps) {k : Nat} (hk : k < ps.length) : 0 ≤ ps.getD k 0 ∧ ps.getD k 0 < m := by
  have e : ps.getD k 0 = ps[k] := by simp [List.getD, List.getElem?_eq_getElem hk]
  rw [e]; exact h _ (List.getElem_mem hk)
theorem PsOk.set {m : Nat} {ps : List Int} (h : PsOk m ps) {k : Nat} {v : Int} (hv : 0 ≤ v ∧ v < m) : PsOk m (ps.set k v) := fun x hx => by
  rcases List.mem_or_eq_of_mem_set hx with z | z
  · exact h x z
  · rw [z]; exact hv
theorem swap_mem {ps : List Int} {i o : Nat} (hi : i < ps.length) (ho : o < ps.length) {x : Int} (hx : x ∈ ps) : x ∈ (ps.set i (ps.getD o 0)).set o (ps.getD i 0) := by
  obtain ⟨j, hj, rfl⟩ := List.mem_iff_getElem.mp hx
  have gi : ps.getD i 0 = ps[i] := by simp [List.getD, List.getElem?_eq_getElem hi]
  have go : ps.getD o 0 = ps[o] := by simp [List.getD, List.getElem?_eq_getElem ho]
  rw [gi, go]
  by_cases e1 : j = i
  · subst e1
    exact List.mem_iff_getElem.mpr ⟨o, by simpa using ho, by simp⟩
  · by_cases e2 : j = o
    · subst e2
      refine List.mem_iff_getElem.mpr ⟨i, by simpa using hi, ?_⟩
      rw [List.getElem_set_ne e1, List.getElem_set_self]
    · refine List.mem_iff_getElem.mpr ⟨j, by simpa using hj, ?_⟩
      rw [List.getElem_set_ne (Ne.symm e2), List.getElem_set_ne (Ne.symm e1)]
theorem set_map {l : List Int} {i v : Int} (h0 : 0 ≤ i) (h1 : i < l.length) : setAt (l.map PyData.int) i (.int v) = some ((l.set i.toNat v).map .int) := by
  rw [ev_setAt h0 (by rw [List.length_map]; exact h1), List.map_set]
def ordE (ns : List Int) (m : Nat) (ps : List Int) (t3 t4 t5 : C) : List C := [.brw (.list (ns.map .int)), .val (.int (m : Nat)), .lst (ps.map .int), t3, t4, t5, .und, .und]
theorem order_ok {ns : List Int} {m : Nat} (hm : m ≤ 63) : ∃ os : List Int, f_l_order [.list (ns.map .int), .int (m : Nat)] = some (.list (os.map .int)) ∧ PsOk m os ∧ os.length ≤ 126 ∧ ∀ k, k < m → (k : Int) ∈ os := by
  rw [fe_l_order]
  have lr : oListRg (some (.int (m : Nat))) = some (.list (((List.range m).map fun k : Nat => (k : Int)).map .int)) := by
    rw [ev_oListRg (by omega) (by omega), Int.toNat_natCast, rng_map, List.map_map]
    congr 2
    apply List.map_congr_left
    intro k _
    simp
  generalize hq : ((List.range m).map fun k : Nat => (k : Int)) = q0 at lr
  have q0ok : PsOk m q0 := fun x hx => by
    rw [← hq] at hx
    obtain ⟨k, hk, rfl⟩ := List.mem_map.mp hx
    have := List.mem_range.mp hk
    omega
  have q0l : q0.length = m := by rw [← hq, List.length_map, List.length_range]
  have q0m : ∀ k, k < m → (k : Int) ∈ q0 := fun k hk => by rw [← hq]; exact List.mem_map.mpr ⟨k, List.mem_range.mpr hk, rfl⟩
  clear hq
  have z20 : (0 : Int) < 20 := by decide
  obtain ⟨e, el, ps, t3, t4, t5, rfl, hps, hpl, hpm⟩ := forF_rng (lo := 0) (n := (m : Int).toNat) (v := 3) (b := L_l_order_0) (env := ordE ns m q0 .und .und .und)
    (fun i env => ∃ ps t3 t4 t5, env = ordE ns m ps t3 t4 t5 ∧ PsOk m ps ∧ ps.length = m ∧ ∀ k, k < m → (k : Int) ∈ ps) ⟨_, _, _, _, rfl, q0ok, q0l, q0m⟩ (fun i env hi hI => by
      obtain ⟨ps, t3, t4, t5, rfl, hps, hpl, hpm⟩ := hI
      have hi : i < m := by simpa using hi
      have a0 := Int.emod_nonneg (0 + (i : Int)) (b := 20) (by decide)
      have ci := cell_ok (ns := ns) (k := 40 + (0 + (i : Int)) % 20) (by omega)
      obtain ⟨v, ev, v0, v1⟩ := mix_ok (n := atC ns (40 + (0 + (i : Int)) % 20)) (p := 500 + (0 + (i : Int))) (by omega) (by omega)
      have zm : (0 : Int) < (m : Int) := by omega
      have o0 := Int.emod_nonneg v (b := (m : Int)) (by omega)
      have o1 := Int.emod_lt_of_pos v (b := (m : Int)) zm
      generalize ho : v % (m : Int) = o at o0 o1
      have i0 : (0 : Int) ≤ 0 + (i : Int) := by omega
      have i1 : 0 + (i : Int) < (ps.length : Int) := by omega
      have r1 := intD_at (l := ps) i0 i1
      have r2 := intD_at (l := ps) (k := o) o0 (by omega)
      have p1 := hps.at (k := (0 + (i : Int)).toNat) (by omega)
      have p2 := hps.at (k := o.toNat) (by omega)
      have s1 := set_map (l := ps) (v := ps.getD o.toNat 0) i0 i1
      have s2 := set_map (l := ps.set (0 + (i : Int)).toNat (ps.getD o.toNat 0)) (i := o) (v := ps.getD (0 + (i : Int)).toNat 0) o0 (by rw [List.length_set]; omega)
      unfold L_l_order_0 ordE
      simp only [ev_bs, ev_bn, ev_ms, ev_mn, ev_g0, ev_gs, ev_s0, ev_ss, ev_bn1, ev_bn2, ev_seq, ev_seq_nx, ev_seq_rt, ev_seq_bk, ev_seq_ct, ev_nil, ev_brk, ev_cnt, ev_if, ev_if_t, ev_if_f, ev_set, ev_oset, ev_setL, ev_osetL, ev_drop, ev_odrop, ev_ret, ev_oret, ev_retN, ev_retL, ev_oretL, ev_orun, ev_orunN, ev_orunN_nx, ev_fz, ev_fz_l, ev_fz_v, ev_app, ev_app_s, ev_clear, ev_clear_s, ev_oNx, ev_asg, ev_asg_s, ev_par, ev_par_s, ev_aug, ev_aug_s, ev_setIx, ev_setIx_s, ev_augIx, ev_dictN, ev_notInN, ev_oNotInN, ev_putN, ev_oPutN, ev_for, ev_ofor, ev_V, ev_L, ev_B, ev_rdV, ev_rdLv, ev_rdLl, ev_rdBv, ev_rdBb, ev_C, ev_e2, ev_o2, ev_e1, ev_e3, ev_o3, ev_pN, ev_pS, ev_oPS, ev_aNil, ev_aCons, ev_oCons, ev_tup, ev_lst, ev_oLst, ev_scal, ev_scal_i, ev_scal_s, ev_scal_b, ev_neg, ev_oNeg, ev_tB, ev_asB, ev_tNot, ev_tAnd, ev_tOr, ev_oAnd_t, ev_oAnd_f, ev_oOr_t, ev_oOr_f, ev_eAnd, ev_eOr, ev_oAndD_t, ev_oAndD_f, ev_oOrD_t, ev_oOrD_f, ev_eNot, ev_oNot, ev_isi, ev_isi_ii, ev_isi_ib, ev_isi_il, ev_isi_it, ev_isi_is, ev_isi_ll, ev_isi_lt, ev_isi_li, ev_isi_lb, ev_isi_tt, ev_isi_tl, ev_isi_ss, ev_isi_bb, ev_isi_bi, ev_isN, ev_notN, ev_oIsN_n, ev_oIsN_i, ev_oIsN_l, ev_oIsN_t, ev_oNotN_n, ev_oNotN_i, ev_oNotN_l, ev_oNotN_t, ev_rev, ev_gRev, ev_iAny, ev_oAny_l, ev_oAny_t, ev_iSeqB, ev_oSeqB, ev_iEnum, ev_oEnum, ev_iZip, ev_oZip_ll, ev_oZip_tt, ev_oZip_lt, ev_oZip_tl, ev_iRng1, ev_rng1_s, ev_iRng2, ev_rng2_s, ev_tgN, ev_tgNil, ev_tgCons, ev_tgT, ev_wipe_nil, ev_wipe_cons, ev_lc, ev_oLc, ev_add, ev_addIS, ev_add_ll, ev_add_tt, ev_addL, ev_repL, ev_rep, ev_sub, ev_mul, ev_mod, ev_div, ev_modA, ev_divA, ev_pow, ev_lt, ev_le, ev_gt, ev_ge, ev_eq, ev_ne, ev_eqs, ev_nes, ev_eqb, ev_neb, ev_len, ev_lenT, ev_list, ev_listT, ev_tuple, ev_tupleT, ev_int, ev_intb, ev_sum, ev_sum0, ev_max2, ev_min2, ev_sl, ev_slT, ev_slL, ev_slB, ev_divAZ, ev_divZ, ev_onNx, ev_while, ev_eq_li, ev_ne_li, ev_eq_self, ev_ne_self, ev_eq_selfT, ev_ne_selfT, ev_ne_nil, ev_eq_nil, ev_sorted_i, ev_listRg, ev_oListRg, ev_in_ii, ev_thaw, ev_oThaw, ev_flatO, ev_tThaw, ev_otThaw, ev_move, ev_oMove, ev_iEnumG, ev_oEnumG_l, ev_oEnumG_t, ev_gNotB, ev_nD, ev_nL, ev_oNL, ev_xN, ev_nsNil, ev_nsCons, ev_oNs, ev_nDictQ, ev_nDictK, ev_nLst, ev_nTup, ev_toC_d, ev_toC_n, ev_setX, ev_oSetX, ev_setN, ev_oSetN, ev_dropX, ev_oDropX, ev_retX, ev_oRetX, ev_retXN, ev_seq_rx, ev_ifX, ev_oIfX_t, ev_oIfX_f, ev_oTxB, ev_txCmp, ev_oTxC, ev_txP, ev_txNot, ev_oTxN, ev_pNm, ev_nodeAt, ev_oNode, ev_sub0, ev_subS, ev_putAt, ev_oPutA, ev_put0, ev_putS, ev_oTp, ev_rN, ev_cell_own, ev_cell_ro, ev_cell_val, ev_cell_lst, ev_roN, ev_oRo, ev_rF, ev_oRF, ev_rI, ev_oRI, ev_rLeaf, ev_oLeaf, ev_rFlat, ev_rView, ev_flatV1, ev_flatV1d, ev_eOw, ev_oEow, ev_fldP, ev_ixP, ev_nd1, ev_nd2, decide_true, decide_false, List.nil_append, List.cons_append, ev_ix, ev_ixT, ev_ixB, ev_ixBT, z20, ci, ev, zm, ho, r1, r2, s1, s2]
      exact ⟨_, _, _, _, rfl, (hps.set p2).set p1, by rw [List.length_set, List.length_set]; exact hpl, fun k hk => swap_mem (by omega) (by omega) (hpm k hk)⟩)
  have c61 := cell_ok (ns := ns) (k := 61) (by omega)
  have z4 : (0 : Int) < 4 := by decide
  have rg := ev_rng1_s (k := (m : Int)) (by omega) (by omega)
  have lc : ∀ t6 t7 : C, lcF (tgN 7) (tB (e2 gEq (e2 gModA (e1 f_l_mix (aCons (e1 f_l_cell_at (aCons (eB 0) (aCons (eC (.int 61)) aNil))) (aCons (e2 gAdd (eC (.int 600)) (eV 7)) aNil))) (eC (.int 4))) (eC (.int 1)))) (eV 7) [.brw (.list (ns.map .int)), .val (.int (m : Nat)), .val (.list (ps.map .int)), t3, t4, t5, t6, t7] (ps.map .int) =
      some ((ps.filter fun x => decide (mixZ (atC ns 61) (600 + x) % 4 = 1)).map .int) := fun t6 t7 => by
    refine lcF_filt _ _ _ _ fun x hx => ?_
    have hx2 := hps x hx
    obtain ⟨e, _, _⟩ := mixZ_ok (n := atC ns 61) (p := 600 + x) (by omega) (by omega)
    refine ⟨[.brw (.list (ns.map .int)), .val (.int (m : Nat)), .val (.list (ps.map .int)), t3, t4, t5, t6, .val (.int x)], rfl, ?_, fun _ => rfl⟩
    simp only [ev_bs, ev_bn, ev_ms, ev_mn, ev_g0, ev_gs, ev_s0, ev_ss, ev_bn1, ev_bn2, ev_seq, ev_seq_nx, ev_seq_rt, ev_seq_bk, ev_seq_ct, ev_nil, ev_brk, ev_cnt, ev_if, ev_if_t, ev_if_f, ev_set, ev_oset, ev_setL, ev_osetL, ev_drop, ev_odrop, ev_ret, ev_oret, ev_retN, ev_retL, ev_oretL, ev_orun, ev_orunN, ev_orunN_nx, ev_fz, ev_fz_l, ev_fz_v, ev_app, ev_app_s, ev_clear, ev_clear_s, ev_oNx, ev_asg, ev_asg_s, ev_par, ev_par_s, ev_aug, ev_aug_s, ev_setIx, ev_setIx_s, ev_augIx, ev_dictN, ev_notInN, ev_oNotInN, ev_putN, ev_oPutN, ev_for, ev_ofor, ev_V, ev_L, ev_B, ev_rdV, ev_rdLv, ev_rdLl, ev_rdBv, ev_rdBb, ev_C, ev_e2, ev_o2, ev_e1, ev_e3, ev_o3, ev_pN, ev_pS, ev_oPS, ev_aNil, ev_aCons, ev_oCons, ev_tup, ev_lst, ev_oLst, ev_scal, ev_scal_i, ev_scal_s, ev_scal_b, ev_neg, ev_oNeg, ev_tB, ev_asB, ev_tNot, ev_tAnd, ev_tOr, ev_oAnd_t, ev_oAnd_f, ev_oOr_t, ev_oOr_f, ev_eAnd, ev_eOr, ev_oAndD_t, ev_oAndD_f, ev_oOrD_t, ev_oOrD_f, ev_eNot, ev_oNot, ev_isi, ev_isi_ii, ev_isi_ib, ev_isi_il, ev_isi_it, ev_isi_is, ev_isi_ll, ev_isi_lt, ev_isi_li, ev_isi_lb, ev_isi_tt, ev_isi_tl, ev_isi_ss, ev_isi_bb, ev_isi_bi, ev_isN, ev_notN, ev_oIsN_n, ev_oIsN_i, ev_oIsN_l, ev_oIsN_t, ev_oNotN_n, ev_oNotN_i, ev_oNotN_l, ev_oNotN_t, ev_rev, ev_gRev, ev_iAny, ev_oAny_l, ev_oAny_t, ev_iSeqB, ev_oSeqB, ev_iEnum, ev_oEnum, ev_iZip, ev_oZip_ll, ev_oZip_tt, ev_oZip_lt, ev_oZip_tl, ev_iRng1, ev_rng1_s, ev_iRng2, ev_rng2_s, ev_tgN, ev_tgNil, ev_tgCons, ev_tgT, ev_wipe_nil, ev_wipe_cons, ev_lc, ev_oLc, ev_add, ev_addIS, ev_add_ll, ev_add_tt, ev_addL, ev_repL, ev_rep, ev_sub, ev_mul, ev_mod, ev_div, ev_modA, ev_divA, ev_pow, ev_lt, ev_le, ev_gt, ev_ge, ev_eq, ev_ne, ev_eqs, ev_nes, ev_eqb, ev_neb, ev_len, ev_lenT, ev_list, ev_listT, ev_tuple, ev_tupleT, ev_int, ev_intb, ev_sum, ev_sum0, ev_max2, ev_min2, ev_sl, ev_slT, ev_slL, ev_slB, ev_divAZ, ev_divZ, ev_onNx, ev_while, ev_eq_li, ev_ne_li, ev_eq_self, ev_ne_self, ev_eq_selfT, ev_ne_selfT, ev_ne_nil, ev_eq_nil, ev_sorted_i, ev_listRg, ev_oListRg, ev_in_ii, ev_thaw, ev_oThaw, ev_flatO, ev_tThaw, ev_otThaw, ev_move, ev_oMove, ev_iEnumG, ev_oEnumG_l, ev_oEnumG_t, ev_gNotB, ev_nD, ev_nL, ev_oNL, ev_xN, ev_nsNil, ev_nsCons, ev_oNs, ev_nDictQ, ev_nDictK, ev_nLst, ev_nTup, ev_toC_d, ev_toC_n, ev_setX, ev_oSetX, ev_setN, ev_oSetN, ev_dropX, ev_oDropX, ev_retX, ev_oRetX, ev_retXN, ev_seq_rx, ev_ifX, ev_oIfX_t, ev_oIfX_f, ev_oTxB, ev_txCmp, ev_oTxC, ev_txP, ev_txNot, ev_oTxN, ev_pNm, ev_nodeAt, ev_oNode, ev_sub0, ev_subS, ev_putAt, ev_oPutA, ev_put0, ev_putS, ev_oTp, ev_rN, ev_cell_own, ev_cell_ro, ev_cell_val, ev_cell_lst, ev_roN, ev_oRo, ev_rF, ev_oRF, ev_rI, ev_oRI, ev_rLeaf, ev_oLeaf, ev_rFlat, ev_rView, ev_flatV1, ev_flatV1d, ev_eOw, ev_oEow, ev_fldP, ev_ixP, ev_nd1, ev_nd2, decide_true, decide_false, List.nil_append, List.cons_append, ev_ix, ev_ixT, ev_ixB, ev_ixBT, c61, e, z4]
  generalize hf : (ps.filter fun x => decide (mixZ (atC ns 61) (600 + x) % 4 = 1)) = fs at lc
  have hfl : fs.length ≤ m := by rw [← hf, ← hpl]; exact List.length_filter_le ..
  have hfm : ∀ x ∈ fs, x ∈ ps := fun x hx => by rw [← hf] at hx; exact (List.mem_filter.mp hx).1
  have ad : gAdd (.list (ps.map .int)) (.list (fs.map .int)) = some (.list ((ps ++ fs).map .int)) := by
    rw [ev_add_ll (by simp only [List.length_map]; omega), List.map_append]
  refine ⟨ps ++ fs, ?_, fun x hx => ?_, by rw [List.length_append]; omega, fun k hk => List.mem_append_left _ (hpm k hk)⟩
  · unfold b_l_order
    unfold ordE at el
    simp only [ev_bs, ev_bn, ev_ms, ev_mn, ev_g0, ev_gs, ev_s0, ev_ss, ev_bn1, ev_bn2, ev_seq, ev_seq_nx, ev_seq_rt, ev_seq_bk, ev_seq_ct, ev_nil, ev_brk, ev_cnt, ev_if, ev_if_t, ev_if_f, ev_set, ev_oset, ev_setL, ev_osetL, ev_drop, ev_odrop, ev_ret, ev_oret, ev_retN, ev_retL, ev_oretL, ev_orun, ev_orunN, ev_orunN_nx, ev_fz, ev_fz_l, ev_fz_v, ev_app, ev_app_s, ev_clear, ev_clear_s, ev_oNx, ev_asg, ev_asg_s, ev_par, ev_par_s, ev_aug, ev_aug_s, ev_setIx, ev_setIx_s, ev_augIx, ev_dictN, ev_notInN, ev_oNotInN, ev_putN, ev_oPutN, ev_for, ev_ofor, ev_V, ev_L, ev_B, ev_rdV, ev_rdLv, ev_rdLl, ev_rdBv, ev_rdBb, ev_C, ev_e2, ev_o2, ev_e1, ev_e3, ev_o3, ev_pN, ev_pS, ev_oPS, ev_aNil, ev_aCons, ev_oCons, ev_tup, ev_lst, ev_oLst, ev_scal, ev_scal_i, ev_scal_s, ev_scal_b, ev_neg, ev_oNeg, ev_tB, ev_asB, ev_tNot, ev_tAnd, ev_tOr, ev_oAnd_t, ev_oAnd_f, ev_oOr_t, ev_oOr_f, ev_eAnd, ev_eOr, ev_oAndD_t, ev_oAndD_f, ev_oOrD_t, ev_oOrD_f, ev_eNot, ev_oNot, ev_isi, ev_isi_ii, ev_isi_ib, ev_isi_il, ev_isi_it, ev_isi_is, ev_isi_ll, ev_isi_lt, ev_isi_li, ev_isi_lb, ev_isi_tt, ev_isi_tl, ev_isi_ss, ev_isi_bb, ev_isi_bi, ev_isN, ev_notN, ev_oIsN_n, ev_oIsN_i, ev_oIsN_l, ev_oIsN_t, ev_oNotN_n, ev_oNotN_i, ev_oNotN_l, ev_oNotN_t, ev_rev, ev_gRev, ev_iAny, ev_oAny_l, ev_oAny_t, ev_iSeqB, ev_oSeqB, ev_iEnum, ev_oEnum, ev_iZip, ev_oZip_ll, ev_oZip_tt, ev_oZip_lt, ev_oZip_tl, ev_iRng1, ev_rng1_s, ev_iRng2, ev_rng2_s, ev_tgN, ev_tgNil, ev_tgCons, ev_tgT, ev_wipe_nil, ev_wipe_cons, ev_lc, ev_oLc, ev_add, ev_addIS, ev_add_ll, ev_add_tt, ev_addL, ev_repL, ev_rep, ev_sub, ev_mul, ev_mod, ev_div, ev_modA, ev_divA, ev_pow, ev_lt, ev_le, ev_gt, ev_ge, ev_eq, ev_ne, ev_eqs, ev_nes, ev_eqb, ev_neb, ev_len, ev_lenT, ev_list, ev_listT, ev_tuple, ev_tupleT, ev_int, ev_intb, ev_sum, ev_sum0, ev_max2, ev_min2, ev_sl, ev_slT, ev_slL, ev_slB, ev_divAZ, ev_divZ, ev_onNx, ev_while, ev_eq_li, ev_ne_li, ev_eq_self, ev_ne_self, ev_eq_selfT, ev_ne_selfT, ev_ne_nil, ev_eq_nil, ev_sorted_i, ev_listRg, ev_oListRg, ev_in_ii, ev_thaw, ev_oThaw, ev_flatO, ev_tThaw, ev_otThaw, ev_move, ev_oMove, ev_iEnumG, ev_oEnumG_l, ev_oEnumG_t, ev_gNotB, ev_nD, ev_nL, ev_oNL, ev_xN, ev_nsNil, ev_nsCons, ev_oNs, ev_nDictQ, ev_nDictK, ev_nLst, ev_nTup, ev_toC_d, ev_toC_n, ev_setX, ev_oSetX, ev_setN, ev_oSetN, ev_dropX, ev_oDropX, ev_retX, ev_oRetX, ev_retXN, ev_seq_rx, ev_ifX, ev_oIfX_t, ev_oIfX_f, ev_oTxB, ev_txCmp, ev_oTxC, ev_txP, ev_txNot, ev_oTxN, ev_pNm, ev_nodeAt, ev_oNode, ev_sub0, ev_subS, ev_putAt, ev_oPutA, ev_put0, ev_putS, ev_oTp, ev_rN, ev_cell_own, ev_cell_ro, ev_cell_val, ev_cell_lst, ev_roN, ev_oRo, ev_rF, ev_oRF, ev_rI, ev_oRI, ev_rLeaf, ev_oLeaf, ev_rFlat, ev_rView, ev_flatV1, ev_flatV1d, ev_eOw, ev_oEow, ev_fldP, ev_ixP, ev_nd1, ev_nd2, decide_true, decide_false, List.nil_append, List.cons_append, ev_ix, ev_ixT, ev_ixB, ev_ixBT, lr, rg, el, lc, ad]
  · rcases List.mem_append.mp hx with z | z
    · exact hps x z
    · exact hps x (hfm x z)
end DL
set_option Elab.async false
set_option linter.all false
set_option maxRecDepth 100000
set_option maxHeartbeats 4000000
namespace DL
open PySem PySem.Spec L2
theorem rdy_k {c : List Int} {r : Rw} (h : rdy c r = true) : r.k = c.getD r.h.toNat 0 ∧ leAll c r.cs = true := by
  unfold rdy readyB at h
  rw [Bool.and_eq_true, decide_eq_true_eq] at h
  exact h
/-- so many rows of each house, each number once -/
structure Good (n : Nat) (c : List Int) (rs : List Rw) : Prop where
  len : c.length = n
  nn : ∀ j, j < n → 0 ≤ c.getD j 0
  ok : ∀ r ∈ rs, RwOk n r
  lt : ∀ r ∈ rs, 0 ≤ r.k ∧ r.k < c.getD r.h.toNat 0
  all : ∀ j, j < n → ∀ k : Int, 0 ≤ k → k < c.getD j 0 → ∃ r ∈ rs, r.h.toNat = j ∧ r.k = k
  uq : Uq rs
theorem Good.nil (n : Nat) : Good n (List.replicate n 0) [] := by
  have g : ∀ j, (List.replicate n (0 : Int)).getD j 0 = 0 := fun j => by
    simp only [List.getD_eq_getElem?_getD, List.getElem?_replicate]
    by_cases hj : j < n
    · rw [if_pos hj]; rfl
    · rw [if_neg hj]; rfl
  exact ⟨List.length_replicate .., fun j _ => by rw [g]; omega, (fun _ m => nomatch m), (fun _ m => nomatch m), fun j _ k h0 h1 => by rw [g] at h1; omega, List.Pairwise.nil⟩
theorem Good.snoc {n : Nat} {c : List Int} {rs : List Rw} {r : Rw} (g : Good n c rs) (hr : RwOk n r) (z : rdy c r = true) : Good n (bump c r) (rs ++ [r]) := by
  obtain ⟨hk, _⟩ := rdy_k z
  have b := bump_at g.len hr
  have hi : r.h.toNat < n := by have := hr.1; have := hr.2.1; omega
  have n0 := g.nn _ hi
  refine ⟨(bump_len ..).trans g.len, fun j hj => ?_, fun x hx => ?_, fun x hx => ?_, fun j hj k k0 k1 => ?_, ?_⟩
  · rw [b]
    have := g.nn j hj
    split <;> omega
  · rcases List.mem_append.mp hx with m | m
    · exact g.ok x m
    · rw [List.mem_singleton.mp m]; exact hr
  · rw [b]
    rcases List.mem_append.mp hx with m | m
    · have := g.lt x m
      split
      · rename_i e; rw [e] at this; omega
      · exact this
    · rw [List.mem_singleton.mp m, if_pos rfl]; omega
  · rw [b] at k1
    by_cases e : j = r.h.toNat
    · rw [if_pos e] at k1
      by_cases e2 : k = c.getD r.h.toNat 0
      · exact ⟨r, List.mem_append_right _ (List.mem_singleton.mpr rfl), e.symm, by omega⟩
      · obtain ⟨x, m, h1, h2⟩ := g.all j hj k k0 (by rw [e]; omega)
        exact ⟨x, List.mem_append_left _ m, h1, h2⟩
    · rw [if_neg e] at k1
      obtain ⟨x, m, h1, h2⟩ := g.all j hj k k0 k1
      exact ⟨x, List.mem_append_left _ m, h1, h2⟩
  · refine List.pairwise_append.mpr ⟨g.uq, List.pairwise_singleton _ _, fun x hx y hy => ?_⟩
    rw [List.mem_singleton.mp hy]
    have := g.lt x hx
    unfold smB
    rw [Bool.and_eq_false_iff, decide_eq_false_iff_not, decide_eq_false_iff_not]
    by_cases e : x.h = r.h
    · right; rw [e] at this; omega
    · exact .inl e
theorem Good.run {n : Nat} : ∀ (rest : List Rw) {c : List Int} {done : List Rw}, Good n c done → (∀ r ∈ rest, RwOk n r) → keepsB c rest = true → Good n (cnt c rest) (done ++ rest)
  | [], c, done, g, _, _ => by rw [List.append_nil]; exact g
  | r :: rest, c, done, g, ho, hk => by
    have hk : (rdy c r && keepsB (bump c r) rest) = true := hk
    rw [Bool.and_eq_true] at hk
    have := Good.run rest (g.snoc (ho r List.mem_cons_self) hk.1) (fun x hx => ho x (List.mem_cons_of_mem _ hx)) hk.2
    rw [List.append_assoc] at this
    exact this
/-- what stays true of a log, rs all rows -/
structure J (n : Nat) (rs : List Rw) (s : St) : Prop where
  ok : StOk n s
  good : Good n s.many s.tk
  kb : keepsB (List.replicate n 0) s.tk = true
  cn : cnt (List.replicate n 0) s.tk = s.many
  tkIn : ∀ r ∈ s.tk, r ∈ rs
  wIn : ∀ r ∈ s.W, r ∈ rs
  ge : ∀ r ∈ s.W, s.many.getD r.h.toNat 0 ≤ r.k
def Kn (s : St) (r : Rw) : Prop := r.k < s.many.getD r.h.toNat 0 ∨ r ∈ s.W
theorem J.nil (n : Nat) (rs : List Rw) : J n rs ⟨List.replicate n 0, [], []⟩ :=
  ⟨⟨List.length_replicate .., (fun _ m => nomatch m), (fun _ m => nomatch m), List.Pairwise.nil⟩, Good.nil n, rfl, rfl, (fun _ m => nomatch m), (fun _ m => nomatch m), (fun _ m => nomatch m)⟩
theorem J.bump {n : Nat} {rs : List Rw} {s : St} {r : Rw} {W' : List Rw} (u : Uq rs) (h : J n rs s) (hr : RwOk n r) (hm : r ∈ rs) (z : rdy s.many r = true) (hs : StOk n ⟨bump s.many r, s.tk ++ [r], W'⟩) (hW : ∀ x, x ∈ W' ↔ x ∈ s.W ∧ smB x r = false) :
    J n rs ⟨bump s.many r, s.tk ++ [r], W'⟩ ∧ (∀ x ∈ rs, Kn s x → Kn ⟨bump s.many r, s.tk ++ [r], W'⟩ x) ∧ Kn ⟨bump s.many r, s.tk ++ [r], W'⟩ r := by
  obtain ⟨hk, _⟩ := rdy_k z
  have b := bump_at h.ok.len hr
  have kr : r.k < (DL.bump s.many r).getD r.h.toNat 0 := by rw [b, if_pos rfl]; omega
  refine ⟨⟨hs, h.good.snoc hr z, ?_, ?_, ?_, fun x hx => h.wIn x ((hW x).mp hx).1, fun x hx => ?_⟩, fun x hx kx => ?_, .inl kr⟩
  · show keepsB _ (s.tk ++ [r]) = true
    rw [keepsB_app, h.kb, h.cn, keepsB_one, z]; rfl
  · show cnt _ (s.tk ++ [r]) = DL.bump s.many r
    rw [cnt_app, h.cn]; rfl
  · intro x hx
    rcases List.mem_append.mp hx with m | m
    · exact h.tkIn x m
    · rw [List.mem_singleton.mp m]; exact hm
  · obtain ⟨h1, h2⟩ := (hW x).mp hx
    have g := h.ge x h1
    show (DL.bump s.many r).getD x.h.toNat 0 ≤ x.k
    rw [b]
    split
    · rename_i e
      rw [e] at g
      have hx0 := (h.ok.w x h1).1
      have hr0 := hr.1
      have eh : x.h = r.h := by omega
      unfold smB at h2
      rw [Bool.and_eq_false_iff, decide_eq_false_iff_not, decide_eq_false_iff_not] at h2
      rcases h2 with y | y
      · exact absurd eh y
      · omega
    · exact g
  · rcases kx with kx | kx
    · left
      show x.k < (DL.bump s.many r).getD x.h.toNat 0
      rw [b]
      split
      · rename_i e; rw [e] at kx; omega
      · exact kx
    · cases e : smB x r with
      | true =>
        have := u.mem_eq hx hm e
        rw [this]
        exact .inl kr
      | false => exact .inr ((hW x).mpr ⟨kx, e⟩)
theorem J.flush {n : Nat} {rs : List Rw} (u : Uq rs) : ∀ (f : Nat) {s : St}, J n rs s → J n rs (flush f s) ∧ ∀ x ∈ rs, Kn s x → Kn (flush f s) x
  | 0, s, h => ⟨h, fun _ _ k => k⟩
  | f + 1, s, h => by
    unfold DL.flush
    split
    · exact ⟨h, fun _ _ k => k⟩
    · rename_i r e
      obtain ⟨hm, hz⟩ := fst_mem e
      obtain ⟨j1, j2, _⟩ := h.bump u (h.ok.w r hm) (h.wIn r hm) hz (h.ok.step hm) (W' := del r s.W) (fun x => by unfold del; rw [List.mem_filter]; simp)
      obtain ⟨k1, k2⟩ := J.flush u f j1
      exact ⟨k1, fun x hx kx => k2 x hx (j2 x hx kx)⟩
theorem J.due {n : Nat} {rs : List Rw} {s : St} {r : Rw} (u : Uq rs) (h : J n rs s) (hi : Idle rs s) (hr : RwOk n r) (hm : r ∈ rs) : J n rs (due s r).1 ∧ (∀ x ∈ rs, Kn s x → Kn (due s r).1 x) ∧ Kn (due s r).1 r := by
  unfold DL.due
  split
  · rename_i hk
    exact ⟨h, fun _ _ k => k, .inl hk⟩
  · rename_i hk
    split
    · rename_i z
      have no := hi.no u hm z
      obtain ⟨j1, j2, j3⟩ := h.bump u hr hm z (h.ok.put hr) (W' := s.W) fun x => ⟨fun m => ⟨m, no x m⟩, fun m => m.1⟩
      obtain ⟨k1, k2⟩ := J.flush u s.W.length j1
      exact ⟨k1, fun x hx kx => k2 x hx (j2 x hx kx), k2 r hm j3⟩
    · have hs := h.ok.wait hr
      unfold wait at hs ⊢
      split
      · rename_i hw
        rw [if_pos hw] at hs
        obtain ⟨x, hx, he⟩ := List.any_eq_true.mp hw
        have := u.mem_eq (h.wIn x hx) hm he
        exact ⟨h, fun _ _ k => k, .inr (this ▸ hx)⟩
      · rename_i hw
        rw [if_neg hw] at hs
        refine ⟨⟨hs, h.good, h.kb, h.cn, h.tkIn, fun x hx => ?_, fun x hx => ?_⟩, fun x _ kx => kx.imp_right fun m => List.mem_append_left _ m, .inr (List.mem_append_right _ (List.mem_singleton.mpr rfl))⟩
        · rcases List.mem_append.mp hx with m | m
          · exact h.wIn x m
          · rw [List.mem_singleton.mp m]; exact hm
        · rcases List.mem_append.mp hx with m | m
          · exact h.ge x m
          · rw [List.mem_singleton.mp m]
            show s.many.getD r.h.toNat 0 ≤ r.k
            omega
section
variable {n : Nat} {rs : List Rw} {s : St}
theorem known_all (h : J n rs s) (hi : Idle rs s) (ho : ∀ r ∈ rs, RwOk n r) (hk : keepsB (List.replicate n 0) rs = true) (kn : ∀ x ∈ rs, Kn s x) : ∀ (B A : List Rw), rs = A ++ B → (∀ x ∈ A, x.k < s.many.getD x.h.toNat 0) → ∀ x ∈ B, x.k < s.many.getD x.h.toNat 0
  | [], _, _, _, _, m => nomatch m
  | r :: B, A, e, hA, x, hx => by
    have hm : r ∈ rs := by rw [e]; simp
    have hr := ho r hm
    have rk : r.k < s.many.getD r.h.toNat 0 := by
      rcases kn r hm with z | z
      · exact z
      · have hk2 := hk
        rw [e, keepsB_app, Bool.and_eq_true] at hk2
        obtain ⟨kA, kB⟩ := hk2
        have kB : (rdy (cnt (List.replicate n 0) A) r && keepsB (bump (cnt (List.replicate n 0) A) r) B) = true := kB
        rw [Bool.and_eq_true] at kB
        obtain ⟨q1, q2⟩ := rdy_k kB.1
        have gA := Good.run A (Good.nil n) (fun y hy => ho y (by rw [e]; exact List.mem_append_left _ hy)) kA
        rw [List.nil_append] at gA
        have le : ∀ j, j < n → (cnt (List.replicate n 0) A).getD j 0 ≤ s.many.getD j 0 := fun j hj => by
          have n1 := h.good.nn j hj
          by_cases c0 : (cnt (List.replicate n 0) A).getD j 0 ≤ 0
          · omega
          · obtain ⟨y, my, y1, y2⟩ := gA.all j hj ((cnt (List.replicate n 0) A).getD j 0 - 1) (by omega) (by omega)
            have := hA y my
            rw [y1, y2] at this
            omega
        have hi2 : r.h.toNat < n := by have := hr.1; have := hr.2.1; omega
        have g := h.ge r z
        have l1 := le _ hi2
        have lr : leAll s.many r.cs = true := by
          rw [leAll_iff _ _ (by rw [h.ok.len]; exact hr.2.2.1.symm)]
          intro k hk3
          rw [leAll_iff _ _ (by rw [gA.len]; exact hr.2.2.1.symm)] at q2
          have hk4 : k < n := by rw [← h.ok.len]; exact hk3
          have a1 := q2 k (by rw [gA.len]; exact hk4)
          have a2 := le k hk4
          omega
        have rd : rdy s.many r = true := by
          unfold rdy readyB
          rw [lr, Bool.and_true]
          exact decide_eq_true (by omega)
        rw [fst_none.mp hi.2 r z] at rd
        cases rd
    rcases List.mem_cons.mp hx with rfl | hx
    · exact rk
    · exact known_all h hi ho hk kn B (A ++ [r]) (by rw [e]; simp) (fun y hy => by
        rcases List.mem_append.mp hy with m | m
        · exact hA y m
        · rw [List.mem_singleton.mp m]; exact rk) x hx
theorem all_taken (h : J n rs s) (hi : Idle rs s) (ho : ∀ r ∈ rs, RwOk n r) (hk : keepsB (List.replicate n 0) rs = true) (kn : ∀ x ∈ rs, Kn s x) :
    s.W = [] ∧ (∀ x ∈ rs, x.k < s.many.getD x.h.toNat 0) ∧ s.many = cnt (List.replicate n 0) rs ∧ ∀ x, x ∈ s.tk ↔ x ∈ rs := by
  have ka := known_all h hi ho hk kn rs [] rfl (fun _ m => nomatch m)
  have gr := Good.run rs (Good.nil n) ho hk
  rw [List.nil_append] at gr
  have hW : s.W = [] := List.eq_nil_iff_forall_not_mem.mpr fun x hx => by
    have a := ka x (h.wIn x hx)
    have b := h.ge x hx
    omega
  refine ⟨hW, ka, ?_, fun x => ⟨h.tkIn x, fun hx => ?_⟩⟩
  · apply List.ext_getElem (by rw [h.ok.len, gr.len])
    intro j h1 h2
    have hj : j < n := by rw [← h.ok.len]; exact h1
    have e1 : s.many[j] = s.many.getD j 0 := by simp [List.getD, List.getElem?_eq_getElem h1]
    have e2 : (cnt (List.replicate n 0) rs)[j] = (cnt (List.replicate n 0) rs).getD j 0 := by simp [List.getD, List.getElem?_eq_getElem h2]
    rw [e1, e2]
    have n1 := h.good.nn j hj
    have n2 := gr.nn j hj
    have le1 : (cnt (List.replicate n 0) rs).getD j 0 ≤ s.many.getD j 0 := by
      by_cases c0 : (cnt (List.replicate n 0) rs).getD j 0 ≤ 0
      · omega
      · obtain ⟨y, my, y1, y2⟩ := gr.all j hj ((cnt (List.replicate n 0) rs).getD j 0 - 1) (by omega) (by omega)
        have := ka y my
        rw [y1, y2] at this
        omega
    have le2 : s.many.getD j 0 ≤ (cnt (List.replicate n 0) rs).getD j 0 := by
      by_cases c0 : s.many.getD j 0 ≤ 0
      · omega
      · obtain ⟨y, my, y1, y2⟩ := h.good.all j hj (s.many.getD j 0 - 1) (by omega) (by omega)
        have := (gr.lt y (h.tkIn y my)).2
        rw [y1, y2] at this
        omega
    omega
  · have a := ka x hx
    have hr := ho x hx
    have hi2 : x.h.toNat < n := by have := hr.1; have := hr.2.1; omega
    obtain ⟨y, my, y1, y2⟩ := h.good.all _ hi2 x.k (gr.lt x hx).1 a
    have hy0 := (h.good.ok y my).1
    have hx0 := hr.1
    have : y = x := gr.uq.mem_eq (h.tkIn y my) hx (by
      unfold smB
      rw [Bool.and_eq_true, decide_eq_true_eq, decide_eq_true_eq]
      exact ⟨by omega, y2⟩)
    exact this ▸ my
end
/-! the sort -/
def leR (a b : Rw) : Bool := PySem.W.dataLe false (fun d : D => d) (rwD a) (rwD b)
theorem alike_ints : ∀ xs ys : List Int, PySem.W.alikeAll (xs.map PyData.int) (ys.map PyData.int) = true
  | [], _ => rfl
  | _ :: _, [] => rfl
  | x :: xs, y :: ys => by
    show (PySem.W.alike (.int x) (.int y) && PySem.W.alikeAll (xs.map PyData.int) (ys.map PyData.int)) = true
    rw [alike_ints xs ys]; rfl
theorem alike_dd {a b : D} (ha : DdOk a) (hb : DdOk b) : PySem.W.alike a b = true := by
  rcases ha with ⟨_, _, rfl⟩ | ⟨_, _, _, rfl⟩ <;> rcases hb with ⟨_, _, rfl⟩ | ⟨_, _, _, rfl⟩ <;> rfl
theorem alike_rw {n : Nat} {a b : Rw} (ha : RwOk n a) (hb : RwOk n b) : PySem.W.alike (rwD a) (rwD b) = true := by
  show (PySem.W.alike (.int a.h) (.int b.h) && (PySem.W.alike (.int a.k) (.int b.k) && (PySem.W.alikeAll (a.cs.map PyData.int) (b.cs.map PyData.int) && (PySem.W.alike a.dd b.dd && true)))) = true
  rw [alike_ints, alike_dd ha.2.2.2.2.2.2 hb.2.2.2.2.2.2]; rfl
theorem sortR {n : Nat} {l : List Rw} (h : ∀ r ∈ l, RwOk n r) : gSorted [.list (l.map rwD)] = some (.list ((l.mergeSort leR).map rwD)) := by
  have a1 : alikeB (l.map rwD) = true := by
    unfold alikeB
    simp only [List.all_map, List.all_eq_true, Function.comp]
    exact fun a ha b hb => alike_rw (h a ha) (h b hb)
  have a2 : sortableB (l.map rwD) = true := by
    unfold sortableB
    rw [Bool.or_eq_true]
    left
    simp only [List.all_map, List.all_eq_true, Function.comp]
    exact fun _ _ => rfl
  have a3 : ((l.map rwD).all fun d => decide (d.depth ≤ 60)) = true := by
    simp only [List.all_map, List.all_eq_true, Function.comp, decide_eq_true_eq]
    exact fun a ha => Nat.le_trans (lay_rw (h a ha)).2 (by omega)
  have e : gSorted [.list (l.map rwD)] = some (.list ((l.map rwD).mergeSort (PySem.W.dataLe false fun d => d))) := if_pos ⟨a1, a2, a3⟩
  rw [e, ← PySem.W.sort_maps (r := leR) rwD (fun a _ b _ => rfl)]
theorem Uq.nodup {l : List Rw} (u : Uq l) : l.Nodup := List.Pairwise.imp (fun {a b} h e => by rw [e, smB_self] at h; cases h) u
theorem leR_anti {a b : Rw} (h1 : leR a b = true) (h2 : leR b a = true) : smB a b = true := by
  have g1 : (!PyProof.Rows.lexLt PyProof.Rows.itemOrd (PySem.W.keyToks (rwD b)) (PySem.W.keyToks (rwD a))) = true := h1
  have g2 : (!PyProof.Rows.lexLt PyProof.Rows.itemOrd (PySem.W.keyToks (rwD a)) (PySem.W.keyToks (rwD b))) = true := h2
  rw [Bool.not_eq_true'] at g1 g2
  have e := PyProof.Rows.lex_total _ _ g2 g1
  have k : ∀ r : Rw, PySem.W.keyToks (rwD r) = Sum.inl 1 :: Sum.inl r.h :: Sum.inl 1 :: Sum.inl r.k :: PySem.W.keyToksAll [.tuple (r.cs.map .int), r.dd] := fun r => rfl
  rw [k, k] at e
  injection e with _ e
  injection e with e1 e
  injection e with _ e
  injection e with e2 e
  injection e1 with e1
  injection e2 with e2
  unfold smB
  rw [e1, e2]
  simp
theorem sort_same {a b : List Rw} (ua : Uq a) (ub : Uq b) (h : ∀ x, x ∈ a ↔ x ∈ b) : a.mergeSort leR = b.mergeSort leR := by
  have tot := PySem.W.sortLe_total (α := Rw) (PyProof.Rows.listOrd PyProof.Rows.itemOrd) false fun r => PySem.W.keyToks (rwD r)
  have pa : (a.mergeSort leR).Pairwise fun x y => leR x y = true := List.pairwise_mergeSort (fun x y z => tot.trans x y z) (fun x y => by
    rcases tot.total x y with z | z
    · rw [Bool.or_eq_true]; exact .inl z
    · rw [Bool.or_eq_true]; exact .inr z) a
  have pb : (b.mergeSort leR).Pairwise fun x y => leR x y = true := List.pairwise_mergeSort (fun x y z => tot.trans x y z) (fun x y => by
    rcases tot.total x y with z | z
    · rw [Bool.or_eq_true]; exact .inl z
    · rw [Bool.or_eq_true]; exact .inr z) b
  have pm : a.Perm b := (List.perm_ext_iff_of_nodup ua.nodup ub.nodup).mpr h
  refine List.Perm.eq_of_pairwise (le := fun x y => leR x y = true) (fun x y hx hy h1 h2 => ?_) pa pb ((List.mergeSort_perm a leR).trans (pm.trans (List.mergeSort_perm b leR).symm))
  exact ub.mem_eq ((h x).mp (List.mem_mergeSort.mp hx)) (List.mem_mergeSort.mp hy) (leR_anti h1 h2)
end DL
set_option Elab.async false
set_option linter.all false
set_option maxRecDepth 100000
set_option maxHeartbeats 4000000
namespace DL
open PySem PySem.Spec L2
def PlainV (c : C) : Prop := c = .und ∨ ∃ d, c = .val d
def envA (c0 : C) (n : Nat) (rs : List Rw) (c3 : C) (s0 s1 : St) (c5 c6 c7 : C) : List C := [c0, .val (.int (n : Nat)), .val (.list (rs.map rwD)), c3, .own none (.n .l [LogW s0, LogW s1]), c5, c6, c7]
theorem row_at {rs : List Rw} {p : Int} (h0 : 0 ≤ p) (h1 : p < rs.length) : atI (rs.map rwD) p = some (rwD (rs.getD p.toNat ⟨0, 0, [], .none⟩)) ∧ rs.getD p.toNat ⟨0, 0, [], .none⟩ ∈ rs := by
  have hl : p.toNat < rs.length := by omega
  have e : rs.getD p.toNat ⟨0, 0, [], .none⟩ = rs[p.toNat] := by simp [List.getD, List.getElem?_eq_getElem hl]
  rw [e]
  refine ⟨?_, List.getElem_mem hl⟩
  rw [ev_atm h0 (by omega), List.getElem?_eq_getElem hl]; rfl
section
variable {n : Nat} {rs : List Rw} {c0 c3 c6 c7 : C} {s0 s1 : St} {p : Int} {r : Rw}
theorem ix_env (c4 : C) (hp : atI (rs.map rwD) p = some (rwD r)) : e2 gIxS (eV 2) (eV 5) [c0, .val (.int (n : Nat)), .val (.list (rs.map rwD)), c3, c4, .val (.int p), c6, c7] = some (rwD r) := by
  simp only [ev_bs, ev_bn, ev_ms, ev_mn, ev_g0, ev_gs, ev_s0, ev_ss, ev_bn1, ev_bn2, ev_seq, ev_seq_nx, ev_seq_rt, ev_seq_bk, ev_seq_ct, ev_nil, ev_brk, ev_cnt, ev_if, ev_if_t, ev_if_f, ev_set, ev_oset, ev_setL, ev_osetL, ev_drop, ev_odrop, ev_ret, ev_oret, ev_retN, ev_retL, ev_oretL, ev_orun, ev_orunN, ev_orunN_nx, ev_fz, ev_fz_l, ev_fz_v, ev_app, ev_app_s, ev_clear, ev_clear_s, ev_oNx, ev_asg, ev_asg_s, ev_par, ev_par_s, ev_aug, ev_aug_s, ev_setIx, ev_setIx_s, ev_augIx, ev_dictN, ev_notInN, ev_oNotInN, ev_putN, ev_oPutN, ev_for, ev_ofor, ev_V, ev_L, ev_B, ev_rdV, ev_rdLv, ev_rdLl, ev_rdBv, ev_rdBb, ev_C, ev_e2, ev_o2, ev_e1, ev_e3, ev_o3, ev_pN, ev_pS, ev_oPS, ev_aNil, ev_aCons, ev_oCons, ev_tup, ev_lst, ev_oLst, ev_scal, ev_scal_i, ev_scal_s, ev_scal_b, ev_neg, ev_oNeg, ev_tB, ev_asB, ev_tNot, ev_tAnd, ev_tOr, ev_oAnd_t, ev_oAnd_f, ev_oOr_t, ev_oOr_f, ev_eAnd, ev_eOr, ev_oAndD_t, ev_oAndD_f, ev_oOrD_t, ev_oOrD_f, ev_eNot, ev_oNot, ev_isi, ev_isi_ii, ev_isi_ib, ev_isi_il, ev_isi_it, ev_isi_is, ev_isi_ll, ev_isi_lt, ev_isi_li, ev_isi_lb, ev_isi_tt, ev_isi_tl, ev_isi_ss, ev_isi_bb, ev_isi_bi, ev_isN, ev_notN, ev_oIsN_n, ev_oIsN_i, ev_oIsN_l, ev_oIsN_t, ev_oNotN_n, ev_oNotN_i, ev_oNotN_l, ev_oNotN_t, ev_rev, ev_gRev, ev_iAny, ev_oAny_l, ev_oAny_t, ev_iSeqB, ev_oSeqB, ev_iEnum, ev_oEnum, ev_iZip, ev_oZip_ll, ev_oZip_tt, ev_oZip_lt, ev_oZip_tl, ev_iRng1, ev_rng1_s, ev_iRng2, ev_rng2_s, ev_tgN, ev_tgNil, ev_tgCons, ev_tgT, ev_wipe_nil, ev_wipe_cons, ev_lc, ev_oLc, ev_add, ev_addIS, ev_add_ll, ev_add_tt, ev_addL, ev_repL, ev_rep, ev_sub, ev_mul, ev_mod, ev_div, ev_modA, ev_divA, ev_pow, ev_lt, ev_le, ev_gt, ev_ge, ev_eq, ev_ne, ev_eqs, ev_nes, ev_eqb, ev_neb, ev_len, ev_lenT, ev_list, ev_listT, ev_tuple, ev_tupleT, ev_int, ev_intb, ev_sum, ev_sum0, ev_max2, ev_min2, ev_sl, ev_slT, ev_slL, ev_slB, ev_divAZ, ev_divZ, ev_onNx, ev_while, ev_eq_li, ev_ne_li, ev_eq_self, ev_ne_self, ev_eq_selfT, ev_ne_selfT, ev_ne_nil, ev_eq_nil, ev_sorted_i, ev_listRg, ev_oListRg, ev_in_ii, ev_thaw, ev_oThaw, ev_flatO, ev_tThaw, ev_otThaw, ev_move, ev_oMove, ev_iEnumG, ev_oEnumG_l, ev_oEnumG_t, ev_gNotB, ev_nD, ev_nL, ev_oNL, ev_xN, ev_nsNil, ev_nsCons, ev_oNs, ev_nDictQ, ev_nDictK, ev_nLst, ev_nTup, ev_toC_d, ev_toC_n, ev_setX, ev_oSetX, ev_setN, ev_oSetN, ev_dropX, ev_oDropX, ev_retX, ev_oRetX, ev_retXN, ev_seq_rx, ev_ifX, ev_oIfX_t, ev_oIfX_f, ev_oTxB, ev_txCmp, ev_oTxC, ev_txP, ev_txNot, ev_oTxN, ev_pNm, ev_nodeAt, ev_oNode, ev_sub0, ev_subS, ev_putAt, ev_oPutA, ev_put0, ev_putS, ev_oTp, ev_rN, ev_cell_own, ev_cell_ro, ev_cell_val, ev_cell_lst, ev_roN, ev_oRo, ev_rF, ev_oRF, ev_rI, ev_oRI, ev_rLeaf, ev_oLeaf, ev_rFlat, ev_rView, ev_flatV1, ev_flatV1d, ev_eOw, ev_oEow, ev_fldP, ev_ixP, ev_nd1, ev_nd2, decide_true, decide_false, List.nil_append, List.cons_append, ev_ix, ev_ixT, ev_ixB, ev_ixBT, hp]
theorem take0 (u : Uq rs) (h : J n rs s0) (hi : Idle rs s0) (hr : RwOk n r) (hm : r ∈ rs) (ht : s0.tk.length + s0.W.length < 800) (hp : atI (rs.map rwD) p = some (rwD r)) :
    xMeth "Log" "take" f_Log_take (pI (eC (.int 0)) (pNm 4)) (nsCons (nD (e2 gIxS (eV 2) (eV 5))) nsNil) (envA c0 n rs c3 s0 s1 (.val (.int p)) c6 c7) = some (envA c0 n rs c3 (due s0 r).1 s1 (.val (.int p)) c6 c7, .d (.str (due s0 r).2)) :=
  (meth_at (i := 4) (p := [0]) (fl := LF) (us := [.d (rwD r)]) (ds := [rwD r]) (pI_at (p := []) (ts := [LogW s0, LogW s1]) (k := 0) (j := 0) rfl rfl rfl rfl) rfl fx_take
    (by unfold envA; simp only [ev_nsCons, ev_nsNil, ev_nD, ix_env _ hp]; rfl) rfl (take_ok u h.ok hi hr hm (by omega))).trans rfl
theorem take1 (u : Uq rs) (h : J n rs s1) (hi : Idle rs s1) (hr : RwOk n r) (hm : r ∈ rs) (ht : s1.tk.length + s1.W.length < 800) (hp : atI (rs.map rwD) p = some (rwD r)) :
    xMeth "Log" "take" f_Log_take (pI (eC (.int 1)) (pNm 4)) (nsCons (nD (e2 gIxS (eV 2) (eV 5))) nsNil) (envA c0 n rs c3 s0 s1 (.val (.int p)) c6 c7) = some (envA c0 n rs c3 s0 (due s1 r).1 (.val (.int p)) c6 c7, .d (.str (due s1 r).2)) :=
  (meth_at (i := 4) (p := [1]) (fl := LF) (us := [.d (rwD r)]) (ds := [rwD r]) (pI_at (p := []) (ts := [LogW s0, LogW s1]) (k := 1) (j := 1) rfl rfl rfl rfl) rfl fx_take
    (by unfold envA; simp only [ev_nsCons, ev_nsNil, ev_nD, ix_env _ hp]; rfl) rfl (take_ok u h.ok hi hr hm (by omega))).trans rfl
theorem keeps_of (hn : n ≤ 1000) (h : J n rs s0) : f_l_keeps [.int (n : Nat), .list (s0.tk.map rwD)] = some (.bool true) := by
  rw [l_keeps_ok hn h.ok.tk, h.kb]
theorem oEow_tk {tk : List Rw} : oEow (some (tkT tk)) = some (.list (tk.map rwD)) := ev_oEow
theorem turn0 (hn : n ≤ 1000) (u : Uq rs) (h : J n rs s0) (hi : Idle rs s0) (hr : RwOk n r) (hm : r ∈ rs) (ht : s0.tk.length + s0.W.length < 800) (hp : atI (rs.map rwD) p = some (rwD r)) :
    L_law_3 (envA c0 n rs c3 s0 s1 (.val (.int p)) c6 c7) = .nx (envA c0 n rs c3 (due s0 r).1 s1 (.val (.int p)) c6 c7) := by
  have mt := take0 (c0 := c0) (c3 := c3) (s1 := s1) (c6 := c6) (c7 := c7) u h hi hr hm ht hp
  have hj := (h.due u hi hr hm).1
  have kp := keeps_of hn hj
  have nr : nMeth "Log" "rows" f_Log_rows (rI (eC (.int 0)) (rN 4)) nsNil (envA c0 n rs c3 (due s0 r).1 s1 (.val (.int p)) c6 c7) = some (tkT (due s0 r).1.tk) := (nMeth_at (fl := LF) rfl fx_rows rfl).trans (rows_eq hj.ok)
  have v1 : eV 1 (envA c0 n rs c3 (due s0 r).1 s1 (.val (.int p)) c6 c7) = some (.int (n : Nat)) := by unfold envA; simp only [ev_bs, ev_bn, ev_ms, ev_mn, ev_g0, ev_gs, ev_s0, ev_ss, ev_bn1, ev_bn2, ev_seq, ev_seq_nx, ev_seq_rt, ev_seq_bk, ev_seq_ct, ev_nil, ev_brk, ev_cnt, ev_if, ev_if_t, ev_if_f, ev_set, ev_oset, ev_setL, ev_osetL, ev_drop, ev_odrop, ev_ret, ev_oret, ev_retN, ev_retL, ev_oretL, ev_orun, ev_orunN, ev_orunN_nx, ev_fz, ev_fz_l, ev_fz_v, ev_app, ev_app_s, ev_clear, ev_clear_s, ev_oNx, ev_asg, ev_asg_s, ev_par, ev_par_s, ev_aug, ev_aug_s, ev_setIx, ev_setIx_s, ev_augIx, ev_dictN, ev_notInN, ev_oNotInN, ev_putN, ev_oPutN, ev_for, ev_ofor, ev_V, ev_L, ev_B, ev_rdV, ev_rdLv, ev_rdLl, ev_rdBv, ev_rdBb, ev_C, ev_e2, ev_o2, ev_e1, ev_e3, ev_o3, ev_pN, ev_pS, ev_oPS, ev_aNil, ev_aCons, ev_oCons, ev_tup, ev_lst, ev_oLst, ev_scal, ev_scal_i, ev_scal_s, ev_scal_b, ev_neg, ev_oNeg, ev_tB, ev_asB, ev_tNot, ev_tAnd, ev_tOr, ev_oAnd_t, ev_oAnd_f, ev_oOr_t, ev_oOr_f, ev_eAnd, ev_eOr, ev_oAndD_t, ev_oAndD_f, ev_oOrD_t, ev_oOrD_f, ev_eNot, ev_oNot, ev_isi, ev_isi_ii, ev_isi_ib, ev_isi_il, ev_isi_it, ev_isi_is, ev_isi_ll, ev_isi_lt, ev_isi_li, ev_isi_lb, ev_isi_tt, ev_isi_tl, ev_isi_ss, ev_isi_bb, ev_isi_bi, ev_isN, ev_notN, ev_oIsN_n, ev_oIsN_i, ev_oIsN_l, ev_oIsN_t, ev_oNotN_n, ev_oNotN_i, ev_oNotN_l, ev_oNotN_t, ev_rev, ev_gRev, ev_iAny, ev_oAny_l, ev_oAny_t, ev_iSeqB, ev_oSeqB, ev_iEnum, ev_oEnum, ev_iZip, ev_oZip_ll, ev_oZip_tt, ev_oZip_lt, ev_oZip_tl, ev_iRng1, ev_rng1_s, ev_iRng2, ev_rng2_s, ev_tgN, ev_tgNil, ev_tgCons, ev_tgT, ev_wipe_nil, ev_wipe_cons, ev_lc, ev_oLc, ev_add, ev_addIS, ev_add_ll, ev_add_tt, ev_addL, ev_repL, ev_rep, ev_sub, ev_mul, ev_mod, ev_div, ev_modA, ev_divA, ev_pow, ev_lt, ev_le, ev_gt, ev_ge, ev_eq, ev_ne, ev_eqs, ev_nes, ev_eqb, ev_neb, ev_len, ev_lenT, ev_list, ev_listT, ev_tuple, ev_tupleT, ev_int, ev_intb, ev_sum, ev_sum0, ev_max2, ev_min2, ev_sl, ev_slT, ev_slL, ev_slB, ev_divAZ, ev_divZ, ev_onNx, ev_while, ev_eq_li, ev_ne_li, ev_eq_self, ev_ne_self, ev_eq_selfT, ev_ne_selfT, ev_ne_nil, ev_eq_nil, ev_sorted_i, ev_listRg, ev_oListRg, ev_in_ii, ev_thaw, ev_oThaw, ev_flatO, ev_tThaw, ev_otThaw, ev_move, ev_oMove, ev_iEnumG, ev_oEnumG_l, ev_oEnumG_t, ev_gNotB, ev_nD, ev_nL, ev_oNL, ev_xN, ev_nsNil, ev_nsCons, ev_oNs, ev_nDictQ, ev_nDictK, ev_nLst, ev_nTup, ev_toC_d, ev_toC_n, ev_setX, ev_oSetX, ev_setN, ev_oSetN, ev_dropX, ev_oDropX, ev_retX, ev_oRetX, ev_retXN, ev_seq_rx, ev_ifX, ev_oIfX_t, ev_oIfX_f, ev_oTxB, ev_txCmp, ev_oTxC, ev_txP, ev_txNot, ev_oTxN, ev_pNm, ev_nodeAt, ev_oNode, ev_sub0, ev_subS, ev_putAt, ev_oPutA, ev_put0, ev_putS, ev_oTp, ev_rN, ev_cell_own, ev_cell_ro, ev_cell_val, ev_cell_lst, ev_roN, ev_oRo, ev_rF, ev_oRF, ev_rI, ev_oRI, ev_rLeaf, ev_oLeaf, ev_rFlat, ev_rView, ev_flatV1, ev_flatV1d, ev_eOw, ev_oEow, ev_fldP, ev_ixP, ev_nd1, ev_nd2, decide_true, decide_false, List.nil_append, List.cons_append, ev_ix, ev_ixT, ev_ixB, ev_ixBT]
  unfold L_law_3
  simp only [ev_seq, ev_dropX, mt, ev_oDropX, ev_seq_nx, ev_if, ev_tNot, ev_tB, ev_e1, ev_aCons, ev_aNil, v1, ev_eOw, nr, oEow_tk, ev_oCons, kp, ev_bs, ev_asB, ev_ms, Bool.not_true, ev_if_f, ev_nil]
theorem turn1 (u : Uq rs) (h : J n rs s1) (hi : Idle rs s1) (hr : RwOk n r) (hm : r ∈ rs) (ht : s1.tk.length + s1.W.length < 800) (hp : atI (rs.map rwD) p = some (rwD r)) :
    L_law_2 (envA c0 n rs c3 s0 s1 (.val (.int p)) c6 c7) = .nx (envA c0 n rs c3 s0 (due s1 r).1 (.val (.int p)) c6 c7) := by
  have mt := take1 (c0 := c0) (c3 := c3) (s0 := s0) (c6 := c6) (c7 := c7) u h hi hr hm ht hp
  unfold L_law_2
  simp only [ev_dropX, mt, ev_oDropX]
end
/-- after so many rows handed -/
structure At (n : Nat) (rs hs : List Rw) (s : St) (i : Nat) : Prop where
  j : J n rs s
  idle : Idle rs s
  kn : ∀ x ∈ hs, Kn s x
  size : s.tk.length + s.W.length ≤ i
def hand (rs : List Rw) (qs : List Int) : List Rw := qs.map fun p => rs.getD p.toNat ⟨0, 0, [], .none⟩
theorem At.next {n : Nat} {rs hs : List Rw} {s : St} {i : Nat} {r : Rw} (a : At n rs hs s i) (u : Uq rs) (hr : RwOk n r) (hm : r ∈ rs) (hh : ∀ x ∈ hs, x ∈ rs) : At n rs (hs ++ [r]) (due s r).1 (i + 1) := by
  obtain ⟨j1, j2, j3⟩ := a.j.due u a.idle hr hm
  refine ⟨j1, a.idle.due a.j.ok hm, fun x hx => ?_, Nat.le_trans (due_sum a.j.ok) (by have := a.size; omega)⟩
  rcases List.mem_append.mp hx with m | m
  · exact j2 x (hh x m) (a.kn x m)
  · rw [List.mem_singleton.mp m]; exact j3
theorem At.start {n : Nat} {rs : List Rw} : At n rs [] ⟨List.replicate n 0, [], []⟩ 0 := ⟨J.nil n rs, ⟨(fun _ m => nomatch m), fst_nil _⟩, (fun _ m => nomatch m), Nat.le_refl _⟩
/-- the walk over an order -/
theorem walk {n : Nat} {rs : List Rw} (u : Uq rs) (hr : ∀ r ∈ rs, RwOk n r) (E : St → C → List C) (b : List C → Out) (hE : ∀ s c d, (E s c).set 5 d = E s d)
    (hb : ∀ (s : St) (p : Int) (r : Rw), J n rs s → Idle rs s → RwOk n r → r ∈ rs → s.tk.length + s.W.length < 800 → atI (rs.map rwD) p = some (rwD r) → b (E s (.val (.int p))) = .nx (E (due s r).1 (.val (.int p)))) :
    ∀ (qs : List Int) (hs : List Rw) (s : St) (c : C) (i : Nat), (∀ x ∈ qs, 0 ≤ x ∧ x < (rs.length : Int)) → (∀ x ∈ hs, x ∈ rs) → At n rs hs s i → i + qs.length < 800 → ∃ s' c', forF (tgN 5) b (qs.map PyData.int) (E s c) = .nx (E s' c') ∧ At n rs (hs ++ hand rs qs) s' (i + qs.length) ∧ (PlainV c → PlainV c')
  | [], hs, s, c, i, _, _, a, _ => ⟨s, c, rfl, by unfold hand; rw [List.map_nil, List.append_nil]; exact a, fun z => z⟩
  | p :: qs, hs, s, c, i, hq, hh, a, hl => by
    obtain ⟨q0, q1⟩ := hq p List.mem_cons_self
    obtain ⟨ra, rm⟩ := row_at q0 q1
    have hl2 : i + (qs.length + 1) < 800 := by simpa using hl
    have st := hb s p _ a.j a.idle (hr _ rm) rm (by have := a.size; omega) ra
    have a2 := a.next u (hr _ rm) rm hh
    obtain ⟨s', c', w1, w2, w3⟩ := walk u hr E b hE hb qs (hs ++ [rs.getD p.toNat ⟨0, 0, [], .none⟩]) _ (.val (.int p)) (i + 1) (fun x hx => hq x (List.mem_cons_of_mem _ hx)) (fun x hx => by
      rcases List.mem_append.mp hx with m | m
      · exact hh x m
      · rw [List.mem_singleton.mp m]; exact rm) a2 (by omega)
    refine ⟨s', c', ?_, ?_, fun _ => w3 (.inr ⟨_, rfl⟩)⟩
    · rw [List.map_cons]
      refine (forF_nx (e := E s (.val (.int p))) ?_ st).trans w1
      show some ((E s c).set 5 (.val (.int p))) = _
      rw [hE]
    · have e : hs ++ hand rs (p :: qs) = (hs ++ [rs.getD p.toNat ⟨0, 0, [], .none⟩]) ++ hand rs qs := by rw [List.append_assoc]; rfl
      have e2 : i + (p :: qs).length = i + 1 + qs.length := by rw [List.length_cons]; omega
      rw [e, e2]; exact w2
/-- one log at the end -/
structure Fin35 (n : Nat) (rs : List Rw) (s : St) : Prop where
  j : J n rs s
  idle : Idle rs s
  w : s.W = []
  kn : ∀ x ∈ rs, x.k < s.many.getD x.h.toNat 0
  m : s.many = cnt (List.replicate n 0) rs
  same : ∀ x, x ∈ s.tk ↔ x ∈ rs
  size : s.tk.length + s.W.length < 800
def envO (n : Nat) (rs : List Rw) (c3 c5 : C) (s : St) (c7 : C) : List C := [.pin 2, .val (.int (n : Nat)), .val (.list (rs.map rwD)), c3, .pin 1, c5, .own (some 0) (LogW s), c7]
theorem turnO {n : Nat} {rs : List Rw} {s : St} (hn : n ≤ 1000) (hr : ∀ r ∈ rs, RwOk n r) (u : Uq rs) (f : Fin35 n rs s) (c3 c5 c7 : C) : ∃ c7', L_law_1 (envO n rs c3 c5 s c7) = .nx (envO n rs c3 c5 s c7') ∧ (PlainV c7 → PlainV c7') := by
  have nr : nMeth "Log" "rows" f_Log_rows (rN 6) nsNil (envO n rs c3 c5 s c7) = some (tkT s.tk) := (nMeth_at (fl := LF) rfl fx_rows rfl).trans (rows_eq f.j.ok)
  have nw : nMeth "Log" "waiting" f_Log_waiting (rN 6) nsNil (envO n rs c3 c5 s c7) = some (kysT (srt s.W)) := (nMeth_at (fl := LF) rfl fx_waiting rfl).trans waiting_eq
  have kp := keeps_of hn f.j
  have ew : oEow (some (kysT (srt s.W))) = some (.list []) := by
    rw [f.w]
    have e : srt [] = [] := List.eq_nil_iff_forall_not_mem.mpr fun x hx => nomatch (mem_srt.mp hx)
    rw [e]
    exact ev_oEow (ds := [])
  have n0 : gNe (.list []) (.list []) = some (.bool false) := ev_ne_self (by decide +kernel)
  have g1 := sortR f.j.ok.tk
  have g2 := sortR hr
  have es := sort_same f.j.good.uq u f.same
  rw [es] at g1
  have sh : SeqAt.shaped (.list ((rs.mergeSort leR).map rwD)) = true := by
    obtain ⟨b1, b2⟩ := lay_rws (n := n) (rs := rs.mergeSort leR) fun r hm => hr r (List.mem_mergeSort.mp hm)
    unfold SeqAt.shaped
    simp only [PyData.canLay0, PyData.depth, b1, Bool.true_and]
    exact decide_eq_true (by omega)
  have n1 := ev_ne_self sh
  have v1 : (envO n rs c3 c5 s c7)[1]? = some (.val (.int (n : Nat))) := rfl
  have v2 : (envO n rs c3 c5 s c7)[2]? = some (.val (.list (rs.map rwD))) := rfl
  have loop : ∀ (l : List Rw) (c7 : C), (∀ r ∈ l, r ∈ rs) → ∃ c7', forF (tgN 7) L_law_0 (l.map rwD) (envO n rs c3 c5 s c7) = .nx (envO n rs c3 c5 s c7') ∧ (PlainV c7 → PlainV c7') := fun l => by
    induction l with
    | nil => intro c7 _; exact ⟨c7, rfl, fun z => z⟩
    | cons r l ih =>
      intro c7 hl
      have hm := hl r List.mem_cons_self
      have tk := take_ok u f.j.ok f.idle (hr r hm) hm (by have := f.size; omega)
      have ed : due s r = (s, ("known" : Str)) := by unfold due; rw [if_pos (f.kn r hm)]
      rw [ed] at tk
      dsimp only at tk
      have mt : xMeth "Log" "take" f_Log_take (pNm 6) (nsCons (nD (eV 7)) nsNil) (envO n rs c3 c5 s (.val (rwD r))) = some (envO n rs c3 c5 s (.val (rwD r)), .d (.str "known")) :=
        (meth_at (i := 6) (p := []) (fl := LF) (us := [.d (rwD r)]) (ds := [rwD r]) rfl rfl fx_take rfl rfl tk).trans rfl
      have ek : decide (("known" : Str) = "known") = true := decide_eq_true rfl
      have body : L_law_0 (envO n rs c3 c5 s (.val (rwD r))) = .nx (envO n rs c3 c5 s (.val (rwD r))) := by
        unfold L_law_0
        simp only [ev_ifX, ev_txCmp, mt, ev_oTxC, ev_C, ev_o2, ev_nes, decide_true, Bool.not_true, ev_oTxB, ev_oIfX_f, ev_nil]
      obtain ⟨c', h', hp'⟩ := ih (.val (rwD r)) fun x hx => hl x (List.mem_cons_of_mem _ hx)
      exact ⟨c', (forF_nx (e := envO n rs c3 c5 s (.val (rwD r))) rfl body).trans h', fun _ => hp' (.inr ⟨_, rfl⟩)⟩
  obtain ⟨c', el, hp⟩ := loop rs c7 fun _ h => h
  refine ⟨c', ?_, hp⟩
  unfold L_law_1
  simp only [ev_bs, ev_bn, ev_ms, ev_mn, ev_g0, ev_gs, ev_s0, ev_ss, ev_bn1, ev_bn2, ev_seq, ev_seq_nx, ev_seq_rt, ev_seq_bk, ev_seq_ct, ev_nil, ev_brk, ev_cnt, ev_if, ev_if_t, ev_if_f, ev_set, ev_oset, ev_setL, ev_osetL, ev_drop, ev_odrop, ev_ret, ev_oret, ev_retN, ev_retL, ev_oretL, ev_orun, ev_orunN, ev_orunN_nx, ev_fz, ev_fz_l, ev_fz_v, ev_app, ev_app_s, ev_clear, ev_clear_s, ev_oNx, ev_asg, ev_asg_s, ev_par, ev_par_s, ev_aug, ev_aug_s, ev_setIx, ev_setIx_s, ev_augIx, ev_dictN, ev_notInN, ev_oNotInN, ev_putN, ev_oPutN, ev_for, ev_ofor, ev_V, ev_L, ev_B, ev_rdV, ev_rdLv, ev_rdLl, ev_rdBv, ev_rdBb, ev_C, ev_e2, ev_o2, ev_e1, ev_e3, ev_o3, ev_pN, ev_pS, ev_oPS, ev_aNil, ev_aCons, ev_oCons, ev_tup, ev_lst, ev_oLst, ev_scal, ev_scal_i, ev_scal_s, ev_scal_b, ev_neg, ev_oNeg, ev_tB, ev_asB, ev_tNot, ev_tAnd, ev_tOr, ev_oAnd_t, ev_oAnd_f, ev_oOr_t, ev_oOr_f, ev_eAnd, ev_eOr, ev_oAndD_t, ev_oAndD_f, ev_oOrD_t, ev_oOrD_f, ev_eNot, ev_oNot, ev_isi, ev_isi_ii, ev_isi_ib, ev_isi_il, ev_isi_it, ev_isi_is, ev_isi_ll, ev_isi_lt, ev_isi_li, ev_isi_lb, ev_isi_tt, ev_isi_tl, ev_isi_ss, ev_isi_bb, ev_isi_bi, ev_isN, ev_notN, ev_oIsN_n, ev_oIsN_i, ev_oIsN_l, ev_oIsN_t, ev_oNotN_n, ev_oNotN_i, ev_oNotN_l, ev_oNotN_t, ev_rev, ev_gRev, ev_iAny, ev_oAny_l, ev_oAny_t, ev_iSeqB, ev_oSeqB, ev_iEnum, ev_oEnum, ev_iZip, ev_oZip_ll, ev_oZip_tt, ev_oZip_lt, ev_oZip_tl, ev_iRng1, ev_rng1_s, ev_iRng2, ev_rng2_s, ev_tgN, ev_tgNil, ev_tgCons, ev_tgT, ev_wipe_nil, ev_wipe_cons, ev_lc, ev_oLc, ev_add, ev_addIS, ev_add_ll, ev_add_tt, ev_addL, ev_repL, ev_rep, ev_sub, ev_mul, ev_mod, ev_div, ev_modA, ev_divA, ev_pow, ev_lt, ev_le, ev_gt, ev_ge, ev_eq, ev_ne, ev_eqs, ev_nes, ev_eqb, ev_neb, ev_len, ev_lenT, ev_list, ev_listT, ev_tuple, ev_tupleT, ev_int, ev_intb, ev_sum, ev_sum0, ev_max2, ev_min2, ev_sl, ev_slT, ev_slL, ev_slB, ev_divAZ, ev_divZ, ev_onNx, ev_while, ev_eq_li, ev_ne_li, ev_eq_self, ev_ne_self, ev_eq_selfT, ev_ne_selfT, ev_ne_nil, ev_eq_nil, ev_sorted_i, ev_listRg, ev_oListRg, ev_in_ii, ev_thaw, ev_oThaw, ev_flatO, ev_tThaw, ev_otThaw, ev_move, ev_oMove, ev_iEnumG, ev_oEnumG_l, ev_oEnumG_t, ev_gNotB, ev_nD, ev_nL, ev_oNL, ev_xN, ev_nsNil, ev_nsCons, ev_oNs, ev_nDictQ, ev_nDictK, ev_nLst, ev_nTup, ev_toC_d, ev_toC_n, ev_setX, ev_oSetX, ev_setN, ev_oSetN, ev_dropX, ev_oDropX, ev_retX, ev_oRetX, ev_retXN, ev_seq_rx, ev_ifX, ev_oIfX_t, ev_oIfX_f, ev_oTxB, ev_txCmp, ev_oTxC, ev_txP, ev_txNot, ev_oTxN, ev_pNm, ev_nodeAt, ev_oNode, ev_sub0, ev_subS, ev_putAt, ev_oPutA, ev_put0, ev_putS, ev_oTp, ev_rN, ev_cell_own, ev_cell_ro, ev_cell_val, ev_cell_lst, ev_roN, ev_oRo, ev_rF, ev_oRF, ev_rI, ev_oRI, ev_rLeaf, ev_oLeaf, ev_rFlat, ev_rView, ev_flatV1, ev_flatV1d, ev_eOw, ev_oEow, ev_fldP, ev_ixP, ev_nd1, ev_nd2, decide_true, decide_false, List.nil_append, List.cons_append, ev_ix, ev_ixT, ev_ixB, ev_ixBT, nw, ew, n0, nr, oEow_tk, g1, v2, g2, n1, v1, kp, Bool.not_true, el]
theorem forO_nx {v : Nat} {fb : List C → Out} {done todo : List T} {sh : Shp} {us : List T} {t : T} {env e : List C} (h1 : fb (env.set v (.own (some 0) (.n sh us))) = .nx e) (h2 : e[v]? = some (.own (some 0) t)) (h3 : keepB env (e.set v .und) = true) :
    forO v fb done (.n sh us :: todo) env = forO v fb (done ++ [t]) todo (e.set v .und) := by
  conv => lhs; unfold forO
  simp only [h1, h2, h3, if_true]
theorem both {n : Nat} {rs : List Rw} {x0 : List D} {x3 : D} {s0 s1 : St} {t1 d0 d1 : C} (p1 : PlainV t1) (p2 : PlainV d0) (p3 : PlainV d1) (o0 : L_law_1 (envO n rs (.val x3) t1 s0 .und) = .nx (envO n rs (.val x3) t1 s0 d0)) (o1 : L_law_1 (envO n rs (.val x3) t1 s1 d0) = .nx (envO n rs (.val x3) t1 s1 d1)) :
    sForO 4 6 L_law_1 (envA (.brw (.list x0)) n rs (.val x3) s0 s1 t1 .und .und) = .nx (envA (.brw (.list x0)) n rs (.val x3) s0 s1 t1 .und d1) := by
  have st : sForO 4 6 L_law_1 (envA (.brw (.list x0)) n rs (.val x3) s0 s1 t1 .und .und) = finO 4 (envA (.brw (.list x0)) n rs (.val x3) s0 s1 t1 .und .und) (forO 6 L_law_1 [] [LogW s0, LogW s1] [.pin 2, .val (.int (n : Nat)), .val (.list (rs.map rwD)), .val x3, .pin 1, t1, .und, .und]) := by
    rcases p1 with rfl | ⟨x, rfl⟩ <;> rfl
  rw [st]
  have k0 : keepB [.pin 2, .val (.int (n : Nat)), .val (.list (rs.map rwD)), .val x3, .pin 1, t1, .und, .und] [.pin 2, .val (.int (n : Nat)), .val (.list (rs.map rwD)), .val x3, .pin 1, t1, .und, d0] = true := by
    rcases p1 with rfl | ⟨x, rfl⟩ <;> rcases p2 with rfl | ⟨y, rfl⟩ <;> rfl
  have k1 : keepB [.pin 2, .val (.int (n : Nat)), .val (.list (rs.map rwD)), .val x3, .pin 1, t1, .und, d0] [.pin 2, .val (.int (n : Nat)), .val (.list (rs.map rwD)), .val x3, .pin 1, t1, .und, d1] = true := by
    rcases p1 with rfl | ⟨x, rfl⟩ <;> rcases p2 with rfl | ⟨y, rfl⟩ <;> rcases p3 with rfl | ⟨z, rfl⟩ <;> rfl
  have f0 : forO 6 L_law_1 [] [LogW s0, LogW s1] [.pin 2, .val (.int (n : Nat)), .val (.list (rs.map rwD)), .val x3, .pin 1, t1, .und, .und] = forO 6 L_law_1 [LogW s0] [LogW s1] [.pin 2, .val (.int (n : Nat)), .val (.list (rs.map rwD)), .val x3, .pin 1, t1, .und, d0] :=
    forO_nx (t := LogW s0) (e := envO n rs (.val x3) t1 s0 d0) o0 rfl k0
  have f1 : forO 6 L_law_1 [LogW s0] [LogW s1] [.pin 2, .val (.int (n : Nat)), .val (.list (rs.map rwD)), .val x3, .pin 1, t1, .und, d0] = forO 6 L_law_1 [LogW s0, LogW s1] [] [.pin 2, .val (.int (n : Nat)), .val (.list (rs.map rwD)), .val x3, .pin 1, t1, .und, d1] :=
    forO_nx (t := LogW s1) (e := envO n rs (.val x3) t1 s1 d1) o1 rfl k1
  rw [f0, f1]
  rcases p1 with rfl | ⟨x, rfl⟩ <;> rcases p3 with rfl | ⟨z, rfl⟩ <;> rfl
theorem law_true (ns : List Int) (h : ns.length ≤ 63) : f_law [.list (ns.map .int)] = some (.bool true) := by
  rw [fe_law]
  have c0 := cell_ok (ns := ns) (k := 0) (by omega)
  have z3 : (0 : Int) < 3 := by decide
  have h0 := Int.emod_nonneg (atC ns 0) (b := 3) (by decide)
  have h1 := Int.emod_lt_of_pos (atC ns 0) (b := 3) (by decide)
  obtain ⟨n, hn⟩ : ∃ n : Nat, 2 + atC ns 0 % 3 = n := ⟨(2 + atC ns 0 % 3).toNat, by omega⟩
  have hn2 : 2 ≤ n := by omega
  have hn4 : n ≤ 4 := by omega
  obtain ⟨rs, er, hr, hl, hk⟩ := rows_ok h hn2 hn4
  obtain ⟨os, eo, ho, hol, hom⟩ := order_ok (ns := ns) (m := rs.length) hl
  have gr := Good.run rs (Good.nil n) hr hk
  rw [List.nil_append] at gr
  have u := gr.uq
  have hin := init_ok (n := (n : Int)) (by omega) (by omega)
  have l0 : LogT (List.replicate (n : Int).toNat 0) [] [] [] = LogW ⟨List.replicate n 0, [], []⟩ := by rw [Int.toNat_natCast]; rfl
  rw [l0] at hin
  have mk : ∀ c4 c5 c6 c7 : C, nMake "Log" f_Log_init (nsCons (nD (eV 1)) nsNil) [.brw (.list (ns.map .int)), .val (.int (n : Nat)), .val (.list (rs.map rwD)), .val (.list (os.map .int)), c4, c5, c6, c7] = some (LogW ⟨List.replicate n 0, [], []⟩) := fun _ _ _ _ => nMake_at (us := [.d (.int n)]) rfl hin
  have tc : toC (.n .l [LogW ⟨List.replicate n 0, [], []⟩, LogW ⟨List.replicate n 0, [], []⟩]) = .own none (.n .l [LogW ⟨List.replicate n 0, [], []⟩, LogW ⟨List.replicate n 0, [], []⟩]) := rfl
  have hand_all : ∀ qs : List Int, (∀ k, k < rs.length → (k : Int) ∈ qs) → ∀ x ∈ rs, x ∈ hand rs qs := fun qs hq x hx => by
    obtain ⟨j, hj, rfl⟩ := List.mem_iff_getElem.mp hx
    refine List.mem_map.mpr ⟨(j : Int), hq j hj, ?_⟩
    rw [Int.toNat_natCast]
    simp [List.getD, List.getElem?_eq_getElem hj]
  have fin : ∀ (s : St) (i : Nat) (qs : List Int), (∀ k, k < rs.length → (k : Int) ∈ qs) → At n rs ([] ++ hand rs qs) s i → i < 800 → Fin35 n rs s := fun s i qs hq a hi => by
    obtain ⟨w1, w2, w3, w4⟩ := all_taken a.j a.idle hr hk fun x hx => a.kn x (by rw [List.nil_append]; exact hand_all qs hq x hx)
    exact ⟨a.j, a.idle, w1, w2, w3, w4, by have := a.size; omega⟩
  obtain ⟨s0, t0, w0, a0, pt0⟩ := walk u hr (fun s c => envA (.brw (.list (ns.map .int))) n rs (.val (.list (os.map .int))) s ⟨List.replicate n 0, [], []⟩ c .und .und) L_law_3 (fun _ _ _ => rfl)
    (fun s p r j i r1 r2 r3 r4 => turn0 (by omega) u j i r1 r2 r3 r4) os [] ⟨List.replicate n 0, [], []⟩ .und 0 ho (fun _ m => nomatch m) At.start (by omega)
  obtain ⟨s1, t1, w1, a1, pt1⟩ := walk u hr (fun s c => envA (.brw (.list (ns.map .int))) n rs (.val (.list (os.map .int))) s0 s c .und .und) L_law_2 (fun _ _ _ => rfl)
    (fun s p r j i r1 r2 r3 r4 => turn1 u j i r1 r2 r3 r4) os.reverse [] ⟨List.replicate n 0, [], []⟩ t0 0 (fun x hx => ho x (List.mem_reverse.mp hx)) (fun _ m => nomatch m) At.start (by rw [List.length_reverse]; omega)
  have q1 := pt1 (pt0 (.inl rfl))
  have f0 := fin s0 _ os hom a0 (by omega)
  have f1 := fin s1 _ os.reverse (fun k hk => List.mem_reverse.mpr (hom k hk)) a1 (by rw [List.length_reverse]; omega)
  obtain ⟨d0, o0, pd0⟩ := turnO (c3 := .val (.list (os.map .int))) (c5 := t1) (c7 := .und) (by omega) hr u f0
  obtain ⟨d1, o1, pd1⟩ := turnO (c3 := .val (.list (os.map .int))) (c5 := t1) (c7 := d0) (by omega) hr u f1
  have q2 := pd0 (.inl rfl)
  have q3 := pd1 q2
  have fo := both (x0 := ns.map .int) q1 q2 q3 o0 o1
  have i0 : oRI (some (.n .l [LogW s0, LogW s1])) (some (.int 0)) = some (LogW s0) := rfl
  have i1 : oRI (some (.n .l [LogW s0, LogW s1])) (some (.int 1)) = some (LogW s1) := rfl
  have n0 : nMeth "Log" "counts" f_Log_counts (rI (eC (.int 0)) (rN 4)) nsNil (envA (.brw (.list (ns.map .int))) n rs (.val (.list (os.map .int))) s0 s1 t1 .und d1) = some (.d (.tuple (s0.many.map .int))) := (nMeth_at (fl := LF) rfl fx_counts rfl).trans counts_eq
  have n1 : nMeth "Log" "counts" f_Log_counts (rI (eC (.int 1)) (rN 4)) nsNil (envA (.brw (.list (ns.map .int))) n rs (.val (.list (os.map .int))) s0 s1 t1 .und d1) = some (.d (.tuple (s1.many.map .int))) := (nMeth_at (fl := LF) rfl fx_counts rfl).trans counts_eq
  have em : s0.many = s1.many := f0.m.trans f1.m.symm
  have sh1 : SeqAt.shaped (.tuple (s1.many.map .int)) = true := by
    unfold SeqAt.shaped
    have := dep_ints s1.many
    simp only [PyData.canLay0, PyData.depth, lay_ints, Bool.true_and]
    exact decide_eq_true (by omega)
  have eq1 := ev_eq_selfT sh1
  unfold b_law
  unfold envA at w0 w1 fo n0 n1
  rw [em] at n0
  simp only [ev_bs, ev_bn, ev_ms, ev_mn, ev_g0, ev_gs, ev_s0, ev_ss, ev_bn1, ev_bn2, ev_seq, ev_seq_nx, ev_seq_rt, ev_seq_bk, ev_seq_ct, ev_nil, ev_brk, ev_cnt, ev_if, ev_if_t, ev_if_f, ev_set, ev_oset, ev_setL, ev_osetL, ev_drop, ev_odrop, ev_ret, ev_oret, ev_retN, ev_retL, ev_oretL, ev_orun, ev_orunN, ev_orunN_nx, ev_fz, ev_fz_l, ev_fz_v, ev_app, ev_app_s, ev_clear, ev_clear_s, ev_oNx, ev_asg, ev_asg_s, ev_par, ev_par_s, ev_aug, ev_aug_s, ev_setIx, ev_setIx_s, ev_augIx, ev_dictN, ev_notInN, ev_oNotInN, ev_putN, ev_oPutN, ev_for, ev_ofor, ev_V, ev_L, ev_B, ev_rdV, ev_rdLv, ev_rdLl, ev_rdBv, ev_rdBb, ev_C, ev_e2, ev_o2, ev_e1, ev_e3, ev_o3, ev_pN, ev_pS, ev_oPS, ev_aNil, ev_aCons, ev_oCons, ev_tup, ev_lst, ev_oLst, ev_scal, ev_scal_i, ev_scal_s, ev_scal_b, ev_neg, ev_oNeg, ev_tB, ev_asB, ev_tNot, ev_tAnd, ev_tOr, ev_oAnd_t, ev_oAnd_f, ev_oOr_t, ev_oOr_f, ev_eAnd, ev_eOr, ev_oAndD_t, ev_oAndD_f, ev_oOrD_t, ev_oOrD_f, ev_eNot, ev_oNot, ev_isi, ev_isi_ii, ev_isi_ib, ev_isi_il, ev_isi_it, ev_isi_is, ev_isi_ll, ev_isi_lt, ev_isi_li, ev_isi_lb, ev_isi_tt, ev_isi_tl, ev_isi_ss, ev_isi_bb, ev_isi_bi, ev_isN, ev_notN, ev_oIsN_n, ev_oIsN_i, ev_oIsN_l, ev_oIsN_t, ev_oNotN_n, ev_oNotN_i, ev_oNotN_l, ev_oNotN_t, ev_rev, ev_gRev, ev_iAny, ev_oAny_l, ev_oAny_t, ev_iSeqB, ev_oSeqB, ev_iEnum, ev_oEnum, ev_iZip, ev_oZip_ll, ev_oZip_tt, ev_oZip_lt, ev_oZip_tl, ev_iRng1, ev_rng1_s, ev_iRng2, ev_rng2_s, ev_tgN, ev_tgNil, ev_tgCons, ev_tgT, ev_wipe_nil, ev_wipe_cons, ev_lc, ev_oLc, ev_add, ev_addIS, ev_add_ll, ev_add_tt, ev_addL, ev_repL, ev_rep, ev_sub, ev_mul, ev_mod, ev_div, ev_modA, ev_divA, ev_pow, ev_lt, ev_le, ev_gt, ev_ge, ev_eq, ev_ne, ev_eqs, ev_nes, ev_eqb, ev_neb, ev_len, ev_lenT, ev_list, ev_listT, ev_tuple, ev_tupleT, ev_int, ev_intb, ev_sum, ev_sum0, ev_max2, ev_min2, ev_sl, ev_slT, ev_slL, ev_slB, ev_divAZ, ev_divZ, ev_onNx, ev_while, ev_eq_li, ev_ne_li, ev_eq_self, ev_ne_self, ev_eq_selfT, ev_ne_selfT, ev_ne_nil, ev_eq_nil, ev_sorted_i, ev_listRg, ev_oListRg, ev_in_ii, ev_thaw, ev_oThaw, ev_flatO, ev_tThaw, ev_otThaw, ev_move, ev_oMove, ev_iEnumG, ev_oEnumG_l, ev_oEnumG_t, ev_gNotB, ev_nD, ev_nL, ev_oNL, ev_xN, ev_nsNil, ev_nsCons, ev_oNs, ev_nDictQ, ev_nDictK, ev_nLst, ev_nTup, ev_toC_d, ev_toC_n, ev_setX, ev_oSetX, ev_setN, ev_oSetN, ev_dropX, ev_oDropX, ev_retX, ev_oRetX, ev_retXN, ev_seq_rx, ev_ifX, ev_oIfX_t, ev_oIfX_f, ev_oTxB, ev_txCmp, ev_oTxC, ev_txP, ev_txNot, ev_oTxN, ev_pNm, ev_nodeAt, ev_oNode, ev_sub0, ev_subS, ev_putAt, ev_oPutA, ev_put0, ev_putS, ev_oTp, ev_rN, ev_cell_own, ev_cell_ro, ev_cell_val, ev_cell_lst, ev_roN, ev_oRo, ev_rF, ev_oRF, ev_rI, ev_oRI, ev_rLeaf, ev_oLeaf, ev_rFlat, ev_rView, ev_flatV1, ev_flatV1d, ev_eOw, ev_oEow, ev_fldP, ev_ixP, ev_nd1, ev_nd2, decide_true, decide_false, List.nil_append, List.cons_append, ev_ix, ev_ixT, ev_ixB, ev_ixBT, c0, z3, hn, er, eo, List.length_map, mk, tc, w0, ← List.map_reverse, w1, fo, n0, n1, eq1]
end DL
set_option Elab.async false
set_option linter.all false
set_option maxRecDepth 100000
set_option maxHeartbeats 4000000
namespace DL
open PySem PySem.Spec L2
section
variable {P : Program} {w : World} {K : PySem.W.Frag} {mg : Str → Option Value} {base : Heap}
theorem ok_l_cell_at {f : Addr} {fd : FuncData} (F : Fun K "_law_cell_at" "_law_cell_at" s_l_cell_at f fd) (hm : mg "_law_cell_at" = some (.ref f)) (b : Binds K fd ["_law_script", "_law_k"] []) (B_len : mg "len" = none) : Callee P w K mg base 1 "_law_cell_at" [.vw, .fz] .fz f_l_cell_at :=
  ⟨⟨f, fd, ["_law_script", "_law_k"], fn_pure F sc_l_cell_at rfl rfl fun cdv A outer s H E G hr hW hw =>
  (dss_cons (ds_if (dt_cmp o_lt (d_var 1 (pv 1)) (d_callB o_len (by rfl) B_len PySem.boot_len (da_cons (d_varB 0 (pv 0)) .vw da_nil)) (by first | exact nomark _ | rfl)) (dss_one (ds_ret (d_scal (d_ixB (d_varB 0 (pv 0)) (d_var 1 (pv 1)) (fun _ _ => rfl))))) dss_nil)
  (dss_one (ds_ret d_int))), hm, F.kp, b⟩⟩

theorem ok_l_mix {f : Addr} {fd : FuncData} (F : Fun K "_law_mix" "_law_mix" s_l_mix f fd) (hm : mg "_law_mix" = some (.ref f)) (b : Binds K fd ["_law_cell", "_law_k"] []) (B_range : mg "range" = none) : Callee P w K mg base 1 "_law_mix" [.fz, .fz] .fz f_l_mix :=
  ⟨⟨f, fd, ["_law_cell", "_law_k"], fn_pure F sc_l_mix rfl rfl fun cdv A outer s H E G hr hW hw =>
  (dss_cons (ds_if (dt_cmp o_ge (d_var 0 (pv 0)) (d_bin o_pow d_int d_int) (by first | exact nomark _ | rfl)) (dss_cons (ds_set 0 sc_l_mix.nd rfl (d_bin o_sub (d_bin o_divA (d_var 0 (pv 0)) (d_bin o_pow d_int d_int)) d_int))
  (dss_cons (ds_for PassesOwn.never rfl (di_range1 (by rfl) B_range (d_bin o_modA (d_var 1 (pv 1)) d_int)) (dg_name 2 sc_l_mix.nd rfl)
  (dss_one (ds_set 0 sc_l_mix.nd rfl (d_bin o_divA (d_var 0 (pv 0)) d_int))))
  (dss_one (ds_ret (d_bin o_modA (d_var 0 (pv 0)) d_int))))) dss_nil)
  (dss_cons (ds_set 3 sc_l_mix.nd rfl (d_bin o_modA (d_bin o_mul (d_bin o_add (d_bin o_add (d_bin o_modA (d_var 0 (pv 0)) d_int) (d_bin o_mul (d_bin o_mul (d_var 1 (pv 1)) (d_var 1 (pv 1))) d_int)) (d_var 1 (pv 1))) d_int) d_int))
  (dss_cons (ds_set 3 sc_l_mix.nd rfl (d_bin o_modA (d_bin o_mul (d_var 3 (pv 3)) (d_var 3 (pv 3))) d_int))
  (dss_one (ds_ret (d_bin o_divA (d_bin o_modA (d_bin o_mul (d_var 3 (pv 3)) (d_bin o_add (d_var 3 (pv 3)) d_int)) d_int) d_int)))))), hm, F.kp, b⟩⟩

theorem ok_l_rows {f : Addr} {fd : FuncData} (F : Fun K "_law_rows" "_law_rows" s_l_rows f fd) (hm : mg "_law_rows" = some (.ref f)) (b : Binds K fd ["_law_script", "_law_houses"] []) (c_l_mix : Callee P w K mg base 1 "_law_mix" [.fz, .fz] .fz f_l_mix) (B_enumerate : mg "enumerate" = none) (B_max : mg "max" = none) (B_range : mg "range" = none) (B_tuple : mg "tuple" = none) (B_zip : mg "zip" = none) : Callee P w K mg base 2 "_law_rows" [.vw, .fz] .ow f_l_rows :=
  ⟨⟨f, fd, ["_law_script", "_law_houses"], fn_pure F sc_l_rows rfl rfl fun cdv A outer s H E G hr hW hw =>
  (dss_cons (ds_setLcN 2 [("_law_house", 7)] rfl sc_l_rows.nd rfl rfl (sw_true rfl rfl rfl (by decide +kernel)) (di_range1 (by rfl) B_range (d_var 1 (pv 1))) N_l_rows (defScope s_l_rows) (by decide +kernel) (fun _ _ _ _ _ => (dg_name 7 sc_l_rows.nd rfl)) (fun _ _ _ _ _ => dif_nil) (fun _ _ _ _ _ => (dn_ow (d_bin o_mulL (d_lst (da_cons d_int .fz da_nil)) (d_var 1 (pv 1))))))
  (dss_cons (ds_setL 3 sc_l_rows.nd rfl (d_lst da_nil))
  (dss_cons (ds_for PassesOwn.never rfl (di_enumG (by rfl) B_enumerate (d_slB (d_varB 0 (pv 0)) (dp_some d_int) (dp_some d_int))) (dg_tup rfl (dgs_cons (dg_name 4 sc_l_rows.nd rfl) (dgs_cons (dg_name 5 sc_l_rows.nd rfl) dgs_nil)) rfl (fun _ _ _ h => tgCons_len (fun _ _ _ h => tgCons_len (fun _ _ _ h => tgNil_len h) h) h))
  (dss_cons (ds_set 6 sc_l_rows.nd rfl (d_call c_l_mix (hr.mono (by decide)) (by rfl) (da_cons (d_var 5 (pv 5)) .fz (da_cons (d_bin o_add d_int (d_var 4 (pv 4))) .fz da_nil))))
  (dss_cons (ds_set 7 sc_l_rows.nd rfl (d_bin o_modA (d_var 6 (pv 6)) (d_var 1 (pv 1))))
  (dss_cons (ds_if (dt_cmp (o_eq (hu64 hr)) (d_bin o_modA (d_bin o_divA (d_var 6 (pv 6)) d_int) d_int) d_int (by first | exact nomark _ | rfl)) (dss_cons (ds_set 8 sc_l_rows.nd rfl (d_bin o_modA (d_bin o_add (d_bin o_add (d_var 7 (pv 7)) d_int) (d_bin o_modA (d_bin o_divA (d_var 6 (pv 6)) d_int) (d_bin o_sub (d_var 1 (pv 1)) d_int))) (d_var 1 (pv 1))))
  (dss_cons (ds_ixP (dp_name 2 (pv 2)) (d_var 7 (pv 7)) (dx_of (dn_ow (d_fv 2 (fun _ => (d_lc [("_law_one", 10), ("_law_two", 11)] rfl sc_l_rows.nd (di_zipG (by rfl) B_zip (d_ix (d_var 2 (pv 2)) (d_var 7 (pv 7)) (fun _ _ => rfl)) (d_ix (d_var 2 (pv 2)) (d_var 8 (pv 8)) (fun _ _ => rfl))) N_l_rows (defScope s_l_rows) (by decide +kernel) (fun _ _ _ _ _ => (dg_tup rfl (dgs_cons (dg_name 10 sc_l_rows.nd rfl) (dgs_cons (dg_name 11 sc_l_rows.nd rfl) dgs_nil)) rfl (fun _ _ _ h => tgCons_len (fun _ _ _ h => tgCons_len (fun _ _ _ h => tgNil_len h) h) h))) (fun _ _ _ _ _ => dif_nil) (fun _ _ _ _ _ => (d_callB (o_max2 rfl) (by rfl) B_max (by decide +kernel) (da_cons (d_var 10 (pv 10)) .vw (da_cons (d_var 11 (pv 11)) .vw da_nil))))))))))
  (dss_one ds_continue))) dss_nil)
  (dss_cons (ds_set 9 sc_l_rows.nd rfl (d_tup (da_cons d_str .fz (da_cons (d_bin o_modA (d_bin o_divA (d_var 6 (pv 6)) d_int) d_int) .fz (da_cons (d_bin o_sub (d_bin o_modA (d_bin o_divA (d_var 6 (pv 6)) d_int) d_int) d_int) .fz da_nil)))))
  (dss_cons (ds_if (dt_cmp (o_eq (hu64 hr)) (d_bin o_modA (d_bin o_divA (d_var 6 (pv 6)) d_int) d_int) d_int (by first | exact nomark _ | rfl)) (dss_one (ds_set 9 sc_l_rows.nd rfl (d_tup (da_cons d_str .fz (da_cons (d_bin o_modA (d_bin o_divA (d_var 6 (pv 6)) d_int) d_int) .fz (da_cons (d_bin o_modA (d_bin o_add (d_var 7 (pv 7)) d_int) (d_var 1 (pv 1))) .fz (da_cons (d_bin o_add d_int (d_bin o_modA (d_bin o_divA (d_var 6 (pv 6)) d_int) d_int)) .fz da_nil))))))) dss_nil)
  (dss_cons (ds_app 3 (pv 3) (d_tup (da_cons (d_var 7 (pv 7)) .fz (da_cons (d_rleaf (dr_ix (dr_ix (dr_name 2 (pv 2)) (d_var 7 (pv 7)) (fun _ _ => rfl)) (d_var 7 (pv 7)) (fun _ _ => rfl))) .fz (da_cons (d_callT o_tuple (by rfl) B_tuple (by decide +kernel) (da_cons (d_rflat (dr_ix (dr_name 2 (pv 2)) (d_var 7 (pv 7)) (fun _ _ => rfl))) .vl da_nil)) .fz (da_cons (d_var 9 (pv 9)) .fz da_nil))))))
  (dss_one (ds_ixP (dp_ix (dp_name 2 (pv 2)) (d_var 7 (pv 7)) (fun _ _ => rfl)) (d_var 7 (pv 7)) (dx_of (dn_fz (d_bin o_add (d_rleaf (dr_ix (dr_ix (dr_name 2 (pv 2)) (d_var 7 (pv 7)) (fun _ _ => rfl)) (d_var 7 (pv 7)) (fun _ _ => rfl))) d_int))))))))))))
  (dss_one (ds_retL 3 (pv 3)))))), hm, F.kp, b⟩⟩

theorem ok_l_order {f : Addr} {fd : FuncData} (F : Fun K "_law_order" "_law_order" s_l_order f fd) (hm : mg "_law_order" = some (.ref f)) (b : Binds K fd ["_law_script", "_law_many"] []) (c_l_mix : Callee P w K mg base 1 "_law_mix" [.fz, .fz] .fz f_l_mix) (c_l_cell_at : Callee P w K mg base 1 "_law_cell_at" [.vw, .fz] .fz f_l_cell_at) (B_list : mg "list" = none) (B_range : mg "range" = none) : Callee P w K mg base 2 "_law_order" [.vw, .fz] .fz f_l_order :=
  ⟨⟨f, fd, ["_law_script", "_law_many"], fn_pure F sc_l_order rfl rfl fun cdv A outer s H E G hr hW hw =>
  (dss_cons (ds_setL 2 sc_l_order.nd rfl (d_listRg rfl (by rfl) B_list (by rfl) B_range (d_var 1 (pv 1))))
  (dss_cons (ds_for PassesOwn.never rfl (di_range1 (by rfl) B_range (d_var 1 (pv 1))) (dg_name 3 sc_l_order.nd rfl)
  (dss_cons (ds_set 4 sc_l_order.nd rfl (d_bin o_modA (d_call c_l_mix (hr.mono (by decide)) (by rfl) (da_cons (d_call c_l_cell_at (hr.mono (by decide)) (by rfl) (da_cons (d_varB 0 (pv 0)) .vw (da_cons (d_bin o_add d_int (d_bin o_modA (d_var 3 (pv 3)) d_int)) .fz da_nil))) .fz (da_cons (d_bin o_add d_int (d_var 3 (pv 3))) .fz da_nil))) (d_var 1 (pv 1))))
  (dss_cons (ds_set 5 sc_l_order.nd rfl (d_ix (d_varL 2 (pv 2)) (d_var 3 (pv 3)) (fun _ _ => rfl)))
  (dss_cons (ds_setIx 2 (pv 2) (d_var 3 (pv 3)) (d_ix (d_varL 2 (pv 2)) (d_var 4 (pv 4)) (fun _ _ => rfl)))
  (dss_one (ds_setIx 2 (pv 2) (d_var 4 (pv 4)) (d_var 5 (pv 5))))))))
  (dss_fz 2 (dss_cons (ds_setLc false 6 [("_law_place", 7)] rfl sc_l_order.nd rfl rfl (sw_true rfl rfl rfl (by decide +kernel)) (di_any (d_var 2 (pv 2))) N_l_order (defScope s_l_order) (by decide +kernel) (fun _ _ _ _ _ => (dg_name 7 sc_l_order.nd rfl)) (fun _ _ _ _ _ => (dif_one (dt_cmp (o_eq (hu64 hr)) (d_bin o_modA (d_call c_l_mix (hr.mono (by decide)) (by rfl) (da_cons (d_call c_l_cell_at (hr.mono (by decide)) (by rfl) (da_cons (d_varB 0 (pv 0)) .vw (da_cons d_int .fz da_nil))) .fz (da_cons (d_bin o_add d_int (d_var 7 (pv 7))) .fz da_nil))) d_int) d_int (by first | exact nomark _ | rfl)))) (fun _ _ _ _ _ => (d_var 7 (pv 7))))
  (dss_one (ds_ret (d_bin o_add (d_varL 2 (pv 2)) (d_var 6 (pv 6))))))))), hm, F.kp, b⟩⟩

theorem ok_l_keeps {f : Addr} {fd : FuncData} (F : Fun K "_law_keeps" "_law_keeps" s_l_keeps f fd) (hm : mg "_law_keeps" = some (.ref f)) (b : Binds K fd ["_law_houses", "_law_rows_here"] []) (B_range : mg "range" = none) : Callee P w K mg base 1 "_law_keeps" [.fz, .fz] .fz f_l_keeps :=
  ⟨⟨f, fd, ["_law_houses", "_law_rows_here"], fn_pure F sc_l_keeps rfl rfl fun cdv A outer s H E G hr hW hw =>
  (dss_cons (ds_setL 2 sc_l_keeps.nd rfl (d_bin o_mulL (d_lst (da_cons d_int .fz da_nil)) (d_var 0 (pv 0))))
  (dss_cons (ds_for PassesOwn.never rfl (di_any (d_var 1 (pv 1))) (dg_tup rfl (dgs_cons (dg_name 3 sc_l_keeps.nd rfl) (dgs_cons (dg_name 4 sc_l_keeps.nd rfl) (dgs_cons (dg_name 5 sc_l_keeps.nd rfl) (dgs_cons (dg_name 6 sc_l_keeps.nd rfl) dgs_nil)))) rfl (fun _ _ _ h => tgCons_len (fun _ _ _ h => tgCons_len (fun _ _ _ h => tgCons_len (fun _ _ _ h => tgCons_len (fun _ _ _ h => tgNil_len h) h) h) h) h))
  (dss_cons (ds_if (DW.t (dw_or (dt_cmp (o_ne (hu64 hr)) (d_var 4 (pv 4)) (d_ix (d_varL 2 (pv 2)) (d_var 3 (pv 3)) (fun _ _ => rfl)) (by first | exact nomark _ | rfl)) (dw_or1 (dt_cmp (o_ne (hu64 hr)) (d_lc [("_law_k", 7)] rfl sc_l_keeps.nd (di_range1 (by rfl) B_range (d_var 0 (pv 0))) N_l_keeps (defScope s_l_keeps) (by decide +kernel) (fun _ _ _ _ _ => (dg_name 7 sc_l_keeps.nd rfl)) (fun _ _ _ _ _ => (dif_one (dt_cmp o_gt (d_ix (d_var 5 (pv 5)) (d_var 7 (pv 7)) (fun _ _ => rfl)) (d_ix (d_varL 2 (pv 2)) (d_var 7 (pv 7)) (fun _ _ => rfl)) (by first | exact nomark _ | rfl)))) (fun _ _ _ _ _ => (d_var 7 (pv 7)))) (d_lst da_nil) (by first | exact nomark _ | rfl))))) (dss_one (ds_ret d_bl)) dss_nil)
  (dss_one (ds_setIx 2 (pv 2) (d_var 3 (pv 3)) (d_bin o_add (d_ix (d_varL 2 (pv 2)) (d_var 3 (pv 3)) (fun _ _ => rfl)) d_int)))))
  (dss_one (ds_ret d_bl)))), hm, F.kp, b⟩⟩

theorem ok_Log_init {C_ f : Addr} {fd : FuncData} (F : Fun K "__init__" "Log.__init__" s_Log_init f fd) (b : Binds K fd ["self", "houses"] []) (nC : PySem.W.nsIn K mainGlobals "Log" = some (some (.ref C_))) (mC : mg "Log" = some (.ref C_)) (mk : Mk K C_ f) (hc_Log : ClOk K "Log") (nA_Log_kept : NoAt K "Log" "kept") (nA_Log_many : NoAt K "Log" "many") (nA_Log_taken : NoAt K "Log" "taken") : MakM P w K mg base 1 "Log" 1 f_Log_init :=
  ⟨⟨C_, f, fd, ["self", "houses"], nC, mC, mk, fn_mu (ks := [true, false]) F sc_Log_init rfl fun cdv A outer s H E G hr hw =>
  (dss_cons (ds_fldP "Log" (dp_name 0 (pv 0)) (dx_of (dn_ow (d_bin o_mulL (d_lst (da_cons d_int .fz da_nil)) (d_var 1 (pv 1))))) hc_Log nA_Log_many)
  (dss_cons (ds_fldP "Log" (dp_name 0 (pv 0)) (dx_of (dn_ow (d_lst da_nil))) hc_Log nA_Log_taken)
  (dss_one (ds_fldP "Log" (dp_name 0 (pv 0)) (dx_of (dn_dictQ hw)) hc_Log nA_Log_kept)))), b⟩⟩

theorem ok_Log_put {C_ f : Addr} {fd : FuncData} (F : Fun K "put" "Log.put" s_Log_put f fd) (b : Binds K fd ["self", "row"] []) (nC : PySem.W.nsIn K mainGlobals "Log" = some (some (.ref C_))) (cl : Cls K C_) (me : Meth K C_ "put" f) (hc_Log : ClOk K "Log") (nA_Log_many : NoAt K "Log" "many") (nA_Log_taken : NoAt K "Log" "taken") : MetM P w K mg base 1 "Log" "put" 1 f_Log_put :=
  ⟨⟨C_, f, fd, ["self", "row"], nC, cl, me, fn_mu (ks := [true, false]) F sc_Log_put rfl fun cdv A outer s H E G hr hw =>
  (dss_cons (ds_exprX (dx_appP (dp_attr "Log" (dp_name 0 (pv 0)) hc_Log nA_Log_taken) (dn_fz (d_var 1 (pv 1)))))
  (dss_one (ds_augP (dp_attr "Log" (dp_name 0 (pv 0)) hc_Log nA_Log_many) (d_ix (d_var 1 (pv 1)) d_int (fun _ _ => rfl)) a_add d_int))), b⟩⟩

theorem ok_Log_ready {C_ f : Addr} {fd : FuncData} (F : Fun K "ready" "Log.ready" s_Log_ready f fd) (b : Binds K fd ["self", "row"] []) (nC : PySem.W.nsIn K mainGlobals "Log" = some (some (.ref C_))) (cl : Cls K C_) (me : Meth K C_ "ready" f) (hc_Log : ClOk K "Log") (nA_Log_many : NoAt K "Log" "many") (B_zip : mg "zip" = none) : MetT P w K mg base 1 "Log" "ready" 2 f_Log_ready :=
  ⟨⟨C_, f, fd, ["self", "row"], nC, cl, me, fn_ro F sc_Log_ready fun cdv A outer s H E G hr hw =>
  (dss_cons (ds_asg (d_var 1 (pv 1)) (dg_tup rfl (dgs_cons (dg_name 2 sc_Log_ready.nd rfl) (dgs_cons (dg_name 3 sc_Log_ready.nd rfl) (dgs_cons (dg_name 4 sc_Log_ready.nd rfl) (dgs_cons (dg_name 5 sc_Log_ready.nd rfl) dgs_nil)))) rfl (fun _ _ _ h => tgCons_len (fun _ _ _ h => tgCons_len (fun _ _ _ h => tgCons_len (fun _ _ _ h => tgCons_len (fun _ _ _ h => tgNil_len h) h) h) h) h)))
  (dss_cons (ds_if (dt_cmp (o_ne (hu64 hr)) (d_var 3 (pv 3)) (d_rleaf (dr_ix (dr_attr "Log" (dr_name 0 (pv 0)) hc_Log nA_Log_many) (d_var 2 (pv 2)) (fun _ _ => rfl))) (by first | exact nomark _ | rfl)) (dss_one (ds_retX (dx_of (dn_fz d_bl)))) dss_nil)
  (dss_cons (ds_for PassesOwn.never rfl (di_zipG (by rfl) B_zip (d_roflat (do_attr "Log" (do_name 0 (pv 0)) hc_Log nA_Log_many)) (d_var 4 (pv 4))) (dg_tup rfl (dgs_cons (dg_name 6 sc_Log_ready.nd rfl) (dgs_cons (dg_name 7 sc_Log_ready.nd rfl) dgs_nil)) rfl (fun _ _ _ h => tgCons_len (fun _ _ _ h => tgCons_len (fun _ _ _ h => tgNil_len h) h) h))
  (dss_one (ds_if (dt_cmp o_gt (d_var 7 (pv 7)) (d_var 6 (pv 6)) (by first | exact nomark _ | rfl)) (dss_one (ds_retX (dx_of (dn_fz d_bl)))) dss_nil)))
  (dss_one (ds_retX (dx_of (dn_fz d_bl))))))), b⟩⟩

theorem ok_Log_first_ready {C_ f : Addr} {fd : FuncData} (F : Fun K "first_ready" "Log.first_ready" s_Log_first_ready f fd) (b : Binds K fd ["self"] []) (nC : PySem.W.nsIn K mainGlobals "Log" = some (some (.ref C_))) (cl : Cls K C_) (me : Meth K C_ "first_ready" f) (c_Log_ready : MetT P w K mg base 1 "Log" "ready" 2 f_Log_ready) (hc_Log : ClOk K "Log") (nA_Log_kept : NoAt K "Log" "kept") (B_sorted : mg "sorted" = none) : MetT P w K mg base 2 "Log" "first_ready" 1 f_Log_first_ready :=
  ⟨⟨C_, f, fd, ["self"], nC, cl, me, fn_ro F sc_Log_first_ready fun cdv A outer s H E G hr hw =>
  (dss_cons (ds_for PassesOwn.never rfl (di_any (d_rsort rfl (hu64 hr) hw (by rfl) B_sorted (dr_attr "Log" (dr_name 0 (pv 0)) hc_Log nA_Log_kept))) (dg_name 1 sc_Log_first_ready.nd rfl)
  (dss_one (ds_if (dt_val (d_rleaf (dr_dn (dn_meth c_Log_ready hw (hr.mono (by decide)) (dr_name 0 (pv 0)) (drs_cons (dr_fz (d_rleaf (dr_key (hu9 hr) hw (dr_attr "Log" (dr_name 0 (pv 0)) hc_Log nA_Log_kept) (d_var 1 (pv 1))))) drs_nil) (nsCons_len (fun _ _ h => nsNil_len h)))))) (dss_one (ds_retX (dx_of (dn_fz (d_var 1 (pv 1)))))) dss_nil)))
  (dss_one (ds_retX (dx_of (dn_fz d_non))))), b⟩⟩

theorem ok_Log_take {C_ f : Addr} {fd : FuncData} (F : Fun K "take" "Log.take" s_Log_take f fd) (b : Binds K fd ["self", "row"] []) (nC : PySem.W.nsIn K mainGlobals "Log" = some (some (.ref C_))) (cl : Cls K C_) (me : Meth K C_ "take" f) (c_Log_first_ready : MetT P w K mg base 2 "Log" "first_ready" 1 f_Log_first_ready) (c_Log_put : MetM P w K mg base 1 "Log" "put" 1 f_Log_put) (c_Log_ready : MetT P w K mg base 1 "Log" "ready" 2 f_Log_ready) (hc_Log : ClOk K "Log") (nA_Log_kept : NoAt K "Log" "kept") (nA_Log_many : NoAt K "Log" "many") : MetM P w K mg base 3 "Log" "take" 1 f_Log_take :=
  ⟨⟨C_, f, fd, ["self", "row"], nC, cl, me, fn_mu (ks := [true, false]) F sc_Log_take rfl fun cdv A outer s H E G hr hw =>
  (dss_cons (ds_if (dt_cmp o_lt (d_ix (d_var 1 (pv 1)) d_int (fun _ _ => rfl)) (d_rleaf (dr_ix (dr_attr "Log" (dr_name 0 (pv 0)) hc_Log nA_Log_many) (d_ix (d_var 1 (pv 1)) d_int (fun _ _ => rfl)) (fun _ _ => rfl))) (by first | exact nomark _ | rfl)) (dss_one (ds_retX (dx_of (dn_fz d_str)))) dss_nil)
  (dss_cons (ds_if (dt_not (dt_val (d_rleaf (dr_dn (dn_meth c_Log_ready hw (hr.mono (by decide)) (dr_name 0 (pv 0)) (drs_cons (dr_fz (d_var 1 (pv 1))) drs_nil) (nsCons_len (fun _ _ h => nsNil_len h))))))) (dss_cons (ds_exprX (dx_setdQ (hu9 hr) hw (dp_attr "Log" (dp_name 0 (pv 0)) hc_Log nA_Log_kept) (da_cons (d_tup (da_cons (d_ix (d_var 1 (pv 1)) d_int (fun _ _ => rfl)) .fz (da_cons (d_ix (d_var 1 (pv 1)) d_int (fun _ _ => rfl)) .fz da_nil))) .fz (da_cons (d_var 1 (pv 1)) .fz da_nil))))
  (dss_one (ds_retX (dx_of (dn_fz d_str))))) dss_nil)
  (dss_cons (ds_exprX (dx_meth c_Log_put hw (hr.mono (by decide)) (dp_name 0 (pv 0)) (drs_cons (dr_fz (d_var 1 (pv 1))) drs_nil) (nsCons_len (fun _ _ h => nsNil_len h))))
  (dss_cons (ds_exprX (dx_popQ2 (hu9 hr) hw (dp_attr "Log" (dp_name 0 (pv 0)) hc_Log nA_Log_kept) (da_cons (d_tup (da_cons (d_ix (d_var 1 (pv 1)) d_int (fun _ _ => rfl)) .fz (da_cons (d_ix (d_var 1 (pv 1)) d_int (fun _ _ => rfl)) .fz da_nil))) .fz (da_cons d_non .fz da_nil))))
  (dss_cons (ds_set 2 sc_Log_take.nd rfl (d_rleaf (dr_dn (dn_meth0 c_Log_first_ready hw (hr.mono (by decide)) (dr_name 0 (pv 0))))))
  (dss_cons (ds_while (fun _ => 1000) PassesOwn.never (dt_notN (d_var 2 (pv 2))) (dss_cons (ds_exprX (dx_methX 0 c_Log_put hw (hr.mono (by decide)) (pv 0) (dx_popQ (hu9 hr) hw (dp_attr "Log" (dp_name 0 (pv 0)) hc_Log nA_Log_kept) (da_cons (d_var 2 (pv 2)) .fz da_nil))))
  (dss_one (ds_set 2 sc_Log_take.nd rfl (d_rleaf (dr_dn (dn_meth0 c_Log_first_ready hw (hr.mono (by decide)) (dr_name 0 (pv 0)))))))))
  (dss_one (ds_retX (dx_of (dn_fz d_str)))))))))), b⟩⟩

theorem ok_Log_counts {C_ f : Addr} {fd : FuncData} (F : Fun K "counts" "Log.counts" s_Log_counts f fd) (b : Binds K fd ["self"] []) (nC : PySem.W.nsIn K mainGlobals "Log" = some (some (.ref C_))) (cl : Cls K C_) (me : Meth K C_ "counts" f) (hc_Log : ClOk K "Log") (nA_Log_many : NoAt K "Log" "many") (B_tuple : mg "tuple" = none) : MetT P w K mg base 1 "Log" "counts" 1 f_Log_counts :=
  ⟨⟨C_, f, fd, ["self"], nC, cl, me, fn_ro F sc_Log_counts fun cdv A outer s H E G hr hw =>
  (dss_one (ds_retX (dx_of (dn_fz (d_callT o_tuple (by rfl) B_tuple (by decide +kernel) (da_cons (d_rflat (dr_attr "Log" (dr_name 0 (pv 0)) hc_Log nA_Log_many)) .vl da_nil)))))), b⟩⟩

theorem ok_Log_rows {C_ f : Addr} {fd : FuncData} (F : Fun K "rows" "Log.rows" s_Log_rows f fd) (b : Binds K fd ["self"] []) (nC : PySem.W.nsIn K mainGlobals "Log" = some (some (.ref C_))) (cl : Cls K C_) (me : Meth K C_ "rows" f) (hc_Log : ClOk K "Log") (nA_Log_taken : NoAt K "Log" "taken") (B_list : mg "list" = none) : MetT P w K mg base 1 "Log" "rows" 1 f_Log_rows :=
  ⟨⟨C_, f, fd, ["self"], nC, cl, me, fn_ro F sc_Log_rows fun cdv A outer s H E G hr hw =>
  (dss_one (ds_retX (dx_of (dn_ow (d_callT o_list (by rfl) B_list (by decide +kernel) (da_cons (d_rflat (dr_attr "Log" (dr_name 0 (pv 0)) hc_Log nA_Log_taken)) .vl da_nil)))))), b⟩⟩

theorem ok_Log_waiting {C_ f : Addr} {fd : FuncData} (F : Fun K "waiting" "Log.waiting" s_Log_waiting f fd) (b : Binds K fd ["self"] []) (nC : PySem.W.nsIn K mainGlobals "Log" = some (some (.ref C_))) (cl : Cls K C_) (me : Meth K C_ "waiting" f) (hc_Log : ClOk K "Log") (nA_Log_kept : NoAt K "Log" "kept") (B_sorted : mg "sorted" = none) : MetT P w K mg base 1 "Log" "waiting" 1 f_Log_waiting :=
  ⟨⟨C_, f, fd, ["self"], nC, cl, me, fn_ro F sc_Log_waiting fun cdv A outer s H E G hr hw =>
  (dss_one (ds_retX (dx_of (dn_ow (d_rsort rfl (hu64 hr) hw (by rfl) B_sorted (dr_attr "Log" (dr_name 0 (pv 0)) hc_Log nA_Log_kept)))))), b⟩⟩

theorem ok_law {f : Addr} {fd : FuncData} (F : Fun K "law" "law" s_law f fd) (c_Log_counts : MetT P w K mg base 1 "Log" "counts" 1 f_Log_counts) (c_Log_take : MetM P w K mg base 3 "Log" "take" 1 f_Log_take) (c_Log_waiting : MetT P w K mg base 1 "Log" "waiting" 1 f_Log_waiting) (c_Log_rows : MetT P w K mg base 1 "Log" "rows" 1 f_Log_rows) (c_l_keeps : Callee P w K mg base 1 "_law_keeps" [.fz, .fz] .fz f_l_keeps) (c_Log_init : MakM P w K mg base 1 "Log" 1 f_Log_init) (c_l_order : Callee P w K mg base 2 "_law_order" [.vw, .fz] .fz f_l_order) (c_l_rows : Callee P w K mg base 2 "_law_rows" [.vw, .fz] .ow f_l_rows) (c_l_cell_at : Callee P w K mg base 1 "_law_cell_at" [.vw, .fz] .fz f_l_cell_at) (B_len : mg "len" = none) (B_sorted : mg "sorted" = none) : FnOk P w K mg base CX0 4 f fd ["_law_script"] (spP K [.vw] .fz f_law) :=
  fn_pure F sc_law rfl rfl fun cdv A outer s H E G hr hW hw =>
  (dss_cons (ds_set 1 sc_law.nd rfl (d_bin o_add d_int (d_bin o_modA (d_call c_l_cell_at (hr.mono (by decide)) (by rfl) (da_cons (d_varB 0 (pv 0)) .vw (da_cons d_int .fz da_nil))) d_int)))
  (dss_cons (ds_set 2 sc_law.nd rfl (d_call c_l_rows (hr.mono (by decide)) (by rfl) (da_cons (d_varB 0 (pv 0)) .vw (da_cons (d_var 1 (pv 1)) .fz da_nil))))
  (dss_cons (ds_set 3 sc_law.nd rfl (d_call c_l_order (hr.mono (by decide)) (by rfl) (da_cons (d_varB 0 (pv 0)) .vw (da_cons (d_callB o_len (by rfl) B_len PySem.boot_len (da_cons (d_var 2 (pv 2)) .vw da_nil)) .fz da_nil))))
  (dss_cons (ds_setX 4 sc_law.nd rfl (dx_of (dn_lst (dns_cons (dn_make c_Log_init hw (hr.mono (by decide)) (by rfl) (drs_cons (dr_fz (d_var 1 (pv 1))) drs_nil) (nsCons_len (fun _ _ h => nsNil_len h))) (dns_cons (dn_make c_Log_init hw (hr.mono (by decide)) (by rfl) (drs_cons (dr_fz (d_var 1 (pv 1))) drs_nil) (nsCons_len (fun _ _ h => nsNil_len h))) dns_nil)) (by decide) (fun e u h => by rw [(nsCons_len (nsCons_len (fun _ _ h => nsNil_len h))) e u h]; decide))))
  (dss_cons (ds_for PassesOwn.never rfl (di_any (d_var 3 (pv 3))) (dg_name 5 sc_law.nd rfl)
  (dss_cons (ds_exprX (dx_meth c_Log_take hw (hr.mono (by decide)) (dp_ix (dp_name 4 (pv 4)) d_int (fun _ _ => rfl)) (drs_cons (dr_fz (d_ix (d_var 2 (pv 2)) (d_var 5 (pv 5)) (fun _ _ => rfl))) drs_nil) (nsCons_len (fun _ _ h => nsNil_len h))))
  (dss_one (ds_if (dt_not (dt_val (d_call c_l_keeps (hr.mono (by decide)) (by rfl) (da_cons (d_var 1 (pv 1)) .fz (da_cons (d_now (dn_meth0 c_Log_rows hw (hr.mono (by decide)) (dr_ix (dr_name 4 (pv 4)) d_int (fun _ _ => rfl)))) .fz da_nil))))) (dss_one (ds_ret d_bl)) dss_nil))))
  (dss_cons (ds_for PassesOwn.never rfl (di_any (d_rev (d_var 3 (pv 3)))) (dg_name 5 sc_law.nd rfl)
  (dss_one (ds_exprX (dx_meth c_Log_take hw (hr.mono (by decide)) (dp_ix (dp_name 4 (pv 4)) d_int (fun _ _ => rfl)) (drs_cons (dr_fz (d_ix (d_var 2 (pv 2)) (d_var 5 (pv 5)) (fun _ _ => rfl))) drs_nil) (nsCons_len (fun _ _ h => nsNil_len h))))))
  (dss_cons (ds_forO 4 6 (by decide) hW PassesOwn.never rfl (pv 4) sc_law.nd rfl (fun G2 hw2 hW => have hw := hw2.trans hw
  (dss_cons (ds_if (DW.t (dw_or (dt_cmp (o_ne (hu64 hr)) (d_now (dn_meth0 c_Log_waiting hw (hr.mono (by decide)) (dr_name 6 (pv 6)))) (d_lst da_nil) (by first | exact nomark _ | rfl)) (dw_or (dt_cmp (o_ne (hu64 hr)) (d_callB (o_sorted (hu64 hr)) (by rfl) B_sorted (by decide +kernel) (da_cons (d_now (dn_meth0 c_Log_rows hw (hr.mono (by decide)) (dr_name 6 (pv 6)))) .vl da_nil)) (d_callB (o_sorted (hu64 hr)) (by rfl) B_sorted (by decide +kernel) (da_cons (d_var 2 (pv 2)) .vl da_nil)) (by first | exact nomark _ | rfl)) (dw_or1 (dt_not (dt_val (d_call c_l_keeps (hr.mono (by decide)) (by rfl) (da_cons (d_var 1 (pv 1)) .fz (da_cons (d_now (dn_meth0 c_Log_rows hw (hr.mono (by decide)) (dr_name 6 (pv 6)))) .fz da_nil))))))))) (dss_one (ds_ret d_bl)) dss_nil)
  (dss_one (ds_for PassesOwn.never rfl (di_any (d_var 2 (pv 2))) (dg_name 7 sc_law.nd rfl)
  (dss_one (ds_ifX (dtx_cmp (o_ne (hu64 hr)) (dx_meth c_Log_take hw (hr.mono (by decide)) (dp_name 6 (pv 6)) (drs_cons (dr_fz (d_var 7 (pv 7))) drs_nil) (nsCons_len (fun _ _ h => nsNil_len h))) d_str (by first | exact nomark _ | rfl)) (dss_one (ds_ret d_bl)) dss_nil)))))))
  (dss_one (ds_ret (d_cmp (o_eq (hu64 hr)) (d_rleaf (dr_dn (dn_meth0 c_Log_counts hw (hr.mono (by decide)) (dr_ix (dr_name 4 (pv 4)) d_int (fun _ _ => rfl))))) (d_rleaf (dr_dn (dn_meth0 c_Log_counts hw (hr.mono (by decide)) (dr_ix (dr_name 4 (pv 4)) d_int (fun _ _ => rfl))))) (by first | exact nomark _ | rfl)))))))))))
end
end DL
set_option Elab.async false
set_option linter.all false
set_option maxRecDepth 100000
set_option maxHeartbeats 4000000
set_option maxHeartbeats 4000000
namespace DL
open PySem PySem.Spec L2
def spLaw (K : PySem.W.Frag) : Sp := fun vs H Q _ => ∃ (a : Addr) (ns : List Int), vs = [.ref a] ∧ SqL K H a (ns.map V.int) ∧ ns.length ≤ 63 ∧ ∀ H', Q (.bl true) H'
theorem sp_law {K : PySem.W.Frag} (ht : ∀ ns : List Int, ns.length ≤ 63 → f_law [.list (ns.map PyData.int)] = some (.bool true)) (vs : List V) (H : Hp) (Q : VK) (E : XK) (h : spLaw K vs H Q E) : spP K [.vw] .fz f_law vs H Q E := by
  obtain ⟨a, ns, rfl, hS, hl, q⟩ := h
  exact ⟨fun _ => none, _, _, (fun _ _ z => nomatch z), ht ns hl, ⟨.lst hS (DpAll_ints ns), trivial⟩, fun v H' F' E r => by
    cases r with | bl b => exact q H'⟩
theorem all_mk {l : PySem.W.OpenLaw} {w : World} {K : PySem.W.Frag} {h : Heap} {mg : Str → Option Value} {fa fa_l_cell_at fa_l_mix fa_l_rows fa_l_order fa_l_keeps fa_Log_init fa_Log_put fa_Log_ready fa_Log_first_ready fa_Log_take fa_Log_counts fa_Log_rows fa_Log_waiting fa_law C_Log : Addr} (X : K.In h) (G : h.Ns mainGlobals mg) (hfa : mg "law" = some (.ref fa))
    {od_l_cell_at an_l_cell_at : Option Addr} {sl_l_cell_at : Array (Option Value)} {oc_l_cell_at kV_l_cell_at dc_l_cell_at pm_l_cell_at cd_l_cell_at ct_l_cell_at : Value}
    {od_l_mix an_l_mix : Option Addr} {sl_l_mix : Array (Option Value)} {oc_l_mix kV_l_mix dc_l_mix pm_l_mix cd_l_mix ct_l_mix : Value}
    {od_l_rows an_l_rows : Option Addr} {sl_l_rows : Array (Option Value)} {oc_l_rows kV_l_rows dc_l_rows pm_l_rows cd_l_rows ct_l_rows : Value}
    {od_l_order an_l_order : Option Addr} {sl_l_order : Array (Option Value)} {oc_l_order kV_l_order dc_l_order pm_l_order cd_l_order ct_l_order : Value}
    {od_l_keeps an_l_keeps : Option Addr} {sl_l_keeps : Array (Option Value)} {oc_l_keeps kV_l_keeps dc_l_keeps pm_l_keeps cd_l_keeps ct_l_keeps : Value}
    {od_Log_init an_Log_init : Option Addr} {sl_Log_init : Array (Option Value)} {oc_Log_init kV_Log_init dc_Log_init pm_Log_init cd_Log_init ct_Log_init : Value}
    {od_Log_put an_Log_put : Option Addr} {sl_Log_put : Array (Option Value)} {oc_Log_put kV_Log_put dc_Log_put pm_Log_put cd_Log_put ct_Log_put : Value}
    {od_Log_ready an_Log_ready : Option Addr} {sl_Log_ready : Array (Option Value)} {oc_Log_ready kV_Log_ready dc_Log_ready pm_Log_ready cd_Log_ready ct_Log_ready : Value}
    {od_Log_first_ready an_Log_first_ready : Option Addr} {sl_Log_first_ready : Array (Option Value)} {oc_Log_first_ready kV_Log_first_ready dc_Log_first_ready pm_Log_first_ready cd_Log_first_ready ct_Log_first_ready : Value}
    {od_Log_take an_Log_take : Option Addr} {sl_Log_take : Array (Option Value)} {oc_Log_take kV_Log_take dc_Log_take pm_Log_take cd_Log_take ct_Log_take : Value}
    {od_Log_counts an_Log_counts : Option Addr} {sl_Log_counts : Array (Option Value)} {oc_Log_counts kV_Log_counts dc_Log_counts pm_Log_counts cd_Log_counts ct_Log_counts : Value}
    {od_Log_rows an_Log_rows : Option Addr} {sl_Log_rows : Array (Option Value)} {oc_Log_rows kV_Log_rows dc_Log_rows pm_Log_rows cd_Log_rows ct_Log_rows : Value}
    {od_Log_waiting an_Log_waiting : Option Addr} {sl_Log_waiting : Array (Option Value)} {oc_Log_waiting kV_Log_waiting dc_Log_waiting pm_Log_waiting cd_Log_waiting ct_Log_waiting : Value}
    {od_law an_law : Option Addr} {sl_law : Array (Option Value)} {oc_law kV_law dc_law pm_law cd_law ct_law : Value}
    (a_Log : PySem.W.nsIn K mainGlobals "Log" = some (some (.ref C_Log)))
    (pg_Log : PySem.W.plainGet K C_Log Str.empty = true)
    (hd_Log : PySem.W.hasDictIn K C_Log = true)
    (po_Log : PySem.W.plainOver K C_Log = true)
    (sa_Log : PySem.W.findIn K (.ref C_Log) "__setattr__" = some (some (.builtin "object.__setattr__")))
    (mk_Log : PySem.W.makesIn K C_Log = true)
    (kc_Log : PySem.W.keepIn K (.ref C_Log) = true)
    (nA_Log_kept : PySem.W.findIn K (.ref C_Log) "kept" = some none)
    (nA_Log_many : PySem.W.findIn K (.ref C_Log) "many" = some none)
    (nA_Log_taken : PySem.W.findIn K (.ref C_Log) "taken" = some none)
    (a_l_cell_at : PySem.W.nsIn K mainGlobals "_law_cell_at" = some (some (.ref fa_l_cell_at)))
    (l_l_cell_at : K.lookup fa_l_cell_at = some ⟨oc_l_cell_at, od_l_cell_at, .func (PySem.W.fnOf "_law_cell_at" "_law_cell_at" (defArgs s_l_cell_at) (defBody s_l_cell_at) (defScope s_l_cell_at) .none kV_l_cell_at dc_l_cell_at pm_l_cell_at an_l_cell_at cd_l_cell_at ct_l_cell_at), sl_l_cell_at⟩)
    (x_l_cell_at : PySem.W.codeIn K cd_l_cell_at "_law_cell_at" = true)
    (k_l_cell_at : PySem.W.keepIn K (.ref fa_l_cell_at) = true)
    (a_l_mix : PySem.W.nsIn K mainGlobals "_law_mix" = some (some (.ref fa_l_mix)))
    (l_l_mix : K.lookup fa_l_mix = some ⟨oc_l_mix, od_l_mix, .func (PySem.W.fnOf "_law_mix" "_law_mix" (defArgs s_l_mix) (defBody s_l_mix) (defScope s_l_mix) .none kV_l_mix dc_l_mix pm_l_mix an_l_mix cd_l_mix ct_l_mix), sl_l_mix⟩)
    (x_l_mix : PySem.W.codeIn K cd_l_mix "_law_mix" = true)
    (k_l_mix : PySem.W.keepIn K (.ref fa_l_mix) = true)
    (a_l_rows : PySem.W.nsIn K mainGlobals "_law_rows" = some (some (.ref fa_l_rows)))
    (l_l_rows : K.lookup fa_l_rows = some ⟨oc_l_rows, od_l_rows, .func (PySem.W.fnOf "_law_rows" "_law_rows" (defArgs s_l_rows) (defBody s_l_rows) (defScope s_l_rows) .none kV_l_rows dc_l_rows pm_l_rows an_l_rows cd_l_rows ct_l_rows), sl_l_rows⟩)
    (x_l_rows : PySem.W.codeIn K cd_l_rows "_law_rows" = true)
    (k_l_rows : PySem.W.keepIn K (.ref fa_l_rows) = true)
    (a_l_order : PySem.W.nsIn K mainGlobals "_law_order" = some (some (.ref fa_l_order)))
    (l_l_order : K.lookup fa_l_order = some ⟨oc_l_order, od_l_order, .func (PySem.W.fnOf "_law_order" "_law_order" (defArgs s_l_order) (defBody s_l_order) (defScope s_l_order) .none kV_l_order dc_l_order pm_l_order an_l_order cd_l_order ct_l_order), sl_l_order⟩)
    (x_l_order : PySem.W.codeIn K cd_l_order "_law_order" = true)
    (k_l_order : PySem.W.keepIn K (.ref fa_l_order) = true)
    (a_l_keeps : PySem.W.nsIn K mainGlobals "_law_keeps" = some (some (.ref fa_l_keeps)))
    (l_l_keeps : K.lookup fa_l_keeps = some ⟨oc_l_keeps, od_l_keeps, .func (PySem.W.fnOf "_law_keeps" "_law_keeps" (defArgs s_l_keeps) (defBody s_l_keeps) (defScope s_l_keeps) .none kV_l_keeps dc_l_keeps pm_l_keeps an_l_keeps cd_l_keeps ct_l_keeps), sl_l_keeps⟩)
    (x_l_keeps : PySem.W.codeIn K cd_l_keeps "_law_keeps" = true)
    (k_l_keeps : PySem.W.keepIn K (.ref fa_l_keeps) = true)
    (a_Log_init : PySem.W.findIn K (.ref C_Log) "__init__" = some (some (.ref fa_Log_init)))
    (i_Log_init : PySem.W.isFn K (.ref fa_Log_init) = true)
    (l_Log_init : K.lookup fa_Log_init = some ⟨oc_Log_init, od_Log_init, .func (PySem.W.fnOf "__init__" "Log.__init__" (defArgs s_Log_init) (defBody s_Log_init) (defScope s_Log_init) .none kV_Log_init dc_Log_init pm_Log_init an_Log_init cd_Log_init ct_Log_init), sl_Log_init⟩)
    (x_Log_init : PySem.W.codeIn K cd_Log_init "Log.__init__" = true)
    (k_Log_init : PySem.W.keepIn K (.ref fa_Log_init) = true)
    (a_Log_put : PySem.W.findIn K (.ref C_Log) "put" = some (some (.ref fa_Log_put)))
    (i_Log_put : PySem.W.isFn K (.ref fa_Log_put) = true)
    (l_Log_put : K.lookup fa_Log_put = some ⟨oc_Log_put, od_Log_put, .func (PySem.W.fnOf "put" "Log.put" (defArgs s_Log_put) (defBody s_Log_put) (defScope s_Log_put) .none kV_Log_put dc_Log_put pm_Log_put an_Log_put cd_Log_put ct_Log_put), sl_Log_put⟩)
    (x_Log_put : PySem.W.codeIn K cd_Log_put "Log.put" = true)
    (k_Log_put : PySem.W.keepIn K (.ref fa_Log_put) = true)
    (a_Log_ready : PySem.W.findIn K (.ref C_Log) "ready" = some (some (.ref fa_Log_ready)))
    (i_Log_ready : PySem.W.isFn K (.ref fa_Log_ready) = true)
    (l_Log_ready : K.lookup fa_Log_ready = some ⟨oc_Log_ready, od_Log_ready, .func (PySem.W.fnOf "ready" "Log.ready" (defArgs s_Log_ready) (defBody s_Log_ready) (defScope s_Log_ready) .none kV_Log_ready dc_Log_ready pm_Log_ready an_Log_ready cd_Log_ready ct_Log_ready), sl_Log_ready⟩)
    (x_Log_ready : PySem.W.codeIn K cd_Log_ready "Log.ready" = true)
    (k_Log_ready : PySem.W.keepIn K (.ref fa_Log_ready) = true)
    (a_Log_first_ready : PySem.W.findIn K (.ref C_Log) "first_ready" = some (some (.ref fa_Log_first_ready)))
    (i_Log_first_ready : PySem.W.isFn K (.ref fa_Log_first_ready) = true)
    (l_Log_first_ready : K.lookup fa_Log_first_ready = some ⟨oc_Log_first_ready, od_Log_first_ready, .func (PySem.W.fnOf "first_ready" "Log.first_ready" (defArgs s_Log_first_ready) (defBody s_Log_first_ready) (defScope s_Log_first_ready) .none kV_Log_first_ready dc_Log_first_ready pm_Log_first_ready an_Log_first_ready cd_Log_first_ready ct_Log_first_ready), sl_Log_first_ready⟩)
    (x_Log_first_ready : PySem.W.codeIn K cd_Log_first_ready "Log.first_ready" = true)
    (k_Log_first_ready : PySem.W.keepIn K (.ref fa_Log_first_ready) = true)
    (a_Log_take : PySem.W.findIn K (.ref C_Log) "take" = some (some (.ref fa_Log_take)))
    (i_Log_take : PySem.W.isFn K (.ref fa_Log_take) = true)
    (l_Log_take : K.lookup fa_Log_take = some ⟨oc_Log_take, od_Log_take, .func (PySem.W.fnOf "take" "Log.take" (defArgs s_Log_take) (defBody s_Log_take) (defScope s_Log_take) .none kV_Log_take dc_Log_take pm_Log_take an_Log_take cd_Log_take ct_Log_take), sl_Log_take⟩)
    (x_Log_take : PySem.W.codeIn K cd_Log_take "Log.take" = true)
    (k_Log_take : PySem.W.keepIn K (.ref fa_Log_take) = true)
    (a_Log_counts : PySem.W.findIn K (.ref C_Log) "counts" = some (some (.ref fa_Log_counts)))
    (i_Log_counts : PySem.W.isFn K (.ref fa_Log_counts) = true)
    (l_Log_counts : K.lookup fa_Log_counts = some ⟨oc_Log_counts, od_Log_counts, .func (PySem.W.fnOf "counts" "Log.counts" (defArgs s_Log_counts) (defBody s_Log_counts) (defScope s_Log_counts) .none kV_Log_counts dc_Log_counts pm_Log_counts an_Log_counts cd_Log_counts ct_Log_counts), sl_Log_counts⟩)
    (x_Log_counts : PySem.W.codeIn K cd_Log_counts "Log.counts" = true)
    (k_Log_counts : PySem.W.keepIn K (.ref fa_Log_counts) = true)
    (a_Log_rows : PySem.W.findIn K (.ref C_Log) "rows" = some (some (.ref fa_Log_rows)))
    (i_Log_rows : PySem.W.isFn K (.ref fa_Log_rows) = true)
    (l_Log_rows : K.lookup fa_Log_rows = some ⟨oc_Log_rows, od_Log_rows, .func (PySem.W.fnOf "rows" "Log.rows" (defArgs s_Log_rows) (defBody s_Log_rows) (defScope s_Log_rows) .none kV_Log_rows dc_Log_rows pm_Log_rows an_Log_rows cd_Log_rows ct_Log_rows), sl_Log_rows⟩)
    (x_Log_rows : PySem.W.codeIn K cd_Log_rows "Log.rows" = true)
    (k_Log_rows : PySem.W.keepIn K (.ref fa_Log_rows) = true)
    (a_Log_waiting : PySem.W.findIn K (.ref C_Log) "waiting" = some (some (.ref fa_Log_waiting)))
    (i_Log_waiting : PySem.W.isFn K (.ref fa_Log_waiting) = true)
    (l_Log_waiting : K.lookup fa_Log_waiting = some ⟨oc_Log_waiting, od_Log_waiting, .func (PySem.W.fnOf "waiting" "Log.waiting" (defArgs s_Log_waiting) (defBody s_Log_waiting) (defScope s_Log_waiting) .none kV_Log_waiting dc_Log_waiting pm_Log_waiting an_Log_waiting cd_Log_waiting ct_Log_waiting), sl_Log_waiting⟩)
    (x_Log_waiting : PySem.W.codeIn K cd_Log_waiting "Log.waiting" = true)
    (k_Log_waiting : PySem.W.keepIn K (.ref fa_Log_waiting) = true)
    (a_law : PySem.W.nsIn K mainGlobals "law" = some (some (.ref fa_law)))
    (l_law : K.lookup fa_law = some ⟨oc_law, od_law, .func (PySem.W.fnOf "law" "law" (defArgs s_law) (defBody s_law) (defScope s_law) .none kV_law dc_law pm_law an_law cd_law ct_law), sl_law⟩)
    (x_law : PySem.W.codeIn K cd_law "law" = true)
    (k_law : PySem.W.keepIn K (.ref fa_law) = true)
    (z_enumerate : PySem.W.nsIn K mainGlobals "enumerate" = some none)
    (z_len : PySem.W.nsIn K mainGlobals "len" = some none)
    (z_list : PySem.W.nsIn K mainGlobals "list" = some none)
    (z_max : PySem.W.nsIn K mainGlobals "max" = some none)
    (z_range : PySem.W.nsIn K mainGlobals "range" = some none)
    (z_sorted : PySem.W.nsIn K mainGlobals "sorted" = some none)
    (z_tuple : PySem.W.nsIn K mainGlobals "tuple" = some none)
    (z_zip : PySem.W.nsIn K mainGlobals "zip" = some none) :
    ∃ fd : FuncData, (∀ (s : Shared) (v : Value), BindsTo s fd ⟨[v], []⟩ [("_law_script", v)]) ∧ ∀ base : Heap, K.In base → base.Ns mainGlobals mg → FnOk l.prog w K mg base CX0 4 fa fd ["_law_script"] (spLaw K) := by
  have e := hfa.symm.trans (PySem.W.mg_of X G a_law)
  cases e
  have F_l_cell_at := fun_mk (st := s_l_cell_at) l_l_cell_at x_l_cell_at k_l_cell_at
  have b_l_cell_at := F_l_cell_at.binds (ps := ["_law_script", "_law_k"]) fun _ _ _ _ _ _ us hl => match us, hl with | [_, _], _ => rfl
  have m_l_cell_at := PySem.W.mg_of X G a_l_cell_at
  have F_l_mix := fun_mk (st := s_l_mix) l_l_mix x_l_mix k_l_mix
  have b_l_mix := F_l_mix.binds (ps := ["_law_cell", "_law_k"]) fun _ _ _ _ _ _ us hl => match us, hl with | [_, _], _ => rfl
  have m_l_mix := PySem.W.mg_of X G a_l_mix
  have F_l_rows := fun_mk (st := s_l_rows) l_l_rows x_l_rows k_l_rows
  have b_l_rows := F_l_rows.binds (ps := ["_law_script", "_law_houses"]) fun _ _ _ _ _ _ us hl => match us, hl with | [_, _], _ => rfl
  have m_l_rows := PySem.W.mg_of X G a_l_rows
  have F_l_order := fun_mk (st := s_l_order) l_l_order x_l_order k_l_order
  have b_l_order := F_l_order.binds (ps := ["_law_script", "_law_many"]) fun _ _ _ _ _ _ us hl => match us, hl with | [_, _], _ => rfl
  have m_l_order := PySem.W.mg_of X G a_l_order
  have F_l_keeps := fun_mk (st := s_l_keeps) l_l_keeps x_l_keeps k_l_keeps
  have b_l_keeps := F_l_keeps.binds (ps := ["_law_houses", "_law_rows_here"]) fun _ _ _ _ _ _ us hl => match us, hl with | [_, _], _ => rfl
  have m_l_keeps := PySem.W.mg_of X G a_l_keeps
  have F_Log_init := fun_mk (st := s_Log_init) l_Log_init x_Log_init k_Log_init
  have b_Log_init := F_Log_init.binds (ps := ["self", "houses"]) fun _ _ _ _ _ _ us hl => match us, hl with | [_, _], _ => rfl
  have F_Log_put := fun_mk (st := s_Log_put) l_Log_put x_Log_put k_Log_put
  have b_Log_put := F_Log_put.binds (ps := ["self", "row"]) fun _ _ _ _ _ _ us hl => match us, hl with | [_, _], _ => rfl
  have F_Log_ready := fun_mk (st := s_Log_ready) l_Log_ready x_Log_ready k_Log_ready
  have b_Log_ready := F_Log_ready.binds (ps := ["self", "row"]) fun _ _ _ _ _ _ us hl => match us, hl with | [_, _], _ => rfl
  have F_Log_first_ready := fun_mk (st := s_Log_first_ready) l_Log_first_ready x_Log_first_ready k_Log_first_ready
  have b_Log_first_ready := F_Log_first_ready.binds (ps := ["self"]) fun _ _ _ _ _ _ us hl => match us, hl with | [_], _ => rfl
  have F_Log_take := fun_mk (st := s_Log_take) l_Log_take x_Log_take k_Log_take
  have b_Log_take := F_Log_take.binds (ps := ["self", "row"]) fun _ _ _ _ _ _ us hl => match us, hl with | [_, _], _ => rfl
  have F_Log_counts := fun_mk (st := s_Log_counts) l_Log_counts x_Log_counts k_Log_counts
  have b_Log_counts := F_Log_counts.binds (ps := ["self"]) fun _ _ _ _ _ _ us hl => match us, hl with | [_], _ => rfl
  have F_Log_rows := fun_mk (st := s_Log_rows) l_Log_rows x_Log_rows k_Log_rows
  have b_Log_rows := F_Log_rows.binds (ps := ["self"]) fun _ _ _ _ _ _ us hl => match us, hl with | [_], _ => rfl
  have F_Log_waiting := fun_mk (st := s_Log_waiting) l_Log_waiting x_Log_waiting k_Log_waiting
  have b_Log_waiting := F_Log_waiting.binds (ps := ["self"]) fun _ _ _ _ _ _ us hl => match us, hl with | [_], _ => rfl
  have F_law := fun_mk (st := s_law) l_law x_law k_law
  have b_law := F_law.binds (ps := ["_law_script"]) fun _ _ _ _ _ _ us hl => match us, hl with | [_], _ => rfl
  have m_law := PySem.W.mg_of X G a_law
  have cl_Log : Cls K C_Log := ⟨pg_Log, hd_Log, po_Log, sa_Log⟩
  have hc_Log : ClOk K "Log" := ⟨⟨C_Log, a_Log, cl_Log⟩⟩
  have nB_Log_kept : NoAt K "Log" "kept" := fun D h => by rw [a_Log] at h; cases h; exact nA_Log_kept
  have nB_Log_many : NoAt K "Log" "many" := fun D h => by rw [a_Log] at h; cases h; exact nA_Log_many
  have nB_Log_taken : NoAt K "Log" "taken" := fun D h => by rw [a_Log] at h; cases h; exact nA_Log_taken
  have B_enumerate : mg "enumerate" = none := PySem.W.mg_none_of X G z_enumerate
  have B_len : mg "len" = none := PySem.W.mg_none_of X G z_len
  have B_list : mg "list" = none := PySem.W.mg_none_of X G z_list
  have B_max : mg "max" = none := PySem.W.mg_none_of X G z_max
  have B_range : mg "range" = none := PySem.W.mg_none_of X G z_range
  have B_sorted : mg "sorted" = none := PySem.W.mg_none_of X G z_sorted
  have B_tuple : mg "tuple" = none := PySem.W.mg_none_of X G z_tuple
  have B_zip : mg "zip" = none := PySem.W.mg_none_of X G z_zip
  refine ⟨PySem.W.fnOf "law" "law" (defArgs s_law) (defBody s_law) (defScope s_law) .none kV_law dc_law pm_law an_law cd_law ct_law, fun s v => .of_eq rfl, fun base _ _ => ?_⟩
  have c_l_cell_at : Callee l.prog w K mg base 1 "_law_cell_at" [.vw, .fz] .fz f_l_cell_at := ok_l_cell_at F_l_cell_at m_l_cell_at b_l_cell_at B_len
  have c_l_mix : Callee l.prog w K mg base 1 "_law_mix" [.fz, .fz] .fz f_l_mix := ok_l_mix F_l_mix m_l_mix b_l_mix B_range
  have c_l_rows : Callee l.prog w K mg base 2 "_law_rows" [.vw, .fz] .ow f_l_rows := ok_l_rows F_l_rows m_l_rows b_l_rows c_l_mix B_enumerate B_max B_range B_tuple B_zip
  have c_l_order : Callee l.prog w K mg base 2 "_law_order" [.vw, .fz] .fz f_l_order := ok_l_order F_l_order m_l_order b_l_order c_l_mix c_l_cell_at B_list B_range
  have c_l_keeps : Callee l.prog w K mg base 1 "_law_keeps" [.fz, .fz] .fz f_l_keeps := ok_l_keeps F_l_keeps m_l_keeps b_l_keeps B_range
  have c_Log_init : MakM l.prog w K mg base 1 "Log" 1 f_Log_init := ok_Log_init F_Log_init b_Log_init a_Log (PySem.W.mg_of X G a_Log) ⟨mk_Log, a_Log_init, i_Log_init, kc_Log⟩ hc_Log nB_Log_kept nB_Log_many nB_Log_taken
  have c_Log_put : MetM l.prog w K mg base 1 "Log" "put" 1 f_Log_put := ok_Log_put F_Log_put b_Log_put a_Log cl_Log ⟨a_Log_put, i_Log_put, k_Log_put⟩ hc_Log nB_Log_many nB_Log_taken
  have c_Log_ready : MetT l.prog w K mg base 1 "Log" "ready" 2 f_Log_ready := ok_Log_ready F_Log_ready b_Log_ready a_Log cl_Log ⟨a_Log_ready, i_Log_ready, k_Log_ready⟩ hc_Log nB_Log_many B_zip
  have c_Log_first_ready : MetT l.prog w K mg base 2 "Log" "first_ready" 1 f_Log_first_ready := ok_Log_first_ready F_Log_first_ready b_Log_first_ready a_Log cl_Log ⟨a_Log_first_ready, i_Log_first_ready, k_Log_first_ready⟩ c_Log_ready hc_Log nB_Log_kept B_sorted
  have c_Log_take : MetM l.prog w K mg base 3 "Log" "take" 1 f_Log_take := ok_Log_take F_Log_take b_Log_take a_Log cl_Log ⟨a_Log_take, i_Log_take, k_Log_take⟩ c_Log_first_ready c_Log_put c_Log_ready hc_Log nB_Log_kept nB_Log_many
  have c_Log_counts : MetT l.prog w K mg base 1 "Log" "counts" 1 f_Log_counts := ok_Log_counts F_Log_counts b_Log_counts a_Log cl_Log ⟨a_Log_counts, i_Log_counts, k_Log_counts⟩ hc_Log nB_Log_many B_tuple
  have c_Log_rows : MetT l.prog w K mg base 1 "Log" "rows" 1 f_Log_rows := ok_Log_rows F_Log_rows b_Log_rows a_Log cl_Log ⟨a_Log_rows, i_Log_rows, k_Log_rows⟩ hc_Log nB_Log_taken B_list
  have c_Log_waiting : MetT l.prog w K mg base 1 "Log" "waiting" 1 f_Log_waiting := ok_Log_waiting F_Log_waiting b_Log_waiting a_Log cl_Log ⟨a_Log_waiting, i_Log_waiting, k_Log_waiting⟩ hc_Log nB_Log_kept B_sorted
  have c_law : FnOk l.prog w K mg base CX0 4 fa (PySem.W.fnOf "law" "law" (defArgs s_law) (defBody s_law) (defScope s_law) .none kV_law dc_law pm_law an_law cd_law ct_law) ["_law_script"] (spP K [.vw] .fz f_law) := ok_law F_law c_Log_counts c_Log_take c_Log_waiting c_Log_rows c_l_keeps c_Log_init c_l_order c_l_rows c_l_cell_at B_len B_sorted
  exact c_law.imp (sp_law law_true)
end DL
open PySem PySem.W PyProof.Rows
set_option maxRecDepth 100000 in
set_option maxHeartbeats 0 in
theorem PySem.Challenge.cw_apartbook_k35_whole_any_order_the_same_holds : PySem.Challenge.rw_apartbook_k35_whole_any_order_the_same.Holds := by
  w_on; o_law; k_head; (case hw => w_witness2)
  k_fill
  refine L2.walk_of (l := PySem.Challenge.rw_apartbook_k35_whole_any_order_the_same) (n := 63) (k := 4) (x := "_law_script") (CX := fun _ => L2.CX0) (sp := fun w => DL.spLaw _) rfl (by decide) rfl ⟨rfl, by decide, by decide⟩ (fun w h Y => PySem.W.kIn_of Y) ?F (fun _ _ a ns hl _ hS => ⟨a, ns, rfl, hS, hl, fun _ => rfl⟩) (fun _ _ _ _ _ z => z)
  case F =>
    intro w mg fa h KX G hmg
    refine' DL.all_mk KX G hmg ?a_Log ?pg_Log ?hd_Log ?po_Log ?sa_Log ?mk_Log ?kc_Log ?nA_Log_kept ?nA_Log_many ?nA_Log_taken ?a_l_cell_at ?l_l_cell_at ?x_l_cell_at ?k_l_cell_at ?a_l_mix ?l_l_mix ?x_l_mix ?k_l_mix ?a_l_rows ?l_l_rows ?x_l_rows ?k_l_rows ?a_l_order ?l_l_order ?x_l_order ?k_l_order ?a_l_keeps ?l_l_keeps ?x_l_keeps ?k_l_keeps ?a_Log_init ?i_Log_init ?l_Log_init ?x_Log_init ?k_Log_init ?a_Log_put ?i_Log_put ?l_Log_put ?x_Log_put ?k_Log_put ?a_Log_ready ?i_Log_ready ?l_Log_ready ?x_Log_ready ?k_Log_ready ?a_Log_first_ready ?i_Log_first_ready ?l_Log_first_ready ?x_Log_first_ready ?k_Log_first_ready ?a_Log_take ?i_Log_take ?l_Log_take ?x_Log_take ?k_Log_take ?a_Log_counts ?i_Log_counts ?l_Log_counts ?x_Log_counts ?k_Log_counts ?a_Log_rows ?i_Log_rows ?l_Log_rows ?x_Log_rows ?k_Log_rows ?a_Log_waiting ?i_Log_waiting ?l_Log_waiting ?x_Log_waiting ?k_Log_waiting ?a_law ?l_law ?x_law ?k_law ?z_enumerate ?z_len ?z_list ?z_max ?z_range ?z_sorted ?z_tuple ?z_zip
    (case a_Log => k_is)
    (case pg_Log => k_is)
    (case hd_Log => k_is)
    (case po_Log => k_is)
    (case sa_Log => k_is)
    (case mk_Log => k_is)
    (case kc_Log => k_is)
    (case nA_Log_kept => k_is)
    (case nA_Log_many => k_is)
    (case nA_Log_taken => k_is)
    (case a_l_cell_at => k_is)
    (case l_l_cell_at => k_is)
    (case x_l_cell_at => k_is)
    (case k_l_cell_at => k_is)
    (case a_l_mix => k_is)
    (case l_l_mix => k_is)
    (case x_l_mix => k_is)
    (case k_l_mix => k_is)
    (case a_l_rows => k_is)
    (case l_l_rows => k_is)
    (case x_l_rows => k_is)
    (case k_l_rows => k_is)
    (case a_l_order => k_is)
    (case l_l_order => k_is)
    (case x_l_order => k_is)
    (case k_l_order => k_is)
    (case a_l_keeps => k_is)
    (case l_l_keeps => k_is)
    (case x_l_keeps => k_is)
    (case k_l_keeps => k_is)
    (case a_Log_init => k_is)
    (case i_Log_init => k_is)
    (case l_Log_init => k_is)
    (case x_Log_init => k_is)
    (case k_Log_init => k_is)
    (case a_Log_put => k_is)
    (case i_Log_put => k_is)
    (case l_Log_put => k_is)
    (case x_Log_put => k_is)
    (case k_Log_put => k_is)
    (case a_Log_ready => k_is)
    (case i_Log_ready => k_is)
    (case l_Log_ready => k_is)
    (case x_Log_ready => k_is)
    (case k_Log_ready => k_is)
    (case a_Log_first_ready => k_is)
    (case i_Log_first_ready => k_is)
    (case l_Log_first_ready => k_is)
    (case x_Log_first_ready => k_is)
    (case k_Log_first_ready => k_is)
    (case a_Log_take => k_is)
    (case i_Log_take => k_is)
    (case l_Log_take => k_is)
    (case x_Log_take => k_is)
    (case k_Log_take => k_is)
    (case a_Log_counts => k_is)
    (case i_Log_counts => k_is)
    (case l_Log_counts => k_is)
    (case x_Log_counts => k_is)
    (case k_Log_counts => k_is)
    (case a_Log_rows => k_is)
    (case i_Log_rows => k_is)
    (case l_Log_rows => k_is)
    (case x_Log_rows => k_is)
    (case k_Log_rows => k_is)
    (case a_Log_waiting => k_is)
    (case i_Log_waiting => k_is)
    (case l_Log_waiting => k_is)
    (case x_Log_waiting => k_is)
    (case k_Log_waiting => k_is)
    (case a_law => k_is)
    (case l_law => k_is)
    (case x_law => k_is)
    (case k_law => k_is)
    (case z_enumerate => k_is)
    (case z_len => k_is)
    (case z_list => k_is)
    (case z_max => k_is)
    (case z_range => k_is)
    (case z_sorted => k_is)
    (case z_tuple => k_is)
    (case z_zip => k_is)
#print axioms PySem.Challenge.cw_apartbook_k35_whole_any_order_the_same_holds
