import PyProof.Rows.All
import Wide.All
import OpenK.AllK
import Wide.FinOn
import HandS.ForMost
import HandS.Exc
import HandS.TryOnly
import HandS.ExcOwn
import HandS.WordsExc
import HandS.TupAny
import HandS.IsInst
import HandS.Wide
import HandS.Walk
import HandS.CallSlots
import KE.KDictKeyed
import KE.KDictWalk
import KE.LtData
import KE.SortData
import KE.SortKeyHeap
import KE.DataMinMax
import HandS.Zip
import HandS.SortInts
import KE.GoesMore
import HandS.DictComp
import HandS.Conv
import PyProof.TupleOfSeq
import HandS.Deep
import PyProof.P3In
import HandS.SortKw
import KE.KSortKey
import PySem.Challenge.RW_patchworlds_k09_lets_and_barred_places
set_option Elab.async false
set_option linter.all false
set_option maxRecDepth 100000
set_option maxHeartbeats 4000000
/-! Dn1: plain data, how it stands in the abstract heap, the state of a frame. -/
namespace Dn
open PySem PySem.Spec PyProof.Rows L2

/-- plain data -/
inductive D where
  | non | bl (b : Bool) | int (i : Int) | str (s : Str)
  | tup (ds : List D) | lst (ds : List D)
  | dK (kvs : List (Key × D)) | dN (kvs : List (D × D))
  | rng (lo hi : Int)
  | scr (ns : List Int)
  | obj (cn : Str) (fs : List (Str × D))
  | nts (d : D)
  deriving Inhabited

mutual
def toKey : D → Option NestedKey
  | .non => some .none
  | .bl b => some (.num (if b then 1 else 0))
  | .int i => some (.num i)
  | .str s => some (.text s)
  | .tup ds => (toKeys ds).map .tup
  | _ => none
def toKeys : List D → Option (List NestedKey)
  | [] => some []
  | d :: ds => (toKey d).bind fun k => (toKeys ds).map fun ks => k :: ks
end

/-- what is fixed for a law -/
structure Gx where
  P : Program
  w : World
  K : PySem.W.Frag
  mg : Str → Option Value
  base : Heap
  NS : Str → D → Option D

/-- the part of the heap that stays: objects for ever, and dicts of notes -/
structure Fr where
  fx : Hp
  nt : Addr → Option D
structure Ext (F F' : Fr) : Prop where
  fx : Same F.fx F'.fx
  nt : ∀ a d, F.nt a = some d → F'.nt a = some d
theorem Ext.refl (F : Fr) : Ext F F := ⟨Same.refl _, fun _ _ h => h⟩
theorem Ext.trans {F F1 F2 : Fr} (a : Ext F F1) (b : Ext F1 F2) : Ext F F2 := ⟨a.fx.trans b.fx, fun x d h => b.nt x d (a.nt x d h)⟩

/-- a dict whose keys are tuples, nested -/
def PairN : List (NestedKey × Addr × V) → List (NestedKey × Addr × Value) → Prop := Paired fun p q => p.1 = q.1 ∧ p.2.1 = q.2.1 ∧ RelV p.2.2 q.2.2
def DnAt (P : Program) (w : World) (a : Addr) (es : List (NestedKey × Addr × V)) (h : Heap) : Prop :=
  es.length ≤ sizeLine ∧ (a == sysModules) = false ∧ ∃ vs : List (NestedKey × Addr × Value), PairN es vs ∧
    ∃ o es' ep, h.get? a = some o ∧ o.ExactDict ∧ o.data = .dict es' ep ∧ es'.toList = vs.map (entryOfKey (nestedKind P w)) ∧ (vs.map (·.1)).Nodup
def dnO (P : Program) (w : World) (a : Addr) (es : List (NestedKey × Addr × V)) : HO := .ext (DnAt P w a es)
theorem DnAt.stable {P : Program} {w : World} {a : Addr} {es : List (NestedKey × Addr × V)} : ∀ h1 h2 : Heap, DnAt P w a es h1 → (∀ o, h1.get? a = some o → h2.get? a = some o) → DnAt P w a es h2 := by
  rintro h1 h2 ⟨hz, hs, vs, pv, o, es', ep, ho, he, hd, hl, hn⟩ k
  exact ⟨hz, hs, vs, pv, o, es', ep, k _ ho, he, hd, hl, hn⟩
theorem dnO_ok {P : Program} {w : World} {H : Hp} {h : Heap} {a : Addr} {es : List (NestedKey × Addr × V)} (d : DnAt P w a es h) : ObjOk P w H h a (dnO P w a es) := by
  obtain ⟨_, _, _, _, o, _, _, ho, _⟩ := id d
  exact ⟨d, ⟨o, ho⟩, DnAt.stable⟩

mutual
def Rep (G : Gx) (F : Fr) : D → V → Prop
  | .non, v => v = .non
  | .bl b, v => v = .bl b
  | .int i, v => v = .int i
  | .str s, v => v = .str s
  | .tup ds, v => ∃ a xs, v = .ref a ∧ SqT G.K F.fx a xs ∧ RepL G F ds xs
  | .lst ds, v => ∃ a xs, v = .ref a ∧ F.fx a = some (.lst xs) ∧ RepL G F ds xs
  | .dK kvs, v => ∃ a ks, v = .ref a ∧ F.fx a = some (.dK ks) ∧ RepK G F kvs ks
  | .dN kvs, v => ∃ a es, v = .ref a ∧ F.fx a = some (dnO G.P G.w a es) ∧ RepN G F kvs es
  | .rng lo hi, v => ∃ a, v = .ref a ∧ F.fx a = some (.rng lo hi)
  | .scr ns, v => ∃ a, v = .ref a ∧ SqL G.K F.fx a (ns.map V.int)
  | .obj cn fs, v => ∃ a C dx gs, v = .ref a ∧ F.fx a = some (.ins C dx gs) ∧ F.fx dx = some (.own a) ∧ G.mg cn = some (.ref C) ∧ RepF G F fs gs
  | .nts d, v => ∃ a, v = .ref a ∧ F.nt a = some d
def RepL (G : Gx) (F : Fr) : List D → List V → Prop
  | [], xs => xs = []
  | d :: ds, xs => ∃ y ys, xs = y :: ys ∧ Rep G F d y ∧ RepL G F ds ys
def RepK (G : Gx) (F : Fr) : List (Key × D) → List (Key × V) → Prop
  | [], xs => xs = []
  | (k, d) :: ds, xs => ∃ y ys, xs = (k, y) :: ys ∧ Rep G F d y ∧ RepK G F ds ys
def RepF (G : Gx) (F : Fr) : List (Str × D) → List (Str × V) → Prop
  | [], xs => xs = []
  | (k, d) :: ds, xs => ∃ y ys, xs = (k, y) :: ys ∧ Rep G F d y ∧ RepF G F ds ys
def RepN (G : Gx) (F : Fr) : List (D × D) → List (NestedKey × Addr × V) → Prop
  | [], xs => xs = []
  | (k, d) :: ds, xs => ∃ nk b y ys, xs = (nk, b, y) :: ys ∧ toKey k = some nk ∧ nk.depth ≤ 8 ∧ Rep G F k (.ref b) ∧ Rep G F d y ∧ RepN G F ds ys
end

theorem SameT {K : PySem.W.Frag} {H H' : Hp} {a : Addr} {xs : List V} (e : Same H H') (h : SqT K H a xs) : SqT K H' a xs := by
  rcases h with (h | ⟨o, h⟩) | h
  · exact .inl (.inl (e _ _ h))
  · exact .inl (.inr ⟨o, e _ _ h⟩)
  · exact .inr h

mutual
theorem Rep.ext {G : Gx} {F F' : Fr} (x : Ext F F') : ∀ (d : D) (v : V), Rep G F d v → Rep G F' d v
  | .non, _, h => h
  | .bl _, _, h => h
  | .int _, _, h => h
  | .str _, _, h => h
  | .tup ds, _, h => let ⟨a, xs, e, q, r⟩ := h; ⟨a, xs, e, SameT x.fx q, RepL.ext x ds xs r⟩
  | .lst ds, _, h => let ⟨a, xs, e, q, r⟩ := h; ⟨a, xs, e, x.fx _ _ q, RepL.ext x ds xs r⟩
  | .dK kvs, _, h => let ⟨a, ks, e, q, r⟩ := h; ⟨a, ks, e, x.fx _ _ q, RepK.ext x kvs ks r⟩
  | .dN kvs, _, h => let ⟨a, ks, e, q, r⟩ := h; ⟨a, ks, e, x.fx _ _ q, RepN.ext x kvs ks r⟩
  | .rng _ _, _, h => let ⟨a, e, q⟩ := h; ⟨a, e, x.fx _ _ q⟩
  | .scr _, _, h => let ⟨a, e, q⟩ := h; ⟨a, e, x.fx.seq q⟩
  | .obj _ fs, _, h => let ⟨a, C, dx, gs, e, q, q2, m, r⟩ := h; ⟨a, C, dx, gs, e, x.fx _ _ q, x.fx _ _ q2, m, RepF.ext x fs gs r⟩
  | .nts d, _, h => let ⟨a, e, q⟩ := h; ⟨a, e, x.nt _ _ q⟩
theorem RepL.ext {G : Gx} {F F' : Fr} (x : Ext F F') : ∀ (ds : List D) (xs : List V), RepL G F ds xs → RepL G F' ds xs
  | [], _, h => h
  | d :: ds, _, h => let ⟨y, ys, e, q, r⟩ := h; ⟨y, ys, e, Rep.ext x d y q, RepL.ext x ds ys r⟩
theorem RepK.ext {G : Gx} {F F' : Fr} (x : Ext F F') : ∀ (ds : List (Key × D)) (xs : List (Key × V)), RepK G F ds xs → RepK G F' ds xs
  | [], _, h => h
  | (k, d) :: ds, _, h => let ⟨y, ys, e, q, r⟩ := h; ⟨y, ys, e, Rep.ext x d y q, RepK.ext x ds ys r⟩
theorem RepF.ext {G : Gx} {F F' : Fr} (x : Ext F F') : ∀ (ds : List (Str × D)) (xs : List (Str × V)), RepF G F ds xs → RepF G F' ds xs
  | [], _, h => h
  | (k, d) :: ds, _, h => let ⟨y, ys, e, q, r⟩ := h; ⟨y, ys, e, Rep.ext x d y q, RepF.ext x ds ys r⟩
theorem RepN.ext {G : Gx} {F F' : Fr} (x : Ext F F') : ∀ (ds : List (D × D)) (xs : List (NestedKey × Addr × V)), RepN G F ds xs → RepN G F' ds xs
  | [], _, h => h
  | (k, d) :: ds, _, h => let ⟨nk, b, y, ys, e, e1, e2, q1, q, r⟩ := h; ⟨nk, b, y, ys, e, e1, e2, Rep.ext x k _ q1, Rep.ext x d y q, RepN.ext x ds ys r⟩
end

/-! ### lists -/
section
variable {G : Gx} {F : Fr}
theorem RepL.length : ∀ {ds : List D} {xs : List V}, RepL G F ds xs → xs.length = ds.length
  | [], _, h => by cases h; rfl
  | d :: ds, _, h => by obtain ⟨y, ys, rfl, _, r⟩ := h; simp [RepL.length r]
theorem RepL.get : ∀ {ds : List D} {xs : List V} {i : Nat} {d : D}, RepL G F ds xs → ds[i]? = some d → ∃ y, xs[i]? = some y ∧ Rep G F d y
  | [], _, i, d, h, e => by simp at e
  | d :: ds, _, 0, d', h, e => by obtain ⟨y, ys, rfl, q, r⟩ := h; simp at e; subst e; exact ⟨y, rfl, q⟩
  | d :: ds, _, i + 1, d', h, e => by obtain ⟨y, ys, rfl, q, r⟩ := h; obtain ⟨z, h1, h2⟩ := RepL.get (i := i) r (by simpa using e); exact ⟨z, by simpa using h1, h2⟩
theorem RepL.get' : ∀ {ds : List D} {xs : List V} {i : Nat} {y : V}, RepL G F ds xs → xs[i]? = some y → ∃ d, ds[i]? = some d ∧ Rep G F d y
  | [], _, i, d, h, e => by cases h; simp at e
  | d :: ds, _, 0, d', h, e => by obtain ⟨y, ys, rfl, q, r⟩ := h; simp at e; subst e; exact ⟨d, rfl, q⟩
  | d :: ds, _, i + 1, d', h, e => by obtain ⟨y, ys, rfl, q, r⟩ := h; obtain ⟨z, h1, h2⟩ := RepL.get' (i := i) r (by simpa using e); exact ⟨z, by simpa using h1, h2⟩
theorem RepL.append : ∀ {ds es : List D} {xs ys : List V}, RepL G F ds xs → RepL G F es ys → RepL G F (ds ++ es) (xs ++ ys)
  | [], _, _, _, h, h2 => by cases h; exact h2
  | d :: ds, _, _, _, h, h2 => by obtain ⟨y, ys, rfl, q, r⟩ := h; exact ⟨y, _, rfl, q, RepL.append r h2⟩
theorem RepL.one {d : D} {v : V} (h : Rep G F d v) : RepL G F [d] [v] := ⟨v, [], rfl, h, rfl⟩
theorem RepL.take : ∀ (n : Nat) {ds : List D} {xs : List V}, RepL G F ds xs → RepL G F (ds.take n) (xs.take n)
  | 0, _, _, _ => by simp [RepL]
  | n + 1, [], _, h => by cases h; simp [RepL]
  | n + 1, d :: ds, _, h => by obtain ⟨y, ys, rfl, q, r⟩ := h; exact ⟨y, _, rfl, q, RepL.take n r⟩
theorem RepL.drop : ∀ (n : Nat) {ds : List D} {xs : List V}, RepL G F ds xs → RepL G F (ds.drop n) (xs.drop n)
  | 0, _, _, h => by simpa using h
  | n + 1, [], _, h => by cases h; simp [RepL]
  | n + 1, d :: ds, _, h => by obtain ⟨y, ys, rfl, q, r⟩ := h; simpa using RepL.drop n r
theorem RepL.set : ∀ (n : Nat) {ds : List D} {xs : List V} {d : D} {v : V}, RepL G F ds xs → Rep G F d v → RepL G F (ds.set n d) (xs.set n v)
  | _, [], _, _, _, h, _ => by cases h; simp [RepL]
  | 0, d :: ds, _, _, _, h, h2 => by obtain ⟨y, ys, rfl, q, r⟩ := h; exact ⟨_, _, rfl, h2, r⟩
  | n + 1, d :: ds, _, _, _, h, h2 => by obtain ⟨y, ys, rfl, q, r⟩ := h; exact ⟨y, _, rfl, q, RepL.set n r h2⟩
theorem RepL.eraseIdx : ∀ (n : Nat) {ds : List D} {xs : List V}, RepL G F ds xs → RepL G F (ds.eraseIdx n) (xs.eraseIdx n)
  | _, [], _, h => by cases h; simp [RepL]
  | 0, d :: ds, _, h => by obtain ⟨y, ys, rfl, q, r⟩ := h; exact r
  | n + 1, d :: ds, _, h => by obtain ⟨y, ys, rfl, q, r⟩ := h; exact ⟨y, _, rfl, q, RepL.eraseIdx n r⟩
theorem RepL.insertIdx : ∀ (n : Nat) {ds : List D} {xs : List V} {d : D} {v : V}, RepL G F ds xs → Rep G F d v → RepL G F (ds.insertIdx n d) (xs.insertIdx n v)
  | 0, ds, _, _, _, h, h2 => ⟨_, _, rfl, h2, h⟩
  | n + 1, [], _, _, _, h, h2 => by cases h; simp [RepL]
  | n + 1, d :: ds, _, _, _, h, h2 => by obtain ⟨y, ys, rfl, q, r⟩ := h; exact ⟨y, _, rfl, q, RepL.insertIdx n r h2⟩
theorem RepL.reverse {ds : List D} {xs : List V} (h : RepL G F ds xs) : RepL G F ds.reverse xs.reverse := by
  induction ds generalizing xs with
  | nil => cases h; simp [RepL]
  | cons d ds ih => obtain ⟨y, ys, rfl, q, r⟩ := h; rw [List.reverse_cons, List.reverse_cons]; exact (ih r).append (.one q)
theorem RepL.ints : ∀ {is : List Int}, RepL G F (is.map D.int) (is.map V.int)
  | [] => rfl
  | i :: is => ⟨_, _, rfl, rfl, RepL.ints⟩
theorem RepL.of_ints : ∀ {is : List Int} {xs : List V}, RepL G F (is.map D.int) xs → xs = is.map V.int
  | [], _, h => by cases h; rfl
  | i :: is, _, h => by obtain ⟨y, ys, rfl, q, r⟩ := h; cases q; rw [RepL.of_ints r]; rfl
end

/-! ### the heap holds the frozen part -/
structure Fr.In (G : Gx) (F : Fr) (H : Hp) : Prop where
  fx : Same F.fx H
  nt : ∀ a d, F.nt a = some d → ∃ kvs, H a = some (.dK kvs) ∧ ∀ k v, (k, v) ∈ kvs → ∃ nm r, k = Sum.inr nm ∧ G.NS nm d = some r ∧ Rep G F r v
theorem Fr.In.seqL {G : Gx} {F : Fr} {H : Hp} (i : F.In G H) {a : Addr} {xs : List V} (h : SqL G.K F.fx a xs) : SqL G.K H a xs := i.fx.seq h
theorem Fr.In.seqT {G : Gx} {F : Fr} {H : Hp} (i : F.In G H) {a : Addr} {xs : List V} (h : SqT G.K F.fx a xs) : SqT G.K H a xs := SameT i.fx h

/-- an operation has laid new objects -/
structure Grow (G : Gx) (F : Fr) (H : Hp) (F' : Fr) (H' : Hp) : Prop where
  ext : Ext F F'
  same : Same H H'
  newF : ∀ a o, F'.fx a = some o → F.fx a = some o ∨ H a = none
  newN : ∀ a d, F'.nt a = some d → F.nt a = some d ∨ H a = none
  inn : F'.In G H'
theorem Grow.refl {G : Gx} {F : Fr} {H : Hp} (i : F.In G H) : Grow G F H F H := ⟨Ext.refl F, Same.refl H, fun _ _ h => .inl h, fun _ _ h => .inl h, i⟩
theorem Grow.trans {G : Gx} {F F1 F2 : Fr} {H H1 H2 : Hp} (a : Grow G F H F1 H1) (b : Grow G F1 H1 F2 H2) : Grow G F H F2 H2 where
  ext := a.ext.trans b.ext
  same := a.same.trans b.same
  newF := fun x o h => (b.newF x o h).elim (a.newF x o) fun z => .inr (a.same.free z)
  newN := fun x o h => (b.newN x o h).elim (a.newN x o) fun z => .inr (a.same.free z)
  inn := b.inn
/-- the new object is of the frozen part -/
def Fr.add (F : Fr) (p : Addr) (o : HO) : Fr := ⟨upd F.fx p o, F.nt⟩
theorem Same.updNew {H : Hp} {p : Addr} {o : HO} (h : H p = none) : Same H (upd H p o) := fun b u e => by
  rw [upd_ne (ne_of_none e h)]; exact e
theorem Fr.In.free {G : Gx} {F : Fr} {H : Hp} (i : F.In G H) {p : Addr} (h : H p = Option.none) : F.fx p = Option.none ∧ F.nt p = Option.none := by
  constructor
  · exact i.fx.free h
  · cases q : F.nt p with
    | none => rfl
    | some d => obtain ⟨kvs, e, _⟩ := i.nt p d q; rw [h] at e; cases e
theorem Ext.add {F : Fr} {p : Addr} {o : HO} (h : F.fx p = none) : Ext F (F.add p o) := ⟨Same.updNew h, fun _ _ e => e⟩
theorem Grow.lay {G : Gx} {F : Fr} {H : Hp} (i : F.In G H) {p : Addr} {o : HO} (h : H p = none) : Grow G F H (F.add p o) (upd H p o) where
  ext := Ext.add (i.free h).1
  same := Same.updNew h
  newF := fun a u e => by
    by_cases q : a = p
    · subst q; exact .inr h
    · left; have : (upd F.fx p o) a = some u := e; rw [upd_ne q] at this; exact this
  newN := fun a d e => .inl e
  inn := {
    fx := fun a u e => by
      by_cases q : a = p
      · subst q; have e' : upd F.fx a o a = some u := e; rw [upd_same] at e'; rw [upd_same]; exact e'
      · have e' : upd F.fx p o a = some u := e; rw [upd_ne q] at e'; rw [upd_ne q]; exact i.fx _ _ e'
    nt := fun a d e => by
      have e' : F.nt a = some d := e
      obtain ⟨kvs, h1, h2⟩ := i.nt a d e'
      refine ⟨kvs, by rw [upd_ne (ne_of_none h1 h)]; exact h1, fun k v hk => ?_⟩
      obtain ⟨nm, r, e1, e2, e3⟩ := h2 k v hk
      exact ⟨nm, r, e1, e2, Rep.ext (Ext.add (i.free h).1) r v e3⟩ }
/-- a new object that is not kept in mind -/
theorem Grow.drop {G : Gx} {F : Fr} {H : Hp} (i : F.In G H) {p : Addr} {o : HO} (h : H p = none) : Grow G F H F (upd H p o) where
  ext := Ext.refl F
  same := Same.updNew h
  newF := fun a u e => .inl e
  newN := fun a d e => .inl e
  inn := ⟨fun a u e => by rw [upd_ne (ne_of_none (i.fx _ _ e) h)]; exact i.fx _ _ e, fun a d e => by
    obtain ⟨kvs, h1, h2⟩ := i.nt a d e
    exact ⟨kvs, by rw [upd_ne (ne_of_none h1 h)]; exact h1, h2⟩⟩
theorem Rep.add_tup {G : Gx} {F : Fr} {p : Addr} {ds : List D} {xs : List V} (h : F.fx p = none) (r : RepL G F ds xs) : Rep G (F.add p (.tup xs)) (.tup ds) (.ref p) :=
  ⟨p, xs, rfl, SqT.of (by show upd F.fx p (.tup xs) p = _; exact upd_same), RepL.ext (Ext.add h) _ _ r⟩
theorem Rep.add_lst {G : Gx} {F : Fr} {p : Addr} {ds : List D} {xs : List V} (h : F.fx p = none) (r : RepL G F ds xs) : Rep G (F.add p (.lst xs)) (.lst ds) (.ref p) :=
  ⟨p, xs, rfl, (by show upd F.fx p (.lst xs) p = _; exact upd_same), RepL.ext (Ext.add h) _ _ r⟩

/-! ### things that one place owns -/
inductive Mode where
  | frz | own | io | own2 | io2
  deriving DecidableEq, Inhabited
def Mode.lvl : Mode → Nat
  | .frz => 0
  | .own => 1
  | .io => 1
  | .own2 => 2
  | .io2 => 2
def Mode.isIo : Mode → Bool
  | .io => true
  | .io2 => true
  | _ => false
def Node (G : Gx) (F : Fr) (H : Hp) (a : Addr) (fp : List Addr) : D → Prop
  | .lst ds => fp = [a] ∧ ∃ xs, H a = some (.lst xs) ∧ RepL G F ds xs
  | .dK kvs => fp = [a] ∧ ∃ ks, H a = some (.dK ks) ∧ RepK G F kvs ks
  | .dN kvs => fp = [a] ∧ ∃ es, H a = some (dnO G.P G.w a es) ∧ RepN G F kvs es
  | .obj cn fs => ∃ C dx gs, fp = [a, dx] ∧ H a = some (.ins C dx gs) ∧ H dx = some (.own a) ∧ G.mg cn = some (.ref C) ∧ RepF G F fs gs
  | _ => False
def Nodes (G : Gx) (F : Fr) (H : Hp) : List D → List Addr → Prop
  | [], as => as = []
  | d :: ds, as => ∃ b bs, as = b :: bs ∧ (∃ es xs, d = .lst es ∧ H b = some (.lst xs) ∧ RepL G F es xs) ∧ Nodes G F H ds bs
def Own (G : Gx) (F : Fr) (H : Hp) : Nat → D → V → List Addr → Prop
  | 0, d, v, fp => Rep G F d v ∧ fp = []
  | 1, d, v, fp => ∃ a, v = .ref a ∧ Node G F H a fp d
  | _, d, v, fp => ∃ a as ds, v = .ref a ∧ d = .lst ds ∧ fp = a :: as ∧ as.Nodup ∧ a ∉ as ∧ H a = some (.lst (as.map V.ref)) ∧ Nodes G F H ds as
theorem Nodes.keep {G : Gx} {F F' : Fr} {H H' : Hp} (x : Ext F F') : ∀ {ds : List D} {as : List Addr}, (∀ b ∈ as, H' b = H b) → Nodes G F H ds as → Nodes G F' H' ds as
  | [], _, _, h => h
  | d :: ds, _, k, h => by
    obtain ⟨b, bs, rfl, ⟨es, xs, e1, e2, e3⟩, r⟩ := h
    exact ⟨b, bs, rfl, ⟨es, xs, e1, by rw [k b (by simp)]; exact e2, RepL.ext x _ _ e3⟩, Nodes.keep x (fun c hc => k c (by simp [hc])) r⟩
theorem Nodes.alloc {G : Gx} {F : Fr} {H : Hp} : ∀ {ds : List D} {as : List Addr}, Nodes G F H ds as → ∀ b ∈ as, H b ≠ none
  | [], _, h => by cases h; simp
  | d :: ds, _, h => by
    obtain ⟨b, bs, rfl, ⟨es, xs, e1, e2, e3⟩, r⟩ := h
    intro c hc
    rcases List.mem_cons.mp hc with rfl | hc
    · rw [e2]; simp
    · exact Nodes.alloc r c hc
theorem Own.keep {G : Gx} {F F' : Fr} {H H' : Hp} (x : Ext F F') : ∀ {n : Nat} {d : D} {v : V} {fp : List Addr}, (∀ b ∈ fp, H' b = H b) → Own G F H n d v fp → Own G F' H' n d v fp
  | 0, d, v, fp, _, h => ⟨Rep.ext x _ _ h.1, h.2⟩
  | 1, d, v, fp, k, h => by
    obtain ⟨a, rfl, h⟩ := h
    refine ⟨a, rfl, ?_⟩
    cases d with
    | lst ds => obtain ⟨rfl, xs, h1, h2⟩ := h; exact ⟨rfl, xs, by rw [k a (by simp)]; exact h1, RepL.ext x _ _ h2⟩
    | dK ds => obtain ⟨rfl, xs, h1, h2⟩ := h; exact ⟨rfl, xs, by rw [k a (by simp)]; exact h1, RepK.ext x _ _ h2⟩
    | dN ds => obtain ⟨rfl, xs, h1, h2⟩ := h; exact ⟨rfl, xs, by rw [k a (by simp)]; exact h1, RepN.ext x _ _ h2⟩
    | obj cn fs => obtain ⟨C, dx, gs, rfl, h1, h2, h3, h4⟩ := h; exact ⟨C, dx, gs, rfl, by rw [k a (by simp)]; exact h1, by rw [k dx (by simp)]; exact h2, h3, RepF.ext x _ _ h4⟩
    | _ => exact h.elim
  | n + 2, d, v, fp, k, h => by
    obtain ⟨a, as, ds, rfl, rfl, rfl, h1, h2, h3, h4⟩ := h
    exact ⟨a, as, ds, rfl, rfl, rfl, h1, h2, by rw [k a (by simp)]; exact h3, Nodes.keep x (fun b hb => k b (by simp [hb])) h4⟩
theorem Own.alloc {G : Gx} {F : Fr} {H : Hp} : ∀ {n : Nat} {d : D} {v : V} {fp : List Addr}, Own G F H n d v fp → ∀ b ∈ fp, H b ≠ none
  | 0, d, v, fp, h => by obtain ⟨_, rfl⟩ := h; simp
  | 1, d, v, fp, h => by
    obtain ⟨a, rfl, h⟩ := h
    cases d with
    | lst ds => obtain ⟨rfl, xs, h1, h2⟩ := h; simp [h1]
    | dK ds => obtain ⟨rfl, xs, h1, h2⟩ := h; simp [h1]
    | dN ds => obtain ⟨rfl, xs, h1, h2⟩ := h; simp [h1]
    | obj cn fs => obtain ⟨C, dx, gs, rfl, h1, h2, h3, h4⟩ := h; simp [h1, h2]
    | _ => exact h.elim
  | n + 2, d, v, fp, h => by
    obtain ⟨a, as, ds, rfl, rfl, rfl, h1, h2, h3, h4⟩ := h
    intro b hb
    rcases List.mem_cons.mp hb with rfl | hb
    · simp [h3]
    · exact Nodes.alloc h4 b hb

/-! ### the state of a frame -/
abbrev Env := List (Option D)
structure St (G : Gx) (m : Nat → Mode) (F : Fr) (H : Hp) (σ : L2.St) (ρ : Env) (fp : Nat → List Addr) : Prop where
  inn : F.In G H
  len : ρ.length = σ.length
  slot : ∀ i d, ρ[i]? = some (some d) → ∃ v, σ[i]? = some (some v) ∧ Own G F H (m i).lvl d v (fp i)
  dead : ∀ i, (∀ d, ρ[i]? ≠ some (some d)) → fp i = []
  sep : ∀ i j a, a ∈ fp i → a ∈ fp j → i = j
  own : ∀ i a, a ∈ fp i → F.fx a = none ∧ F.nt a = none
structure Step (G : Gx) (F : Fr) (H : Hp) (fp : Nat → List Addr) (F' : Fr) (H' : Hp) (fp' : Nat → List Addr) : Prop where
  ext : Ext F F'
  newF : ∀ a o, F'.fx a = some o → F.fx a = some o ∨ H a = none ∨ ∃ i, a ∈ fp i
  newN : ∀ a d, F'.nt a = some d → F.nt a = some d ∨ H a = none ∨ ∃ i, a ∈ fp i
  fpn : ∀ i a, a ∈ fp' i → (∃ j, a ∈ fp j) ∨ H a = none
  frm : ∀ a o, H a = some o → F.nt a = none → (∀ i, a ∉ fp i) → H' a = some o
  live : ∀ a, H' a = none → H a = none
section
variable {G : Gx} {m : Nat → Mode} {F F1 F2 F' : Fr} {H H1 H2 H' : Hp} {σ : L2.St} {ρ : Env} {fp fp1 fp2 fp' : Nat → List Addr}
theorem Step.refl : Step G F H fp F H fp := ⟨Ext.refl F, fun _ _ h => .inl h, fun _ _ h => .inl h, fun _ _ h => .inl ⟨_, h⟩, fun _ _ h _ _ => h, fun _ h => h⟩
theorem St.alloc (s : St G m F H σ ρ fp) {i : Nat} {a : Addr} (h : a ∈ fp i) : H a ≠ none := by
  by_cases e : ∃ d, ρ[i]? = Option.some (Option.some d)
  · obtain ⟨d, e⟩ := e
    obtain ⟨v, _, o⟩ := s.slot i d e
    exact o.alloc a h
  · have := s.dead i fun d q => e ⟨d, q⟩
    rw [this] at h; cases h
theorem Step.trans (a : Step G F H fp F1 H1 fp1) (b : Step G F1 H1 fp1 F2 H2 fp2) (i1 : F.In G H) (s1 : ∀ i x, x ∈ fp1 i → F1.nt x = none) : Step G F H fp F2 H2 fp2 where
  ext := a.ext.trans b.ext
  newF := fun x o h => by
    rcases b.newF x o h with h | h | ⟨i, h⟩
    · exact a.newF x o h
    · exact .inr (.inl (a.live x h))
    · rcases a.fpn i x h with h | h
      · exact .inr (.inr h)
      · exact .inr (.inl h)
  newN := fun x o h => by
    rcases b.newN x o h with h | h | ⟨i, h⟩
    · exact a.newN x o h
    · exact .inr (.inl (a.live x h))
    · rcases a.fpn i x h with h | h
      · exact .inr (.inr h)
      · exact .inr (.inl h)
  fpn := fun i x h => by
    rcases b.fpn i x h with ⟨j, h⟩ | h
    · exact a.fpn j x h
    · exact .inr (a.live x h)
  frm := fun x o h hn hf => by
    have h1 := a.frm x o h hn hf
    refine b.frm x o h1 ?_ fun i hi => ?_
    · cases q : F1.nt x with
      | none => rfl
      | some d =>
        rcases a.newN x d q with z | z | ⟨i, z⟩
        · rw [hn] at z; cases z
        · rw [h] at z; cases z
        · exact absurd z (hf i)
    · rcases a.fpn i x hi with ⟨j, z⟩ | z
      · exact hf j z
      · rw [h] at z; cases z
  live := fun x h => a.live x (b.live x h)
theorem Step.comp (a : Step G F H fp F1 H1 fp1) (s : St G m F H σ ρ fp) {m1 : Nat → Mode} {σ1 : L2.St} {ρ1 : Env} (s1 : St G m1 F1 H1 σ1 ρ1 fp1) (b : Step G F1 H1 fp1 F2 H2 fp2) : Step G F H fp F2 H2 fp2 :=
  a.trans b s.inn fun i x h => (s1.own i x h).2
theorem Grow.step (g : Grow G F H F' H') : Step G F H fp F' H' fp where
  ext := g.ext
  newF := fun a o h => (g.newF a o h).imp id .inl
  newN := fun a o h => (g.newN a o h).imp id .inl
  fpn := fun _ _ h => .inl ⟨_, h⟩
  frm := fun a o h _ _ => g.same a o h
  live := fun a h => g.same.free h
theorem St.grow (s : St G m F H σ ρ fp) (g : Grow G F H F' H') : St G m F' H' σ ρ fp where
  inn := g.inn
  len := s.len
  slot := fun i d e => by
    obtain ⟨v, h1, h2⟩ := s.slot i d e
    refine ⟨v, h1, h2.keep g.ext fun b hb => ?_⟩
    cases q : H b with
    | none => exact absurd q (h2.alloc b hb)
    | some o => exact g.same b o q
  dead := s.dead
  sep := s.sep
  own := fun i a h => by
    obtain ⟨h1, h2⟩ := s.own i a h
    have ha := s.alloc h
    constructor
    · cases q : F'.fx a with
      | none => rfl
      | some o => rcases g.newF a o q with z | z; rw [h1] at z; cases z; exact absurd z ha
    · cases q : F'.nt a with
      | none => rfl
      | some o => rcases g.newN a o q with z | z; rw [h2] at z; cases z; exact absurd z ha
end
end Dn

/-! Dn2: what a frame's code does to plain data: results, the judgements, expressions. -/
namespace Dn
open PySem PySem.Spec PyProof.Rows L2

/-- an exception: its class's name, its fields -/
structure Ex where
  cn : Str
  fs : List (Str × D)
inductive ER (α : Type) where
  | ok (a : α) (ρ : Env) | exc (e : Ex) (ρ : Env) | bad
def ER.bind {α β : Type} : ER α → (α → Env → ER β) → ER β
  | .ok a ρ, k => k a ρ
  | .exc e ρ, _ => .exc e ρ
  | .bad, _ => .bad
abbrev ED := Env → ER D
abbrev BD := Env → ER Bool
abbrev AD := Env → ER (List D)
@[simp] theorem bind_ok {α β : Type} (a : α) (ρ : Env) (k : α → Env → ER β) : (ER.ok a ρ).bind k = k a ρ := rfl
@[simp] theorem bind_exc {α β : Type} (e : Ex) (ρ : Env) (k : α → Env → ER β) : (ER.exc e ρ).bind k = .exc e ρ := rfl
@[simp] theorem bind_bad {α β : Type} (k : α → Env → ER β) : (ER.bad : ER α).bind k = .bad := rfl
/-- a value that may be lacking -/
def opt {α : Type} (o : Option α) (ρ : Env) : ER α := match o with
  | some a => .ok a ρ
  | none => .bad
@[simp] theorem opt_some {α : Type} (a : α) (ρ : Env) : opt (some a) ρ = .ok a ρ := rfl
@[simp] theorem opt_none {α : Type} (ρ : Env) : opt (none : Option α) ρ = .bad := rfl

def ExIs (G : Gx) (F : Fr) (H : Hp) (e : Ex) (c : Value) (d : Option Addr) : Prop :=
  ∃ C dx gs, G.mg e.cn = some (.ref C) ∧ c = .ref C ∧ d = some dx ∧ H dx = some (.xd gs) ∧ RepF G F e.fs gs

/-- the relation of a result: R tells how the value stands -/
abbrev RR (α β : Type) := Hp → (Nat → List Addr) → Fr → Hp → (Nat → List Addr) → L2.St → Env → α → β → Prop
class Reb {α β : Type} (G : Gx) (R : RR α β) : Prop where
  reb : ∀ {F F1 F' : Fr} {H H1 H' : Hp} {fp fp1 fp' : Nat → List Addr} {σ : L2.St} {ρ : Env} {d : α} {v : β}, Step G F H fp F1 H1 fp1 → R H1 fp1 F' H' fp' σ ρ d v → R H fp F' H' fp' σ ρ d v
def RG {α β : Type} (G : Gx) (m : Nat → Mode) (W : WX) (R : RR α β) (F : Fr) (H : Hp) (σ : L2.St) (fp : Nat → List Addr) (Q : β → Hp → Prop) : ER α → Prop
  | .ok d ρ' => ∀ v F' H' fp', Step G F H fp F' H' fp' → St G m F' H' σ ρ' fp' → R H fp F' H' fp' σ ρ' d v → Q v H'
  | .exc e ρ' => ∀ c dd F' H' fp', Step G F H fp F' H' fp' → St G m F' H' σ ρ' fp' → ExIs G F' H' e c dd → W c dd σ H'
  | .bad => False
def tG {α β : Type} (G : Gx) (m : Nat → Mode) (W : WX) (R : RR α β) (f : Env → ER α) : L2.St → Hp → (β → Hp → Prop) → Prop :=
  fun σ H Q => ∃ F ρ fp, St G m F H σ ρ fp ∧ RG G m W R F H σ fp Q (f ρ)
abbrev RD (G : Gx) : RR D V := fun _ _ F _ _ _ _ d v => Rep G F d v
abbrev RB : RR Bool Bool := fun _ _ _ _ _ _ _ b c => b = c
instance (G : Gx) : Reb G (RD G) := ⟨fun _ h => h⟩
instance (G : Gx) : Reb G RB := ⟨fun _ h => h⟩
abbrev tD (G : Gx) (m : Nat → Mode) (W : WX) (f : ED) : TE := tG G m W (RD G) f
abbrev tB (G : Gx) (m : Nat → Mode) (W : WX) (f : BD) : TT := tG G m W RB f
section
variable {α β γ δ : Type} {G : Gx} {m : Nat → Mode} {W : WX} {R : RR α β} {R' : RR γ δ} {F F1 : Fr} {H H1 : Hp} {σ : L2.St} {ρ ρ1 : Env} {fp fp1 : Nat → List Addr}
theorem RG.mono {Q Q' : β → Hp → Prop} {x : ER α} (h : RG G m W R F H σ fp Q x) (hq : ∀ v H', Q v H' → Q' v H') : RG G m W R F H σ fp Q' x := by
  cases x with
  | ok d ρ' => exact fun v F' H' fp' a b c => hq _ _ (h v F' H' fp' a b c)
  | exc e ρ' => exact h
  | bad => exact h
theorem RG.rebase [Reb G R] {Q : β → Hp → Prop} {x : ER α} (s : St G m F H σ ρ fp) (p : Step G F H fp F1 H1 fp1) (s1 : St G m F1 H1 σ ρ1 fp1) (h : RG G m W R F H σ fp Q x) : RG G m W R F1 H1 σ fp1 Q x := by
  cases x with
  | ok d ρ' => exact fun v F' H' fp' a b c => h v F' H' fp' (p.comp s s1 a) b (Reb.reb p c)
  | exc e ρ' => exact fun v d' F' H' fp' a b c => h v d' F' H' fp' (p.comp s s1 a) b c
  | bad => exact h
theorem RG.bind [Reb G R'] {Q : δ → Hp → Prop} {x : ER α} {k : α → Env → ER γ} (s : St G m F H σ ρ fp) (h : RG G m W R' F H σ fp Q (x.bind k)) :
    RG G m W R F H σ fp (fun v H1 => ∃ F1 ρ1 fp1 a, Step G F H fp F1 H1 fp1 ∧ St G m F1 H1 σ ρ1 fp1 ∧ R H fp F1 H1 fp1 σ ρ1 a v ∧ RG G m W R' F1 H1 σ fp1 Q (k a ρ1)) x := by
  cases x with
  | ok d ρ' => exact fun v F' H' fp' a b c => ⟨F', ρ', fp', d, a, b, c, h.rebase s a b⟩
  | exc e ρ' => exact h
  | bad => exact h
end
/-- a value is taken on -/
theorem RG.okG {G : Gx} {m : Nat → Mode} {W : WX} {F F' : Fr} {H H' : Hp} {σ : L2.St} {ρ : Env} {fp : Nat → List Addr} {Q : VK} {d : D} {v : V} (s : St G m F H σ ρ fp)
    (h : RG G m W (RD G) F H σ fp Q (.ok d ρ)) (g : Grow G F H F' H') (r : Rep G F' d v) : Q v H' := h v F' H' fp g.step (s.grow g) r

/-! ### the context -/
structure Ctx (G : Gx) (X : Cx) (W : WX) (k : Nat) : Prop where
  P : X.prog = G.P
  w : X.w = G.w
  K : X.K = G.K
  mg : X.mg = G.mg
  base : X.base = G.base
  nd : X.N.Nodup
  calm : X.calm = true
  room : Room k X.A
  po : PassesOwn (model X.prog X.w) X.A X.env X.xe
  tk : Takes X W
def DE (G : Gx) (X : Cx) (m : Nat → Mode) (W : WX) (k : Nat) (e : Expr) (f : ED) : Prop := Ctx G X W k → PE X e (tD G m W f)
def DT (G : Gx) (X : Cx) (m : Nat → Mode) (W : WX) (k : Nat) (e : Expr) (f : BD) : Prop := Ctx G X W k → PT X e (tB G m W f)
def DW (G : Gx) (X : Cx) (m : Nat → Mode) (W : WX) (k : Nat) (e : Expr) (f : BD) : Prop := Ctx G X W k → PW X e (tB G m W f)
theorem PEmono {X : Cx} {e : Expr} {t t' : TE} (h : PE X e t) (hq : ∀ σ H Q, t' σ H Q → t σ H Q) : PE X e t' := ⟨fun pins s σ H Q I q => h.run pins s σ H Q I (hq σ H Q q)⟩
theorem PTmono {X : Cx} {e : Expr} {t t' : TT} (h : PT X e t) (hq : ∀ σ H Q, t' σ H Q → t σ H Q) : PT X e t' := ⟨fun pins s σ H Q I q => h.run pins s σ H Q I (hq σ H Q q)⟩
theorem PWmono {X : Cx} {e : Expr} {t t' : TT} (h : PW X e t) (hq : ∀ σ H Q, t' σ H Q → t σ H Q) : PW X e t' := ⟨fun wh pins s σ H Q I q => h.run wh pins s σ H Q I (hq σ H Q q)⟩
theorem PAmono {X : Cx} {e : List Expr} {t t' : TA} (h : PA X e t) (hq : ∀ σ H Q, t' σ H Q → t σ H Q) : PA X e t' := ⟨fun p pins s σ H Q I q => h.run p pins s σ H Q I (hq σ H Q q)⟩
theorem PSmono {X : Cx} {e : Stmt} {t t' : TS} (h : PS X e t) (hq : ∀ D σ H, t' D σ H → t D σ H) : PS X e t' := ⟨fun pins s σ H D I q => h.run pins s σ H D I (hq D σ H q)⟩
theorem PSsmono {X : Cx} {e : List Stmt} {t t' : TS} (h : PSs X e t) (hq : ∀ D σ H, t' D σ H → t D σ H) : PSs X e t' := ⟨fun pins s σ H D I q => h.run pins s σ H D I (hq D σ H q)⟩

/-! ### names and constants -/
def eVar (i : Nat) : ED := fun ρ => opt (ρ[i]?.join) ρ
def eC (d : D) : ED := fun ρ => .ok d ρ
theorem join_some {ρ : Env} {i : Nat} {d : D} (h : ρ[i]?.join = some d) : ρ[i]? = some (some d) := by
  cases q : ρ[i]? with
  | none => rw [q] at h; cases h
  | some o => rw [q] at h; simp at h; rw [h]
section
variable {G : Gx} {X : Cx} {m : Nat → Mode} {W : WX} {k : Nat}
theorem tD_const {d : D} {v : V} (hr : ∀ F, Rep G F d v) {σ : L2.St} {H : Hp} {Q : VK} (h : tD G m W (eC d) σ H Q) : Q v H := by
  obtain ⟨F, ρ, fp, s, h⟩ := h
  exact h v F H fp Step.refl s (hr F)
theorem de_int {i j pos} : DE G X m W k (.Constant (.int i) j pos) (eC (.int i)) := fun _ => PEmono pe_int fun σ H Q h => tD_const (fun F => by simp [Rep]) h
theorem de_bl {b j pos} : DE G X m W k (.Constant (.bool b) j pos) (eC (.bl b)) := fun _ => PEmono pe_bl fun σ H Q h => tD_const (fun F => by simp [Rep]) h
theorem de_non {j pos} : DE G X m W k (.Constant .none j pos) (eC .non) := fun _ => PEmono pe_non fun σ H Q h => tD_const (fun F => by simp [Rep]) h
theorem de_str {x j pos} : DE G X m W k (.Constant (.str x) j pos) (eC (.str x)) := fun _ => PEmono pe_str fun σ H Q h => tD_const (fun F => by simp [Rep]) h
theorem de_var (i : Nat) {x : Str} {pos : Pos} (hm : m i = .frz := by rfl) (hN : X.N[i]? = some x := by rfl) (hv : Vis X.env.scope x := by first | exact Or.inl rfl | exact Or.inr (Or.inl rfl) | exact Or.inr (Or.inr rfl)) (hd : (x == ("__debug__" : Str)) = false := by decide)
    (hcd : (x == ("__classdict__" : Str)) = false := by decide) : DE G X m W k (.Name x pos) (eVar i) := fun _ => PEmono (pe_var hN hv hd hcd) fun σ H Q h => by
  obtain ⟨F, ρ, fp, s, h⟩ := h
  unfold eVar at h
  cases q : ρ[i]?.join with
  | none => rw [q] at h; exact h.elim
  | some d =>
    rw [q] at h
    obtain ⟨v, h1, h2⟩ := s.slot i d (join_some q)
    rw [hm] at h2
    exact ⟨v, h1, h v F H fp Step.refl s h2.1⟩

/-! ### operators -/
def eBin (g : D → D → Option D) (fa fb : ED) : ED := fun ρ => (fa ρ).bind fun x ρ1 => (fb ρ1).bind fun y ρ2 => opt (g x y) ρ2
def eUn (g : D → Option D) (fa : ED) : ED := fun ρ => (fa ρ).bind fun x ρ1 => opt (g x) ρ1
/-- a rule of two values, on plain data -/
def VS2 (G : Gx) (r : R2) (g : D → D → Option D) : Prop :=
  ∀ F H x y d1 d2 d Q, F.In G H → Rep G F d1 x → Rep G F d2 y → g d1 d2 = some d → (∀ v F' H', Grow G F H F' H' → Rep G F' d v → Q v H') → r x y H Q
def VS1 (G : Gx) (r : V → Hp → VK → Prop) (g : D → Option D) : Prop :=
  ∀ F H x d1 d Q, F.In G H → Rep G F d1 x → g d1 = some d → (∀ v F' H', Grow G F H F' H' → Rep G F' d v → Q v H') → r x H Q
theorem tOp_bin {r : R2} {g : D → D → Option D} (hr : VS2 G r g) {fa fb : ED} {σ : L2.St} {H : Hp} {Q : VK} (h : tD G m W (eBin g fa fb) σ H Q) : tOp r (tD G m W fa) (tD G m W fb) σ H Q := by
  obtain ⟨F, ρ, fp, s, h⟩ := h
  refine ⟨F, ρ, fp, s, (RG.bind (R := RD G) s h).mono fun x H1 ⟨F1, ρ1, fp1, d1, p1, s1, r1, h1⟩ => ?_⟩
  refine ⟨F1, ρ1, fp1, s1, (RG.bind (R := RD G) s1 h1).mono fun y H2 ⟨F2, ρ2, fp2, d2, p2, s2, r2, h2⟩ => ?_⟩
  cases q : g d1 d2 with
  | none => rw [q] at h2; exact h2.elim
  | some d =>
    rw [q] at h2
    exact hr F2 H2 x y d1 d2 d Q s2.inn (Rep.ext p2.ext _ _ r1) r2 q fun v F' H' gr rv => RG.okG s2 h2 gr rv
theorem tUn_un {r : V → Hp → VK → Prop} {g : D → Option D} (hr : VS1 G r g) {fa : ED} {σ : L2.St} {H : Hp} {Q : VK} (h : tD G m W (eUn g fa) σ H Q) : tD G m W fa σ H fun x H1 => r x H1 Q := by
  obtain ⟨F, ρ, fp, s, h⟩ := h
  refine ⟨F, ρ, fp, s, (RG.bind (R := RD G) s h).mono fun x H1 ⟨F1, ρ1, fp1, d1, p1, s1, r1, h1⟩ => ?_⟩
  cases q : g d1 with
  | none => rw [q] at h1; exact h1.elim
  | some d =>
    rw [q] at h1
    exact hr F1 H1 x d1 d Q s1.inn r1 q fun v F' H' gr rv => RG.okG s1 h1 gr rv
variable {a b c : Expr} {fa fb fc : ED} {pos : Pos} {op : Operator} {r : R2} {g : D → D → Option D}
theorem de_op (ho : ∀ {X : Cx}, Ctx G X W k → OpR X (binaryOp op) r) (hr : VS2 G r g) (ha : DE G X m W k a fa) (hb : DE G X m W k b fb) : DE G X m W k (.BinOp a op b pos) (eBin g fa fb) := fun c =>
  PEmono (pe_op (ho c) (ha c) (hb c)) fun _ _ _ h => tOp_bin hr h
theorem de_cmp {op : CmpOp} (ho : ∀ {X : Cx}, Ctx G X W k → OpR X (compareOp op) r) (hr : VS2 G r g) (ha : DE G X m W k a fa) (hb : DE G X m W k b fb) (hm : behindInMarks op b = false := by first | exact nomark _ | with_unfolding_all rfl) : DE G X m W k (.Compare a [op] [b] pos) (eBin g fa fb) := fun c =>
  PEmono (pe_cmpR (ho c) (ha c) (hb c) hm) fun _ _ _ h => tOp_bin hr h
/-- a value as a test -/
def bOf (f : ED) : BD := fun ρ => (f ρ).bind fun x ρ1 => match x with
  | .bl b => .ok b ρ1
  | _ => .bad
theorem tTest_of {f : ED} {t : TE} (ht : ∀ σ H Q, tD G m W f σ H Q → t σ H Q) {σ : L2.St} {H : Hp} {Q : Bool → Hp → Prop} (h : tB G m W (bOf f) σ H Q) : tTest t σ H Q := by
  refine ht σ H _ ?_
  obtain ⟨F, ρ, fp, s, h⟩ := h
  refine ⟨F, ρ, fp, s, (RG.bind (R := RD G) s h).mono fun x H1 ⟨F1, ρ1, fp1, d1, p1, s1, r1, h1⟩ => ?_⟩
  cases d1 with
  | bl b => exact ⟨b, r1, h1 b F1 H1 fp1 Step.refl s1 rfl⟩
  | _ => exact h1.elim
theorem dt_cmp {op : CmpOp} (ho : ∀ {X : Cx}, Ctx G X W k → OpR X (compareOp op) r) (hr : VS2 G r g) (ha : DE G X m W k a fa) (hb : DE G X m W k b fb) (hm : behindInMarks op b = false := by first | exact nomark _ | with_unfolding_all rfl) : DT G X m W k (.Compare a [op] [b] pos) (bOf (eBin g fa fb)) := fun c =>
  PTmono (pt_cmpR (ho c) (ha c) (hb c) hm) fun _ _ _ h => tTest_of (fun _ _ _ h => tOp_bin hr h) h
/-- a op1 b op2 c -/
def eChain (g g' : D → D → Option D) (fa fb fc : ED) : ED := fun ρ => (fa ρ).bind fun x ρ1 => (fb ρ1).bind fun y ρ2 => match g x y with
  | some (.bl true) => (fc ρ2).bind fun z ρ3 => opt (g' y z) ρ3
  | some (.bl false) => .ok (.bl false) ρ2
  | _ => .bad
theorem tChain_of {r r' : R2} {g g' : D → D → Option D} (hr : VS2 G r g) (hr' : VS2 G r' g') {σ : L2.St} {H : Hp} {Q : VK} (h : tD G m W (eChain g g' fa fb fc) σ H Q) : tChain r r' (tD G m W fa) (tD G m W fb) (tD G m W fc) σ H Q := by
  obtain ⟨F, ρ, fp, s, h⟩ := h
  refine ⟨F, ρ, fp, s, (RG.bind (R := RD G) s h).mono fun x H1 ⟨F1, ρ1, fp1, d1, p1, s1, r1, h1⟩ => ?_⟩
  refine ⟨F1, ρ1, fp1, s1, (RG.bind (R := RD G) s1 h1).mono fun y H2 ⟨F2, ρ2, fp2, d2, p2, s2, r2, h2⟩ => ?_⟩
  cases q : g d1 d2 with
  | none => rw [q] at h2; exact h2.elim
  | some d =>
    rw [q] at h2
    refine hr F2 H2 x y d1 d2 d _ s2.inn (Rep.ext p2.ext _ _ r1) r2 q fun v F' H' gr rv => ?_
    have s2' := s2.grow gr
    cases d with
    | bl b =>
      cases rv
      refine ⟨b, rfl, ?_⟩
      cases b with
      | false => exact h2 _ F' H' fp2 gr.step s2' (by simp [Rep])
      | true =>
        simp only [if_true]
        have h2' := RG.rebase s2 gr.step s2' h2
        refine ⟨F', ρ2, fp2, s2', (RG.bind (R := RD G) s2' h2').mono fun z H3 ⟨F3, ρ3, fp3, d3, p3, s3, r3, h3⟩ => ?_⟩
        cases q' : g' d2 d3 with
        | none => rw [q'] at h3; exact h3.elim
        | some d' =>
          rw [q'] at h3
          exact hr' F3 H3 y z d2 d3 d' Q s3.inn (Rep.ext p3.ext _ _ (Rep.ext gr.ext _ _ r2)) r3 q' fun v F'' H'' gr' rv' => RG.okG s3 h3 gr' rv'
    | _ => exact h2.elim
theorem de_chain {op op' : CmpOp} {r r' : R2} {g g' : D → D → Option D} (ho : ∀ {X : Cx}, Ctx G X W k → OpR X (compareOp op) r) (hr : VS2 G r g) (ho' : ∀ {X : Cx}, Ctx G X W k → OpR X (compareOp op') r') (hr' : VS2 G r' g') (ha : DE G X m W k a fa) (hb : DE G X m W k b fb) (hc : DE G X m W k c fc)
    (hm : lastMarks [op, op'] [b, c] = false := by with_unfolding_all rfl) : DE G X m W k (.Compare a [op, op'] [b, c] pos) (eChain g g' fa fb fc) := fun x =>
  PEmono (pe_chain (ho x) (ho' x) (ha x) (hb x) (hc x) hm) fun _ _ _ h => tChain_of hr hr' h
theorem dt_chain {op op' : CmpOp} {r r' : R2} {g g' : D → D → Option D} (ho : ∀ {X : Cx}, Ctx G X W k → OpR X (compareOp op) r) (hr : VS2 G r g) (ho' : ∀ {X : Cx}, Ctx G X W k → OpR X (compareOp op') r') (hr' : VS2 G r' g') (ha : DE G X m W k a fa) (hb : DE G X m W k b fb) (hc : DE G X m W k c fc)
    (hm : lastMarks [op, op'] [b, c] = false := by with_unfolding_all rfl) : DT G X m W k (.Compare a [op, op'] [b, c] pos) (bOf (eChain g g' fa fb fc)) := fun x =>
  PTmono (pt_chain (ho x) (ho' x) (ha x) (hb x) (hc x) hm) fun _ _ _ h => tTest_of (fun _ _ _ h => tChain_of hr hr' h) h

/-! ### truth -/
def dTru : D → Option Bool
  | .non => some false
  | .bl b => some b
  | .int i => some (i != 0)
  | .str s => if s.length ≤ sizeLine then some ((s.length : Int) != 0) else none
  | .tup ds => some (!ds.isEmpty)
  | .lst ds => some (!ds.isEmpty)
  | .scr ds => some (!ds.isEmpty)
  | .dK ds => some (!ds.isEmpty)
  | _ => none
def bTru (f : ED) : BD := fun ρ => (f ρ).bind fun x ρ1 => opt (dTru x) ρ1
theorem RepL.isEmpty {F : Fr} : ∀ {ds : List D} {xs : List V}, RepL G F ds xs → xs.isEmpty = ds.isEmpty
  | [], _, h => by cases h; rfl
  | d :: ds, _, h => by obtain ⟨y, ys, rfl, _⟩ := h; rfl
theorem RepK.isEmpty {F : Fr} : ∀ {ds : List (Key × D)} {xs : List (Key × V)}, RepK G F ds xs → xs.isEmpty = ds.isEmpty
  | [], _, h => by cases h; rfl
  | (k, d) :: ds, _, h => by obtain ⟨y, ys, rfl, _⟩ := h; rfl
theorem tru_rep {F : Fr} {H : Hp} {d : D} {x : V} {b : Bool} (i : F.In G H) (r : Rep G F d x) (h : dTru d = some b) : TruV G.K x H b := by
  cases d with
  | non => cases r; cases h; rfl
  | bl c => cases r; cases h; rfl
  | int c => cases r; cases h; rfl
  | str s =>
    cases r
    simp only [dTru] at h
    split at h
    · cases h; rename_i hz; exact ⟨hz, rfl⟩
    · cases h
  | tup ds => obtain ⟨a, xs, rfl, h1, h2⟩ := r; cases h; exact .inr (.inl ⟨xs, i.seqT h1, by rw [h2.isEmpty]⟩)
  | lst ds => obtain ⟨a, xs, rfl, h1, h2⟩ := r; cases h; exact .inl ⟨xs, SqL.of (i.fx _ _ h1), by rw [h2.isEmpty]⟩
  | scr ds => obtain ⟨a, rfl, h1⟩ := r; cases h; exact .inl ⟨_, i.seqL h1, by cases ds <;> rfl⟩
  | dK ds => obtain ⟨a, xs, rfl, h1, h2⟩ := r; cases h; exact .inr (.inr ⟨xs, i.fx _ _ h1, by rw [h2.isEmpty]⟩)
  | _ => cases h
theorem dt_tru {e : Expr} {f : ED} (he : DE G X m W k e f) (hw : ∀ whole, isTrue e X.env whole = (do let v ← whole; standAt e.pos; holding [v] (truthy v)) := by intro _; rfl) : DT G X m W k e (bTru f) := fun c =>
  PTmono (pt_truth (he c) hw) fun σ H Q h => by
    obtain ⟨F, ρ, fp, s, h⟩ := h
    refine ⟨F, ρ, fp, s, (RG.bind (R := RD G) s h).mono fun x H1 ⟨F1, ρ1, fp1, d1, p1, s1, r1, h1⟩ => ?_⟩
    cases q : dTru d1 with
    | none => rw [q] at h1; exact h1.elim
    | some b =>
      rw [q] at h1
      refine ⟨b, ?_, h1 b F1 H1 fp1 Step.refl s1 rfl⟩
      rw [c.K]; exact tru_rep s1.inn r1 q

/-! ### and, or, not -/
variable {ba bb : BD} {rest : List Expr}
def bAnd (fa fb : BD) : BD := fun ρ => (fa ρ).bind fun x ρ1 => if x = true then fb ρ1 else .ok false ρ1
def bOr (fa fb : BD) : BD := fun ρ => (fa ρ).bind fun x ρ1 => if x = true then .ok true ρ1 else fb ρ1
def bNot (fa : BD) : BD := fun ρ => (fa ρ).bind fun x ρ1 => .ok (!x) ρ1
theorem dw_and1 (ha : DT G X m W k a ba) : DW G X m W k (.BoolOp .And [a] pos) ba := fun c => pw_and1 (ha c)
theorem dw_or1 (ha : DT G X m W k a ba) : DW G X m W k (.BoolOp .Or [a] pos) ba := fun c => pw_or1 (ha c)
theorem dw_and (ha : DT G X m W k a ba) (hb : DW G X m W k (.BoolOp .And (b :: rest) pos) bb) : DW G X m W k (.BoolOp .And (a :: b :: rest) pos) (bAnd ba bb) := fun c =>
  PWmono (pw_and (ha c) (hb c)) fun σ H Q h => by
    obtain ⟨F, ρ, fp, s, h⟩ := h
    refine ⟨F, ρ, fp, s, (RG.bind (R := RB) s h).mono fun x H1 ⟨F1, ρ1, fp1, d1, p1, s1, r1, h1⟩ => ?_⟩
    cases r1
    cases x with
    | true => exact ⟨F1, ρ1, fp1, s1, h1⟩
    | false => exact h1 false F1 H1 fp1 Step.refl s1 rfl
theorem dw_or (ha : DT G X m W k a ba) (hb : DW G X m W k (.BoolOp .Or (b :: rest) pos) bb) : DW G X m W k (.BoolOp .Or (a :: b :: rest) pos) (bOr ba bb) := fun c =>
  PWmono (pw_or (ha c) (hb c)) fun σ H Q h => by
    obtain ⟨F, ρ, fp, s, h⟩ := h
    refine ⟨F, ρ, fp, s, (RG.bind (R := RB) s h).mono fun x H1 ⟨F1, ρ1, fp1, d1, p1, s1, r1, h1⟩ => ?_⟩
    cases r1
    cases x with
    | false => exact ⟨F1, ρ1, fp1, s1, h1⟩
    | true => exact h1 true F1 H1 fp1 Step.refl s1 rfl
theorem dt_w {e : Expr} (h : DW G X m W k e ba) : DT G X m W k e ba := fun c => (h c).pt
theorem dt_not (ha : DT G X m W k a ba) : DT G X m W k (.UnaryOp .Not a pos) (bNot ba) := fun c =>
  PTmono (pt_not (ha c)) fun σ H Q h => by
    obtain ⟨F, ρ, fp, s, h⟩ := h
    refine ⟨F, ρ, fp, s, (RG.bind (R := RB) s h).mono fun x H1 ⟨F1, ρ1, fp1, d1, p1, s1, r1, h1⟩ => ?_⟩
    cases r1
    exact h1 _ F1 H1 fp1 Step.refl s1 rfl
/-- as values: bools -/
def asBl (x : D) (ρ : Env) (k : Bool → ER D) : ER D := match x with
  | .bl b => k b
  | _ => .bad
def eAnd (fa fb : ED) : ED := fun ρ => (fa ρ).bind fun x ρ1 => match x with
  | .bl true => fb ρ1
  | .bl false => .ok (.bl false) ρ1
  | _ => .bad
def eOr (fa fb : ED) : ED := fun ρ => (fa ρ).bind fun x ρ1 => match x with
  | .bl true => .ok (.bl true) ρ1
  | .bl false => fb ρ1
  | _ => .bad
def eNot (fa : ED) : ED := fun ρ => (fa ρ).bind fun x ρ1 => match x with
  | .bl b => .ok (.bl (!b)) ρ1
  | _ => .bad
theorem de_one {op} (h : DE G X m W k a fa) : DE G X m W k (.BoolOp op [a] pos) fa := fun c => pe_one (h c)
theorem de_and (ha : DE G X m W k a fa) (hb : DE G X m W k (.BoolOp .And (b :: rest) pos) fb) : DE G X m W k (.BoolOp .And (a :: b :: rest) pos) (eAnd fa fb) := fun c =>
  PEmono (pe_and (ha c) (hb c)) fun σ H Q h => by
    obtain ⟨F, ρ, fp, s, h⟩ := h
    refine ⟨F, ρ, fp, s, (RG.bind (R := RD G) s h).mono fun x H1 ⟨F1, ρ1, fp1, d1, p1, s1, r1, h1⟩ => ?_⟩
    cases d1 with
    | bl b =>
      cases r1
      refine ⟨b, rfl, ?_⟩
      cases b with
      | true => exact ⟨F1, ρ1, fp1, s1, h1⟩
      | false => exact h1 _ F1 H1 fp1 Step.refl s1 (by simp [Rep])
    | _ => exact h1.elim
theorem de_or (ha : DE G X m W k a fa) (hb : DE G X m W k (.BoolOp .Or (b :: rest) pos) fb) : DE G X m W k (.BoolOp .Or (a :: b :: rest) pos) (eOr fa fb) := fun c =>
  PEmono (pe_or (ha c) (hb c)) fun σ H Q h => by
    obtain ⟨F, ρ, fp, s, h⟩ := h
    refine ⟨F, ρ, fp, s, (RG.bind (R := RD G) s h).mono fun x H1 ⟨F1, ρ1, fp1, d1, p1, s1, r1, h1⟩ => ?_⟩
    cases d1 with
    | bl b =>
      cases r1
      refine ⟨b, rfl, ?_⟩
      cases b with
      | false => exact ⟨F1, ρ1, fp1, s1, h1⟩
      | true => exact h1 _ F1 H1 fp1 Step.refl s1 (by simp [Rep])
    | _ => exact h1.elim
/-- not of a test, as a value of a bool -/
theorem de_not (ha : DE G X m W k a fa) : DE G X m W k (.UnaryOp .Not a pos) (eNot fa) := fun c =>
  PEmono (pe_not (ha c)) fun σ H Q h => by
    obtain ⟨F, ρ, fp, s, h⟩ := h
    refine ⟨F, ρ, fp, s, (RG.bind (R := RD G) s h).mono fun x H1 ⟨F1, ρ1, fp1, d1, p1, s1, r1, h1⟩ => ?_⟩
    cases d1 with
    | bl b => cases r1; exact ⟨b, rfl, h1 _ F1 H1 fp1 Step.refl s1 (by simp [Rep])⟩
    | _ => exact h1.elim
def eIf (fc : BD) (fa fb : ED) : ED := fun ρ => (fc ρ).bind fun x ρ1 => if x = true then fa ρ1 else fb ρ1
theorem de_if {c : Expr} {bc : BD} (hc : DT G X m W k c bc) (ha : DE G X m W k a fa) (hb : DE G X m W k b fb) : DE G X m W k (.IfExp c a b pos) (eIf bc fa fb) := fun x =>
  PEmono (pe_ifExp (hc x) (ha x) (hb x)) fun σ H Q h => by
    obtain ⟨F, ρ, fp, s, h⟩ := h
    refine ⟨F, ρ, fp, s, (RG.bind (R := RB) s h).mono fun x H1 ⟨F1, ρ1, fp1, d1, p1, s1, r1, h1⟩ => ?_⟩
    cases r1
    cases x with
    | true => exact ⟨F1, ρ1, fp1, s1, h1⟩
    | false => exact ⟨F1, ρ1, fp1, s1, h1⟩
end
end Dn

/-! Dn3: values that one owns, arguments, calls of defs, statements. -/
namespace Dn
open PySem PySem.Spec PyProof.Rows L2

/-! ### owned values -/
def RV (G : Gx) (n : Nat) : RR D V := fun H0 fp0 F H fp _ _ d v =>
  ∃ fpv, Own G F H n d v fpv ∧ fpv.Nodup ∧ ∀ a ∈ fpv, F.fx a = none ∧ F.nt a = none ∧ (∀ i, a ∉ fp i) ∧ ((∃ j, a ∈ fp0 j) ∨ H0 a = none)
instance (G : Gx) (n : Nat) : Reb G (RV G n) := ⟨fun {F F1 F' H H1 H' fp fp1 fp' σ ρ d v} p h => by
  obtain ⟨fpv, h1, h0, h2⟩ := h
  refine ⟨fpv, h1, h0, fun a ha => ?_⟩
  obtain ⟨q1, q2, q3, q4⟩ := h2 a ha
  refine ⟨q1, q2, q3, ?_⟩
  rcases q4 with ⟨j, q⟩ | q
  · exact p.fpn j a q
  · exact .inr (p.live a q)⟩
theorem RV.zero {G : Gx} {H0 : Hp} {fp0 : Nat → List Addr} {F : Fr} {H : Hp} {fp : Nat → List Addr} {σ : L2.St} {ρ : Env} {d : D} {v : V} (h : Rep G F d v) : RV G 0 H0 fp0 F H fp σ ρ d v :=
  ⟨[], ⟨h, rfl⟩, List.nodup_nil, fun a ha => by cases ha⟩
theorem RV.rep {G : Gx} {H0 : Hp} {fp0 : Nat → List Addr} {F : Fr} {H : Hp} {fp : Nat → List Addr} {σ : L2.St} {ρ : Env} {d : D} {v : V} (h : RV G 0 H0 fp0 F H fp σ ρ d v) : Rep G F d v := by
  obtain ⟨_, h, _⟩ := h; exact h.1
/-- what is owned is frozen -/
def Fr.ice (F : Fr) (H : Hp) (fp : List Addr) : Fr := ⟨fun b => if b ∈ fp then H b else F.fx b, F.nt⟩
theorem Fr.ice_in {F : Fr} {H : Hp} {fp : List Addr} {b : Addr} (h : b ∈ fp) : (F.ice H fp).fx b = H b := if_pos h
theorem Fr.ice_out {F : Fr} {H : Hp} {fp : List Addr} {b : Addr} (h : b ∉ fp) : (F.ice H fp).fx b = F.fx b := if_neg h
theorem Fr.ice_ext {F : Fr} {H : Hp} {fp : List Addr} (h : ∀ a ∈ fp, F.fx a = none) : Ext F (F.ice H fp) :=
  ⟨fun b o e => by
    have : b ∉ fp := fun hb => by rw [h b hb] at e; cases e
    rw [Fr.ice_out this]; exact e, fun _ _ h => h⟩
theorem Nodes.ice {G : Gx} {F : Fr} {H : Hp} {fp : List Addr} (x : Ext F (F.ice H fp)) : ∀ {ds : List D} {as : List Addr}, (∀ b ∈ as, b ∈ fp) → Nodes G F H ds as → RepL G (F.ice H fp) ds (as.map V.ref)
  | [], _, _, h => by cases h; rfl
  | d :: ds, _, k, h => by
    obtain ⟨b, bs, rfl, ⟨es, xs, rfl, e2, e3⟩, r⟩ := h
    exact ⟨.ref b, bs.map V.ref, rfl, ⟨b, xs, rfl, by rw [Fr.ice_in (k b (by simp))]; exact e2, RepL.ext x _ _ e3⟩, Nodes.ice x (fun c hc => k c (by simp [hc])) r⟩
theorem Own.ice {G : Gx} {F : Fr} {H : Hp} : ∀ {n : Nat} {d : D} {v : V} {fp gp : List Addr}, Own G F H n d v fp → (∀ a ∈ fp, a ∈ gp) → (∀ a ∈ gp, F.fx a = none) → Rep G (F.ice H gp) d v
  | 0, d, v, fp, gp, o, hs, h => Rep.ext (Fr.ice_ext (H := H) h) _ _ o.1
  | 1, d, v, fp, gp, o, hs, h => by
    have x := Fr.ice_ext (H := H) h
    obtain ⟨a, rfl, o⟩ := o
    cases d with
    | lst ds => obtain ⟨rfl, xs, h1, h2⟩ := o; exact ⟨a, xs, rfl, by rw [Fr.ice_in (hs a (by simp))]; exact h1, RepL.ext x _ _ h2⟩
    | dK ds => obtain ⟨rfl, xs, h1, h2⟩ := o; exact ⟨a, xs, rfl, by rw [Fr.ice_in (hs a (by simp))]; exact h1, RepK.ext x _ _ h2⟩
    | dN ds => obtain ⟨rfl, xs, h1, h2⟩ := o; exact ⟨a, xs, rfl, by rw [Fr.ice_in (hs a (by simp))]; exact h1, RepN.ext x _ _ h2⟩
    | obj cn fs => obtain ⟨C, dx, gs, rfl, h1, h2, h3, h4⟩ := o; exact ⟨a, C, dx, gs, rfl, by rw [Fr.ice_in (hs a (by simp))]; exact h1, by rw [Fr.ice_in (hs dx (by simp))]; exact h2, h3, RepF.ext x _ _ h4⟩
    | _ => exact o.elim
  | n + 2, d, v, fp, gp, o, hs, h => by
    have x := Fr.ice_ext (H := H) h
    obtain ⟨a, as, ds, rfl, rfl, rfl, h1, h2, h3, h4⟩ := o
    exact ⟨a, as.map V.ref, rfl, by rw [Fr.ice_in (hs a (by simp))]; exact h3, Nodes.ice x (fun b hb => hs b (by simp [hb])) h4⟩
theorem Fr.In.ice {G : Gx} {F : Fr} {H : Hp} {fp : List Addr} (i : F.In G H) (h : ∀ a ∈ fp, F.fx a = none) : (F.ice H fp).In G H := by
  refine ⟨fun b o e => ?_, fun a d e => ?_⟩
  · by_cases hb : b ∈ fp
    · rw [Fr.ice_in hb] at e; exact e
    · rw [Fr.ice_out hb] at e; exact i.fx _ _ e
  · obtain ⟨kvs, h1, h2⟩ := i.nt a d e
    refine ⟨kvs, h1, fun k v hk => ?_⟩
    obtain ⟨nm, r, e1, e2, e3⟩ := h2 k v hk
    exact ⟨nm, r, e1, e2, Rep.ext (Fr.ice_ext h) _ _ e3⟩
section
variable {G : Gx} {m : Nat → Mode} {F : Fr} {H : Hp} {σ : L2.St} {ρ : Env} {fp : Nat → List Addr}
/-- things out of the frame are frozen -/
theorem St.iced (s : St G m F H σ ρ fp) {fpv : List Addr} (h : ∀ a ∈ fpv, F.fx a = none ∧ F.nt a = none ∧ ∀ i, a ∉ fp i) : St G m (F.ice H fpv) H σ ρ fp where
  inn := s.inn.ice fun a ha => (h a ha).1
  len := s.len
  slot := fun i d e => by
    obtain ⟨v, h1, h2⟩ := s.slot i d e
    exact ⟨v, h1, h2.keep (Fr.ice_ext fun a ha => (h a ha).1) fun b hb => rfl⟩
  dead := s.dead
  sep := s.sep
  own := fun i a ha => by
    have hn : a ∉ fpv := fun z => (h a z).2.2 i ha
    obtain ⟨h1, h2⟩ := s.own i a ha
    exact ⟨by rw [Fr.ice_out hn]; exact h1, h2⟩
end
def DO (G : Gx) (X : Cx) (m : Nat → Mode) (W : WX) (k : Nat) (n : Nat) (e : Expr) (f : ED) : Prop := Ctx G X W k → PE X e (tG G m W (RV G n) f)
section
variable {G : Gx} {X : Cx} {m : Nat → Mode} {W : WX} {k n : Nat} {e : Expr} {f : ED}
theorem RG.freeze {F : Fr} {H : Hp} {σ : L2.St} {fp : Nat → List Addr} {Q : VK} {x : ER D} {ρ : Env} (s0 : St G m F H σ ρ fp) (h : RG G m W (RD G) F H σ fp Q x) : RG G m W (RV G n) F H σ fp Q x := by
  cases x with
  | bad => exact h
  | exc _ _ => exact h
  | ok d ρ' =>
    intro v F' H' fp' p s r
    obtain ⟨fpv, o, nd, z⟩ := r
    have hx : ∀ a ∈ fpv, F'.fx a = none := fun a ha => (z a ha).1
    refine h v (F'.ice H' fpv) H' fp' ?_ (s.iced fun a ha => ⟨(z a ha).1, (z a ha).2.1, (z a ha).2.2.1⟩) (o.ice (fun _ h => h) hx)
    refine ⟨p.ext.trans (Fr.ice_ext hx), fun a o e => ?_, p.newN, p.fpn, p.frm, p.live⟩
    by_cases hb : a ∈ fpv
    · rcases (z a hb).2.2.2 with q | q
      · exact .inr (.inr q)
      · exact .inr (.inl q)
    · rw [Fr.ice_out hb] at e; exact p.newF a o e
theorem de_ice (h : DO G X m W k n e f) : DE G X m W k e f := fun c => PEmono (h c) fun σ H Q ⟨F, ρ, fp, s, q⟩ => ⟨F, ρ, fp, s, RG.freeze s q⟩
/-- an owned name's value is given away -/
def eMove (i : Nat) : ED := fun ρ => opt (ρ[i]?.join) (ρ.set i none)
theorem St.moved {F : Fr} {H : Hp} {σ : L2.St} {ρ : Env} {fp : Nat → List Addr} (s : St G m F H σ ρ fp) (i : Nat) : St G m F H σ (ρ.set i none) (fun j => if j = i then [] else fp j) where
  inn := s.inn
  len := by rw [List.length_set]; exact s.len
  slot := fun j d e => by
    by_cases hj : j = i
    · subst hj
      by_cases hl : j < ρ.length
      · rw [List.getElem?_set_self hl] at e; cases e
      · rw [List.getElem?_eq_none (by simpa using hl)] at e; cases e
    · rw [List.getElem?_set_ne (Ne.symm hj)] at e
      rw [if_neg hj]
      exact s.slot j d e
  dead := fun j h => by
    by_cases hj : j = i
    · rw [if_pos hj]
    · rw [if_neg hj]
      refine s.dead j fun d q => h d ?_
      rw [List.getElem?_set_ne (Ne.symm hj)]; exact q
  sep := fun j l a h1 h2 => by
    by_cases hj : j = i
    · rw [if_pos hj] at h1; cases h1
    · by_cases hl : l = i
      · rw [if_pos hl] at h2; cases h2
      · rw [if_neg hj] at h1; rw [if_neg hl] at h2; exact s.sep j l a h1 h2
  own := fun j a h => by
    by_cases hj : j = i
    · rw [if_pos hj] at h; cases h
    · rw [if_neg hj] at h; exact s.own j a h
theorem Step.moved {F : Fr} {H : Hp} {fp : Nat → List Addr} (i : Nat) : Step G F H fp F H (fun j => if j = i then [] else fp j) :=
  ⟨Ext.refl F, fun _ _ h => .inl h, fun _ _ h => .inl h, fun j a h => by
    by_cases hj : j = i
    · rw [if_pos hj] at h; cases h
    · rw [if_neg hj] at h; exact .inl ⟨j, h⟩, fun _ _ h _ _ => h, fun _ h => h⟩
theorem Own.nodup {F : Fr} {H : Hp} : ∀ {n : Nat} {d : D} {v : V} {fp : List Addr}, Own G F H n d v fp → F.In G H → fp.Nodup
  | 0, d, v, fp, h, _ => by rw [h.2]; exact List.nodup_nil
  | 1, d, v, fp, h, _ => by
    obtain ⟨a, rfl, h⟩ := h
    cases d with
    | lst ds => obtain ⟨rfl, _⟩ := h; simp
    | dK ds => obtain ⟨rfl, _⟩ := h; simp
    | dN ds => obtain ⟨rfl, _⟩ := h; simp
    | obj cn fs =>
      obtain ⟨C, dx, gs, rfl, h1, h2, _⟩ := h
      have : a ≠ dx := fun e => by subst e; rw [h1] at h2; cases h2
      simp [this]
    | _ => exact h.elim
  | n + 2, d, v, fp, h, _ => by
    obtain ⟨a, as, ds, rfl, rfl, rfl, h1, h2, _⟩ := h
    exact List.nodup_cons.mpr ⟨h2, h1⟩
theorem do_move (i : Nat) {x : Str} {pos : Pos} (hm : (m i).lvl = n := by rfl) (hN : X.N[i]? = some x := by rfl) (hv : Vis X.env.scope x := by first | exact Or.inl rfl | exact Or.inr (Or.inl rfl) | exact Or.inr (Or.inr rfl)) (hd : (x == ("__debug__" : Str)) = false := by decide)
    (hcd : (x == ("__classdict__" : Str)) = false := by decide) : DO G X m W k n (.Name x pos) (eMove i) := fun _ => PEmono (pe_var hN hv hd hcd) fun σ H Q h => by
  obtain ⟨F, ρ, fp, s, h⟩ := h
  unfold eMove at h
  cases q : ρ[i]?.join with
  | none => rw [q] at h; exact h.elim
  | some d =>
    rw [q] at h
    obtain ⟨v, h1, h2⟩ := s.slot i d (join_some q)
    rw [hm] at h2
    refine ⟨v, h1, h v F H _ (Step.moved i) (s.moved i) ⟨fp i, h2, h2.nodup s.inn, fun a ha => ⟨(s.own i a ha).1, (s.own i a ha).2, fun j hj => ?_, .inl ⟨i, ha⟩⟩⟩⟩
    have hj' : a ∈ (if j = i then [] else fp j) := hj
    by_cases e : j = i
    · rw [if_pos e] at hj'; cases hj'
    · rw [if_neg e] at hj'; exact e (s.sep j i a hj' ha)
end

/-! ### arguments -/
inductive AV where
  | val (d : D) | own (i : Nat)
def AV.sl : AV → Option Nat
  | .val _ => none
  | .own i => some i
abbrev AVD := Env → ER (List AV)
def AvRep (G : Gx) (F : Fr) (σ : L2.St) : AV → V → Prop
  | .val d, v => Rep G F d v
  | .own i, v => σ[i]? = some (some v)
def RA (G : Gx) (sh : List (Option Nat)) : RR (List AV) (List V) := fun _ _ F _ _ σ _ avs vs =>
  avs.map AV.sl = sh ∧ vs.length = avs.length ∧ ∀ (j : Nat) (av : AV) (v : V), avs[j]? = some av → vs[j]? = some v → AvRep G F σ av v
instance (G : Gx) (sh : List (Option Nat)) : Reb G (RA G sh) := ⟨fun _ h => h⟩
def DA (G : Gx) (X : Cx) (m : Nat → Mode) (W : WX) (k : Nat) (sh : List (Option Nat)) (es : List Expr) (f : AVD) : Prop := Ctx G X W k → PA X es (tG G m W (RA G sh) f)
def aNil : AVD := fun ρ => .ok [] ρ
def aVal (f : ED) (r : AVD) : AVD := fun ρ => (f ρ).bind fun d ρ1 => (r ρ1).bind fun ds ρ2 => .ok (.val d :: ds) ρ2
def aOwn (i : Nat) (r : AVD) : AVD := fun ρ => if (ρ[i]?.join).isSome then (r ρ).bind fun ds ρ2 => .ok (.own i :: ds) ρ2 else .bad
section
variable {G : Gx} {X : Cx} {m : Nat → Mode} {W : WX} {k : Nat} {sh : List (Option Nat)} {e : Expr} {es : List Expr} {f : ED} {r : AVD}
theorem da_nil : DA G X m W k [] [] aNil := fun c => PAmono pa_nil fun σ H Q h => by
  obtain ⟨F, ρ, fp, s, h⟩ := h
  exact h [] F H fp Step.refl s ⟨rfl, rfl, fun j av v e _ => by simp at e⟩
theorem da_val (ha : DE G X m W k e f) (hr : DA G X m W k sh es r) (hs : starEach (e :: es) X.env = (false, eval e X.env) :: starEach es X.env := by rfl) : DA G X m W k (none :: sh) (e :: es) (aVal f r) := fun c =>
  PAmono (pa_cons (ha c) (hr c) hs) fun σ H Q h => by
    obtain ⟨F, ρ, fp, s, h⟩ := h
    refine ⟨F, ρ, fp, s, (RG.bind (R := RD G) s h).mono fun x H1 ⟨F1, ρ1, fp1, d1, p1, s1, r1, h1⟩ => ?_⟩
    refine ⟨F1, ρ1, fp1, s1, (RG.bind (R := RA G sh) s1 h1).mono fun xs H2 ⟨F2, ρ2, fp2, ds, p2, s2, ⟨r21, r22, r23⟩, h2⟩ => ?_⟩
    refine h2 _ F2 H2 fp2 Step.refl s2 ⟨by simp [AV.sl, r21], by simp [r22], fun j av v e1 e2 => ?_⟩
    cases j with
    | zero => simp at e1 e2; subst e1 e2; exact Rep.ext p2.ext _ _ r1
    | succ j => exact r23 j av v (by simpa using e1) (by simpa using e2)
theorem da_own (i : Nat) {x : Str} {pos : Pos} (hr : DA G X m W k sh es r) (hN : X.N[i]? = some x := by rfl) (hv : Vis X.env.scope x := by first | exact Or.inl rfl | exact Or.inr (Or.inl rfl) | exact Or.inr (Or.inr rfl)) (hd : (x == ("__debug__" : Str)) = false := by decide)
    (hcd : (x == ("__classdict__" : Str)) = false := by decide) (hs : starEach (.Name x pos :: es) X.env = (false, eval (.Name x pos) X.env) :: starEach es X.env := by rfl) : DA G X m W k (some i :: sh) (.Name x pos :: es) (aOwn i r) := fun c =>
  PAmono (pa_cons (pe_var hN hv hd hcd) (hr c) hs) fun σ H Q h => by
    obtain ⟨F, ρ, fp, s, h⟩ := h
    unfold aOwn at h
    by_cases q : (ρ[i]?.join).isSome
    · rw [if_pos q] at h
      obtain ⟨d, q'⟩ := Option.isSome_iff_exists.mp q
      obtain ⟨v, h1, _⟩ := s.slot i d (join_some q')
      refine ⟨v, h1, F, ρ, fp, s, (RG.bind (R := RA G sh) s h).mono fun xs H2 ⟨F2, ρ2, fp2, ds, p2, s2, ⟨r21, r22, r23⟩, h2⟩ => ?_⟩
      refine h2 _ F2 H2 fp2 Step.refl s2 ⟨by simp [AV.sl, r21], by simp [r22], fun j av v' e1 e2 => ?_⟩
      cases j with
      | zero => simp at e1 e2; subst e1 e2; exact h1
      | succ j => exact r23 j av v' (by simpa using e1) (by simpa using e2)
    · rw [if_neg q] at h; exact h.elim
end

/-! ### defs -/
inductive FR where
  | ok (r : D) (ds : List D) | exc (e : Ex) (ds : List D) | bad
abbrev FD := List D → FR
def mOf (l : List Mode) : Nat → Mode := fun i => l.getD i .frz
def RF (G : Gx) (pml : List Mode) (mr : Mode) (F : Fr) (H : Hp) (vs : List V) (fp : Nat → List Addr) (Q : VK) (E : XK) : FR → Prop
  | .ok r ds' => ∀ v F' H' fp', Step G F H fp F' H' fp' → St G (mOf pml) F' H' (vs.map some) (ds'.map some) fp' → RV G mr.lvl H fp F' H' fp' (vs.map some) (ds'.map some) r v → Q v H'
  | .exc e ds' => ∀ c dd F' H' fp', Step G F H fp F' H' fp' → St G (mOf pml) F' H' (vs.map some) (ds'.map some) fp' → ExIs G F' H' e c dd → E c dd H'
  | .bad => False
def spD (G : Gx) (pml : List Mode) (mr : Mode) (d : FD) : Sp := fun vs H Q E =>
  vs.length = pml.length ∧ ∃ F ds fp, St G (mOf pml) F H (vs.map some) (ds.map some) fp ∧ RF G pml mr F H vs fp Q E (d ds)
/-- a def that may be called by its name -/
structure Cal (G : Gx) (x : Str) (ps : List Str) (pml : List Mode) (mr : Mode) (k : Nat) (d : FD) : Prop where
  ex : ∃ f fd, G.mg x = some (.ref f) ∧ PySem.W.keepIn G.K (.ref f) = true ∧ Binds G.K fd ps [] ∧ FnOk G.P G.w G.K G.mg G.base (L2.CX G.P G.w) k f fd ps (spD G pml mr d)
  len : pml.length = ps.length

def fillA (ρ : Env) : List AV → Option (List D)
  | [] => some []
  | .val d :: r => (fillA ρ r).map fun ds => d :: ds
  | .own i :: r => (ρ[i]?.join).bind fun d => (fillA ρ r).map fun ds => d :: ds
def putA (ρ : Env) : List AV → List D → Env
  | .own i :: r, d :: ds => (putA ρ r ds).set i (some d)
  | .val _ :: r, _ :: ds => putA ρ r ds
  | _, _ => ρ
def eCall (f : FD) (as : AVD) : ED := fun ρ => (as ρ).bind fun avs ρ1 => match fillA ρ1 avs with
  | none => .bad
  | some ds => match f ds with
    | .ok r ds' => .ok r (putA ρ1 avs ds')
    | .exc e ds' => .exc e (putA ρ1 avs ds')
    | .bad => .bad
/-- the owned arguments go to parameters that are handed back -/
def okSh (m : Nat → Mode) : List (Option Nat) → List Mode → Bool
  | [], [] => true
  | none :: r, p :: ps => (p == .frz) && okSh m r ps
  | some i :: r, p :: ps => p.isIo && (p.lvl == (m i).lvl) && !(r.contains (some i)) && okSh m r ps
  | _, _ => false
section
variable {G : Gx} {m : Nat → Mode} {F F' : Fr} {H H' : Hp} {σ : L2.St} {ρ : Env} {fp fp' : Nat → List Addr}
theorem okSh_none {sh : List (Option Nat)} {pml : List Mode} (h : okSh m sh pml = true) : ∀ {j : Nat}, sh[j]? = some none → pml[j]? = some .frz := by
  induction sh generalizing pml with
  | nil => intro j e; simp at e
  | cons o r ih =>
    intro j e
    cases pml with
    | nil => cases o <;> simp [okSh] at h
    | cons p ps =>
      cases o with
      | none =>
        simp [okSh] at h
        cases j with
        | zero => simp [h.1]
        | succ j => simpa using ih h.2 (by simpa using e)
      | some i =>
        simp [okSh] at h
        cases j with
        | zero => simp at e
        | succ j => simpa using ih h.2 (by simpa using e)
theorem okSh_some {sh : List (Option Nat)} {pml : List Mode} (h : okSh m sh pml = true) : ∀ {j i : Nat}, sh[j]? = some (some i) → ∃ p, pml[j]? = some p ∧ p.isIo = true ∧ p.lvl = (m i).lvl := by
  induction sh generalizing pml with
  | nil => intro j i e; simp at e
  | cons o r ih =>
    intro j i e
    cases pml with
    | nil => cases o <;> simp [okSh] at h
    | cons p ps =>
      cases o with
      | none =>
        simp [okSh] at h
        cases j with
        | zero => simp at e
        | succ j => simpa using ih h.2 (by simpa using e)
      | some i' =>
        simp [okSh] at h
        cases j with
        | zero => simp at e; subst e; exact ⟨p, rfl, h.1.1.1, h.1.1.2⟩
        | succ j => simpa using ih h.2 (by simpa using e)
theorem okSh_inj {sh : List (Option Nat)} {pml : List Mode} (h : okSh m sh pml = true) : ∀ {j j' i : Nat}, sh[j]? = some (some i) → sh[j']? = some (some i) → j = j' := by
  induction sh generalizing pml with
  | nil => intro j j' i e; simp at e
  | cons o r ih =>
    intro j j' i e e'
    cases pml with
    | nil => cases o <;> simp [okSh] at h
    | cons p ps =>
      have hr : okSh m r ps = true := by cases o <;> simp [okSh] at h; exact h.2; exact h.2
      have hc : ∀ n, o = some i → r[n]? = some (some i) → False := fun n eo en => by
        subst eo
        simp [okSh] at h
        exact h.1.2 (List.mem_of_getElem? en)
      cases j with
      | zero =>
        cases j' with
        | zero => rfl
        | succ j' => exact (hc j' (by simpa using e) (by simpa using e')).elim
      | succ j =>
        cases j' with
        | zero => exact (hc j (by simpa using e') (by simpa using e)).elim
        | succ j' => exact congrArg _ (ih hr (by simpa using e) (by simpa using e'))
theorem okSh_len {sh : List (Option Nat)} {pml : List Mode} (h : okSh m sh pml = true) : sh.length = pml.length := by
  induction sh generalizing pml with
  | nil => cases pml with
    | nil => rfl
    | cons p ps => simp [okSh] at h
  | cons o r ih =>
    cases pml with
    | nil => cases o <;> simp [okSh] at h
    | cons p ps =>
      have hr : okSh m r ps = true := by cases o <;> simp [okSh] at h; exact h.2; exact h.2
      simp [ih hr]
theorem fillA_len {avs : List AV} : ∀ {ds : List D}, fillA ρ avs = some ds → ds.length = avs.length := by
  induction avs with
  | nil => intro ds h; simp [fillA] at h; subst h; rfl
  | cons a r ih =>
    intro ds h
    cases a with
    | val d => simp [fillA] at h; obtain ⟨es, h1, rfl⟩ := h; simp [ih h1]
    | own i => rw [fillA] at h; obtain ⟨d, h0, h⟩ := Option.bind_eq_some_iff.mp h; obtain ⟨es, h1, rfl⟩ := Option.map_eq_some_iff.mp h; simp [ih h1]
theorem fillA_get {avs : List AV} : ∀ {ds : List D}, fillA ρ avs = some ds → ∀ {j : Nat} {av : AV}, avs[j]? = some av → ∃ d, ds[j]? = some d ∧ (match av with | AV.val d' => d' = d | AV.own i => ρ[i]?.join = some d) := by
  induction avs with
  | nil => intro ds h j av e; simp at e
  | cons a r ih =>
    intro ds h j av e
    cases a with
    | val d =>
      simp [fillA] at h; obtain ⟨es, h1, rfl⟩ := h
      cases j with
      | zero => simp at e; subst e; exact ⟨d, rfl, rfl⟩
      | succ j => simpa using ih h1 (j := j) (by simpa using e)
    | own i =>
      rw [fillA] at h; obtain ⟨d, h0, h⟩ := Option.bind_eq_some_iff.mp h; obtain ⟨es, h1, rfl⟩ := Option.map_eq_some_iff.mp h
      cases j with
      | zero => simp at e; subst e; exact ⟨d, rfl, h0⟩
      | succ j => simpa using ih h1 (j := j) (by simpa using e)
theorem putA_len {avs : List AV} : ∀ {ds : List D}, (putA ρ avs ds).length = ρ.length := by
  induction avs with
  | nil => intro ds; cases ds <;> rfl
  | cons a r ih =>
    intro ds
    cases a with
    | val d => cases ds with
      | nil => rfl
      | cons e es => exact ih
    | own i => cases ds with
      | nil => rfl
      | cons e es => simp [putA, ih]
theorem putA_out {avs : List AV} {i : Nat} (h : ∀ j : Nat, (avs.map AV.sl)[j]? ≠ some (some i)) : ∀ {ds : List D}, (putA ρ avs ds)[i]? = ρ[i]? := by
  induction avs with
  | nil => intro ds; cases ds <;> rfl
  | cons a r ih =>
    have hr : ∀ j : Nat, (r.map AV.sl)[j]? ≠ some (some i) := fun j => by simpa using h (j + 1)
    intro ds
    cases a with
    | val d => cases ds with
      | nil => rfl
      | cons e es => exact ih hr
    | own i' => cases ds with
      | nil => rfl
      | cons e es =>
        have : i' ≠ i := fun z => h 0 (by simp [AV.sl, z])
        show ((putA ρ r es).set i' (some e))[i]? = _
        rw [List.getElem?_set_ne this]; exact ih hr
theorem putA_in {avs : List AV} {pml : List Mode} (hok : okSh m (avs.map AV.sl) pml = true) : ∀ {ds : List D} {j i : Nat} {d : D}, ds.length = avs.length → (avs.map AV.sl)[j]? = some (some i) → ds[j]? = some d → i < ρ.length → (putA ρ avs ds)[i]? = some (some d) := by
  induction avs generalizing pml with
  | nil => intro ds j i d _ e; simp at e
  | cons a r ih =>
    intro ds j i d hl e ed hi
    cases pml with
    | nil => cases a <;> simp [AV.sl, okSh] at hok
    | cons p ps =>
      have hr : okSh m (r.map AV.sl) ps = true := by cases a <;> simp [AV.sl, okSh] at hok; exact hok.2; exact hok.2
      cases ds with
      | nil => simp at hl
      | cons e0 es =>
        have hl' : es.length = r.length := by simpa using hl
        cases a with
        | val d' =>
          cases j with
          | zero => simp [AV.sl] at e
          | succ j => exact ih hr hl' (by simpa using e) (by simpa using ed) hi
        | own i' =>
          show ((putA ρ r es).set i' (some e0))[i]? = _
          cases j with
          | zero =>
            simp [AV.sl] at e ed
            subst e ed
            rw [List.getElem?_set_self (by rw [putA_len]; exact hi)]
          | succ j =>
            have hne : i' ≠ i := fun z => by
              have := okSh_inj hok (j := 0) (j' := j + 1) (i := i) (by simp [AV.sl, z]) (by simpa using e)
              omega
            rw [List.getElem?_set_ne hne]
            exact ih hr hl' (by simpa using e) (by simpa using ed) hi

/-- the callee's frame -/
def fpC (fp : Nat → List Addr) (sh : List (Option Nat)) : Nat → List Addr := fun j => match sh[j]? with
  | some (some i) => fp i
  | _ => []
/-- the caller's frame behind the call -/
noncomputable def fpB (fp fpc' : Nat → List Addr) (sh : List (Option Nat)) : Nat → List Addr := open Classical in fun i => if h : ∃ j : Nat, sh[j]? = some (some i) then fpc' (Classical.choose h) else fp i
theorem fpB_in {fpc' : Nat → List Addr} {sh : List (Option Nat)} {pml : List Mode} (hok : okSh m sh pml = true) {i j : Nat} (e : sh[j]? = some (some i)) : fpB fp fpc' sh i = fpc' j := by
  unfold fpB
  have h : ∃ j : Nat, sh[j]? = some (some i) := ⟨j, e⟩
  rw [dif_pos h, okSh_inj hok (Classical.choose_spec h) e]
theorem fpB_out {fpc' : Nat → List Addr} {sh : List (Option Nat)} {i : Nat} (e : ∀ j : Nat, sh[j]? ≠ some (some i)) : fpB fp fpc' sh i = fp i := by
  unfold fpB
  rw [dif_neg fun ⟨j, h⟩ => e j h]
theorem fpC_mem {sh : List (Option Nat)} {j : Nat} {a : Addr} (h : a ∈ fpC fp sh j) : ∃ i, sh[j]? = some (some i) ∧ a ∈ fp i := by
  unfold fpC at h
  split at h
  · rename_i i e; exact ⟨i, e, h⟩
  · cases h
theorem enter {sh : List (Option Nat)} {pml : List Mode} {avs : List AV} {vs : List V} {ds : List D} {H0 : Hp} {fp0 : Nat → List Addr} (hok : okSh m sh pml = true) (s : St G m F H σ ρ fp) (r : RA G sh H0 fp0 F H fp σ ρ avs vs) (hf : fillA ρ avs = some ds) :
    vs.length = pml.length ∧ St G (mOf pml) F H (vs.map some) (ds.map some) (fpC fp sh) := by
  obtain ⟨r1, r2, r3⟩ := r
  have l1 : avs.length = pml.length := by rw [← okSh_len hok, ← r1]; simp
  have l2 := fillA_len hf
  refine ⟨r2.trans l1, s.inn, by simp [l2, r2], fun j d e => ?_, fun j h => ?_, fun j j' a h h' => ?_, fun j a h => ?_⟩
  · simp at e
    have hj : j < avs.length := by
      have := (List.getElem?_eq_some_iff.mp e).1; omega
    obtain ⟨av, ea⟩ : ∃ av, avs[j]? = some av := ⟨_, List.getElem?_eq_getElem hj⟩
    obtain ⟨v, ev⟩ : ∃ v, vs[j]? = some v := ⟨_, List.getElem?_eq_getElem (by omega)⟩
    obtain ⟨d', e', q⟩ := fillA_get hf ea
    rw [e] at e'; cases e'
    refine ⟨v, by simp [ev], ?_⟩
    have q3 := r3 j av v ea ev
    have es : sh[j]? = some av.sl := by rw [← r1]; simp [ea]
    cases av with
    | val d2 =>
      cases q
      have hp := okSh_none hok es
      have hm : mOf pml j = .frz := by unfold mOf; rw [List.getD_eq_getElem?_getD, hp]; rfl
      have hfp : fpC fp sh j = [] := by unfold fpC; rw [es]; rfl
      rw [hm, hfp]
      exact ⟨q3, rfl⟩
    | own i =>
      obtain ⟨p, hp, _, hlv⟩ := okSh_some hok es
      have hm : mOf pml j = p := by unfold mOf; rw [List.getD_eq_getElem?_getD, hp]; rfl
      have hfp : fpC fp sh j = fp i := by unfold fpC; rw [es]; rfl
      rw [hm, hfp, hlv]
      obtain ⟨v', ev', o⟩ := s.slot i d (join_some q)
      have q3' : σ[i]? = some (some v) := q3
      rw [q3'] at ev'; cases ev'
      exact o
  · unfold fpC
    split
    · rename_i i e
      have hj : j < ds.length := by
        have := (List.getElem?_eq_some_iff.mp e).1
        have l3 := okSh_len hok
        omega
      exact (h ds[j] (by simp [hj])).elim
    · rfl
  · obtain ⟨i, e, q⟩ := fpC_mem h
    obtain ⟨i', e', q'⟩ := fpC_mem h'
    have := s.sep i i' a q q'
    subst this
    exact okSh_inj hok e e'
  · obtain ⟨i, e, q⟩ := fpC_mem h
    exact s.own i a q
theorem back {sh : List (Option Nat)} {pml : List Mode} {avs : List AV} {vs : List V} {ds' : List D} {fpc' : Nat → List Addr} {H0 : Hp} {fp0 : Nat → List Addr} (hok : okSh m sh pml = true) (s : St G m F H σ ρ fp) (r : RA G sh H0 fp0 F H fp σ ρ avs vs)
    (p : Step G F H (fpC fp sh) F' H' fpc') (s' : St G (mOf pml) F' H' (vs.map some) (ds'.map some) fpc') : St G m F' H' σ (putA ρ avs ds') (fpB fp fpc' sh) ∧ Step G F H fp F' H' (fpB fp fpc' sh) := by
  obtain ⟨r1, r2, r3⟩ := r
  have l1 : avs.length = pml.length := by rw [← okSh_len hok, ← r1]; simp
  have l3 : ds'.length = avs.length := by have := s'.len; simp at this; omega
  have hok' : okSh m (avs.map AV.sl) pml = true := by rw [r1]; exact hok
  -- a thing of a frame's name that is not handed down stays
  have stays : ∀ i a, (∀ j : Nat, sh[j]? ≠ some (some i)) → a ∈ fp i → H' a = H a := fun i a hn ha => by
    cases q : H a with
    | none => exact absurd q (s.alloc ha)
    | some o =>
      refine p.frm a o q (s.own i a ha).2 fun j hj => ?_
      obtain ⟨i', e, q'⟩ := fpC_mem hj
      have := s.sep i i' a ha q'
      subst this
      exact hn j e
  have mem : ∀ i a, a ∈ fpB fp fpc' sh i → (∃ j : Nat, sh[j]? = some (some i) ∧ a ∈ fpc' j) ∨ ((∀ j : Nat, sh[j]? ≠ some (some i)) ∧ a ∈ fp i) := fun i a h => by
    by_cases e : ∃ j : Nat, sh[j]? = some (some i)
    · obtain ⟨j, e⟩ := e
      rw [fpB_in hok e] at h
      exact .inl ⟨j, e, h⟩
    · have e' : ∀ j : Nat, sh[j]? ≠ some (some i) := fun j z => e ⟨j, z⟩
      rw [fpB_out e'] at h
      exact .inr ⟨e', h⟩
  have fresh : ∀ j a, a ∈ fpc' j → (∃ i, a ∈ fp i ∧ ∃ l : Nat, sh[l]? = some (some i)) ∨ H a = none := fun j a h => by
    rcases p.fpn j a h with ⟨l, z⟩ | z
    · obtain ⟨i, e, q⟩ := fpC_mem z
      exact .inl ⟨i, q, l, e⟩
    · exact .inr z
  refine ⟨⟨s'.inn, by rw [putA_len]; exact s.len, fun i d e => ?_, fun i h => ?_, fun i i' a h h' => ?_, fun i a h => ?_⟩, ⟨p.ext, fun a o h => ?_, fun a o h => ?_, fun i a h => ?_, fun a o h hn hf => ?_, p.live⟩⟩
  · by_cases e0 : ∃ j : Nat, sh[j]? = some (some i)
    · obtain ⟨j, ej⟩ := e0
      have hj : j < avs.length := by have := (List.getElem?_eq_some_iff.mp ej).1; rw [← r1] at this; simpa using this
      obtain ⟨d', ed⟩ : ∃ d', ds'[j]? = some d' := ⟨_, List.getElem?_eq_getElem (by omega)⟩
      have hi : i < ρ.length := by
        have := (List.getElem?_eq_some_iff.mp e).1; rwa [putA_len] at this
      have e2 := putA_in (ρ := ρ) hok' l3 (by rw [r1]; exact ej) ed hi
      rw [e2] at e; cases e
      obtain ⟨v, ev, o⟩ := s'.slot j d (by simp [ed])
      simp at ev
      obtain ⟨pm, hp, _, hlv⟩ := okSh_some hok ej
      have hm : mOf pml j = pm := by unfold mOf; rw [List.getD_eq_getElem?_getD, hp]; rfl
      rw [hm, hlv] at o
      obtain ⟨av, ea⟩ : ∃ av, avs[j]? = some av := ⟨_, List.getElem?_eq_getElem hj⟩
      have q3 := r3 j av v ea ev
      have hs : av.sl = some i := by
        have : (avs.map AV.sl)[j]? = some av.sl := by simp [ea]
        rw [r1, ej] at this; exact (Option.some.inj this).symm
      cases av with
      | val _ => cases hs
      | own i2 =>
        cases hs
        refine ⟨v, q3, ?_⟩
        rw [fpB_in hok ej]
        exact o
    · have e' : ∀ j : Nat, sh[j]? ≠ some (some i) := fun j z => e0 ⟨j, z⟩
      rw [putA_out (by rw [r1]; exact e')] at e
      obtain ⟨v, ev, o⟩ := s.slot i d e
      refine ⟨v, ev, ?_⟩
      rw [fpB_out e']
      exact o.keep p.ext fun b hb => stays i b e' hb
  · by_cases e0 : ∃ j : Nat, sh[j]? = some (some i)
    · obtain ⟨j, ej⟩ := e0
      rw [fpB_in hok ej]
      have hj : j < avs.length := by have := (List.getElem?_eq_some_iff.mp ej).1; rw [← r1] at this; simpa using this
      obtain ⟨d', ed⟩ : ∃ d', ds'[j]? = some d' := ⟨_, List.getElem?_eq_getElem (by omega)⟩
      by_cases hi : i < ρ.length
      · exact (h d' (putA_in (ρ := ρ) hok' l3 (by rw [r1]; exact ej) ed hi)).elim
      · exfalso
        obtain ⟨av, ea⟩ : ∃ av, avs[j]? = some av := ⟨_, List.getElem?_eq_getElem hj⟩
        obtain ⟨v, ev⟩ : ∃ v, vs[j]? = some v := ⟨_, List.getElem?_eq_getElem (by omega)⟩
        have q3 := r3 j av v ea ev
        have hs : av.sl = some i := by
          have : (avs.map AV.sl)[j]? = some av.sl := by simp [ea]
          rw [r1, ej] at this; exact (Option.some.inj this).symm
        cases av with
        | val _ => cases hs
        | own i2 =>
          cases hs
          have q4 : σ[i]? = some (some v) := q3
          have := (List.getElem?_eq_some_iff.mp q4).1
          have := s.len
          omega
    · have e' : ∀ j : Nat, sh[j]? ≠ some (some i) := fun j z => e0 ⟨j, z⟩
      rw [fpB_out e']
      refine s.dead i fun d z => h d ?_
      rw [putA_out (by rw [r1]; exact e')]; exact z
  · rcases mem i a h with ⟨j, ej, q⟩ | ⟨hn, q⟩
    · rcases mem i' a h' with ⟨j', ej', q'⟩ | ⟨hn', q'⟩
      · have := s'.sep j j' a q q'
        subst this
        rw [ej] at ej'; cases ej'; rfl
      · rcases fresh j a q with ⟨i2, z, l, el⟩ | z
        · have := s.sep i2 i' a z q'
          subst this
          exact absurd el (hn' l)
        · exact absurd z (s.alloc q')
    · rcases mem i' a h' with ⟨j', ej', q'⟩ | ⟨hn', q'⟩
      · rcases fresh j' a q' with ⟨i2, z, l, el⟩ | z
        · have := s.sep i2 i a z q
          subst this
          exact absurd el (hn l)
        · exact absurd z (s.alloc q)
      · exact s.sep i i' a q q'
  · rcases mem i a h with ⟨j, ej, q⟩ | ⟨hn, q⟩
    · exact s'.own j a q
    · have hs := s.own i a q
      have nfp : ∀ j, a ∉ fpC fp sh j := fun j z => by
        obtain ⟨i2, e2, q2⟩ := fpC_mem z
        have := s.sep i2 i a q2 q
        subst this
        exact hn j e2
      constructor
      · cases z : F'.fx a with
        | none => rfl
        | some o =>
          rcases p.newF a o z with y | y | ⟨l, y⟩
          · rw [hs.1] at y; cases y
          · exact absurd y (s.alloc q)
          · exact absurd y (nfp l)
      · cases z : F'.nt a with
        | none => rfl
        | some o =>
          rcases p.newN a o z with y | y | ⟨l, y⟩
          · rw [hs.2] at y; cases y
          · exact absurd y (s.alloc q)
          · exact absurd y (nfp l)
  · rcases p.newF a o h with y | y | ⟨l, y⟩
    · exact .inl y
    · exact .inr (.inl y)
    · obtain ⟨i, _, q⟩ := fpC_mem y; exact .inr (.inr ⟨i, q⟩)
  · rcases p.newN a o h with y | y | ⟨l, y⟩
    · exact .inl y
    · exact .inr (.inl y)
    · obtain ⟨i, _, q⟩ := fpC_mem y; exact .inr (.inr ⟨i, q⟩)
  · rcases mem i a h with ⟨j, ej, q⟩ | ⟨hn, q⟩
    · rcases fresh j a q with ⟨i2, z, _⟩ | z
      · exact .inl ⟨i2, z⟩
      · exact .inr z
    · exact .inl ⟨i, q⟩
  · exact p.frm a o h hn fun l y => by obtain ⟨i, _, q⟩ := fpC_mem y; exact hf i q
end
section
variable {G : Gx} {X : Cx} {m : Nat → Mode} {W : WX} {k k' : Nat} {sh : List (Option Nat)} {pml : List Mode} {mr : Mode} {ps : List Str} {d : FD} {x : Str} {p pos : Pos} {e : Expr} {es : List Expr} {f : AVD}
/-- the promise, used at a call -/
theorem call_sp {F : Fr} {H : Hp} {σ : L2.St} {ρ : Env} {fp : Nat → List Addr} {Q : VK} (hok : okSh m sh pml = true) (s : St G m F H σ ρ fp) (h : RG G m W (RV G mr.lvl) F H σ fp Q (eCall d f ρ)) :
    RG G m W (RA G sh) F H σ fp (fun vs H1 => spD G pml mr d vs H1 Q (WE W σ)) (f ρ) := by
  refine (RG.bind (R := RA G sh) s h).mono fun vs H1 ⟨F1, ρ1, fp1, avs, p1, s1, r1, h1⟩ => ?_
  cases q : fillA ρ1 avs with
  | none => rw [q] at h1; exact h1.elim
  | some ds =>
    rw [q] at h1
    dsimp only at h1
    obtain ⟨hl, sc⟩ := enter hok s1 r1 q
    refine ⟨hl, F1, ds, _, sc, ?_⟩
    cases qd : d ds with
    | bad => rw [qd] at h1; exact h1
    | ok r ds' =>
      rw [qd] at h1
      intro v F' H' fp' pp sp rv
      obtain ⟨b1, b2⟩ := back hok s1 r1 pp sp
      refine h1 v F' H' _ b2 b1 ?_
      obtain ⟨fpv, o, nd, z⟩ := rv
      refine ⟨fpv, o, nd, fun a ha => ?_⟩
      obtain ⟨z1, z2, z3, z4⟩ := z a ha
      refine ⟨z1, z2, fun i hi => ?_, ?_⟩
      · by_cases e0 : ∃ j : Nat, sh[j]? = some (some i)
        · obtain ⟨j, ej⟩ := e0
          rw [fpB_in hok ej] at hi
          exact z3 j hi
        · have e' : ∀ j : Nat, sh[j]? ≠ some (some i) := fun j z => e0 ⟨j, z⟩
          rw [fpB_out e'] at hi
          rcases z4 with ⟨j, y⟩ | y
          · obtain ⟨i2, e2, q2⟩ := fpC_mem y
            have := s1.sep i2 i a q2 hi
            subst this
            exact e' j e2
          · exact s1.alloc hi y
      · rcases z4 with ⟨j, y⟩ | y
        · obtain ⟨i2, e2, q2⟩ := fpC_mem y
          exact .inl ⟨i2, q2⟩
        · exact .inr y
    | exc ex ds' =>
      rw [qd] at h1
      intro c dd F' H' fp' pp sp rv
      obtain ⟨b1, b2⟩ := back hok s1 r1 pp sp
      exact h1 c dd F' H' _ b2 b1 rv
/-- f(e, ..) -/
theorem do_call (C : Cal G x ps pml mr k' d) (ha : DA G X m W k sh (e :: es) f) (hok : okSh m sh pml = true := by rfl) (hk : k' ≤ k := by first | decide | omega) (hg : Gl X x := by rfl) (hdb : (x == ("__debug__" : Str)) = false := by decide)
    (he : starEach (e :: es) X.env = (false, eval e X.env) :: starEach es X.env := by rfl) (hpl : (backTo pos (starEach es X.env)).any (·.1) = false := by rfl) : DO G X m W k mr.lvl (.Call (.Name x p) (e :: es) [] pos) (eCall d f) := fun c => by
  obtain ⟨g, fd, h1, h2, h3, h4⟩ := C.ex
  obtain ⟨cP, cw, cK, cmg, cb, cnd, ccalm, croom, cpo, ctk⟩ := id c
  rw [← cP, ← cw, ← cK, ← cmg, ← cb] at h4
  rw [← cK] at h2 h3
  rw [← cmg] at h1
  refine PEmono (pe_callSD h4 (croom.mono hk) hg h1 h2 h3 .nil (fun σ => passAt ctk σ) (ha c) hdb he hpl) fun σ H Q h => ?_
  obtain ⟨F, ρ, fp, s, h⟩ := h
  exact ⟨F, ρ, fp, s, (call_sp hok s h).mono fun vs H1 q => by rw [List.append_nil]; exact q⟩
theorem de_call (C : Cal G x ps pml .frz k' d) (ha : DA G X m W k sh (e :: es) f) (hok : okSh m sh pml = true := by rfl) (hk : k' ≤ k := by first | decide | omega) (hg : Gl X x := by rfl) (hdb : (x == ("__debug__" : Str)) = false := by decide)
    (he : starEach (e :: es) X.env = (false, eval e X.env) :: starEach es X.env := by rfl) (hpl : (backTo pos (starEach es X.env)).any (·.1) = false := by rfl) : DE G X m W k (.Call (.Name x p) (e :: es) [] pos) (eCall d f) :=
  de_ice (do_call C ha hok hk hg hdb he hpl)
end
end Dn

/-! Dn4: statements, targets, loops, the body of a def. -/
namespace Dn
open PySem PySem.Spec PyProof.Rows L2

inductive SR where
  | nx (ρ : Env) | rt (d : D) (ρ : Env) | bk (ρ : Env) | ct (ρ : Env) | exc (e : Ex) (ρ : Env) | bad
abbrev SD := Env → SR
def SR.seq : SR → SD → SR
  | .nx ρ, k => k ρ
  | r, _ => r
/-- an expression's result, taken on in a statement -/
def ER.thn {α : Type} : ER α → (α → Env → SR) → SR
  | .ok a ρ, k => k a ρ
  | .exc e ρ, _ => .exc e ρ
  | .bad, _ => .bad
@[simp] theorem thn_ok {α : Type} (a : α) (ρ : Env) (k : α → Env → SR) : (ER.ok a ρ).thn k = k a ρ := rfl
@[simp] theorem thn_exc {α : Type} (e : Ex) (ρ : Env) (k : α → Env → SR) : (ER.exc e ρ : ER α).thn k = .exc e ρ := rfl
@[simp] theorem thn_bad {α : Type} (k : α → Env → SR) : (ER.bad : ER α).thn k = .bad := rfl
@[simp] theorem seq_nx (ρ : Env) (k : SD) : (SR.nx ρ).seq k = k ρ := rfl
@[simp] theorem seq_rt (d : D) (ρ : Env) (k : SD) : (SR.rt d ρ).seq k = .rt d ρ := rfl
@[simp] theorem seq_bk (ρ : Env) (k : SD) : (SR.bk ρ).seq k = .bk ρ := rfl
@[simp] theorem seq_ct (ρ : Env) (k : SD) : (SR.ct ρ).seq k = .ct ρ := rfl
@[simp] theorem seq_exc (e : Ex) (ρ : Env) (k : SD) : (SR.exc e ρ).seq k = .exc e ρ := rfl
@[simp] theorem seq_bad (k : SD) : SR.bad.seq k = .bad := rfl

def IoKept (m : Nat → Mode) (σ σ' : L2.St) : Prop := ∀ i, (m i).isIo = true → σ'[i]? = σ[i]?
theorem IoKept.refl {m : Nat → Mode} {σ : L2.St} : IoKept m σ σ := fun _ _ => rfl
theorem IoKept.trans {m : Nat → Mode} {σ σ1 σ2 : L2.St} (a : IoKept m σ σ1) (b : IoKept m σ1 σ2) : IoKept m σ σ2 := fun i h => (b i h).trans (a i h)
theorem IoKept.set {m : Nat → Mode} {σ : L2.St} {i : Nat} {v : Option V} (h : (m i).isIo = false) : IoKept m σ (σ.set i v) := fun j hj => by
  have : i ≠ j := fun e => by subst e; rw [h] at hj; cases hj
  exact List.getElem?_set_ne this

def RS (G : Gx) (m : Nat → Mode) (n : Nat) (W : WX) (F : Fr) (H : Hp) (σ : L2.St) (fp : Nat → List Addr) (D : Ends) : SR → Prop
  | .nx ρ' => ∀ σ' F' H' fp', Step G F H fp F' H' fp' → St G m F' H' σ' ρ' fp' → IoKept m σ σ' → D.nx σ' H'
  | .bk ρ' => ∀ σ' F' H' fp', Step G F H fp F' H' fp' → St G m F' H' σ' ρ' fp' → IoKept m σ σ' → D.bk σ' H'
  | .ct ρ' => ∀ σ' F' H' fp', Step G F H fp F' H' fp' → St G m F' H' σ' ρ' fp' → IoKept m σ σ' → D.ct σ' H'
  | .rt d ρ' => ∀ v σ' F' H' fp', Step G F H fp F' H' fp' → St G m F' H' σ' ρ' fp' → IoKept m σ σ' → RV G n H fp F' H' fp' σ' ρ' d v → D.rt v H'
  | .exc e ρ' => ∀ c dd σ' F' H' fp', Step G F H fp F' H' fp' → St G m F' H' σ' ρ' fp' → IoKept m σ σ' → ExIs G F' H' e c dd → W c dd σ' H'
  | .bad => False
def tS (G : Gx) (m : Nat → Mode) (n : Nat) (W : WX) (f : SD) : TS := fun D σ H => ∃ F ρ fp, St G m F H σ ρ fp ∧ RS G m n W F H σ fp D (f ρ)
def DS (G : Gx) (X : Cx) (m : Nat → Mode) (n : Nat) (W : WX) (k : Nat) (st : Stmt) (f : SD) : Prop := Ctx G X W k → PS X st (tS G m n W f)
def DSs (G : Gx) (X : Cx) (m : Nat → Mode) (n : Nat) (W : WX) (k : Nat) (st : List Stmt) (f : SD) : Prop := Ctx G X W k → PSs X st (tS G m n W f)
section
variable {G : Gx} {m : Nat → Mode} {n : Nat} {W : WX} {F F1 : Fr} {H H1 : Hp} {σ σ1 : L2.St} {ρ ρ1 : Env} {fp fp1 : Nat → List Addr} {D D' : Ends}
theorem RS.rebase {x : SR} (s : St G m F H σ ρ fp) (p : Step G F H fp F1 H1 fp1) (s1 : St G m F1 H1 σ1 ρ1 fp1) (io : IoKept m σ σ1) (h : RS G m n W F H σ fp D x) : RS G m n W F1 H1 σ1 fp1 D x := by
  cases x with
  | nx ρ' => exact fun σ' F' H' fp' a b c => h σ' F' H' fp' (p.comp s s1 a) b (io.trans c)
  | bk ρ' => exact fun σ' F' H' fp' a b c => h σ' F' H' fp' (p.comp s s1 a) b (io.trans c)
  | ct ρ' => exact fun σ' F' H' fp' a b c => h σ' F' H' fp' (p.comp s s1 a) b (io.trans c)
  | rt d ρ' => exact fun v σ' F' H' fp' a b c e => h v σ' F' H' fp' (p.comp s s1 a) b (io.trans c) (Reb.reb p e)
  | exc e ρ' => exact fun c dd σ' F' H' fp' a b d e => h c dd σ' F' H' fp' (p.comp s s1 a) b (io.trans d) e
  | bad => exact h
theorem RS.thn {α β : Type} {R : RR α β} {x : ER α} {k : α → Env → SR} (s : St G m F H σ ρ fp) (h : RS G m n W F H σ fp D (x.thn k)) :
    RG G m W R F H σ fp (fun v H1 => ∃ F1 ρ1 fp1 a, Step G F H fp F1 H1 fp1 ∧ St G m F1 H1 σ ρ1 fp1 ∧ R H fp F1 H1 fp1 σ ρ1 a v ∧ RS G m n W F1 H1 σ fp1 D (k a ρ1)) x := by
  cases x with
  | ok d ρ' => exact fun v F' H' fp' a b c => ⟨F', ρ', fp', d, a, b, c, h.rebase s a b .refl⟩
  | exc e ρ' => exact fun c dd F' H' fp' a b d => h c dd σ F' H' fp' a b .refl d
  | bad => exact h
theorem RS.seq {x : SR} {k : SD} (s : St G m F H σ ρ fp) (h : RS G m n W F H σ fp D (x.seq k)) : RS G m n W F H σ fp { D with nx := tS G m n W k D } x := by
  cases x with
  | nx ρ' => exact fun σ' F' H' fp' a b c => ⟨F', ρ', fp', b, h.rebase s a b c⟩
  | _ => exact h
end
section
variable {G : Gx} {X : Cx} {m : Nat → Mode} {n : Nat} {W : WX} {k : Nat} {st : Stmt} {rest : List Stmt} {f g : SD} {pos : Pos} {e : Expr} {fe : ED}
def sNx : SD := fun ρ => .nx ρ
def sSeq (f g : SD) : SD := fun ρ => (f ρ).seq g
theorem dss_nil : DSs G X m n W k [] sNx := fun _ => PSsmono pss_nil fun D σ H ⟨F, ρ, fp, s, h⟩ => h σ F H fp Step.refl s .refl
theorem dss_cons (h1 : DS G X m n W k st f) (h2 : DSs G X m n W k rest g) : DSs G X m n W k (st :: rest) (sSeq f g) := fun c =>
  PSsmono (pss_cons (h1 c) (h2 c)) fun D σ H ⟨F, ρ, fp, s, h⟩ => ⟨F, ρ, fp, s, RS.seq s h⟩
theorem dss_one (h1 : DS G X m n W k st f) : DSs G X m n W k [st] f := fun c => pss_one (h1 c)
theorem ds_pass : DS G X m n W k (.Pass pos) sNx := fun _ => PSmono ps_pass fun D σ H ⟨F, ρ, fp, s, h⟩ => h σ F H fp Step.refl s .refl
def sBk : SD := fun ρ => .bk ρ
def sCt : SD := fun ρ => .ct ρ
theorem ds_break : DS G X m n W k (.Break pos) sBk := fun _ => PSmono ps_break fun D σ H ⟨F, ρ, fp, s, h⟩ => h σ F H fp Step.refl s .refl
theorem ds_continue : DS G X m n W k (.Continue pos) sCt := fun _ => PSmono ps_continue fun D σ H ⟨F, ρ, fp, s, h⟩ => h σ F H fp Step.refl s .refl
def sExpr (fe : ED) : SD := fun ρ => (fe ρ).thn fun _ ρ1 => .nx ρ1
theorem ds_expr (he : DE G X m W k e fe) (hs : swapsWith e none pos.line X.env = pure false := by rfl) : DS G X m n W k (.Expr e pos) (sExpr fe) := fun c =>
  PSmono (ps_expr (he c) hs) fun D σ H ⟨F, ρ, fp, s, h⟩ => ⟨F, ρ, fp, s, (RS.thn (R := RD G) s h).mono fun v H1 ⟨F1, ρ1, fp1, a, p1, s1, r1, h1⟩ => h1 σ F1 H1 fp1 Step.refl s1 .refl⟩
/-- return -/
def sRet (fe : ED) : SD := fun ρ => (fe ρ).thn fun d ρ1 => .rt d ρ1
theorem ds_retO (he : DO G X m W k n e fe) : DS G X m n W k (.Return (some e) pos) (sRet fe) := fun c =>
  PSmono (ps_ret (he c)) fun D σ H ⟨F, ρ, fp, s, h⟩ => ⟨F, ρ, fp, s, by
    unfold sRet at h
    cases q : fe ρ with
    | ok d ρ1 => rw [q] at h; exact fun v F' H' fp' a b r => h v σ F' H' fp' a b .refl r
    | exc ex ρ1 => rw [q] at h; exact fun c dd F' H' fp' a b r => h c dd σ F' H' fp' a b .refl r
    | bad => rw [q] at h; exact h⟩
theorem DO.of (he : DE G X m W k e fe) : DO G X m W k 0 e fe := fun c => PEmono (he c) fun σ H Q ⟨F, ρ, fp, s, h⟩ => ⟨F, ρ, fp, s, by
    cases q : fe ρ with
    | ok d ρ1 => rw [q] at h; exact fun v F' H' fp' a b r => h v F' H' fp' a b (RV.zero r)
    | exc ex ρ1 => rw [q] at h; exact h
    | bad => rw [q] at h; exact h⟩
theorem ds_ret (he : DE G X m W k e fe) : DS G X m 0 W k (.Return (some e) pos) (sRet fe) := ds_retO (DO.of he)
theorem ds_retN : DS G X m 0 W k (.Return none pos) (sRet (eC .non)) := fun _ => PSmono ps_retN fun D σ H ⟨F, ρ, fp, s, h⟩ => h .non σ F H fp Step.refl s .refl (RV.zero (by simp [Rep]))
def sIf (fc : BD) (f g : SD) : SD := fun ρ => (fc ρ).thn fun b ρ1 => if b = true then f ρ1 else g ρ1
theorem ds_if {c : Expr} {a b : List Stmt} {bc : BD} (hc : DT G X m W k c bc) (ha : DSs G X m n W k a f) (hb : DSs G X m n W k b g) : DS G X m n W k (.If c a b pos) (sIf bc f g) := fun x =>
  PSmono (ps_if (hc x) (ha x) (hb x)) fun D σ H ⟨F, ρ, fp, s, h⟩ => ⟨F, ρ, fp, s, (RS.thn (R := RB) s h).mono fun v H1 ⟨F1, ρ1, fp1, a, p1, s1, r1, h1⟩ => by
    cases r1
    cases v with
    | true => exact ⟨F1, ρ1, fp1, s1, h1⟩
    | false => exact ⟨F1, ρ1, fp1, s1, h1⟩⟩
def sNever : SD := fun _ => .bad
theorem ds_never : DS G X m n W k st sNever := fun _ => PSmono ps_never fun D σ H ⟨F, ρ, fp, s, h⟩ => h.elim

/-! ### stores -/
theorem St.put {F : Fr} {H : Hp} {σ : L2.St} {ρ : Env} {fp : Nat → List Addr} (s : St G m F H σ ρ fp) (i : Nat) {d : D} {v : V} {fpv : List Addr} (o : Own G F H (m i).lvl d v fpv) (hn : ∀ a ∈ fpv, F.fx a = none ∧ F.nt a = none ∧ ∀ j, a ∉ fp j) :
    St G m F H (σ.set i (some v)) (ρ.set i (some d)) (fun j => if j = i ∧ i < ρ.length then fpv else fp j) where
  inn := s.inn
  len := by rw [List.length_set, List.length_set]; exact s.len
  slot := fun j d' e => by
    by_cases hj : j = i ∧ i < ρ.length
    · obtain ⟨rfl, hl⟩ := hj
      rw [List.getElem?_set_self hl] at e
      cases e
      refine ⟨v, List.getElem?_set_self (by rw [← s.len]; exact hl), ?_⟩
      rw [if_pos ⟨rfl, hl⟩]; exact o
    · rw [if_neg hj]
      by_cases hi : j = i
      · subst hi
        have : ¬ j < ρ.length := fun z => hj ⟨rfl, z⟩
        rw [List.getElem?_eq_none (by simpa using this)] at e; cases e
      · rw [List.getElem?_set_ne (Ne.symm hi)] at e
        rw [List.getElem?_set_ne (Ne.symm hi)]
        exact s.slot j d' e
  dead := fun j h => by
    by_cases hj : j = i ∧ i < ρ.length
    · obtain ⟨rfl, hl⟩ := hj
      exact (h d (List.getElem?_set_self hl)).elim
    · rw [if_neg hj]
      refine s.dead j fun d' q => h d' ?_
      by_cases hi : j = i
      · subst hi
        have : ¬ j < ρ.length := fun z => hj ⟨rfl, z⟩
        rw [List.getElem?_eq_none (by simpa using this)] at q; cases q
      · rw [List.getElem?_set_ne (Ne.symm hi)]; exact q
  sep := fun j l a h1 h2 => by
    by_cases hj : j = i ∧ i < ρ.length
    · rw [if_pos hj] at h1
      by_cases hl : l = i ∧ i < ρ.length
      · exact hj.1.trans hl.1.symm
      · rw [if_neg hl] at h2; exact ((hn a h1).2.2 l h2).elim
    · rw [if_neg hj] at h1
      by_cases hl : l = i ∧ i < ρ.length
      · rw [if_pos hl] at h2; exact ((hn a h2).2.2 j h1).elim
      · rw [if_neg hl] at h2; exact s.sep j l a h1 h2
  own := fun j a h => by
    by_cases hj : j = i ∧ i < ρ.length
    · rw [if_pos hj] at h; exact ⟨(hn a h).1, (hn a h).2.1⟩
    · rw [if_neg hj] at h; exact s.own j a h
theorem Step.put {F : Fr} {H : Hp} {F0 : Fr} {H0 : Hp} {fp0 fp : Nat → List Addr} {fpv : List Addr} {i : Nat} {c : Prop} [Decidable c] (p : Step G F0 H0 fp0 F H fp) (hn : ∀ a ∈ fpv, (∃ j, a ∈ fp0 j) ∨ H0 a = none) :
    Step G F0 H0 fp0 F H (fun j => if j = i ∧ c then fpv else fp j) :=
  ⟨p.ext, p.newF, p.newN, fun j a h => by
    by_cases hj : j = i ∧ c
    · rw [if_pos hj] at h; exact hn a h
    · rw [if_neg hj] at h; exact p.fpn j a h, p.frm, p.live⟩
def sSet (i : Nat) (fe : ED) : SD := fun ρ => (fe ρ).thn fun d ρ1 => .nx (ρ1.set i (some d))
theorem set_run {F : Fr} {H : Hp} {σ : L2.St} {ρ : Env} {fp : Nat → List Addr} {i : Nat} {D : Ends} (hio : (m i).isIo = false) (s : St G m F H σ ρ fp) (h : RS G m n W F H σ fp D (sSet i fe ρ)) :
    RG G m W (RV G (m i).lvl) F H σ fp (fun v H1 => D.nx (σ.set i (some v)) H1) (fe ρ) := by
  unfold sSet at h
  cases q : fe ρ with
  | ok d ρ1 =>
    rw [q] at h
    intro v F' H' fp' p s' r
    obtain ⟨fpv, o, nd, z⟩ := r
    exact h _ F' H' _ (p.put (i := i) (c := i < ρ1.length) fun a ha => (z a ha).2.2.2) (s'.put i o fun a ha => ⟨(z a ha).1, (z a ha).2.1, (z a ha).2.2.1⟩) (.set hio)
  | exc ex ρ1 => rw [q] at h; exact fun c dd F' H' fp' a b r => h c dd σ F' H' fp' a b .refl r
  | bad => rw [q] at h; exact h
/-- name = e, the name owns what it is given -/
theorem ds_setO (i : Nat) {x : Str} {pos' : Pos} {l : Nat} (he : DO G X m W k l e fe) (hl : (m i).lvl = l := by rfl) (hio : (m i).isIo = false := by rfl) (hi : X.N[i]? = some x := by rfl) (hx : Loc X.env.scope x := by first | exact Or.inl rfl | exact Or.inr rfl)
    (hs : swapsWith e (some (.Name x pos')) pos.line X.env = pure false := by rfl) (hf : X.fn x = true ∨ X.env.scope.names.lookup x = some .local := by first | exact .inl rfl | exact .inr rfl | assumption) : DS G X m n W k (.Assign [.Name x pos'] e pos) (sSet i fe) := fun c =>
  PSmono (ps_set c.nd hi hx (he c) hs hf) fun D σ H ⟨F, ρ, fp, s, h⟩ => ⟨F, ρ, fp, s, hl ▸ set_run hio s h⟩
theorem ds_set (i : Nat) {x : Str} {pos' : Pos} (he : DE G X m W k e fe) (hl : (m i).lvl = 0 := by rfl) (hio : (m i).isIo = false := by rfl) (hi : X.N[i]? = some x := by rfl) (hx : Loc X.env.scope x := by first | exact Or.inl rfl | exact Or.inr rfl)
    (hs : swapsWith e (some (.Name x pos')) pos.line X.env = pure false := by rfl) (hf : X.fn x = true ∨ X.env.scope.names.lookup x = some .local := by first | exact .inl rfl | exact .inr rfl | assumption) : DS G X m n W k (.Assign [.Name x pos'] e pos) (sSet i fe) :=
  ds_setO i (DO.of he) hl hio hi hx hs hf

/-! ### targets -/
abbrev TD := D → Env → Option Env
def DG (G : Gx) (X : Cx) (m : Nat → Mode) (W : WX) (k : Nat) (ix : List Nat) (tg : Expr) (t : TD) (g : TG) : Prop :=
  Ctx G X W k → PG X tg g ∧ ∀ F H σ ρ fp d v ρ' Q, St G m F H σ ρ fp → Rep G F d v → t d ρ = some ρ' →
    (∀ σ' fp', St G m F H σ' ρ' fp' → Step G F H fp F H fp' → IoKept m σ σ' → (∀ vs : List Nat, (∀ j ∈ ix, j ∈ vs) → wipe σ' vs = wipe σ vs) → Q σ' H) → g v σ H Q
abbrev TDs := List D → Env → Option Env
def DGs (G : Gx) (X : Cx) (m : Nat → Mode) (W : WX) (k : Nat) (ix : List Nat) (c : Nat) (tgs : List Expr) (t : TDs) (g : TGs) : Prop :=
  tgs.length = c ∧ (Ctx G X W k → PGs X tgs g ∧ ∀ F H σ ρ fp ds vs ρ' Q, St G m F H σ ρ fp → RepL G F ds vs → t ds ρ = some ρ' →
    (∀ σ' fp', St G m F H σ' ρ' fp' → Step G F H fp F H fp' → IoKept m σ σ' → (∀ vs : List Nat, (∀ j ∈ ix, j ∈ vs) → wipe σ' vs = wipe σ vs) → Q σ' H) → g vs σ H Q)
def gNm (i : Nat) : TD := fun d ρ => some (ρ.set i (some d))
theorem wipe_in : ∀ {σ : L2.St} {vs : List Nat} {i : Nat} {v : Option V}, i ∈ vs → wipe (σ.set i v) vs = wipe σ vs
  | σ, v :: vs, i, x, h => by
    unfold wipe
    rcases List.mem_cons.mp h with rfl | h
    · by_cases hi : i ∈ vs
      · rw [wipe_in hi]
      · have aux : ∀ (vs : List Nat) (σ : L2.St), i ∉ vs → wipe (σ.set i x) vs = (wipe σ vs).set i x := by
          intro vs
          induction vs with
          | nil => intro σ _; rfl
          | cons w ws ih =>
            intro σ hn
            simp at hn
            unfold wipe
            rw [ih σ hn.2, List.set_comm _ _ hn.1]
        rw [aux vs σ hi, List.set_set]
    · rw [wipe_in h]
theorem dg_name (i : Nat) {x : Str} {p : Pos} (hm : m i = .frz := by rfl) (hi : X.N[i]? = some x := by rfl) (hx : Loc X.env.scope x := by first | exact Or.inl rfl | exact Or.inr rfl)
    (hf : X.fn x = true ∨ X.env.scope.names.lookup x = some .local := by first | exact .inl rfl | exact .inr rfl | assumption) : DG G X m W k [i] (.Name x p) (gNm i) (gName i) := fun c => by
  refine ⟨pg_name c.nd hi hx hf, fun F H σ ρ fp d v ρ' Q s r e q => ?_⟩
  cases e
  refine q _ _ (s.put i (fpv := []) (by rw [hm]; exact ⟨r, rfl⟩) fun a ha => by cases ha) (Step.put (i := i) (c := i < ρ.length) Step.refl fun a ha => by cases ha) (.set (by rw [hm]; rfl)) fun vs hv => wipe_in (hv i (by simp))
def gsNil : TDs := fun ds ρ => match ds with
  | [] => some ρ
  | _ => none
def gsCons (t : TD) (ts : TDs) : TDs := fun ds ρ => match ds with
  | [] => none
  | d :: ds => (t d ρ).bind fun ρ1 => ts ds ρ1
def gTp (n : Nat) (ts : TDs) : TD := fun d ρ => match d with
  | .tup ds => if ds.length = n then ts ds ρ else none
  | _ => none
theorem dgs_nil : DGs G X m W k [] 0 [] gsNil gNil := ⟨rfl, fun c => ⟨pgs_nil, fun F H σ ρ fp ds vs ρ' Q s r e q => by
  cases ds with
  | nil => cases r; cases e; exact ⟨rfl, q σ fp s Step.refl .refl fun _ _ => rfl⟩
  | cons d ds => cases e⟩⟩
theorem dgs_cons {tg : Expr} {tgs : List Expr} {ix ix' : List Nat} {c : Nat} {t : TD} {ts : TDs} {g1 : TG} {g2 : TGs} (h1 : DG G X m W k ix tg t g1) (h2 : DGs G X m W k ix' c tgs ts g2)
    (hs : (assignEach (tg :: tgs) X.env).map (·.2) = assign tg X.env :: (assignEach tgs X.env).map (·.2) := by rfl) : DGs G X m W k (ix ++ ix') (c + 1) (tg :: tgs) (gsCons t ts) (gCons g1 g2) := ⟨by simp [h2.1], fun x => by
  obtain ⟨p1, r1⟩ := h1 x
  obtain ⟨p2, r2⟩ := h2.2 x
  refine ⟨pgs_cons p1 p2 hs, fun F H σ ρ fp ds vs ρ' Q s r e q => ?_⟩
  cases ds with
  | nil => cases e
  | cons d ds =>
    obtain ⟨y, ys, rfl, ry, rys⟩ := r
    obtain ⟨ρ1, e1, e2⟩ := Option.bind_eq_some_iff.mp e
    refine ⟨y, ys, rfl, r1 F H σ ρ fp d y ρ1 _ s ry e1 fun σ1 fp1 s1 st1 io1 w1 => ?_⟩
    refine r2 F H σ1 ρ1 fp1 ds ys ρ' _ s1 rys e2 fun σ2 fp2 s2 st2 io2 w2 => ?_
    exact q σ2 fp2 s2 (st1.comp s s1 st2) (io1.trans io2) fun vs hv => (w2 vs fun j hj => hv j (List.mem_append_right _ hj)).trans (w1 vs fun j hj => hv j (List.mem_append_left _ hj))⟩
theorem dg_tup {tgs : List Expr} {ix : List Nat} {c kk : Nat} {ts : TDs} {g : TGs} {p : Pos} (h : DGs G X m W k ix c tgs ts g) (hn : (assignEach tgs X.env).length = c := by rfl) (hst : (assignEach tgs X.env).findIdx? (·.1) = none := by rfl) : DG G X m W k ix (.Tuple tgs kk p) (gTp c ts) (gTup G.K c g) := fun x => by
  obtain ⟨pg, r⟩ := h.2 x
  refine ⟨x.K ▸ pg_tup x.calm pg hn hst, fun F H σ ρ fp d v ρ' Q s rp e q => ?_⟩
  cases d with
  | tup ds =>
    obtain ⟨a, xs, rfl, h1, h2⟩ := rp
    simp only [gTp] at e
    split at e
    · rename_i hl
      exact ⟨a, xs, rfl, s.inn.seqT h1, by rw [h2.length]; exact hl, r F H σ ρ fp ds xs ρ' Q s h2 e q⟩
    · cases e
  | _ => cases e
def sAsg (fe : ED) (t : TD) : SD := fun ρ => (fe ρ).thn fun d ρ1 => match t d ρ1 with
  | some ρ2 => .nx ρ2
  | none => .bad
theorem ds_asg {tg : Expr} {ix : List Nat} {t : TD} {g : TG} (he : DE G X m W k e fe) (hg : DG G X m W k ix tg t g) (hs : swapsWithSole [tg] e pos.line X.env = pure false := by rfl) (hw : swappedStores [tg] e X.env = pure none := by rfl)
    (h1 : (assignEach [tg] X.env).map (·.2) = [assign tg X.env] := by rfl) : DS G X m n W k (.Assign [tg] e pos) (sAsg fe t) := fun c => by
  obtain ⟨pg, r⟩ := hg c
  refine PSmono (ps_asg (he c) pg hs hw h1) fun D σ H ⟨F, ρ, fp, s, h⟩ => ⟨F, ρ, fp, s, (RS.thn (R := RD G) s h).mono fun v H1 ⟨F1, ρ1, fp1, a, p1, s1, r1, h1⟩ => ?_⟩
  cases q : t a ρ1 with
  | none => rw [q] at h1; exact h1.elim
  | some ρ2 =>
    rw [q] at h1
    exact r F1 H1 σ ρ1 fp1 a v ρ2 _ s1 r1 q fun σ' fp' s' st' io' _ => h1 σ' F1 H1 fp' st' s' io'
end

/-! ### what is walked -/
def RI (G : Gx) : RR (List D) It := fun _ _ F _ _ _ _ ds J => ∃ Gd Y, Walk J ds.length Gd Y ∧ (∀ H F1, Ext F F1 → F1.In G H → Gd H) ∧
  ∀ i H F1 x H', Ext F F1 → F1.In G H → i < ds.length → Y i H x H' → ∃ F2 d, ds[i]? = some d ∧ Grow G F1 H F2 H' ∧ Rep G F2 d x
instance (G : Gx) : Reb G (RI G) := ⟨fun _ h => h⟩
abbrev ID := Env → ER (List D)
def DI (G : Gx) (X : Cx) (m : Nat → Mode) (W : WX) (k : Nat) (tg iter : Expr) (f : ID) : Prop := Ctx G X W k → PI X tg iter (tG G m W (RI G) f)
theorem PImono {X : Cx} {tg e : Expr} {t t' : TI} (h : PI X tg e t) (hq : ∀ σ H Q, t' σ H Q → t σ H Q) : PI X tg e t' := ⟨fun pins s σ H Q I q => h.run pins s σ H Q I (hq σ H Q q)⟩
def sLoop (t : TD) (b : SD) : List D → Env → SR
  | [], ρ => .nx ρ
  | d :: ds, ρ => match t d ρ with
    | none => .bad
    | some ρ1 => match b ρ1 with
      | .nx ρ2 => sLoop t b ds ρ2
      | .ct ρ2 => sLoop t b ds ρ2
      | .bk ρ2 => .nx ρ2
      | r => r
def sFor (it : ID) (t : TD) (b : SD) : SD := fun ρ => (it ρ).thn fun ds ρ1 => sLoop t b ds ρ1
section
variable {G : Gx} {X : Cx} {m : Nat → Mode} {n : Nat} {W : WX} {k : Nat} {pos : Pos} {iter tg : Expr} {it : ID} {ix : List Nat} {t : TD} {g : TG} {body : List Stmt} {b : SD}
theorem ds_for (hi : DI G X m W k tg iter it) (hg : DG G X m W k ix tg t g) (hb : DSs G X m n W k body b) (hs : ∀ x, foldedSetIterable iter X.env x = pure x := by intro _; rfl) : DS G X m n W k (.For tg iter body [] pos) (sFor it t b) := fun c => by
  obtain ⟨pg, r⟩ := hg c
  refine PSmono (ps_for c.po c.calm (hi c) pg (hb c) hs) fun D σ0 H0 ⟨F, ρ, fp, s, h⟩ => ⟨F, ρ, fp, s, (RS.thn (R := RI G) s h).mono fun J H1 ⟨F1, ρ1, fp1, ds, p1, s1, ⟨Gd, Y, w, hG, hY⟩, h1⟩ => ?_⟩
  refine for_it w (fun i σ H => ∃ F2 ρ2 fp2, Ext F1 F2 ∧ St G m F2 H σ ρ2 fp2 ∧ RS G m n W F2 H σ fp2 D (sLoop t b (ds.drop i) ρ2)) ⟨F1, ρ1, fp1, Ext.refl _, s1, h1⟩ ?_ ?_ ?_
  · rintro i σ H _ ⟨F2, ρ2, fp2, x2, s2, _⟩
    exact hG H F2 x2 s2.inn
  · rintro i x σ H H' hi ⟨F2, ρ2, fp2, x2, s2, h2⟩ hy
    obtain ⟨F3, d, ed, gr, rp⟩ := hY i H F2 x H' x2 s2.inn hi hy
    have s3 := s2.grow gr
    have h3 := RS.rebase s2 gr.step s3 .refl h2
    have hd : ds.drop i = d :: ds.drop (i + 1) := by
      rw [List.drop_eq_getElem_cons hi]
      rw [List.getElem?_eq_getElem hi] at ed
      cases ed; rfl
    rw [hd] at h3
    simp only [sLoop] at h3
    cases q : t d ρ2 with
    | none => rw [q] at h3; exact h3.elim
    | some ρ3 =>
      rw [q] at h3
      dsimp only at h3
      refine r F3 H' σ ρ2 fp2 d x ρ3 _ s3 rp q fun σ4 fp4 s4 st4 io4 _ => ?_
      have h4 := RS.rebase s3 st4 s4 io4 h3
      refine ⟨F3, ρ3, fp4, s4, ?_⟩
      have x3 : Ext F1 F3 := x2.trans gr.ext
      cases qb : b ρ3 with
      | nx ρ5 => rw [qb] at h4; exact fun σ' F' H' fp' a b c => ⟨F', ρ5, fp', x3.trans a.ext, b, h4.rebase s4 a b c⟩
      | ct ρ5 => rw [qb] at h4; exact fun σ' F' H' fp' a b c => ⟨F', ρ5, fp', x3.trans a.ext, b, h4.rebase s4 a b c⟩
      | bk ρ5 => rw [qb] at h4; exact h4
      | rt d5 ρ5 => rw [qb] at h4; exact h4
      | exc e5 ρ5 => rw [qb] at h4; exact h4
      | bad => rw [qb] at h4; exact h4
  · rintro σ H ⟨F2, ρ2, fp2, x2, s2, h2⟩
    rw [List.drop_length] at h2
    exact h2 σ F2 H fp2 Step.refl s2 .refl
end

/-! ### while -/
def sWhN (c : BD) (b : SD) : Nat → SD
  | 0, _ => .bad
  | f + 1, ρ => (c ρ).thn fun x ρ1 => if x = true then (match b ρ1 with
      | .nx ρ2 => sWhN c b f ρ2
      | .ct ρ2 => sWhN c b f ρ2
      | .bk ρ2 => .nx ρ2
      | r => r) else .nx ρ1
theorem sWhN_succ (c : BD) (b : SD) : ∀ (f : Nat) (ρ : Env), sWhN c b f ρ ≠ .bad → sWhN c b (f + 1) ρ = sWhN c b f ρ
  | 0, ρ, h => (h rfl).elim
  | f + 1, ρ, h => by
    rw [sWhN] at h ⊢
    conv => rhs; rw [sWhN]
    cases hc : c ρ with
    | exc e ρ1 => rfl
    | bad => rfl
    | ok x ρ1 =>
      rw [hc] at h
      simp only [thn_ok] at h ⊢
      cases x with
      | false => rfl
      | true =>
        simp only [if_true] at h ⊢
        cases hb : b ρ1 with
        | nx ρ2 => rw [hb] at h; exact sWhN_succ c b f ρ2 h
        | ct ρ2 => rw [hb] at h; exact sWhN_succ c b f ρ2 h
        | _ => rfl
theorem sWhN_le (c : BD) (b : SD) {f f' : Nat} (ρ : Env) (hf : f ≤ f') (h : sWhN c b f ρ ≠ .bad) : sWhN c b f' ρ = sWhN c b f ρ := by
  induction hf with
  | refl => rfl
  | step _ ih => rw [sWhN_succ c b _ ρ (by rw [ih]; exact h), ih]
open Classical in
noncomputable def sWhile (c : BD) (b : SD) : SD := fun ρ => if h : ∃ f, sWhN c b f ρ ≠ .bad then sWhN c b (Classical.choose h) ρ else .bad
theorem sWhile_of {c : BD} {b : SD} {f : Nat} {ρ : Env} {r : SR} (h : sWhN c b f ρ = r) (hr : r ≠ .bad) : sWhile c b ρ = r := by
  have e : ∃ f, sWhN c b f ρ ≠ .bad := ⟨f, by rw [h]; exact hr⟩
  unfold sWhile
  rw [dif_pos e]
  have h1 := Classical.choose_spec e
  rcases Nat.le_total f (Classical.choose e) with q | q
  · rw [sWhN_le c b ρ q (by rw [h]; exact hr), h]
  · rw [← sWhN_le c b ρ q h1, h]
section
variable {G : Gx} {X : Cx} {m : Nat → Mode} {n : Nat} {W : WX} {k : Nat} {pos : Pos} {ce : Expr} {body : List Stmt} {c : BD} {b : SD}
theorem ds_while (hc : DT G X m W k ce c) (hb : DSs G X m n W k body b) : DS G X m n W k (.While ce body [] pos) (sWhile c b) := fun x =>
  PSmono (ps_while x.po (hc x) (hb x)) fun D σ0 H0 ⟨F, ρ, fp, s, h⟩ => by
    refine ⟨fun f σ H => ∃ F2 ρ2 fp2, St G m F2 H σ ρ2 fp2 ∧ RS G m n W F2 H σ fp2 D (sWhN c b f ρ2), ?_, ?_⟩
    · unfold sWhile at h
      split at h
      · exact ⟨_, F, ρ, fp, s, h⟩
      · exact h.elim
    · rintro f σ H ⟨F2, ρ2, fp2, s2, h2⟩
      cases f with
      | zero => exact h2.elim
      | succ f =>
        rw [sWhN] at h2
        refine ⟨F2, ρ2, fp2, s2, (RS.thn (R := RB) s2 h2).mono fun v H3 ⟨F3, ρ3, fp3, a, p3, s3, r3, h3⟩ => ?_⟩
        cases r3
        cases v with
        | false => exact h3 σ F3 H3 fp3 Step.refl s3 .refl
        | true =>
          simp only [if_true] at h3 ⊢
          refine ⟨fun σ' H' => ∃ F2 ρ2 fp2, St G m F2 H' σ' ρ2 fp2 ∧ RS G m n W F2 H' σ' fp2 D (sWhN c b f ρ2), fun σ' H' w => ⟨f, by omega, w⟩, F3, ρ3, fp3, s3, ?_⟩
          cases qb : b ρ3 with
          | nx ρ5 => rw [qb] at h3; exact fun σ' F' H' fp' a b c => ⟨F', ρ5, fp', b, h3.rebase s3 a b c⟩
          | ct ρ5 => rw [qb] at h3; exact fun σ' F' H' fp' a b c => ⟨F', ρ5, fp', b, h3.rebase s3 a b c⟩
          | bk ρ5 => rw [qb] at h3; exact h3
          | rt d5 ρ5 => rw [qb] at h3; exact h3
          | exc e5 ρ5 => rw [qb] at h3; exact h3
          | bad => rw [qb] at h3; exact h3
end
end Dn

/-! Dn5: comprehensions. -/
namespace Dn
open PySem PySem.Spec PyProof.Rows L2

def wipeE (ρ : Env) : List Nat → Env
  | [] => ρ
  | v :: vs => (wipeE ρ vs).set v none
def unwipe (ρ1 : Env) (vs : List Nat) (ρ : Env) : Env := match vs with
  | [] => ρ
  | v :: vs => (unwipe ρ1 vs ρ).set v (ρ1[v]?.join)
theorem wipeE_length (ρ : Env) : ∀ vs : List Nat, (wipeE ρ vs).length = ρ.length
  | [] => rfl
  | v :: vs => by simp [wipeE, wipeE_length ρ vs]
theorem unwipe_length (ρ1 ρ : Env) : ∀ vs : List Nat, (unwipe ρ1 vs ρ).length = ρ.length
  | [] => rfl
  | v :: vs => by simp [unwipe, unwipe_length ρ1 ρ vs]
theorem wipeE_out {ρ : Env} {i : Nat} : ∀ {vs : List Nat}, i ∉ vs → (wipeE ρ vs)[i]? = ρ[i]?
  | [], _ => rfl
  | v :: vs, h => by
    simp at h
    show ((wipeE ρ vs).set v none)[i]? = _
    rw [List.getElem?_set_ne (Ne.symm h.1)]; exact wipeE_out h.2
theorem wipeE_in {ρ : Env} {i : Nat} {d : D} : ∀ {vs : List Nat}, i ∈ vs → (wipeE ρ vs)[i]? ≠ some (some d)
  | v :: vs, h => by
    show ((wipeE ρ vs).set v none)[i]? ≠ _
    by_cases e : v = i
    · subst e
      by_cases hl : v < (wipeE ρ vs).length
      · rw [List.getElem?_set_self hl]; simp
      · rw [List.getElem?_eq_none (by simpa using hl)]; simp
    · rw [List.getElem?_set_ne e]
      exact wipeE_in (by simpa [Ne.symm e] using h)
theorem unwipe_out {ρ1 ρ : Env} {i : Nat} : ∀ {vs : List Nat}, i ∉ vs → (unwipe ρ1 vs ρ)[i]? = ρ[i]?
  | [], _ => rfl
  | v :: vs, h => by
    simp at h
    show ((unwipe ρ1 vs ρ).set v _)[i]? = _
    rw [List.getElem?_set_ne (Ne.symm h.1)]; exact unwipe_out h.2
theorem unwipe_in {ρ1 ρ : Env} {i : Nat} {d : D} (hl : ρ.length = ρ1.length) : ∀ {vs : List Nat}, i ∈ vs → (unwipe ρ1 vs ρ)[i]? = some (some d) → ρ1[i]? = some (some d)
  | v :: vs, h, e => by
    have e' : ((unwipe ρ1 vs ρ).set v (ρ1[v]?.join))[i]? = some (some d) := e
    by_cases q : v = i
    · subst q
      by_cases hv : v < (unwipe ρ1 vs ρ).length
      · rw [List.getElem?_set_self hv] at e'
        exact join_some (Option.some.inj e')
      · rw [List.getElem?_eq_none (by simpa using hv)] at e'; cases e'
    · rw [List.getElem?_set_ne q] at e'
      exact unwipe_in hl (by simpa [Ne.symm q] using h) e'
section
variable {G : Gx} {m : Nat → Mode} {F F1 : Fr} {H H1 : Hp} {σ : L2.St} {ρ ρ1 : Env} {fp fp1 : Nat → List Addr} {vs : List Nat}
theorem St.nofp (s : St G m F H σ ρ fp) {i : Nat} (h : m i = .frz) : fp i = [] := by
  by_cases e : ∃ d, ρ[i]? = some (some d)
  · obtain ⟨d, e⟩ := e
    obtain ⟨v, _, o⟩ := s.slot i d e
    rw [h] at o; exact o.2
  · exact s.dead i fun d q => e ⟨d, q⟩
theorem St.wiped (s : St G m F H σ ρ fp) (hv : ∀ v ∈ vs, m v = .frz) : St G m F H (wipe σ vs) (wipeE ρ vs) fp where
  inn := s.inn
  len := by rw [wipeE_length, wipe_length]; exact s.len
  slot := fun i d e => by
    by_cases h : i ∈ vs
    · exact absurd e (wipeE_in h)
    · rw [wipeE_out h] at e
      rw [wipe_out h]
      exact s.slot i d e
  dead := fun i h => by
    by_cases hi : i ∈ vs
    · exact s.nofp (hv i hi)
    · exact s.dead i fun d q => h d (by rw [wipeE_out hi]; exact q)
  sep := s.sep
  own := s.own
theorem St.unwiped (s0 : St G m F H σ ρ fp) (x : Ext F F1) (s : St G m F1 H1 (wipe σ vs) ρ1 fp1) (hv : ∀ v ∈ vs, m v = .frz) : St G m F1 H1 σ (unwipe ρ vs ρ1) fp1 where
  inn := s.inn
  len := by rw [unwipe_length, s.len, wipe_length]
  slot := fun i d e => by
    by_cases h : i ∈ vs
    · have hl : ρ1.length = ρ.length := by rw [s.len, wipe_length, s0.len]
      have e' := unwipe_in hl h e
      obtain ⟨v, h1, h2⟩ := s0.slot i d e'
      refine ⟨v, h1, ?_⟩
      rw [hv i h] at h2 ⊢
      exact ⟨Rep.ext x _ _ h2.1, s.nofp (hv i h)⟩
    · rw [unwipe_out h] at e
      obtain ⟨v, h1, h2⟩ := s.slot i d e
      rw [wipe_out h] at h1
      exact ⟨v, h1, h2⟩
  dead := fun i h => by
    by_cases hi : i ∈ vs
    · exact s.nofp (hv i hi)
    · exact s.dead i fun d q => h d (by rw [unwipe_out hi]; exact q)
  sep := s.sep
  own := s.own
end
/-- within a comprehension nothing may be raised -/
def ER.nox {α : Type} : ER α → ER α
  | .exc _ _ => .bad
  | r => r
@[simp] theorem nox_ok {α : Type} (a : α) (ρ : Env) : (ER.ok a ρ).nox = .ok a ρ := rfl
@[simp] theorem nox_bad {α : Type} : (ER.bad : ER α).nox = .bad := rfl
@[simp] theorem nox_exc {α : Type} (e : Ex) (ρ : Env) : (ER.exc e ρ : ER α).nox = .bad := rfl
def lcLoop (t : TD) (ifs : BD) (fe : ED) (vs : List Nat) : List D → List D → Env → ER (List D)
  | [], acc, ρ => .ok acc ρ
  | d :: ds, acc, ρ => match t d ρ with
    | none => .bad
    | some ρ1 => (ifs ρ1).nox.bind fun b ρ2 => if b = true then (fe ρ2).nox.bind fun x ρ3 => if acc.length < sizeLine then lcLoop t ifs fe vs ds (acc ++ [x]) (wipeE ρ3 vs) else .bad
        else lcLoop t ifs fe vs ds acc (wipeE ρ2 vs)
def eLc (it : ID) (t : TD) (ifs : BD) (fe : ED) (vs : List Nat) : ED := fun ρ => (it ρ).bind fun ds ρ1 => (lcLoop t ifs fe vs ds [] (wipeE ρ1 vs)).bind fun acc ρ2 => .ok (.lst acc) (unwipe ρ1 vs ρ2)
abbrev W0 : WX := fun _ _ _ _ => False
section
variable {G : Gx} {m : Nat → Mode} {W : WX} {F : Fr} {H : Hp} {σ : L2.St} {fp : Nat → List Addr}
theorem RG.nox {α β : Type} {R : RR α β} {Q : β → Hp → Prop} {x : ER α} (h : RG G m W R F H σ fp Q x.nox) : RG G m W0 R F H σ fp Q x := by
  cases x with
  | ok d ρ' => exact h
  | exc e ρ' => exact h.elim
  | bad => exact h
theorem RG.bindN {α β γ δ : Type} {R : RR α β} {R' : RR γ δ} [Reb G R'] {ρ : Env} {Q : δ → Hp → Prop} {x : ER α} {k : α → Env → ER γ} (s : St G m F H σ ρ fp) (h : RG G m W R' F H σ fp Q (x.nox.bind k)) :
    RG G m W0 R F H σ fp (fun v H1 => ∃ F1 ρ1 fp1 a, Step G F H fp F1 H1 fp1 ∧ St G m F1 H1 σ ρ1 fp1 ∧ R H fp F1 H1 fp1 σ ρ1 a v ∧ RG G m W R' F1 H1 σ fp1 Q (k a ρ1)) x :=
  RG.nox (RG.bind (R := R) s h)
theorem Ctx.blk {X : Cx} {k : Nat} (c : Ctx G X W k) (s : Shared) (H : Hp) (scope : Scope) (cenv : PySem.Env) (fp : List Addr) : Ctx G (X.blk s H scope cenv fp) W0 k :=
  ⟨c.P, c.w, c.K, c.mg, c.base, c.nd, c.calm, c.room, PassesOwn.never, takes0⟩
/-- the reading of a comprehension -/
theorem tLc_of {X : Cx} {k : Nat} {tg : Expr} {it : ID} {t : TD} {g : TG} {ix : List Nat} {ifs : BD} {fe : ED} {vs : List Nat} {Wt : WX}
    (hg : ∀ F H σ ρ fp d v ρ' Q, St G m F H σ ρ fp → Rep G F d v → t d ρ = some ρ' →
    (∀ σ' fp', St G m F H σ' ρ' fp' → Step G F H fp F H fp' → IoKept m σ σ' → (∀ vs : List Nat, (∀ j ∈ ix, j ∈ vs) → wipe σ' vs = wipe σ vs) → Q σ' H) → g v σ H Q)
    (hv : ∀ v ∈ vs, m v = .frz) (hix : ∀ j ∈ ix, j ∈ vs) {σ0 : L2.St} {H0 : Hp} {Q : VK} (h : tG G m W (RV G 1) (eLc it t ifs fe vs) σ0 H0 Q) :
    tLc (tG G m W (RI G) it) g (tB G m W0 ifs) (tD G m W0 fe) vs σ0 H0 Q := by
  obtain ⟨F, ρ, fp, s, h⟩ := h
  refine ⟨F, ρ, fp, s, (RG.bind (R := RI G) s h).mono fun J H1 ⟨F1, ρ1, fp1, ds, p1, s1, ⟨Gd, Y, w, hG, hY⟩, h1⟩ => ?_⟩
  intro D hD
  have sw := s1.wiped (vs := vs) hv
  have grD : Grow G F1 H1 F1 (upd H1 D (.lst [])) := Grow.drop s1.inn hD
  have sD := sw.grow grD
  have h1' : RG G m W (RV G 1) F1 H1 σ0 fp1 Q ((lcLoop t ifs fe vs ds [] (wipeE ρ1 vs)).bind fun acc ρ2 => .ok (.lst acc) (unwipe ρ1 vs ρ2)) := h1
  -- the end
  let QE : (List Dn.D) → Env → Hp → Prop := fun _ _ _ => True
  refine lc_it w (fun i H => ∃ F2 ρ2 fp2 acc xs, Step G F1 H1 fp1 F2 H fp2 ∧ St G m F2 H (wipe σ0 vs) ρ2 fp2 ∧ H D = some (.lst xs) ∧ RepL G F2 acc xs ∧ F2.fx D = none ∧ F2.nt D = none ∧ (∀ i, D ∉ fp2 i) ∧
      (∃ r, lcLoop t ifs fe vs (ds.drop i) acc ρ2 = r ∧ match r with
        | .ok acc' ρ3 => ∀ F' H' fp' xs', Step G F1 H1 fp1 F' H' fp' → St G m F' H' (wipe σ0 vs) ρ3 fp' → H' D = some (.lst xs') → RepL G F' acc' xs' → F'.fx D = none → F'.nt D = none → (∀ i, D ∉ fp' i) → Q (.ref D) H'
        | .exc _ _ => False
        | .bad => False)) ?_ ?_ ?_ ?_
  · refine ⟨F1, wipeE ρ1 vs, fp1, [], [], grD.step, sD, upd_same, rfl, (s1.inn.free hD).1, (s1.inn.free hD).2, fun i hi => s1.alloc hi hD, _, rfl, ?_⟩
    rw [List.drop_zero]
    cases q : lcLoop t ifs fe vs ds [] (wipeE ρ1 vs) with
    | bad => rw [q] at h1'; exact h1'.elim
    | exc e ρ2 =>
      -- no exception leaves the loop
      exfalso
      have aux : ∀ (ds acc : List Dn.D) (ρ : Env) e ρ', lcLoop t ifs fe vs ds acc ρ ≠ .exc e ρ' := by
        intro ds
        induction ds with
        | nil => intro acc ρ e ρ' z; cases z
        | cons d ds ih =>
          intro acc ρ e ρ' z
          rw [lcLoop] at z
          cases q1 : t d ρ with
          | none => rw [q1] at z; cases z
          | some ρa =>
            rw [q1] at z
            dsimp only at z
            cases q2 : ifs ρa with
            | bad => rw [q2] at z; cases z
            | exc _ _ => rw [q2] at z; cases z
            | ok b ρb =>
              rw [q2] at z
              cases b with
              | false => exact ih _ _ _ _ z
              | true =>
                simp only [nox_ok, bind_ok, if_true] at z
                cases q3 : fe ρb with
                | bad => rw [q3] at z; cases z
                | exc _ _ => rw [q3] at z; cases z
                | ok x ρc =>
                  rw [q3] at z
                  simp only [nox_ok, bind_ok] at z
                  split at z
                  · exact ih _ _ _ _ z
                  · cases z
      exact aux _ _ _ _ _ q
    | ok acc' ρ3 =>
      rw [q] at h1'
      intro F' H' fp' xs' st sx hD' rx n1 n2 n3
      exact h1' (.ref D) F' H' fp' st (s1.unwiped st.ext sx hv) ⟨[D], ⟨D, rfl, rfl, xs', hD', rx⟩, by simp, fun a ha => by
        have : a = D := by simpa using ha
        subst this
        exact ⟨n1, n2, n3, .inr hD⟩⟩
  · rintro i H _ ⟨F2, ρ2, fp2, acc, xs, st, s2, _⟩
    exact hG H F2 st.ext s2.inn
  · rintro i x H H' hi ⟨F2, ρ2, fp2, acc, xs, st, s2, hDx, rx, n1, n2, n3, r, hr, q⟩ hy
    obtain ⟨F3, d, ed, gr, rp⟩ := hY i H F2 x H' st.ext s2.inn hi hy
    have s3 := s2.grow gr
    have st3 : Step G F1 H1 fp1 F3 H' fp2 := st.trans gr.step s1.inn fun i a h => (s2.own i a h).2
    have hDx3 : H' D = some (.lst xs) := gr.same _ _ hDx
    have rx3 := RepL.ext gr.ext _ _ rx
    have n1' : F3.fx D = none := by
      cases z : F3.fx D with
      | none => rfl
      | some o => rcases gr.newF D o z with y | y; rw [n1] at y; cases y; rw [hDx] at y; cases y
    have n2' : F3.nt D = none := by
      cases z : F3.nt D with
      | none => rfl
      | some o => rcases gr.newN D o z with y | y; rw [n2] at y; cases y; rw [hDx] at y; cases y
    have hd : ds.drop i = d :: ds.drop (i + 1) := by
      rw [List.drop_eq_getElem_cons hi]
      rw [List.getElem?_eq_getElem hi] at ed
      cases ed; rfl
    rw [hd, lcLoop] at hr
    cases q1 : t d ρ2 with
    | none => rw [q1] at hr; subst hr; exact q.elim
    | some ρa =>
      rw [q1] at hr
      dsimp only at hr
      refine hg F3 H' (wipe σ0 vs) ρ2 fp2 d x ρa _ s3 rp q1 fun σ4 fp4 s4 st4 io4 wp4 => ?_
      have hw : wipe σ4 vs = wipe σ0 vs := by
        rw [wp4 vs hix]
        have wipe_wipe : ∀ (vs : List Nat) (σ : L2.St), wipe (wipe σ vs) vs = wipe σ vs := by
          intro vs σ
          apply List.ext_getElem?
          intro j
          by_cases hj : j ∈ vs
          · have aux : ∀ (vs : List Nat) (σ : L2.St) (j : Nat), j ∈ vs → (wipe σ vs)[j]? = if j < σ.length then some none else none := by
              intro vs
              induction vs with
              | nil => intro σ j h; cases h
              | cons v vs ih =>
                intro σ j h
                show ((wipe σ vs).set v none)[j]? = _
                by_cases e : v = j
                · subst e
                  by_cases hl : v < (wipe σ vs).length
                  · rw [List.getElem?_set_self hl, if_pos (by rwa [wipe_length] at hl)]
                  · rw [List.getElem?_eq_none (by simpa using hl), if_neg (by rwa [wipe_length] at hl)]
                · rw [List.getElem?_set_ne e]
                  exact ih σ j (by simpa [Ne.symm e] using h)
            rw [aux vs _ j hj, aux vs _ j hj, wipe_length]
          · rw [wipe_out hj]
        exact wipe_wipe vs σ0
      have wne : ∀ {σ : L2.St}, wipe (wipe σ vs) vs = wipe σ vs → True := fun _ => trivial
      refine ⟨by rw [hw], ?_⟩
      have stA : Step G F1 H1 fp1 F3 H' fp4 := st3.trans st4 s1.inn fun i a h => (s3.own i a h).2
      have n3' : ∀ i, D ∉ fp4 i := fun i hi => by
        rcases st4.fpn i D hi with ⟨j, z⟩ | z
        · exact n3 j z
        · rw [hDx3] at z; cases z
      cases q2 : ifs ρa with
      | bad => rw [q2] at hr; subst hr; exact q.elim
      | exc _ _ => rw [q2] at hr; subst hr; exact q.elim
      | ok b ρb =>
        rw [q2] at hr
        simp only [nox_ok, bind_ok] at hr
        refine ⟨F3, ρa, fp4, s4, ?_⟩
        rw [q2]
        intro b' F5 H5 fp5 st5 s5 eb
        cases eb
        have stB : Step G F1 H1 fp1 F5 H5 fp5 := stA.trans st5 s1.inn fun i a h => (s4.own i a h).2
        have hD5 : H5 D = some (.lst xs) := st5.frm D _ hDx3 n2' n3'
        have rx5 := RepL.ext st5.ext _ _ rx3
        have n15 : F5.fx D = none := by
          cases z : F5.fx D with
          | none => rfl
          | some o => rcases st5.newF D o z with y | y | ⟨j, y⟩; rw [n1'] at y; cases y; rw [hDx3] at y; cases y; exact absurd y (n3' j)
        have n25 : F5.nt D = none := by
          cases z : F5.nt D with
          | none => rfl
          | some o => rcases st5.newN D o z with y | y | ⟨j, y⟩; rw [n2'] at y; cases y; rw [hDx3] at y; cases y; exact absurd y (n3' j)
        have n35 : ∀ i, D ∉ fp5 i := fun i hi => by
          rcases st5.fpn i D hi with ⟨j, z⟩ | z
          · exact n3' j z
          · rw [hDx3] at z; cases z
        cases b with
        | false =>
          simp only [Bool.false_eq_true, if_false] at hr ⊢
          have s6 := s5.wiped (vs := vs) hv
          rw [hw] at s6
          exact ⟨F5, wipeE ρb vs, fp5, acc, xs, stB, s6, hD5, rx5, n15, n25, n35, r, hr, q⟩
        | true =>
          simp only [if_true] at hr ⊢
          refine ⟨F5, ρb, fp5, s5, ?_⟩
          cases q3 : fe ρb with
          | bad => rw [q3] at hr; subst hr; exact q.elim
          | exc _ _ => rw [q3] at hr; subst hr; exact q.elim
          | ok y ρc =>
            rw [q3] at hr
            simp only [nox_ok, bind_ok] at hr
            intro yv F7 H7 fp7 st7 s7 ry
            have hD7 : H7 D = some (.lst xs) := st7.frm D _ hD5 n25 n35
            have n17 : F7.fx D = none := by
              cases z : F7.fx D with
              | none => rfl
              | some o => rcases st7.newF D o z with y | y | ⟨j, y⟩; rw [n15] at y; cases y; rw [hD5] at y; cases y; exact absurd y (n35 j)
            have n27 : F7.nt D = none := by
              cases z : F7.nt D with
              | none => rfl
              | some o => rcases st7.newN D o z with y | y | ⟨j, y⟩; rw [n25] at y; cases y; rw [hD5] at y; cases y; exact absurd y (n35 j)
            have n37 : ∀ i, D ∉ fp7 i := fun i hi => by
              rcases st7.fpn i D hi with ⟨j, z⟩ | z
              · exact n35 j z
              · rw [hD5] at z; cases z
            refine ⟨xs, hD7, ?_⟩
            by_cases hz : acc.length < sizeLine
            · rw [if_pos hz] at hr
              have rx7 := RepL.ext st7.ext _ _ rx5
              refine ⟨by rw [rx7.length]; exact hz, ?_⟩
              have s8 := s7.wiped (vs := vs) hv
              rw [hw] at s8
              -- the new list
              have inn9 : F7.In G (upd H7 D (.lst (xs ++ [yv]))) := ⟨fun a o e => by
                have : a ≠ D := fun z => by subst z; rw [n17] at e; cases e
                rw [upd_ne this]; exact s7.inn.fx _ _ e, fun a d e => by
                obtain ⟨kvs, e1, e2⟩ := s7.inn.nt a d e
                have : a ≠ D := fun z => by subst z; rw [n27] at e; cases e
                exact ⟨kvs, by rw [upd_ne this]; exact e1, e2⟩⟩
              have s9 : St G m F7 (upd H7 D (.lst (xs ++ [yv]))) (wipe σ0 vs) (wipeE ρc vs) fp7 := ⟨inn9, s8.len, fun i d e => by
                obtain ⟨v, e1, e2⟩ := s8.slot i d e
                refine ⟨v, e1, e2.keep (Ext.refl _) fun b hb => upd_ne fun z => ?_⟩
                subst z; exact n37 i hb, s8.dead, s8.sep, s8.own⟩
              have st9 : Step G F1 H1 fp1 F7 (upd H7 D (.lst (xs ++ [yv]))) fp7 := by
                have a : Step G F1 H1 fp1 F7 H7 fp7 := stB.trans st7 s1.inn fun i a h => (s5.own i a h).2
                refine ⟨a.ext, a.newF, a.newN, a.fpn, fun b o e1 e2 e3 => ?_, fun b e => ?_⟩
                · have : b ≠ D := fun z => by subst z; rw [hD] at e1; cases e1
                  rw [upd_ne this]; exact a.frm b o e1 e2 e3
                · by_cases z : b = D
                  · subst z; exact hD
                  · rw [upd_ne z] at e; exact a.live b e
              exact ⟨F7, wipeE ρc vs, fp7, acc ++ [y], xs ++ [yv], st9, s9, upd_same, rx7.append (.one ry), n17, n27, n37, r, hr, q⟩
            · rw [if_neg hz] at hr; subst hr; exact q.elim
  · rintro H ⟨F2, ρ2, fp2, acc, xs, st, s2, hDx, rx, n1, n2, n3, r, hr, q⟩
    rw [List.drop_length] at hr
    subst hr
    exact q F2 H fp2 xs st s2 hDx rx n1 n2 n3
end
section
variable {G : Gx} {X : Cx} {m : Nat → Mode} {n : Nat} {W : WX} {k : Nat} {elt tg iter : Expr} {ifs : List Expr} {scope : Scope} {own : List (Str × Nat)} {pos : Pos} {it : ID} {t : TD} {g : TG} {ix : List Nat} {bi : BD} {fe : ED}
def DIf (G : Gx) (X : Cx) (m : Nat → Mode) (W : WX) (k : Nat) (ifs : List Expr) (f : BD) : Prop := Ctx G X W k → PTs X ifs (tB G m W f)
def bYes : BD := fun ρ => .ok true ρ
theorem PTsmono {X : Cx} {e : List Expr} {t t' : TT} (h : PTs X e t) (hq : ∀ σ H Q, t' σ H Q → t σ H Q) : PTs X e t' := ⟨fun pins s σ H Q I q => h.run pins s σ H Q I (hq σ H Q q)⟩
theorem dif_nil : DIf G X m W k [] bYes := fun _ => PTsmono pts_nil fun σ H Q ⟨F, ρ, fp, s, h⟩ => h true F H fp Step.refl s rfl
theorem dif_one {c : Expr} {f : BD} (h : DT G X m W k c f) : DIf G X m W k [c] f := fun x => pts_one (h x)
theorem do_lc (hi : DI G X m W k tg iter it) (ok : BlkOk X.N X.env.scope scope own)
    (hg : ∀ (s : Shared) (H : Hp) (C : Addr) (cl : List (Str × Addr)) (fp : List Addr), DG G (X.blk s H scope (compEnvC scope cl C X.env) fp) m W0 k ix tg t g)
    (ht : ∀ (s : Shared) (H : Hp) (C : Addr) (cl : List (Str × Addr)) (fp : List Addr), DIf G (X.blk s H scope (compEnvC scope cl C X.env) fp) m W0 k ifs bi)
    (he : ∀ (s : Shared) (H : Hp) (C : Addr) (cl : List (Str × Addr)) (fp : List Addr), DE G (X.blk s H scope (compEnvC scope cl C X.env) fp) m W0 k elt fe)
    (hv : ∀ v ∈ own.map (·.2), m v = .frz := by decide) (hix : ∀ j ∈ ix, j ∈ own.map (·.2) := by decide) (hs : ∀ x, foldedSetIterable iter X.env x = pure x := by intro _; rfl) :
    DO G X m W k 1 (.ListComp elt [⟨tg, iter, ifs, 0⟩] scope pos) (eLc it t bi fe (own.map (·.2))) := fun c =>
  PEmono (pe_lc c.calm c.nd (hi c) ok (fun s H C cl fp => (hg s H C cl fp (c.blk ..)).1) (fun s H C cl fp => ht s H C cl fp (c.blk ..)) (fun s H C cl fp => he s H C cl fp (c.blk ..)) hs) fun σ H Q h =>
    tLc_of (X := X) (k := k) (tg := tg) (Wt := W) (hg X.s_0 X.H_0 0 [] [] (c.blk ..)).2 hv hix h
theorem ds_setLc (i : Nat) {y : Str} {py spos : Pos} (hi : DI G X m W k tg iter it) (ok : BlkOk X.N X.env.scope scope own)
    (hg : ∀ (s : Shared) (H : Hp) (C : Addr) (cl : List (Str × Addr)) (fp : List Addr), DG G (X.blk s H scope (compEnvC scope cl C X.env) fp) m W0 k ix tg t g)
    (ht : ∀ (s : Shared) (H : Hp) (C : Addr) (cl : List (Str × Addr)) (fp : List Addr), DIf G (X.blk s H scope (compEnvC scope cl C X.env) fp) m W0 k ifs bi)
    (he : ∀ (s : Shared) (H : Hp) (C : Addr) (cl : List (Str × Addr)) (fp : List Addr), DE G (X.blk s H scope (compEnvC scope cl C X.env) fp) m W0 k elt fe)
    (hl : (m i).lvl = 1 := by rfl) (hio : (m i).isIo = false := by rfl) (hy : X.N[i]? = some y := by rfl) (hyl : X.env.scope.names.lookup y = some .local := by rfl)
    (hsw : swapsWith (.ListComp elt [⟨tg, iter, ifs, 0⟩] scope pos) (some (.Name y py)) spos.line X.env = pure true := by exact sw_true rfl rfl rfl (by decide +kernel))
    (hv : ∀ v ∈ own.map (·.2), m v = .frz := by decide) (hix : ∀ j ∈ ix, j ∈ own.map (·.2) := by decide) (hs : ∀ x, foldedSetIterable iter X.env x = pure x := by intro _; rfl) :
    DS G X m n W k (.Assign [.Name y py] (.ListComp elt [⟨tg, iter, ifs, 0⟩] scope pos) spos) (sSet i (eLc it t bi fe (own.map (·.2)))) := fun c =>
  PSmono (ps_setLc c.calm c.nd hy hyl hsw (hi c) ok (fun s H C cl fp => (hg s H C cl fp (c.blk ..)).1) (fun s H C cl fp => ht s H C cl fp (c.blk ..)) (fun s H C cl fp => he s H C cl fp (c.blk ..)) hs) fun D σ H ⟨F, ρ, fp, s, h⟩ =>
    tLc_of (X := X) (k := k) (tg := tg) (Wt := W) (hg X.s_0 X.H_0 0 [] [] (c.blk ..)).2 hv hix ⟨F, ρ, fp, s, hl ▸ set_run hio s h⟩
/-- .. to a name that does not own what it is given -/
theorem ds_setLcF (i : Nat) {y : Str} {py spos : Pos} (hi : DI G X m W k tg iter it) (ok : BlkOk X.N X.env.scope scope own)
    (hg : ∀ (s : Shared) (H : Hp) (C : Addr) (cl : List (Str × Addr)) (fp : List Addr), DG G (X.blk s H scope (compEnvC scope cl C X.env) fp) m W0 k ix tg t g)
    (ht : ∀ (s : Shared) (H : Hp) (C : Addr) (cl : List (Str × Addr)) (fp : List Addr), DIf G (X.blk s H scope (compEnvC scope cl C X.env) fp) m W0 k ifs bi)
    (he : ∀ (s : Shared) (H : Hp) (C : Addr) (cl : List (Str × Addr)) (fp : List Addr), DE G (X.blk s H scope (compEnvC scope cl C X.env) fp) m W0 k elt fe)
    (hl : (m i).lvl = 0 := by rfl) (hio : (m i).isIo = false := by rfl) (hy : X.N[i]? = some y := by rfl) (hyl : X.env.scope.names.lookup y = some .local := by rfl)
    (hsw : swapsWith (.ListComp elt [⟨tg, iter, ifs, 0⟩] scope pos) (some (.Name y py)) spos.line X.env = pure true := by exact sw_true rfl rfl rfl (by decide +kernel))
    (hv : ∀ v ∈ own.map (·.2), m v = .frz := by decide) (hix : ∀ j ∈ ix, j ∈ own.map (·.2) := by decide) (hs : ∀ x, foldedSetIterable iter X.env x = pure x := by intro _; rfl) :
    DS G X m n W k (.Assign [.Name y py] (.ListComp elt [⟨tg, iter, ifs, 0⟩] scope pos) spos) (sSet i (eLc it t bi fe (own.map (·.2)))) := fun c =>
  PSmono (ps_setLc c.calm c.nd hy hyl hsw (hi c) ok (fun s H C cl fp => (hg s H C cl fp (c.blk ..)).1) (fun s H C cl fp => ht s H C cl fp (c.blk ..)) (fun s H C cl fp => he s H C cl fp (c.blk ..)) hs) fun D σ H ⟨F, ρ, fp, s, h⟩ => by
    refine tLc_of (X := X) (k := k) (tg := tg) (Wt := W) (hg X.s_0 X.H_0 0 [] [] (c.blk ..)).2 hv hix ⟨F, ρ, fp, s, RG.freeze (n := 1) s ?_⟩
    have h2 := set_run hio s h
    rw [hl] at h2
    cases q : eLc it t bi fe (own.map (·.2)) ρ with
    | ok d ρ' => rw [q] at h2; exact fun v F' H' fp' a b r => h2 v F' H' fp' a b (RV.zero r)
    | exc e ρ' => rw [q] at h2; exact h2
    | bad => rw [q] at h2; exact h2
end
end Dn

/-! Dn6: operators on plain data. -/
namespace Dn
open PySem PySem.Spec PyProof.Rows L2

/-! ### data as the library tells it -/
mutual
def toPy : D → Option PyData
  | .non => some .none
  | .bl b => some (.bool b)
  | .int i => some (.int i)
  | .str s => some (.str s)
  | .tup ds => (toPys ds).map .tuple
  | .lst ds => (toPys ds).map .list
  | .scr ns => some (.list (ns.map .int))
  | _ => none
def toPys : List D → Option (List PyData)
  | [] => some []
  | d :: ds => (toPy d).bind fun k => (toPys ds).map fun ks => k :: ks
end
theorem DpAll_ints {K : PySem.W.Frag} {H : Hp} : ∀ ns : List Int, DpAll K H (ns.map V.int) (ns.map PyData.int)
  | [] => .nil
  | n :: ns => .cons (.int n) (DpAll_ints ns)
mutual
theorem rep_dp {G : Gx} {F : Fr} {H : Hp} (i : F.In G H) : ∀ (d : D) (v : V) (p : PyData), Rep G F d v → toPy d = some p → Dp G.K H v p
  | .non, _, _, r, e => by cases r; cases e; exact .non
  | .bl b, _, _, r, e => by cases r; cases e; exact .bl b
  | .int n, _, _, r, e => by cases r; cases e; exact .int n
  | .str s, _, _, r, e => by cases r; cases e; exact .str s
  | .tup ds, v, p, r, e => by
    obtain ⟨a, xs, rfl, h1, h2⟩ := r
    rw [toPy] at e
    obtain ⟨ps, e1, rfl⟩ := Option.map_eq_some_iff.mp e
    exact .tup (i.seqT h1) (reps_dp i ds xs ps h2 e1)
  | .lst ds, v, p, r, e => by
    obtain ⟨a, xs, rfl, h1, h2⟩ := r
    rw [toPy] at e
    obtain ⟨ps, e1, rfl⟩ := Option.map_eq_some_iff.mp e
    exact .lst (SqL.of (i.fx _ _ h1)) (reps_dp i ds xs ps h2 e1)
  | .scr ns, v, p, r, e => by
    obtain ⟨a, rfl, h1⟩ := r
    cases e
    exact .lst (i.seqL h1) (DpAll_ints ns)
  | .dK _, _, _, _, e => by cases e
  | .dN _, _, _, _, e => by cases e
  | .rng _ _, _, _, _, e => by cases e
  | .obj _ _, _, _, _, e => by cases e
  | .nts _, _, _, _, e => by cases e
theorem reps_dp {G : Gx} {F : Fr} {H : Hp} (i : F.In G H) : ∀ (ds : List D) (vs : List V) (ps : List PyData), RepL G F ds vs → toPys ds = some ps → DpAll G.K H vs ps
  | [], _, _, r, e => by cases r; cases e; exact .nil
  | d :: ds, _, _, r, e => by
    obtain ⟨y, ys, rfl, h1, h2⟩ := r
    rw [toPys] at e
    obtain ⟨q, e1, e⟩ := Option.bind_eq_some_iff.mp e
    obtain ⟨qs, e2, rfl⟩ := Option.map_eq_some_iff.mp e
    exact .cons (rep_dp i d y q h1 e1) (reps_dp i ds ys qs h2 e2)
end
/-- data that == takes -/
def toPyS (d : D) : Option PyData := (toPy d).bind fun p => if SeqAt.shaped p = true then some p else none
theorem toPyS_some {d : D} {p : PyData} (h : toPyS d = some p) : toPy d = some p ∧ SeqAt.shaped p = true := by
  unfold toPyS at h
  obtain ⟨q, h1, h2⟩ := Option.bind_eq_some_iff.mp h
  split at h2
  · cases h2; exact ⟨h1, by assumption⟩
  · cases h2
def dEq (d e : D) : Option D := (toPyS d).bind fun p => (toPyS e).map fun q => .bl (PyData.eqv p q)
def dNe (d e : D) : Option D := (toPyS d).bind fun p => (toPyS e).map fun q => .bl (!PyData.eqv p q)
section
variable {G : Gx} {W : WX} {k : Nat}
theorem vs_eq : VS2 G (rEqD G.K) dEq := fun F H x y d1 d2 d Q i r1 r2 e q => by
  unfold dEq at e
  obtain ⟨p1, e1, e⟩ := Option.bind_eq_some_iff.mp e
  obtain ⟨p2, e2, rfl⟩ := Option.map_eq_some_iff.mp e
  obtain ⟨h1, s1⟩ := toPyS_some e1
  obtain ⟨h2, s2⟩ := toPyS_some e2
  exact ⟨p1, p2, rep_dp i _ _ _ r1 h1, rep_dp i _ _ _ r2 h2, s1, s2, q _ F H (Grow.refl i) (by simp [Rep])⟩
theorem vs_ne : VS2 G (rNeD G.K) dNe := fun F H x y d1 d2 d Q i r1 r2 e q => by
  unfold dNe at e
  obtain ⟨p1, e1, e⟩ := Option.bind_eq_some_iff.mp e
  obtain ⟨p2, e2, rfl⟩ := Option.map_eq_some_iff.mp e
  obtain ⟨h1, s1⟩ := toPyS_some e1
  obtain ⟨h2, s2⟩ := toPyS_some e2
  exact ⟨p1, p2, rep_dp i _ _ _ r1 h1, rep_dp i _ _ _ r2 h2, s1, s2, q _ F H (Grow.refl i) (by simp [Rep])⟩
theorem o_eq {X : Cx} (c : Ctx G X W k) : OpR X (compareOp .Eq) (rEqD G.K) := c.K ▸ op_eqD c.room.units
theorem o_ne {X : Cx} (c : Ctx G X W k) : OpR X (compareOp .NotEq) (rNeD G.K) := c.K ▸ op_neD c.room.units
/-- is None and its like: the right side is None -/
def isNon : D → Bool
  | .non => true
  | _ => false
def dIs (d e : D) : Option D := match e with
  | .non => some (.bl (isNon d))
  | _ => none
def dIsNot (d e : D) : Option D := match e with
  | .non => some (.bl (!isNon d))
  | _ => none
theorem isNon_rep {F : Fr} {d : D} {x : V} (r : Rep G F d x) : decide (x = .non) = isNon d := by
  cases d with
  | non => cases r; rfl
  | bl b => cases r; rfl
  | int b => cases r; rfl
  | str b => cases r; rfl
  | tup ds => obtain ⟨a, _, rfl, _⟩ := r; rfl
  | lst ds => obtain ⟨a, _, rfl, _⟩ := r; rfl
  | dK ds => obtain ⟨a, _, rfl, _⟩ := r; rfl
  | dN ds => obtain ⟨a, _, rfl, _⟩ := r; rfl
  | rng _ _ => obtain ⟨a, rfl, _⟩ := r; rfl
  | scr _ => obtain ⟨a, rfl, _⟩ := r; rfl
  | obj _ _ => obtain ⟨a, _, _, _, rfl, _⟩ := r; rfl
  | nts _ => obtain ⟨a, rfl, _⟩ := r; rfl
theorem vs_is : VS2 G (fun x y H Q => y = .non ∧ Q (.bl (decide (x = .non))) H) dIs := fun F H x y d1 d2 d Q i r1 r2 e q => by
  cases d2 with
  | non => cases e; exact ⟨r2, q _ F H (Grow.refl i) (by rw [isNon_rep r1]; simp [Rep])⟩
  | _ => cases e
theorem vs_isnot : VS2 G (fun x y H Q => y = .non ∧ Q (.bl (!decide (x = .non))) H) dIsNot := fun F H x y d1 d2 d Q i r1 r2 e q => by
  cases d2 with
  | non => cases e; exact ⟨r2, q _ F H (Grow.refl i) (by rw [isNon_rep r1]; simp [Rep])⟩
  | _ => cases e
theorem o_is {X : Cx} (c : Ctx G X W k) : OpR X (compareOp .Is) (fun x y H Q => y = .non ∧ Q (.bl (decide (x = .non))) H) := op_isN
theorem o_isnot {X : Cx} (c : Ctx G X W k) : OpR X (compareOp .IsNot) (fun x y H Q => y = .non ∧ Q (.bl (!decide (x = .non))) H) := op_notN

/-! ### numbers -/
def int2 (f : Int → Int → Option D) (d e : D) : Option D := match d, e with
  | .int i, .int j => f i j
  | _, _ => none
theorem int2_some {f : Int → Int → Option D} {d e x : D} (h : int2 f d e = some x) : ∃ i j, d = .int i ∧ e = .int j ∧ f i j = some x := by
  unfold int2 at h
  split at h
  · exact ⟨_, _, rfl, rfl, h⟩
  · cases h
/-- ints in, a scalar out -/
theorem vs_int {C : Int → Int → Prop} {g : Int → Int → V} {f : Int → Int → Option D} (hf : ∀ i j x, f i j = some x → C i j ∧ ∀ F, Rep G F x (g i j)) : VS2 G (rI C g) (int2 f) := fun F H x y d1 d2 d Q i r1 r2 e q => by
  obtain ⟨a, b, rfl, rfl, h⟩ := int2_some e
  obtain ⟨hc, hr⟩ := hf _ _ _ h
  exact ⟨a, b, r1, r2, hc, q _ F H (Grow.refl i) (hr F)⟩
theorem vs_int0 {g : Int → Int → V} {f : Int → Int → D} (hf : ∀ i j F, Rep G F (f i j) (g i j)) : VS2 G (rI0 g) (int2 fun i j => some (f i j)) := fun F H x y d1 d2 d Q i r1 r2 e q => by
  obtain ⟨a, b, rfl, rfl, h⟩ := int2_some e
  cases h
  exact ⟨a, b, r1, r2, q _ F H (Grow.refl i) (hf _ _ F)⟩
abbrev dSub := int2 fun i j => some (.int (i - j))
abbrev dMul := int2 fun i j => if (-(2 ^ 64) < i ∧ i < 2 ^ 64) ∨ (-(2 ^ 64) < j ∧ j < 2 ^ 64) then some (.int (i * j)) else none
abbrev dFdiv := int2 fun i j => if 0 < j ∧ j < 1073741824 then some (.int (i / j)) else none
abbrev dMod := int2 fun i j => if 0 < j then some (.int (i % j)) else none
abbrev dPow := int2 fun i j => if 0 ≤ j ∧ j ≤ 1000000 ∧ i.natAbs < 2 ^ 64 then some (.int (i ^ j.toNat)) else none
theorem vs_sub : VS2 G (rI0 fun i j => .int (i - j)) dSub := vs_int0 fun i j F => by simp [Rep]
theorem vs_mul : VS2 G (rI CMul fun i j => .int (i * j)) dMul := vs_int fun i j x h => by
  split at h
  · cases h; rename_i c; exact ⟨c, fun F => by simp [Rep]⟩
  · cases h
theorem vs_fdiv : VS2 G (rI CDiv fun i j => .int (i / j)) dFdiv := vs_int fun i j x h => by
  split at h
  · cases h; rename_i c; exact ⟨c, fun F => by simp [Rep]⟩
  · cases h
theorem vs_mod : VS2 G (rI (fun _ j => 0 < j) fun i j => .int (i % j)) dMod := vs_int fun i j x h => by
  split at h
  · cases h; rename_i c; exact ⟨c, fun F => by simp [Rep]⟩
  · cases h
theorem vs_pow : VS2 G (rI CPow fun i j => .int (i ^ j.toNat)) dPow := vs_int fun i j x h => by
  split at h
  · cases h; rename_i c; exact ⟨c, fun F => by simp [Rep]⟩
  · cases h
theorem o_sub {X : Cx} (c : Ctx G X W k) : OpR X (binaryOp .Sub) (rI0 fun i j => .int (i - j)) := op_sub
theorem o_mul {X : Cx} (c : Ctx G X W k) : OpR X (binaryOp .Mult) (rI CMul fun i j => .int (i * j)) := op_mul
theorem o_fdiv {X : Cx} (c : Ctx G X W k) : OpR X (binaryOp .FloorDiv) (rI CDiv fun i j => .int (i / j)) := op_fdiv
theorem o_mod {X : Cx} (c : Ctx G X W k) : OpR X (binaryOp .Mod) (rI (fun _ j => 0 < j) fun i j => .int (i % j)) := op_mod
theorem o_pow {X : Cx} (c : Ctx G X W k) : OpR X (binaryOp .Pow) (rI CPow fun i j => .int (i ^ j.toNat)) := op_pow
abbrev dGt := int2 fun i j => some (.bl (decide (j < i)))
abbrev dGe := int2 fun i j => some (.bl (decide (j ≤ i)))
abbrev dLe := int2 fun i j => some (.bl (decide (i ≤ j)))
abbrev dLtI := int2 fun i j => some (.bl (decide (i < j)))
theorem vs_gt : VS2 G (rI0 fun i j => .bl (decide (j < i))) dGt := vs_int0 fun i j F => by simp [Rep]
theorem vs_ge : VS2 G (rI0 fun i j => .bl (decide (j ≤ i))) dGe := vs_int0 fun i j F => by simp [Rep]
theorem vs_le : VS2 G (rI0 fun i j => .bl (decide (i ≤ j))) dLe := vs_int0 fun i j F => by simp [Rep]
theorem vs_ltI : VS2 G (rI0 fun i j => .bl (decide (i < j))) dLtI := vs_int0 fun i j F => by simp [Rep]
theorem o_gt {X : Cx} (c : Ctx G X W k) : OpR X (compareOp .Gt) (rI0 fun i j => .bl (decide (j < i))) := op_gt
theorem o_ge {X : Cx} (c : Ctx G X W k) : OpR X (compareOp .GtE) (rI0 fun i j => .bl (decide (j ≤ i))) := op_ge
theorem o_le {X : Cx} (c : Ctx G X W k) : OpR X (compareOp .LtE) (rI0 fun i j => .bl (decide (i ≤ j))) := op_le
theorem o_ltI {X : Cx} (c : Ctx G X W k) : OpR X (compareOp .Lt) (rI0 fun i j => .bl (decide (i < j))) := op_lt
/-- < of alike data -/
def dLt (d e : D) : Option D := (toPy d).bind fun p => (toPy e).bind fun q => if PySem.W.alike p q = true ∧ p.depth ≤ 32 ∧ isNon d = false then some (.bl (PySem.W.dataLt p q)) else none
def rLtD (K : PySem.W.Frag) : R2 := fun x y H Q => ∃ p q, Dp K H x p ∧ Dp K H y q ∧ PySem.W.alike p q = true ∧ p.depth ≤ 32 ∧ p ≠ .none ∧ Q (.bl (PySem.W.dataLt p q)) H
theorem op_ltD {X : Cx} (hu : X.A.units + 64 < cLine) : OpR X (compareOp .Lt) (rLtD X.K) := by
  intro pins s σ H x y v u Q I rx ry h
  obtain ⟨p, q, hp, hq, ha, hd, hn, h⟩ := h
  obtain ⟨as, r1⟩ := Dp.reads I p x v hp rx
  obtain ⟨bs, r2⟩ := Dp.reads I q y u hq ry
  exact PySem.W.rcLt_alike p q X.A s v u as bs r1 r2 ha hn (by have := Nat.min_le_left p.depth q.depth; omega) _ _ _ _ ⟨.bl _, H, I, rfl, h⟩
theorem vs_lt : VS2 G (rLtD G.K) dLt := fun F H x y d1 d2 d Q i r1 r2 e q => by
  unfold dLt at e
  obtain ⟨p1, e1, e⟩ := Option.bind_eq_some_iff.mp e
  obtain ⟨p2, e2, e⟩ := Option.bind_eq_some_iff.mp e
  by_cases c : PySem.W.alike p1 p2 = true ∧ p1.depth ≤ 32 ∧ isNon d1 = false
  · rw [if_pos c] at e
    cases e
    refine ⟨p1, p2, rep_dp i _ _ _ r1 e1, rep_dp i _ _ _ r2 e2, c.1, c.2.1, fun z => ?_, q _ F H (Grow.refl i) (by simp [Rep])⟩
    subst z
    cases d1 with
    | non => exact Bool.noConfusion c.2.2
    | tup ds => rw [toPy] at e1; obtain ⟨_, _, z⟩ := Option.map_eq_some_iff.mp e1; cases z
    | lst ds => rw [toPy] at e1; obtain ⟨_, _, z⟩ := Option.map_eq_some_iff.mp e1; cases z
    | _ => cases e1
  · rw [if_neg c] at e; cases e
theorem o_lt {X : Cx} (c : Ctx G X W k) : OpR X (compareOp .Lt) (rLtD G.K) := c.K ▸ op_ltD c.room.units

/-! ### + -/
def dAdd : D → D → Option D
  | .int i, .int j => some (.int (i + j))
  | .str a, .str b => if a.length + b.length ≤ sizeLine then some (.str (a ++ b)) else none
  | .tup a, .tup b => if a.length + b.length ≤ sizeLine then some (.tup (a ++ b)) else none
  | .lst a, .lst b => if a.length + b.length ≤ sizeLine then some (.lst (a ++ b)) else none
  | _, _ => none
def rAdd4 (K : PySem.W.Frag) : R2 := fun x y H Q => (rI0 (fun i j => .int (i + j)) x y H Q ∨ ∃ i j, x = .str i ∧ y = .str j ∧ i.length + j.length ≤ sizeLine ∧ Q (.str (i ++ j)) H) ∨ (rCatA K x y H Q ∨ rCat x y H Q)
theorem o_add {X : Cx} (c : Ctx G X W k) : OpR X (binaryOp .Add) (rAdd4 G.K) := by
  rw [← c.K]
  exact (op_add.or op_add_str).or (op_catA.or op_cat)
theorem RepL.append_nil {F : Fr} {a b : List D} {xs : List V} (h : a = []) (r : RepL G F b xs) : RepL G F (a ++ b) xs := by subst h; exact r
theorem RepL.nil_iff {F : Fr} {ds : List D} {xs : List V} (r : RepL G F ds xs) : xs = [] ↔ ds = [] := by
  have := r.length
  constructor
  · intro e; subst e; exact List.eq_nil_of_length_eq_zero this.symm
  · intro e; subst e; exact List.eq_nil_of_length_eq_zero this
theorem vs_add : VS2 G (rAdd4 G.K) dAdd := fun F H x y d1 d2 d Q i r1 r2 e q => by
  cases d1 with
  | int a =>
    cases d2 with
    | int b => cases e; exact .inl (.inl ⟨a, b, r1, r2, q _ F H (Grow.refl i) (by simp [Rep])⟩)
    | _ => cases e
  | str a =>
    cases d2 with
    | str b =>
      simp only [dAdd] at e
      split at e
      · cases e; rename_i hz; exact .inl (.inr ⟨a, b, r1, r2, hz, q _ F H (Grow.refl i) (by simp [Rep])⟩)
      · cases e
    | _ => cases e
  | tup a =>
    cases d2 with
    | tup b =>
      simp only [dAdd] at e
      split at e
      · cases e
        rename_i hz
        obtain ⟨p, xs, rfl, h1, h2⟩ := r1
        obtain ⟨p', ys, rfl, h3, h4⟩ := r2
        refine .inr (.inl ⟨p, p', xs, ys, rfl, rfl, i.seqT h1, i.seqT h3, by rw [h2.length, h4.length]; exact hz, fun e => ?_, fun _ e => ?_, fun _ _ z hz' => ?_⟩)
        · have := h2.nil_iff.mp e
          subst this
          exact q _ F H (Grow.refl i) ⟨p', ys, rfl, h3, h4⟩
        · have := h4.nil_iff.mp e
          subst this
          rw [List.append_nil] at q
          exact q _ F H (Grow.refl i) ⟨p, xs, rfl, h1, h2⟩
        · exact q _ _ _ (Grow.lay i hz') (Rep.add_tup (i.free hz').1 (h2.append h4))
      · cases e
    | _ => cases e
  | lst a =>
    cases d2 with
    | lst b =>
      simp only [dAdd] at e
      split at e
      · cases e
        rename_i hz
        obtain ⟨p, xs, rfl, h1, h2⟩ := r1
        obtain ⟨p', ys, rfl, h3, h4⟩ := r2
        exact .inr (.inr ⟨p, p', xs, ys, rfl, rfl, i.fx _ _ h1, i.fx _ _ h3, by rw [h2.length, h4.length]; exact hz, fun z hz' => q _ _ _ (Grow.lay i hz') (Rep.add_lst (i.free hz').1 (h2.append h4))⟩)
      · cases e
    | _ => cases e
  | _ => cases e

/-! ### subscripts, in -/
def dAt : D → D → Option D
  | .tup ds, .int i => atI ds i
  | .lst ds, .int i => atI ds i
  | .scr ns, .int i => (atI ns i).map .int
  | .str z, .int i => if z.length ≤ sizeLine then (atI z.cps.toList i).map fun c => .str ⟨#[c]⟩ else none
  | _, _ => none
theorem RepL.atI {F : Fr} {ds : List D} {xs : List V} {i : Int} {d : D} (r : RepL G F ds xs) (h : L2.atI ds i = some d) : ∃ v, L2.atI xs i = some v ∧ Rep G F d v := by
  unfold L2.atI at h ⊢
  rw [r.length]
  obtain ⟨j, h1, h2⟩ := Option.bind_eq_some_iff.mp h
  obtain ⟨v, h3, h4⟩ := r.get h2
  exact ⟨v, by rw [h1]; exact h3, h4⟩
theorem vs_at : VS2 G (rIx G.K) dAt := fun F H x y d1 d2 d Q i r1 r2 e q => by
  cases d2 with
  | int n =>
    cases d1 with
    | tup ds =>
      obtain ⟨p, xs, rfl, h1, h2⟩ := r1
      obtain ⟨v, h3, h4⟩ := RepL.atI h2 e
      exact .inr (.inl ⟨p, xs, n, v, rfl, r2, i.seqT h1, h3, q _ F H (Grow.refl i) h4⟩)
    | lst ds =>
      obtain ⟨p, xs, rfl, h1, h2⟩ := r1
      obtain ⟨v, h3, h4⟩ := RepL.atI h2 e
      exact .inl ⟨p, xs, n, v, rfl, r2, SqL.of (i.fx _ _ h1), h3, q _ F H (Grow.refl i) h4⟩
    | scr ns =>
      obtain ⟨p, rfl, h1⟩ := r1
      simp only [dAt] at e
      obtain ⟨z, h3, rfl⟩ := Option.map_eq_some_iff.mp e
      refine .inl ⟨p, _, n, .int z, rfl, r2, i.seqL h1, ?_, q _ F H (Grow.refl i) (by simp [Rep])⟩
      unfold L2.atI at h3 ⊢
      rw [List.length_map]
      obtain ⟨j, h4, h5⟩ := Option.bind_eq_some_iff.mp h3
      rw [h4]
      show (ns.map V.int)[j]? = _
      rw [List.getElem?_map, h5]; rfl
    | str z =>
      simp only [dAt] at e
      split at e
      · rename_i hz
        obtain ⟨c, h3, rfl⟩ := Option.map_eq_some_iff.mp e
        exact .inr (.inr ⟨z, n, c, r1, r2, hz, h3, q _ F H (Grow.refl i) (by simp [Rep])⟩)
      · cases e
    | _ => cases e
  | _ => cases d1 <;> cases e
def PlainE (b : Expr) : Prop := PlainIx b
theorem de_ix {X : Cx} {m : Nat → Mode} {a b : Expr} {fa fb : ED} {pos : Pos} (ha : DE G X m W k a fa) (hb : DE G X m W k b fb) (hs : PlainIx b := by exact fun _ _ => rfl) : DE G X m W k (.Subscript a b pos) (eBin dAt fa fb) := fun c =>
  PEmono (pe_ix (r := rIx G.K) (c.K ▸ ix_seq) (ha c) (hb c) hs) fun _ _ _ h => tOp_bin vs_at h
/-- x in xs, flat items; in a range -/
def flatD : D → Option V
  | .non => some .non
  | .bl b => some (.bl b)
  | .int i => some (.int i)
  | .str s => some (.str s)
  | _ => none
def flatDs : List D → Option (List V)
  | [] => some []
  | d :: ds => (flatD d).bind fun v => (flatDs ds).map fun vs => v :: vs
theorem flatD_rep {F : Fr} {d : D} {x v : V} (r : Rep G F d x) (h : flatD d = some v) : x = v ∧ flatV x = true := by
  cases d with
  | non => cases r; cases h; exact ⟨rfl, rfl⟩
  | bl b => cases r; cases h; exact ⟨rfl, rfl⟩
  | int b => cases r; cases h; exact ⟨rfl, rfl⟩
  | str b => cases r; cases h; exact ⟨rfl, rfl⟩
  | _ => cases h
theorem flatDs_rep {F : Fr} : ∀ {ds : List D} {xs vs : List V}, RepL G F ds xs → flatDs ds = some vs → xs = vs ∧ xs.all flatV = true
  | [], _, _, r, h => by cases r; cases h; exact ⟨rfl, rfl⟩
  | d :: ds, _, _, r, h => by
    obtain ⟨y, ys, rfl, r1, r2⟩ := r
    rw [flatDs] at h
    obtain ⟨v, h1, h⟩ := Option.bind_eq_some_iff.mp h
    obtain ⟨vs, h2, rfl⟩ := Option.map_eq_some_iff.mp h
    obtain ⟨rfl, e1⟩ := flatD_rep r1 h1
    obtain ⟨rfl, e2⟩ := flatDs_rep r2 h2
    exact ⟨rfl, by simp [e1, e2]⟩
def itemsD : D → Option (List D)
  | .tup ds => some ds
  | .lst ds => some ds
  | .scr ns => some (ns.map .int)
  | _ => none
def dInQ (neg : Bool) (d e : D) : Option D := (flatD d).bind fun v => (itemsD e).bind fun ds => (flatDs ds).map fun vs => .bl (if neg then !inV v vs else inV v vs)
theorem items_rep {F : Fr} {H : Hp} (i : F.In G H) {d : D} {y : V} {ds : List D} (r : Rep G F d y) (h : itemsD d = some ds) : ∃ p xs, y = .ref p ∧ (SqL G.K H p xs ∨ SqT G.K H p xs) ∧ RepL G F ds xs := by
  cases d with
  | tup es => cases h; obtain ⟨p, xs, rfl, h1, h2⟩ := r; exact ⟨p, xs, rfl, .inr (i.seqT h1), h2⟩
  | lst es => cases h; obtain ⟨p, xs, rfl, h1, h2⟩ := r; exact ⟨p, xs, rfl, .inl (SqL.of (i.fx _ _ h1)), h2⟩
  | scr ns => cases h; obtain ⟨p, rfl, h1⟩ := r; exact ⟨p, _, rfl, .inl (i.seqL h1), RepL.ints⟩
  | _ => cases h
theorem vs_in {neg : Bool} : VS2 G (rIn G.K neg) (dInQ neg) := fun F H x y d1 d2 d Q i r1 r2 e q => by
  unfold dInQ at e
  obtain ⟨v, e1, e⟩ := Option.bind_eq_some_iff.mp e
  obtain ⟨ds, e2, e⟩ := Option.bind_eq_some_iff.mp e
  obtain ⟨vs, e3, rfl⟩ := Option.map_eq_some_iff.mp e
  obtain ⟨p, xs, rfl, h1, h2⟩ := items_rep i r2 e2
  obtain ⟨rfl, f1⟩ := flatD_rep r1 e1
  obtain ⟨rfl, f2⟩ := flatDs_rep h2 e3
  exact ⟨p, xs, rfl, h1, f1, f2, q _ F H (Grow.refl i) (by simp [Rep])⟩
theorem o_in {X : Cx} (c : Ctx G X W k) : OpR X (compareOp .In) (rIn G.K false) := c.K ▸ op_in_seq
theorem o_notin {X : Cx} (c : Ctx G X W k) : OpR X (compareOp .NotIn) (rIn G.K true) := c.K ▸ op_notIn_seq
end
end Dn

/-! Dn7: operands that may be owned, built-ins, displays, slices, lists that one owns, what is walked, the body of a def. -/
namespace Dn
open PySem PySem.Spec PyProof.Rows L2

/-! ### operands -/
def scal : D → Bool
  | .non => true
  | .bl _ => true
  | .int _ => true
  | .str _ => true
  | _ => false
theorem scal_rep {G : Gx} {F F' : Fr} {d : D} {v : V} (h : scal d = true) (r : Rep G F d v) : Rep G F' d v := by
  cases d with
  | non => exact r
  | bl _ => exact r
  | int _ => exact r
  | str _ => exact r
  | _ => cases h
section
variable {G : Gx} {m : Nat → Mode} {F F1 : Fr} {H H1 : Hp} {σ : L2.St} {ρ ρ1 : Env} {fp fp1 : Nat → List Addr}
theorem St.full (s : St G m F H σ ρ fp) : ∃ F', Ext F F' ∧ F'.In G H ∧ ∀ (i : Nat) (d : D) (v : V), ρ[i]? = some (some d) → σ[i]? = some (some v) → Rep G F' d v := by
  have hx : ∀ a ∈ (List.range ρ.length).flatMap fp, F.fx a = none := fun a ha => by
    obtain ⟨i, _, hi⟩ := List.mem_flatMap.mp ha
    exact (s.own i a hi).1
  refine ⟨F.ice H ((List.range ρ.length).flatMap fp), Fr.ice_ext hx, s.inn.ice hx, fun i d v e1 e2 => ?_⟩
  obtain ⟨v', h1, h2⟩ := s.slot i d e1
  rw [e2] at h1; cases h1
  have hi : i < ρ.length := (List.getElem?_eq_some_iff.mp e1).1
  exact h2.ice (fun a ha => List.mem_flatMap.mpr ⟨i, List.mem_range.mpr hi, ha⟩) hx
theorem Grow.under {F' F2 : Fr} {H2 : Hp} (x : Ext F F') (i : F.In G H) (g : Grow G F' H F2 H2) : Grow G F H F H2 where
  ext := Ext.refl F
  same := g.same
  newF := fun _ _ h => .inl h
  newN := fun _ _ h => .inl h
  inn := ⟨fun a o e => g.same _ _ (i.fx _ _ e), fun a d e => by
    obtain ⟨kvs, h1, h2⟩ := i.nt a d e
    exact ⟨kvs, g.same _ _ h1, h2⟩⟩
end
abbrev OD := Env → ER AV
def RAv (G : Gx) : RR AV V := fun _ _ F _ _ σ _ av v => AvRep G F σ av v
instance (G : Gx) : Reb G (RAv G) := ⟨fun _ h => h⟩
def DOp (G : Gx) (X : Cx) (m : Nat → Mode) (W : WX) (k : Nat) (e : Expr) (f : OD) : Prop := Ctx G X W k → PE X e (tG G m W (RAv G) f)
def oVal (f : ED) : OD := fun ρ => (f ρ).bind fun d ρ1 => .ok (.val d) ρ1
def oOwn (i : Nat) : OD := fun ρ => if (ρ[i]?.join).isSome then .ok (.own i) ρ else .bad
/-- what an operand is worth in the end -/
def avD (ρ : Env) : AV → Option D
  | .val d => some d
  | .own i => ρ[i]?.join
section
variable {G : Gx} {X : Cx} {m : Nat → Mode} {W : WX} {k : Nat} {e a b : Expr} {f : ED} {oa ob : OD} {pos : Pos}
theorem dop_val (h : DE G X m W k e f) : DOp G X m W k e (oVal f) := fun c => PEmono (h c) fun σ H Q ⟨F, ρ, fp, s, h⟩ => ⟨F, ρ, fp, s, by
  unfold oVal at h
  cases q : f ρ with
  | ok d ρ1 => rw [q] at h; exact fun v F' H' fp' a b r => h v F' H' fp' a b r
  | exc ex ρ1 => rw [q] at h; exact h
  | bad => rw [q] at h; exact h⟩
theorem dop_own (i : Nat) {x : Str} {p : Pos} (hN : X.N[i]? = some x := by rfl) (hv : Vis X.env.scope x := by first | exact Or.inl rfl | exact Or.inr (Or.inl rfl) | exact Or.inr (Or.inr rfl)) (hd : (x == ("__debug__" : Str)) = false := by decide)
    (hcd : (x == ("__classdict__" : Str)) = false := by decide) : DOp G X m W k (.Name x p) (oOwn i) := fun c => PEmono (pe_var hN hv hd hcd) fun σ H Q ⟨F, ρ, fp, s, h⟩ => by
  unfold oOwn at h
  by_cases q : (ρ[i]?.join).isSome
  · rw [if_pos q] at h
    obtain ⟨d, q'⟩ := Option.isSome_iff_exists.mp q
    obtain ⟨v, h1, _⟩ := s.slot i d (join_some q')
    exact ⟨v, h1, h v F H fp Step.refl s h1⟩
  · rw [if_neg q] at h; exact h.elim
theorem av_full {F : Fr} {H : Hp} {σ : L2.St} {ρ : Env} {fp : Nat → List Addr} (s : St G m F H σ ρ fp) : ∃ F', Ext F F' ∧ F'.In G H ∧ ∀ av d v, AvRep G F σ av v → avD ρ av = some d → Rep G F' d v := by
  obtain ⟨F', x, i, h⟩ := s.full
  refine ⟨F', x, i, fun av d v r e => ?_⟩
  cases av with
  | val d' => cases e; exact Rep.ext x _ _ r
  | own j => exact h j d v (join_some e) r
theorem AvRep.ext {F F' : Fr} {σ : L2.St} {av : AV} {v : V} (x : Ext F F') (r : AvRep G F σ av v) : AvRep G F' σ av v := by
  cases av with
  | val d => exact Rep.ext x _ _ r
  | own j => exact r
/-- two operands, a scalar out -/
def eBinO (g : D → D → Option D) (oa ob : OD) : ED := fun ρ => (oa ρ).bind fun x ρ1 => (ob ρ1).bind fun y ρ2 => opt ((avD ρ2 x).bind fun d => (avD ρ2 y).bind fun e => g d e) ρ2
def eUnO (g : D → Option D) (oa : OD) : ED := fun ρ => (oa ρ).bind fun x ρ1 => opt ((avD ρ1 x).bind g) ρ1
theorem tOp_binO {r : R2} {g : D → D → Option D} (hr : VS2 G r g) (hs : ∀ x y d, g x y = some d → scal d = true) {σ : L2.St} {H : Hp} {Q : VK} (h : tD G m W (eBinO g oa ob) σ H Q) : tOp r (tG G m W (RAv G) oa) (tG G m W (RAv G) ob) σ H Q := by
  obtain ⟨F, ρ, fp, s, h⟩ := h
  refine ⟨F, ρ, fp, s, (RG.bind (R := RAv G) s h).mono fun x H1 ⟨F1, ρ1, fp1, d1, p1, s1, r1, h1⟩ => ?_⟩
  refine ⟨F1, ρ1, fp1, s1, (RG.bind (R := RAv G) s1 h1).mono fun y H2 ⟨F2, ρ2, fp2, d2, p2, s2, r2, h2⟩ => ?_⟩
  cases q : (avD ρ2 d1).bind fun d => (avD ρ2 d2).bind fun e => g d e with
  | none => rw [q] at h2; exact h2.elim
  | some d =>
    rw [q] at h2
    obtain ⟨x1, e1, q⟩ := Option.bind_eq_some_iff.mp q
    obtain ⟨x2, e2, q⟩ := Option.bind_eq_some_iff.mp q
    obtain ⟨F', ex, inn, hh⟩ := av_full s2
    refine hr F' H2 x y x1 x2 d Q inn (hh _ _ _ (r1.ext p2.ext) e1) (hh _ _ _ r2 e2) q fun v F3 H3 gr rv => ?_
    exact RG.okG s2 h2 (gr.under ex s2.inn) (scal_rep (hs _ _ _ q) rv)
theorem tUn_unO {r : V → Hp → VK → Prop} {g : D → Option D} (hr : VS1 G r g) (hs : ∀ x d, g x = some d → scal d = true) {σ : L2.St} {H : Hp} {Q : VK} (h : tD G m W (eUnO g oa) σ H Q) : tG G m W (RAv G) oa σ H fun x H1 => r x H1 Q := by
  obtain ⟨F, ρ, fp, s, h⟩ := h
  refine ⟨F, ρ, fp, s, (RG.bind (R := RAv G) s h).mono fun x H1 ⟨F1, ρ1, fp1, d1, p1, s1, r1, h1⟩ => ?_⟩
  cases q : (avD ρ1 d1).bind g with
  | none => rw [q] at h1; exact h1.elim
  | some d =>
    rw [q] at h1
    obtain ⟨x1, e1, q⟩ := Option.bind_eq_some_iff.mp q
    obtain ⟨F', ex, inn, hh⟩ := av_full s1
    refine hr F' H1 x x1 d Q inn (hh _ _ _ r1 e1) q fun v F3 H3 gr rv => ?_
    exact RG.okG s1 h1 (gr.under ex s1.inn) (scal_rep (hs _ _ q) rv)
theorem de_cmpO {op : CmpOp} {r : R2} {g : D → D → Option D} (ho : ∀ {X : Cx}, Ctx G X W k → OpR X (compareOp op) r) (hr : VS2 G r g) (hs : ∀ x y d, g x y = some d → scal d = true) (ha : DOp G X m W k a oa) (hb : DOp G X m W k b ob)
    (hm : behindInMarks op b = false := by first | exact nomark _ | with_unfolding_all rfl) : DE G X m W k (.Compare a [op] [b] pos) (eBinO g oa ob) := fun c =>
  PEmono (pe_cmpR (ho c) (ha c) (hb c) hm) fun _ _ _ h => tOp_binO hr hs h
theorem dt_cmpO {op : CmpOp} {r : R2} {g : D → D → Option D} (ho : ∀ {X : Cx}, Ctx G X W k → OpR X (compareOp op) r) (hr : VS2 G r g) (hs : ∀ x y d, g x y = some d → scal d = true) (ha : DOp G X m W k a oa) (hb : DOp G X m W k b ob)
    (hm : behindInMarks op b = false := by first | exact nomark _ | with_unfolding_all rfl) : DT G X m W k (.Compare a [op] [b] pos) (bOf (eBinO g oa ob)) := fun c =>
  PTmono (pt_cmpR (ho c) (ha c) (hb c) hm) fun _ _ _ h => tTest_of (fun _ _ _ h => tOp_binO hr hs h) h
theorem sc_eq : ∀ x y d, dEq x y = some d → scal d = true := fun x y d h => by
  unfold dEq at h
  obtain ⟨_, _, h⟩ := Option.bind_eq_some_iff.mp h
  obtain ⟨_, _, rfl⟩ := Option.map_eq_some_iff.mp h; rfl
theorem sc_ne : ∀ x y d, dNe x y = some d → scal d = true := fun x y d h => by
  unfold dNe at h
  obtain ⟨_, _, h⟩ := Option.bind_eq_some_iff.mp h
  obtain ⟨_, _, rfl⟩ := Option.map_eq_some_iff.mp h; rfl
theorem sc_in {neg : Bool} : ∀ x y d, dInQ neg x y = some d → scal d = true := fun x y d h => by
  unfold dInQ at h
  obtain ⟨_, _, h⟩ := Option.bind_eq_some_iff.mp h
  obtain ⟨_, _, h⟩ := Option.bind_eq_some_iff.mp h
  obtain ⟨_, _, rfl⟩ := Option.map_eq_some_iff.mp h; rfl
def bTruO (o : OD) : BD := fun ρ => (o ρ).bind fun x ρ1 => opt ((avD ρ1 x).bind dTru) ρ1
theorem dt_truO (he : DOp G X m W k e oa) (hw : ∀ whole, isTrue e X.env whole = (do let v ← whole; standAt e.pos; holding [v] (truthy v)) := by intro _; rfl) : DT G X m W k e (bTruO oa) := fun c =>
  PTmono (pt_truth (he c) hw) fun σ H Q h => by
    obtain ⟨F, ρ, fp, s, h⟩ := h
    refine ⟨F, ρ, fp, s, (RG.bind (R := RAv G) s h).mono fun x H1 ⟨F1, ρ1, fp1, d1, p1, s1, r1, h1⟩ => ?_⟩
    cases q : (avD ρ1 d1).bind dTru with
    | none => rw [q] at h1; exact h1.elim
    | some b =>
      rw [q] at h1
      obtain ⟨x1, e1, q⟩ := Option.bind_eq_some_iff.mp q
      obtain ⟨F', ex, inn, hh⟩ := av_full s1
      refine ⟨b, ?_, h1 b F1 H1 fp1 Step.refl s1 rfl⟩
      rw [c.K]; exact tru_rep inn (hh _ _ _ r1 e1) q
end

/-! ### built-ins -/
def valsA : List AV → Option (List D)
  | [] => some []
  | .val d :: r => (valsA r).map fun ds => d :: ds
  | .own _ :: _ => none
def VC (G : Gx) (r : List V → Hp → VK → Prop) (g : List D → Option D) : Prop :=
  ∀ F H xs ds d Q, F.In G H → RepL G F ds xs → g ds = some d → (∀ v F' H', Grow G F H F' H' → Rep G F' d v → Q v H') → r xs H Q
def eCB (g : List D → Option D) (f : AVD) : ED := fun ρ => (f ρ).bind fun avs ρ1 => opt ((valsA avs).bind g) ρ1
def eCBO (g : List D → Option D) (f : AVD) : ED := fun ρ => (f ρ).bind fun avs ρ1 => opt ((fillA ρ1 avs).bind g) ρ1
section
variable {G : Gx} {X : Cx} {m : Nat → Mode} {W : WX} {k : Nat} {sh : List (Option Nat)} {e : Expr} {es : List Expr} {f : AVD} {g : List D → Option D} {r : List V → Hp → VK → Prop} {x : Str} {p pos : Pos} {id T : String}
theorem vals_rep {F : Fr} {H0 : Hp} {fp0 : Nat → List Addr} {H : Hp} {fp : Nat → List Addr} {σ : L2.St} {ρ : Env} : ∀ {avs : List AV} {sh : List (Option Nat)} {vs : List V} {ds : List D}, RA G sh H0 fp0 F H fp σ ρ avs vs → valsA avs = some ds → RepL G F ds vs
  | [], _, vs, ds, ⟨_, h2, _⟩, e => by cases e; simp at h2; subst h2; rfl
  | .own i :: r, _, _, _, _, e => by cases e
  | .val d :: r, sh, vs, ds, ⟨h1, h2, h3⟩, e => by
    rw [valsA] at e
    obtain ⟨es, e1, rfl⟩ := Option.map_eq_some_iff.mp e
    cases vs with
    | nil => simp at h2
    | cons v vs =>
      exact ⟨v, vs, rfl, h3 0 _ _ rfl rfl, vals_rep (H0 := H0) (fp0 := fp0) (H := H) (fp := fp) (ρ := ρ) (sh := r.map AV.sl) ⟨rfl, by simpa using h2, fun j av v' a b => h3 (j + 1) av v' (by simpa using a) (by simpa using b)⟩ e1⟩
theorem fills_rep {F F' : Fr} {H0 : Hp} {fp0 : Nat → List Addr} {H : Hp} {fp : Nat → List Addr} {σ : L2.St} {ρ : Env} (hh : ∀ av d v, AvRep G F σ av v → avD ρ av = some d → Rep G F' d v) :
    ∀ {avs : List AV} {sh : List (Option Nat)} {vs : List V} {ds : List D}, RA G sh H0 fp0 F H fp σ ρ avs vs → fillA ρ avs = some ds → RepL G F' ds vs
  | [], _, vs, ds, ⟨_, h2, _⟩, e => by cases e; simp at h2; subst h2; rfl
  | av :: r, sh, vs, ds, ⟨h1, h2, h3⟩, e => by
    have e' : ∃ d es, avD ρ av = some d ∧ fillA ρ r = some es ∧ ds = d :: es := by
      cases av with
      | val d => rw [fillA] at e; obtain ⟨es, e1, rfl⟩ := Option.map_eq_some_iff.mp e; exact ⟨d, es, rfl, e1, rfl⟩
      | own i => rw [fillA] at e; obtain ⟨d, e0, e⟩ := Option.bind_eq_some_iff.mp e; obtain ⟨es, e1, rfl⟩ := Option.map_eq_some_iff.mp e; exact ⟨d, es, e0, e1, rfl⟩
    obtain ⟨d, es, e0, e1, rfl⟩ := e'
    cases vs with
    | nil => simp at h2
    | cons v vs =>
      exact ⟨v, vs, rfl, hh _ _ _ (h3 0 _ _ rfl rfl) e0, fills_rep hh (H0 := H0) (fp0 := fp0) (H := H) (fp := fp) (sh := r.map AV.sl) ⟨rfl, by simpa using h2, fun j av v' a b => h3 (j + 1) av v' (by simpa using a) (by simpa using b)⟩ e1⟩
theorem tCB_of (hr : VC G r g) {σ : L2.St} {H : Hp} {Q : VK} (h : tD G m W (eCB g f) σ H Q) : tCB r (tG G m W (RA G sh) f) σ H Q := by
  obtain ⟨F, ρ, fp, s, h⟩ := h
  refine ⟨F, ρ, fp, s, (RG.bind (R := RA G sh) s h).mono fun vs H1 ⟨F1, ρ1, fp1, avs, p1, s1, r1, h1⟩ => ?_⟩
  cases q : (valsA avs).bind g with
  | none => rw [q] at h1; exact h1.elim
  | some d =>
    rw [q] at h1
    obtain ⟨ds, e1, q⟩ := Option.bind_eq_some_iff.mp q
    exact hr F1 H1 vs ds d Q s1.inn (vals_rep r1 e1) q fun v F' H' gr rv => RG.okG s1 h1 gr rv
theorem tCB_ofO (hr : VC G r g) (hs : ∀ x d, g x = some d → scal d = true) {σ : L2.St} {H : Hp} {Q : VK} (h : tD G m W (eCBO g f) σ H Q) : tCB r (tG G m W (RA G sh) f) σ H Q := by
  obtain ⟨F, ρ, fp, s, h⟩ := h
  refine ⟨F, ρ, fp, s, (RG.bind (R := RA G sh) s h).mono fun vs H1 ⟨F1, ρ1, fp1, avs, p1, s1, r1, h1⟩ => ?_⟩
  cases q : (fillA ρ1 avs).bind g with
  | none => rw [q] at h1; exact h1.elim
  | some d =>
    rw [q] at h1
    obtain ⟨ds, e1, q⟩ := Option.bind_eq_some_iff.mp q
    obtain ⟨F', ex, inn, hh⟩ := av_full s1
    exact hr F' H1 vs ds d Q inn (fills_rep hh r1 e1) q fun v F2 H' gr rv => RG.okG s1 h1 (gr.under ex s1.inn) (scal_rep (hs _ _ q) rv)
theorem de_callB (hc : ∀ {X : Cx}, Ctx G X W k → CallR X (.builtin id) r) (hr : VC G r g) (hm : G.mg x = none) (hv : bootBuiltins x = some (.builtin id)) (ha : DA G X m W k sh (e :: es) f) (hg : Gl X x := by rfl) (hn : x ≠ "__name__" := by decide) (hdb : (x == ("__debug__" : Str)) = false := by decide)
    (he : starEach (e :: es) X.env = (false, eval e X.env) :: starEach es X.env := by rfl) (hpl : (backTo pos (starEach es X.env)).any (·.1) = false := by rfl) : DE G X m W k (.Call (.Name x p) (e :: es) [] pos) (eCB g f) := fun c =>
  PEmono (pe_callB (hc c) hg (c.mg ▸ hm) hv (ha c) hn hdb he hpl) fun _ _ _ h => tCB_of hr h
theorem de_callTy (hc : ∀ {X : Cx}, Ctx G X W k → CallR X (.type T) r) (hr : VC G r g) (hm : G.mg x = none) (hv : bootBuiltins x = some (.type T)) (ha : DA G X m W k sh (e :: es) f) (hg : Gl X x := by rfl) (hn : x ≠ "__name__" := by decide) (hdb : (x == ("__debug__" : Str)) = false := by decide)
    (he : starEach (e :: es) X.env = (false, eval e X.env) :: starEach es X.env := by rfl) (hpl : (backTo pos (starEach es X.env)).any (·.1) = false := by rfl) : DE G X m W k (.Call (.Name x p) (e :: es) [] pos) (eCB g f) := fun c =>
  PEmono (pe_callTy (hc c) hg (c.mg ▸ hm) hv (ha c) hn hdb he hpl) fun _ _ _ h => tCB_of hr h
theorem de_callBO (hc : ∀ {X : Cx}, Ctx G X W k → CallR X (.builtin id) r) (hr : VC G r g) (hs : ∀ x d, g x = some d → scal d = true) (hm : G.mg x = none) (hv : bootBuiltins x = some (.builtin id)) (ha : DA G X m W k sh (e :: es) f) (hg : Gl X x := by rfl) (hn : x ≠ "__name__" := by decide) (hdb : (x == ("__debug__" : Str)) = false := by decide)
    (he : starEach (e :: es) X.env = (false, eval e X.env) :: starEach es X.env := by rfl) (hpl : (backTo pos (starEach es X.env)).any (·.1) = false := by rfl) : DE G X m W k (.Call (.Name x p) (e :: es) [] pos) (eCBO g f) := fun c =>
  PEmono (pe_callB (hc c) hg (c.mg ▸ hm) hv (ha c) hn hdb he hpl) fun _ _ _ h => tCB_ofO hr hs h
end
/-! len, int, abs, max, min -/
def on1 (f : D → Option D) : List D → Option D
  | [d] => f d
  | _ => none
def on2 (f : D → D → Option D) : List D → Option D
  | [d, e] => f d e
  | _ => none
theorem on1_some {f : D → Option D} {ds : List D} {d : D} (h : on1 f ds = some d) : ∃ x, ds = [x] ∧ f x = some d := by
  unfold on1 at h; split at h
  · exact ⟨_, rfl, h⟩
  · cases h
theorem on2_some {f : D → D → Option D} {ds : List D} {d : D} (h : on2 f ds = some d) : ∃ x y, ds = [x, y] ∧ f x y = some d := by
  unfold on2 at h; split at h
  · exact ⟨_, _, rfl, h⟩
  · cases h
def dLen : D → Option D
  | .str s => if s.length ≤ sizeLine then some (.int s.length) else none
  | .tup ds => some (.int ds.length)
  | .lst ds => some (.int ds.length)
  | .scr ds => some (.int ds.length)
  | _ => none
section
variable {G : Gx} {W : WX} {k : Nat}
abbrev rLen (K : PySem.W.Frag) : List V → Hp → VK → Prop := fun xs H Q => ∃ x n, xs = [x] ∧ LenV K x H n ∧ Q (.int n) H
theorem c_len {X : Cx} (c : Ctx G X W k) : CallR X (.builtin "len") (rLen G.K) := c.K ▸ call_len
theorem vc_len : VC G (rLen G.K) (on1 dLen) := fun F H xs ds d Q i r e q => by
  obtain ⟨x, rfl, e⟩ := on1_some e
  obtain ⟨y, ys, rfl, r1, r2⟩ := r
  cases r2
  cases x with
  | str s =>
    have e' : (if s.length ≤ sizeLine then some (D.int s.length) else none) = some d := e
    by_cases hz : s.length ≤ sizeLine
    · rw [if_pos hz] at e'; cases e'; cases r1; exact ⟨_, s.length, rfl, ⟨hz, rfl⟩, q _ F H (Grow.refl i) (by simp [Rep])⟩
    · rw [if_neg hz] at e'; cases e'
  | tup es => cases e; obtain ⟨a, xs, rfl, h1, h2⟩ := r1; exact ⟨_, es.length, rfl, .inr ⟨xs, i.seqT h1, h2.length.symm⟩, q _ F H (Grow.refl i) (by simp [Rep])⟩
  | lst es => cases e; obtain ⟨a, xs, rfl, h1, h2⟩ := r1; exact ⟨_, es.length, rfl, .inl ⟨xs, SqL.of (i.fx _ _ h1), h2.length.symm⟩, q _ F H (Grow.refl i) (by simp [Rep])⟩
  | scr es => cases e; obtain ⟨a, rfl, h1⟩ := r1; exact ⟨_, es.length, rfl, .inl ⟨_, i.seqL h1, by simp⟩, q _ F H (Grow.refl i) (by simp [Rep])⟩
  | _ => cases e
theorem sc_len : ∀ x d, on1 dLen x = some d → scal d = true := fun x d h => by
  obtain ⟨y, rfl, e⟩ := on1_some h
  cases y with
  | str s => simp only [dLen] at e; split at e <;> cases e; rfl
  | tup es => cases e; rfl
  | lst es => cases e; rfl
  | scr es => cases e; rfl
  | _ => cases e
def dInt : D → Option D
  | .int i => some (.int i)
  | .bl b => some (.int (if b then 1 else 0))
  | _ => none
abbrev rInt1 : List V → Hp → VK → Prop := fun xs H Q => (∃ i, xs = [.int i] ∧ Q (.int i) H) ∨ ∃ k, xs = [.bl k] ∧ Q (.int (if k then 1 else 0)) H
theorem c_int {X : Cx} (c : Ctx G X W k) : CallR X (.type "int") rInt1 := call_int1
theorem vc_int : VC G rInt1 (on1 dInt) := fun F H xs ds d Q i r e q => by
  obtain ⟨x, rfl, e⟩ := on1_some e
  obtain ⟨y, ys, rfl, r1, r2⟩ := r
  cases r2
  cases x with
  | int n => cases e; cases r1; exact .inl ⟨n, rfl, q _ F H (Grow.refl i) (by simp [Rep])⟩
  | bl b => cases e; cases r1; exact .inr ⟨b, rfl, q _ F H (Grow.refl i) (by simp [Rep])⟩
  | _ => cases e
def dMax2 := int2 fun i j => some (.int (if j > i then j else i))
def dMin2 := int2 fun i j => some (.int (if j < i then j else i))
abbrev rMax2 : List V → Hp → VK → Prop := fun xs H Q => ∃ i j, xs = [.int i, .int j] ∧ Q (.int (if j > i then j else i)) H
abbrev rMin2 : List V → Hp → VK → Prop := fun xs H Q => ∃ i j, xs = [.int i, .int j] ∧ Q (.int (if j < i then j else i)) H
theorem c_max2 {X : Cx} (c : Ctx G X W k) : CallR X (.builtin "max") rMax2 := call_max2 c.calm
theorem c_min2 {X : Cx} (c : Ctx G X W k) : CallR X (.builtin "min") rMin2 := call_min2 c.calm
theorem vc_max2 : VC G rMax2 (on2 dMax2) := fun F H xs ds d Q i r e q => by
  obtain ⟨x, y, rfl, e⟩ := on2_some e
  obtain ⟨a, b, rfl, rfl, h⟩ := int2_some e
  obtain ⟨v, vs, rfl, r1, w, ws, rfl, r2, r3⟩ := r
  cases r3; cases r1; cases r2; cases h
  exact ⟨a, b, rfl, q _ F H (Grow.refl i) (by simp [Rep])⟩
theorem vc_min2 : VC G rMin2 (on2 dMin2) := fun F H xs ds d Q i r e q => by
  obtain ⟨x, y, rfl, e⟩ := on2_some e
  obtain ⟨a, b, rfl, rfl, h⟩ := int2_some e
  obtain ⟨v, vs, rfl, r1, w, ws, rfl, r2, r3⟩ := r
  cases r3; cases r1; cases r2; cases h
  exact ⟨a, b, rfl, q _ F H (Grow.refl i) (by simp [Rep])⟩
def dAbs : D → Option D
  | .int i => some (.int (if i < 0 then -i else i))
  | _ => none
abbrev rAbs : List V → Hp → VK → Prop := fun xs H Q => ∃ i, xs = [.int i] ∧ Q (.int (if i < 0 then -i else i)) H
theorem c_abs {X : Cx} (c : Ctx G X W k) : CallR X (.builtin "abs") rAbs := call_abs
theorem vc_abs : VC G rAbs (on1 dAbs) := fun F H xs ds d Q i r e q => by
  obtain ⟨x, rfl, e⟩ := on1_some e
  obtain ⟨y, ys, rfl, r1, r2⟩ := r
  cases r2
  cases x with
  | int n => cases e; cases r1; exact ⟨n, rfl, q _ F H (Grow.refl i) (by simp [Rep])⟩
  | _ => cases e
def dNeg : D → Option D
  | .int i => some (.int (-i))
  | _ => none
theorem vs_neg : VS1 G (rU fun i => .int (-i)) dNeg := fun F H x d1 d Q i r e q => by
  cases d1 with
  | int n => cases e; exact ⟨n, r, q _ F H (Grow.refl i) (by simp [Rep])⟩
  | _ => cases e
theorem de_neg {X : Cx} {m : Nat → Mode} {a : Expr} {fa : ED} {pos : Pos} (ha : DE G X m W k a fa) : DE G X m W k (.UnaryOp .USub a pos) (eUn dNeg fa) := fun c =>
  PEmono (pe_un un_neg (ha c)) fun _ _ _ h => tUn_un vs_neg h
end

/-! ### one sequence as the argument -/
inductive SQ where
  | l (ds : List D) | t (ds : List D)
def SQ.ds : SQ → List D
  | .l ds => ds
  | .t ds => ds
def SqRep (G : Gx) (F : Fr) (H : Hp) : SQ → V → Prop
  | .l ds, v => ∃ a xs, v = .ref a ∧ SqL G.K H a xs ∧ RepL G F ds xs
  | .t ds, v => ∃ a xs, v = .ref a ∧ SqT G.K F.fx a xs ∧ RepL G F ds xs
def RSq (G : Gx) : RR SQ V := fun _ _ F H _ _ _ d v => SqRep G F H d v
instance (G : Gx) : Reb G (RSq G) := ⟨fun _ h => h⟩
abbrev QD := Env → ER SQ
def DQ (G : Gx) (X : Cx) (m : Nat → Mode) (W : WX) (k : Nat) (e : Expr) (f : QD) : Prop := Ctx G X W k → PE X e (tG G m W (RSq G) f)
def sqD : D → Option SQ
  | .tup ds => some (.t ds)
  | .lst ds => some (.l ds)
  | .scr ns => some (.l (ns.map .int))
  | _ => none
def qVal (f : ED) : QD := fun ρ => (f ρ).bind fun d ρ1 => opt (sqD d) ρ1
def qOwn (i : Nat) : QD := fun ρ => match ρ[i]?.join with
  | some (.lst ds) => .ok (.l ds) ρ
  | _ => .bad
section
variable {G : Gx} {X : Cx} {m : Nat → Mode} {W : WX} {k : Nat} {e : Expr} {f : ED} {fq : QD} {x : Str} {p pos : Pos} {id T : String}
theorem sq_rep {F : Fr} {H : Hp} (i : F.In G H) {d : D} {y : V} {sq : SQ} (r : Rep G F d y) (h : sqD d = some sq) : SqRep G F H sq y := by
  cases d with
  | tup es => cases h; obtain ⟨p, xs, rfl, h1, h2⟩ := r; exact ⟨p, xs, rfl, h1, h2⟩
  | lst es => cases h; obtain ⟨p, xs, rfl, h1, h2⟩ := r; exact ⟨p, xs, rfl, SqL.of (i.fx _ _ h1), h2⟩
  | scr ns => cases h; obtain ⟨p, rfl, h1⟩ := r; exact ⟨p, _, rfl, i.seqL h1, RepL.ints⟩
  | _ => cases h
theorem dq_val (h : DE G X m W k e f) : DQ G X m W k e (qVal f) := fun c => PEmono (h c) fun σ H Q ⟨F, ρ, fp, s, h⟩ => ⟨F, ρ, fp, s, by
  unfold qVal at h
  cases q : f ρ with
  | ok d ρ1 =>
    rw [q] at h
    intro v F' H' fp' a b r
    cases q2 : sqD d with
    | none => simp only [bind_ok, q2] at h; exact h.elim
    | some sq => simp only [bind_ok, q2] at h; exact h v F' H' fp' a b (sq_rep b.inn r q2)
  | exc ex ρ1 => rw [q] at h; exact h
  | bad => rw [q] at h; exact h⟩
theorem dq_own (i : Nat) {x : Str} {p : Pos} (hm : (m i).lvl = 1 := by rfl) (hN : X.N[i]? = some x := by rfl) (hv : Vis X.env.scope x := by first | exact Or.inl rfl | exact Or.inr (Or.inl rfl) | exact Or.inr (Or.inr rfl)) (hd : (x == ("__debug__" : Str)) = false := by decide)
    (hcd : (x == ("__classdict__" : Str)) = false := by decide) : DQ G X m W k (.Name x p) (qOwn i) := fun c => PEmono (pe_var hN hv hd hcd) fun σ H Q ⟨F, ρ, fp, s, h⟩ => by
  unfold qOwn at h
  split at h
  · rename_i ds q
    obtain ⟨v, h1, h2⟩ := s.slot i _ (join_some q)
    rw [hm] at h2
    obtain ⟨a, rfl, _, xs, h3, h4⟩ := h2
    exact ⟨_, h1, h _ F H fp Step.refl s ⟨a, xs, rfl, SqL.of h3, h4⟩⟩
  · exact h.elim
def VQ (G : Gx) (r : List V → Hp → VK → Prop) (g : SQ → Option D) : Prop :=
  ∀ F H x sq d Q, F.In G H → SqRep G F H sq x → g sq = some d → (∀ v F' H', Grow G F H F' H' → Rep G F' d v → Q v H') → r [x] H Q
/-- .. to a new list -/
def VQO (G : Gx) (r : List V → Hp → VK → Prop) (g : SQ → Option (List D)) : Prop :=
  ∀ F H x sq ds Q, F.In G H → SqRep G F H sq x → g sq = some ds → (∀ p xs F' H', Grow G F H F' H' → H' p = none → RepL G F' ds xs → Q (.ref p) (upd H' p (.lst xs))) → r [x] H Q
def eQ (g : SQ → Option D) (fq : QD) : ED := fun ρ => (fq ρ).bind fun sq ρ1 => opt (g sq) ρ1
def eQO (g : SQ → Option (List D)) (fq : QD) : ED := fun ρ => (fq ρ).bind fun sq ρ1 => opt ((g sq).map .lst) ρ1
theorem tQ_of {r : List V → Hp → VK → Prop} {g : SQ → Option D} (hr : VQ G r g) {σ : L2.St} {H : Hp} {Q : VK} (h : tD G m W (eQ g fq) σ H Q) : tCB r (tCons (tG G m W (RSq G) fq) tNil) σ H Q := by
  obtain ⟨F, ρ, fp, s, h⟩ := h
  refine ⟨F, ρ, fp, s, (RG.bind (R := RSq G) s h).mono fun v H1 ⟨F1, ρ1, fp1, sq, p1, s1, r1, h1⟩ => ?_⟩
  cases q : g sq with
  | none => rw [q] at h1; exact h1.elim
  | some d => rw [q] at h1; exact hr F1 H1 v sq d Q s1.inn r1 q fun v F' H' gr rv => RG.okG s1 h1 gr rv
/-- a new list at p that one owns -/
theorem RV.newList {F : Fr} {H : Hp} {σ : L2.St} {ρ : Env} {fp : Nat → List Addr} {Q : VK} {ds : List D} {xs : List V} {q : Addr} (s : St G m F H σ ρ fp) (h : RG G m W (RV G 1) F H σ fp Q (.ok (.lst ds) ρ)) (hq : H q = none) (r : RepL G F ds xs) : Q (.ref q) (upd H q (.lst xs)) := by
  have g : Grow G F H F (upd H q (.lst xs)) := Grow.drop s.inn hq
  exact h (.ref q) F _ fp g.step (s.grow g) ⟨[q], ⟨q, rfl, rfl, xs, upd_same, r⟩, by simp, fun a ha => by
    have : a = q := by simpa using ha
    subst this
    exact ⟨(s.inn.free hq).1, (s.inn.free hq).2, fun i hi => s.alloc hi hq, .inr hq⟩⟩
theorem tQ_ofO {r : List V → Hp → VK → Prop} {g : SQ → Option (List D)} (hr : VQO G r g) {σ : L2.St} {H : Hp} {Q : VK} (h : tG G m W (RV G 1) (eQO g fq) σ H Q) : tCB r (tCons (tG G m W (RSq G) fq) tNil) σ H Q := by
  obtain ⟨F, ρ, fp, s, h⟩ := h
  refine ⟨F, ρ, fp, s, (RG.bind (R := RSq G) s h).mono fun v H1 ⟨F1, ρ1, fp1, sq, p1, s1, r1, h1⟩ => ?_⟩
  cases q : g sq with
  | none => rw [q] at h1; exact h1.elim
  | some ds =>
    rw [q] at h1
    refine hr F1 H1 v sq ds Q s1.inn r1 q fun p xs F' H' gr hp rx => ?_
    exact RV.newList (s1.grow gr) (RG.rebase s1 gr.step (s1.grow gr) h1) hp rx
theorem de_seqB {r : List V → Hp → VK → Prop} {g : SQ → Option D} (hc : ∀ {X : Cx}, Ctx G X W k → CallR X (.builtin id) r) (hr : VQ G r g) (hm : G.mg x = none) (hv : bootBuiltins x = some (.builtin id)) (ha : DQ G X m W k e fq) (hg : Gl X x := by rfl) (hn : x ≠ "__name__" := by decide) (hdb : (x == ("__debug__" : Str)) = false := by decide)
    (he : starEach [e] X.env = (false, eval e X.env) :: starEach [] X.env := by rfl) (hpl : (backTo pos (starEach [] X.env)).any (·.1) = false := by rfl) : DE G X m W k (.Call (.Name x p) [e] [] pos) (eQ g fq) := fun c =>
  PEmono (pe_callB (hc c) hg (c.mg ▸ hm) hv (pa_cons (ha c) pa_nil he) hn hdb he hpl) fun _ _ _ h => tQ_of hr h
theorem de_seqTy {r : List V → Hp → VK → Prop} {g : SQ → Option D} (hc : ∀ {X : Cx}, Ctx G X W k → CallR X (.type T) r) (hr : VQ G r g) (hm : G.mg x = none) (hv : bootBuiltins x = some (.type T)) (ha : DQ G X m W k e fq) (hg : Gl X x := by rfl) (hn : x ≠ "__name__" := by decide) (hdb : (x == ("__debug__" : Str)) = false := by decide)
    (he : starEach [e] X.env = (false, eval e X.env) :: starEach [] X.env := by rfl) (hpl : (backTo pos (starEach [] X.env)).any (·.1) = false := by rfl) : DE G X m W k (.Call (.Name x p) [e] [] pos) (eQ g fq) := fun c =>
  PEmono (pe_callTy (hc c) hg (c.mg ▸ hm) hv (pa_cons (ha c) pa_nil he) hn hdb he hpl) fun _ _ _ h => tQ_of hr h
theorem do_seqTy {r : List V → Hp → VK → Prop} {g : SQ → Option (List D)} (hc : ∀ {X : Cx}, Ctx G X W k → CallR X (.type T) r) (hr : VQO G r g) (hm : G.mg x = none) (hv : bootBuiltins x = some (.type T)) (ha : DQ G X m W k e fq) (hg : Gl X x := by rfl) (hn : x ≠ "__name__" := by decide) (hdb : (x == ("__debug__" : Str)) = false := by decide)
    (he : starEach [e] X.env = (false, eval e X.env) :: starEach [] X.env := by rfl) (hpl : (backTo pos (starEach [] X.env)).any (·.1) = false := by rfl) : DO G X m W k 1 (.Call (.Name x p) [e] [] pos) (eQO g fq) := fun c =>
  PEmono (pe_callTy (hc c) hg (c.mg ▸ hm) hv (pa_cons (ha c) pa_nil he) hn hdb he hpl) fun _ _ _ h => tQ_ofO hr h
theorem do_seqB {r : List V → Hp → VK → Prop} {g : SQ → Option (List D)} (hc : ∀ {X : Cx}, Ctx G X W k → CallR X (.builtin id) r) (hr : VQO G r g) (hm : G.mg x = none) (hv : bootBuiltins x = some (.builtin id)) (ha : DQ G X m W k e fq) (hg : Gl X x := by rfl) (hn : x ≠ "__name__" := by decide) (hdb : (x == ("__debug__" : Str)) = false := by decide)
    (he : starEach [e] X.env = (false, eval e X.env) :: starEach [] X.env := by rfl) (hpl : (backTo pos (starEach [] X.env)).any (·.1) = false := by rfl) : DO G X m W k 1 (.Call (.Name x p) [e] [] pos) (eQO g fq) := fun c =>
  PEmono (pe_callB (hc c) hg (c.mg ▸ hm) hv (pa_cons (ha c) pa_nil he) hn hdb he hpl) fun _ _ _ h => tQ_ofO hr h
/-- tuple(xs), list(xs) -/
def qTuple (sq : SQ) : Option D := some (.tup sq.ds)
def qList (sq : SQ) : Option (List D) := some sq.ds
abbrev rTuple (K : PySem.W.Frag) : List V → Hp → VK → Prop := fun xs H Q => ∃ p ys, xs = [.ref p] ∧ ((SqL K H p ys ∧ ∀ l, H l = none → Q (.ref l) (upd H l (.tup ys))) ∨ (SqT K H p ys ∧ Q (.ref p) H))
abbrev rList (K : PySem.W.Frag) : List V → Hp → VK → Prop := fun xs H Q => ∃ p ys, xs = [.ref p] ∧ (SqL K H p ys ∨ SqT K H p ys) ∧ ∀ l, H l = none → Q (.ref l) (upd H l (.lst ys))
theorem c_tuple {X : Cx} (c : Ctx G X W k) : CallR X (.type "tuple") (rTuple G.K) := c.K ▸ call_tuple_of
theorem c_list {X : Cx} (c : Ctx G X W k) : CallR X (.type "list") (rList G.K) := c.K ▸ call_list_of
end
section
variable {G : Gx} {X : Cx} {m : Nat → Mode} {n : Nat} {W : WX} {k : Nat} {e : Expr} {es : List Expr} {f : ED} {fa : AVD} {sh : List (Option Nat)} {pos : Pos}
theorem vq_tuple : VQ G (rTuple G.K) qTuple := fun F H x sq d Q i r e q => by
  cases e
  cases sq with
  | l ds => obtain ⟨a, xs, rfl, h1, h2⟩ := r; exact ⟨a, xs, rfl, .inl ⟨h1, fun l hl => q _ _ _ (Grow.lay i hl) (Rep.add_tup (i.free hl).1 h2)⟩⟩
  | t ds => obtain ⟨a, xs, rfl, h1, h2⟩ := r; exact ⟨a, xs, rfl, .inr ⟨i.seqT h1, q _ F H (Grow.refl i) ⟨a, xs, rfl, h1, h2⟩⟩⟩
theorem vq_list : VQO G (rList G.K) qList := fun F H x sq d Q i r e q => by
  cases e
  cases sq with
  | l ds => obtain ⟨a, xs, rfl, h1, h2⟩ := r; exact ⟨a, xs, rfl, .inl h1, fun l hl => q l xs F H (Grow.refl i) hl h2⟩
  | t ds => obtain ⟨a, xs, rfl, h1, h2⟩ := r; exact ⟨a, xs, rfl, .inr (i.seqT h1), fun l hl => q l xs F H (Grow.refl i) hl h2⟩
/-! ### displays -/
def eTup (f : AVD) : ED := fun ρ => (f ρ).bind fun avs ρ1 => opt ((valsA avs).bind fun ds => if ds.length ≤ sizeLine then some (.tup ds) else none) ρ1
def eLst (f : AVD) : ED := fun ρ => (f ρ).bind fun avs ρ1 => opt ((valsA avs).bind fun ds => if ds.length ≤ sizeLine then some (.lst ds) else none) ρ1
theorem de_tup {x1} (h : DA G X m W k sh es fa) : DE G X m W k (.Tuple es x1 pos) (eTup fa) := fun c => PEmono (pe_tup (h c)) fun σ H Q ⟨F, ρ, fp, s, h⟩ => ⟨F, ρ, fp, s, (RG.bind (R := RA G sh) s h).mono fun vs H1 ⟨F1, ρ1, fp1, avs, p1, s1, r1, h1⟩ => by
  cases q : valsA avs with
  | none => rw [q] at h1; exact h1.elim
  | some ds =>
    rw [q] at h1
    have rr := vals_rep r1 q
    by_cases hz : ds.length ≤ sizeLine
    · simp only [Option.bind_some, if_pos hz, opt_some] at h1
      exact ⟨by rw [rr.length]; exact hz, fun p hp => RG.okG s1 h1 (Grow.lay s1.inn hp) (Rep.add_tup (s1.inn.free hp).1 rr)⟩
    · simp only [Option.bind_some, if_neg hz, opt_none] at h1; exact h1.elim⟩
theorem do_lst (h : DA G X m W k sh es fa) : DO G X m W k 1 (.List es pos) (eLst fa) := fun c => PEmono (pe_lst (h c)) fun σ H Q ⟨F, ρ, fp, s, h⟩ => ⟨F, ρ, fp, s, (RG.bind (R := RA G sh) s h).mono fun vs H1 ⟨F1, ρ1, fp1, avs, p1, s1, r1, h1⟩ => by
  cases q : valsA avs with
  | none => rw [q] at h1; exact h1.elim
  | some ds =>
    rw [q] at h1
    have rr := vals_rep r1 q
    by_cases hz : ds.length ≤ sizeLine
    · simp only [Option.bind_some, if_pos hz, opt_some] at h1
      exact ⟨by rw [rr.length]; exact hz, fun p hp => RV.newList s1 h1 hp rr⟩
    · simp only [Option.bind_some, if_neg hz, opt_none] at h1; exact h1.elim⟩
/-! ### slices -/
def cutL {α : Type} (xs : List α) (lo hi : Option Int) : List α := (xs.drop (HT.sIx xs.length 0 lo)).take (HT.sIx xs.length xs.length hi - HT.sIx xs.length 0 lo)
abbrev PDn := Env → ER (Option Int)
def RPt : RR (Option Int) (Option Int) := fun _ _ _ _ _ _ _ a b => a = b
instance (G : Gx) : Reb G RPt := ⟨fun _ h => h⟩
def DP (G : Gx) (X : Cx) (m : Nat → Mode) (W : WX) (k : Nat) (e : Option Expr) (f : PDn) : Prop := Ctx G X W k → PO X e (tG G m W RPt f)
theorem POmono {X : Cx} {e : Option Expr} {t t' : TO} (h : PO X e t) (hq : ∀ σ H Q, t' σ H Q → t σ H Q) : PO X e t' := ⟨fun pins s σ H Q I q => h.run pins s σ H Q I (hq σ H Q q)⟩
def pNone : PDn := fun ρ => .ok none ρ
def pSome (f : ED) : PDn := fun ρ => (f ρ).bind fun d ρ1 => match d with
  | .int i => .ok (some i) ρ1
  | _ => .bad
theorem dp_none : DP G X m W k none pNone := fun _ => POmono po_none fun σ H Q ⟨F, ρ, fp, s, h⟩ => h none F H fp Step.refl s rfl
theorem dp_some (h : DE G X m W k e f) : DP G X m W k (some e) (pSome f) := fun c => POmono (po_some (h c)) fun σ H Q ⟨F, ρ, fp, s, h⟩ => ⟨F, ρ, fp, s, (RG.bind (R := RD G) s h).mono fun v H1 ⟨F1, ρ1, fp1, d, p1, s1, r1, h1⟩ => by
  cases d with
  | int i => exact ⟨i, r1, h1 _ F1 H1 fp1 Step.refl s1 rfl⟩
  | _ => exact h1.elim⟩
def dSl (d : D) (lo hi : Option Int) : Option D := match d with
  | .tup ds => some (.tup (cutL ds lo hi))
  | .lst ds => some (.lst (cutL ds lo hi))
  | _ => none
def eSl (f : ED) (fl fh : PDn) : ED := fun ρ => (f ρ).bind fun d ρ1 => (fl ρ1).bind fun lo ρ2 => (fh ρ2).bind fun hi ρ3 => opt (dSl d lo hi) ρ3
theorem RepL.cut {F : Fr} {ds : List D} {xs : List V} (r : RepL G F ds xs) (lo hi : Option Int) : RepL G F (cutL ds lo hi) (cutV xs lo hi) := by
  unfold cutL cutV
  rw [r.length]
  exact RepL.take _ (RepL.drop _ r)
theorem de_slice {lo hi : Option Expr} {fl fh : PDn} {p2 : Pos} (he : DE G X m W k e f) (hl : DP G X m W k lo fl) (hh : DP G X m W k hi fh) : DE G X m W k (.Subscript e (.Slice lo hi none p2) pos) (eSl f fl fh) := fun c =>
  PEmono (pe_slice (r := fun x lo hi H Q => rSlA G.K x lo hi H Q ∨ rSlL G.K x lo hi H Q) (c.K ▸ sl_tupA.or sl_list) (he c) (hl c) (hh c)) fun σ H Q ⟨F, ρ, fp, s, h⟩ => ⟨F, ρ, fp, s, (RG.bind (R := RD G) s h).mono fun v H1 ⟨F1, ρ1, fp1, d, p1, s1, r1, h1⟩ =>
    ⟨F1, ρ1, fp1, s1, (RG.bind (R := RPt) s1 h1).mono fun l H2 ⟨F2, ρ2, fp2, lo', p2, s2, r2, h2⟩ => ⟨F2, ρ2, fp2, s2, (RG.bind (R := RPt) s2 h2).mono fun u H3 ⟨F3, ρ3, fp3, hi', p3, s3, r3, h3⟩ => by
      cases r2; cases r3
      have r1' := Rep.ext p3.ext _ _ (Rep.ext p2.ext _ _ r1)
      cases d with
      | tup ds =>
        obtain ⟨a, xs, rfl, e1, e2⟩ := r1'
        refine .inl ⟨a, xs, rfl, s3.inn.seqT e1, fun hw => ?_, fun _ z hz => ?_⟩
        · have hc : cutL ds l u = ds := by
            unfold cutL
            rw [e2.length] at hw
            rw [hw.1, hw.2]; simp
          rw [show dSl (.tup ds) l u = some (.tup (cutL ds l u)) from rfl, hc] at h3
          exact h3 _ F3 H3 fp3 Step.refl s3 ⟨a, xs, rfl, e1, e2⟩
        · exact RG.okG s3 h3 (Grow.lay s3.inn hz) (Rep.add_tup (s3.inn.free hz).1 (e2.cut _ _))
      | lst ds =>
        obtain ⟨a, xs, rfl, e1, e2⟩ := r1'
        exact .inr ⟨a, xs, rfl, SqL.of (s3.inn.fx _ _ e1), fun z hz => RG.okG s3 h3 (Grow.lay s3.inn hz) (Rep.add_lst (s3.inn.free hz).1 (e2.cut _ _))⟩
      | _ => exact h3.elim⟩⟩⟩
end

/-! ### lists that a name owns -/
section
variable {G : Gx} {m : Nat → Mode} {F : Fr} {H : Hp} {σ : L2.St} {ρ : Env} {fp : Nat → List Addr}
/-- a thing of a name's own is written -/
theorem St.write (s : St G m F H σ ρ fp) {i : Nat} {a : Addr} {o : HO} {d : D} {v : V} (ha : a ∈ fp i) (hv : σ[i]? = some (some v)) (ow : Own G F (upd H a o) (m i).lvl d v (fp i)) :
    St G m F (upd H a o) σ (ρ.set i (some d)) fp ∧ Step G F H fp F (upd H a o) fp := by
  have hF := s.own i a ha
  have hi : i < ρ.length := by rw [s.len]; exact (List.getElem?_eq_some_iff.mp hv).1
  refine ⟨⟨⟨fun b u e => ?_, fun b d e => ?_⟩, by simpa using s.len, fun j d' e => ?_, fun j h => ?_, s.sep, s.own⟩, ⟨Ext.refl F, fun _ _ h => .inl h, fun _ _ h => .inl h, fun j b h => .inl ⟨j, h⟩, fun b u e _ h => ?_, fun b e => ?_⟩⟩
  · have : b ≠ a := fun z => by subst z; rw [hF.1] at e; cases e
    rw [upd_ne this]; exact s.inn.fx _ _ e
  · obtain ⟨kvs, e1, e2⟩ := s.inn.nt b d e
    have : b ≠ a := fun z => by subst z; rw [hF.2] at e; cases e
    exact ⟨kvs, by rw [upd_ne this]; exact e1, e2⟩
  · by_cases hj : j = i
    · subst hj
      rw [List.getElem?_set_self hi] at e; cases e
      exact ⟨v, hv, ow⟩
    · rw [List.getElem?_set_ne (Ne.symm hj)] at e
      obtain ⟨w, e1, e2⟩ := s.slot j d' e
      exact ⟨w, e1, e2.keep (Ext.refl F) fun b hb => upd_ne fun z => by subst z; exact hj (s.sep j i b hb ha)⟩
  · by_cases hj : j = i
    · subst hj; exact (h d (List.getElem?_set_self hi)).elim
    · exact s.dead j fun d' q => h d' (by rw [List.getElem?_set_ne (Ne.symm hj)]; exact q)
  · have : b ≠ a := fun z => by subst z; exact h i ha
    rw [upd_ne this]; exact e
  · by_cases z : b = a
    · subst z; rw [upd_same] at e; cases e
    · rw [upd_ne z] at e; exact e
end
/-- what a method does to a list: the list behind it, the value -/
abbrev Eff := List D → List D → Option (List D × D)
def VM (G : Gx) (r : V → List V → Hp → VK → Prop) (g : Eff) : Prop :=
  ∀ F H a xs ds vs es ds' d Q, F.In G H → H a = some (.lst xs) → RepL G F ds xs → RepL G F es vs → g ds es = some (ds', d) →
    (∀ xs' v, RepL G F ds' xs' → Rep G F d v → Q v (upd H a (.lst xs'))) → r (.ref a) vs H Q
def isLst : Option D → Bool
  | some (.lst _) => true
  | _ => false
def eMut (i : Nat) (g : Eff) (f : AVD) : ED := fun ρ => if isLst (ρ[i]?.join) = true then (f ρ).bind fun avs ρ1 => match ρ1[i]?.join with
  | some (.lst ds) => (match (valsA avs).bind (g ds) with
    | some (ds', d) => .ok d (ρ1.set i (some (.lst ds')))
    | none => .bad)
  | _ => .bad else .bad
theorem isLst_some {o : Option D} (h : isLst o = true) : ∃ ds, o = some (.lst ds) := by
  unfold isLst at h
  split at h
  · exact ⟨_, rfl⟩
  · cases h
section
variable {G : Gx} {X : Cx} {m : Nat → Mode} {n : Nat} {W : WX} {k : Nat} {e : Expr} {es : List Expr} {f : AVD} {sh : List (Option Nat)} {x nm : Str} {p apos cpos : Pos} {id : String} {r : V → List V → Hp → VK → Prop} {g : Eff}
theorem tMut_of (i : Nat) (hm : (m i).lvl = 1) (hr : VM G r g) {σ : L2.St} {H : Hp} {Q : VK} (h : tD G m W (eMut i g f) σ H Q) :
    ∃ v, σ[i]? = some (some v) ∧ tyV G.K "list" v H ∧ tG G m W (RA G sh) f σ H fun vs H2 => r v vs H2 Q := by
  obtain ⟨F, ρ, fp, s, h⟩ := h
  unfold eMut at h
  by_cases q : isLst (ρ[i]?.join) = true
  · rw [if_pos q] at h
    obtain ⟨ds0, q0⟩ := isLst_some q
    obtain ⟨v, h1, h2⟩ := s.slot i _ (join_some q0)
    rw [hm] at h2
    obtain ⟨a, rfl, _, xs, h3, _⟩ := h2
    refine ⟨_, h1, .inl ⟨rfl, xs, SqL.of h3⟩, F, ρ, fp, s, (RG.bind (R := RA G sh) s h).mono fun vs H1 ⟨F1, ρ1, fp1, avs, p1, s1, r1, h4⟩ => ?_⟩
    split at h4
    · rename_i ds q1
      cases q2 : (valsA avs).bind (g ds) with
      | none => rw [q2] at h4; exact h4.elim
      | some pr =>
        obtain ⟨ds', d⟩ := pr
        rw [q2] at h4
        dsimp only at h4
        obtain ⟨es, e1, e2⟩ := Option.bind_eq_some_iff.mp q2
        obtain ⟨v', h5, h6⟩ := s1.slot i _ (join_some q1)
        rw [h1] at h5; cases h5
        rw [hm] at h6
        obtain ⟨a', ea, hfp, xs1, h7, h8⟩ := h6
        cases ea
        refine hr F1 H1 a xs1 ds vs es ds' d Q s1.inn h7 h8 (vals_rep r1 e1) e2 fun xs' v' rx rv => ?_
        have ha : a ∈ fp1 i := by rw [hfp]; simp
        obtain ⟨s2, st2⟩ := s1.write (o := .lst xs') (d := .lst ds') ha h1 (by rw [hm]; exact ⟨a, rfl, hfp, xs', upd_same, rx⟩)
        exact h4 v' F1 _ fp1 st2 s2 rv
    · exact h4.elim
  · rw [if_neg q] at h; exact h.elim
theorem de_mut (i : Nat) (hr : VM G r g) (slot : Slot "list" nm id) (hty : typeOf (.builtin id) = pure (.type "method_descriptor")) (hrule : ∀ {X : Cx}, Ctx G X W k → MtR X id r) (ha : DA G X m W k sh (e :: es) f) (hm : (m i).lvl = 1 := by rfl)
    (hN : X.N[i]? = some x := by rfl) (hv : Vis X.env.scope x := by first | exact Or.inl rfl | exact Or.inr (Or.inl rfl) | exact Or.inr (Or.inr rfl)) (hd : (x == ("__debug__" : Str)) = false := by decide)
    (hcd : (x == ("__classdict__" : Str)) = false := by decide)
    (hbase : attributeBase (.Name x p) nm X.env (eval (.Name x p) X.env) = eval (.Name x p) X.env := by rfl)
    (hfew : ((backTo cpos (starEach (e :: es) X.env)).all (fun x => !x.1) && (backToKw cpos (keywordEach [] X.env)).all (fun x => x.1.isSome)
      && decide ((e :: es).length + ([] : List Keyword).length + (if ([] : List Keyword).isEmpty then 0 else 1) < 30)) = true := by rfl)
    (hline : (apos.endLine == cpos.line) = true := by rfl) (hs : starEach (e :: es) X.env = (false, eval e X.env) :: starEach es X.env := by rfl) (hplain : (backTo cpos (starEach es X.env)).any (·.1) = false := by rfl) :
    DE G X m W k (.Call (.Attribute (.Name x p) nm apos) (e :: es) [] cpos) (eMut i g f) := fun c =>
  PEmono (pe_bm PySem.F.plainAttrs_list slot hty (hrule c) (pe_var hN hv hd hcd) (ha c) hbase hfew hline hs hplain) fun σ H Q h => by
    obtain ⟨v, h1, h2, h3⟩ := tMut_of i hm hr h
    exact ⟨v, h1, c.K ▸ h2, h3⟩
theorem de_mut0 (i : Nat) (hr : VM G r g) (slot : Slot "list" nm id) (hty : typeOf (.builtin id) = pure (.type "method_descriptor")) (hrule : ∀ {X : Cx}, Ctx G X W k → MtR X id r) (hm : (m i).lvl = 1 := by rfl)
    (hN : X.N[i]? = some x := by rfl) (hv : Vis X.env.scope x := by first | exact Or.inl rfl | exact Or.inr (Or.inl rfl) | exact Or.inr (Or.inr rfl)) (hd : (x == ("__debug__" : Str)) = false := by decide)
    (hcd : (x == ("__classdict__" : Str)) = false := by decide)
    (hbase : attributeBase (.Name x p) nm X.env (eval (.Name x p) X.env) = eval (.Name x p) X.env := by rfl) (hline : (apos.endLine == cpos.line) = true := by rfl) :
    DE G X m W k (.Call (.Attribute (.Name x p) nm apos) [] [] cpos) (eMut i g aNil) := fun c =>
  PEmono (pe_bm0 PySem.F.plainAttrs_list slot hty (hrule c) (pe_var hN hv hd hcd) hbase hline) fun σ H Q h => by
    obtain ⟨v, h1, h2, F, ρ, fp, s, h3⟩ := tMut_of (sh := []) i hm hr h
    exact ⟨v, h1, c.K ▸ h2, h3 [] F H fp Step.refl s ⟨rfl, rfl, fun j av v e _ => by simp at e⟩⟩
/-! the methods -/
def gApp : Eff := fun ds es => match es with
  | [d] => if ds.length < sizeLine then some (ds ++ [d], .non) else none
  | _ => none
def gExt : Eff := fun ds es => match es with
  | [.lst zs] => if ds.length + zs.length ≤ sizeLine then some (ds ++ zs, .non) else none
  | _ => none
def gPop : Eff := fun ds es => match es with
  | [] => (ds.getLast?).map fun d => (ds.dropLast, d)
  | _ => none
def gPopAt : Eff := fun ds es => match es with
  | [.int i] => if -(2 ^ 63) ≤ i ∧ i < 2 ^ 63 then (seqIndex? i ds.length).bind fun j => (ds[j]?).map fun d => (ds.eraseIdx j, d) else none
  | _ => none
theorem vm_append : VM G rAppend gApp := fun F H a xs ds vs es ds' d Q i h r rs e q => by
  unfold gApp at e
  split at e
  · rename_i y
    obtain ⟨w, ws, rfl, r1, r2⟩ := rs
    cases r2
    split at e
    · rename_i hz
      cases e
      exact ⟨a, xs, w, rfl, rfl, h, by rw [r.length]; exact hz, q _ _ (r.append (.one r1)) (by simp [Rep])⟩
    · cases e
  · cases e
theorem vm_extend : VM G rExtend gExt := fun F H a xs ds vs es ds' d Q i h r rs e q => by
  unfold gExt at e
  split at e
  · rename_i zs
    obtain ⟨w, ws, rfl, r1, r2⟩ := rs
    cases r2
    obtain ⟨b, ys, rfl, h1, h2⟩ := r1
    split at e
    · rename_i hz
      cases e
      exact ⟨a, b, xs, ys, rfl, rfl, h, i.fx _ _ h1, by rw [r.length, h2.length]; exact hz, q _ _ (r.append h2) (by simp [Rep])⟩
    · cases e
  · cases e
theorem RepL.dropLast {F : Fr} {ds : List D} {xs : List V} (r : RepL G F ds xs) : RepL G F ds.dropLast xs.dropLast := by
  rw [List.dropLast_eq_take, List.dropLast_eq_take, r.length]; exact RepL.take _ r
theorem vm_pop : VM G rPop gPop := fun F H a xs ds vs es ds' d Q i h r rs e q => by
  unfold gPop at e
  split at e
  · cases rs
    obtain ⟨y, e1, e2⟩ := Option.map_eq_some_iff.mp e
    cases e2
    rw [List.getLast?_eq_getElem?] at e1
    obtain ⟨v, h1, h2⟩ := r.get e1
    exact ⟨a, xs, v, rfl, rfl, h, by rw [r.length]; exact h1, q _ _ r.dropLast h2⟩
  · cases e
theorem vm_popAt : VM G rPopAt gPopAt := fun F H a xs ds vs es ds' d Q i h r rs e q => by
  unfold gPopAt at e
  split at e
  · rename_i z
    obtain ⟨w, ws, rfl, r1, r2⟩ := rs
    cases r2; cases r1
    split at e
    · rename_i hz
      obtain ⟨j, e1, e2⟩ := Option.bind_eq_some_iff.mp e
      obtain ⟨y, e3, e4⟩ := Option.map_eq_some_iff.mp e2
      cases e4
      obtain ⟨v, h1, h2⟩ := r.get e3
      exact ⟨a, xs, z, j, v, rfl, rfl, h, hz.1, hz.2, by rw [r.length]; exact e1, h1, q _ _ (r.eraseIdx j) h2⟩
    · cases e
  · cases e
end
end Dn

/-! Dn8: more of lists, what is walked, the body of a def. -/
namespace Dn
open PySem PySem.Spec PyProof.Rows L2
section
variable {G : Gx} {X : Cx} {m : Nat → Mode} {n : Nat} {W : WX} {k : Nat} {e a b : Expr} {fe fk : ED} {f : AVD} {sh : List (Option Nat)} {x : Str} {p pos spos : Pos}
def gIns : Eff := fun ds es => match es with
  | [.int i, y] => if ds.length < sizeLine ∧ 0 ≤ i ∧ i < 2 ^ 63 then some (ds.take i.toNat ++ [y] ++ ds.drop i.toNat, .non) else none
  | _ => none
abbrev rInsert : V → List V → Hp → VK → Prop := fun x vs H Q => ∃ (l : Addr) (xs : List V) (i : Int) (y : V), x = .ref l ∧ vs = [.int i, y] ∧ H l = some (.lst xs) ∧ xs.length < sizeLine ∧ 0 ≤ i ∧ i < 2 ^ 63 ∧ Q .non (upd H l (.lst (xs.take i.toNat ++ [y] ++ xs.drop i.toNat)))
theorem vm_insert : VM G rInsert gIns := fun F H a xs ds vs es ds' d Q i h r rs e q => by
  unfold gIns at e
  split at e
  · rename_i z y
    obtain ⟨w, ws, rfl, r1, w', ws', rfl, r2, r3⟩ := rs
    cases r3; cases r1
    split at e
    · rename_i hz
      cases e
      exact ⟨a, xs, z, w', rfl, rfl, h, by rw [r.length]; exact hz.1, hz.2.1, hz.2.2, q _ _ (((RepL.take _ r).append (.one r2)).append (RepL.drop _ r)) (by simp [Rep])⟩
    · cases e
  · cases e
/-! ### xs[i] = e -/
def sPut (i : Nat) (fe fk : ED) : SD := fun ρ => (fe ρ).thn fun d ρ1 => if isLst (ρ1[i]?.join) = true then (fk ρ1).thn fun kd ρ2 => match ρ2[i]?.join, kd with
    | some (.lst ds), .int z => (match ixN ds.length z with
      | some j => .nx (ρ2.set i (some (.lst (ds.set j d))))
      | none => .bad)
    | _, _ => .bad else .bad
theorem ds_put (i : Nat) (he : DE G X m W k e fe) (hk : DE G X m W k b fk) (hm : (m i).lvl = 1 := by rfl)
    (hN : X.N[i]? = some x := by rfl) (hv : Vis X.env.scope x := by first | exact Or.inl rfl | exact Or.inr (Or.inl rfl) | exact Or.inr (Or.inr rfl)) (hd : (x == ("__debug__" : Str)) = false := by decide)
    (hcd : (x == ("__classdict__" : Str)) = false := by decide)
    (ha : ∀ v, assign (.Subscript (.Name x p) b pos) X.env v = (do
      let ov ← holding [v] (eval (.Name x p) X.env)
      let iv ← holding [v, ov] (eval b X.env)
      standAt pos
      holding [v, ov, iv] (setItem ov iv v)
      release [v, ov, iv] []) := by intro _; rfl)
    (hs : swapsWithSole [.Subscript (.Name x p) b pos] e spos.line X.env = pure false := by rfl) (hw : swappedStores [.Subscript (.Name x p) b pos] e X.env = pure none := by rfl)
    (h1 : (assignEach [.Subscript (.Name x p) b pos] X.env).map (·.2) = [assign (.Subscript (.Name x p) b pos) X.env] := by rfl) :
    DS G X m n W k (.Assign [.Subscript (.Name x p) b pos] e spos) (sPut i fe fk) := fun c =>
  PSmono (ps_asg (he c) (pg_sub (pe_var hN hv hd hcd) (hk c) set_list ha) hs hw h1) fun D σ H ⟨F, ρ, fp, s, h⟩ => ⟨F, ρ, fp, s, (RS.thn (R := RD G) s h).mono fun v H1 ⟨F1, ρ1, fp1, d, p1, s1, r1, h1⟩ => by
    by_cases q : isLst (ρ1[i]?.join) = true
    · rw [if_pos q] at h1
      obtain ⟨ds0, q0⟩ := isLst_some q
      obtain ⟨w, e1, e2⟩ := s1.slot i _ (join_some q0)
      rw [hm] at e2
      obtain ⟨a, rfl, _⟩ := e2
      refine ⟨_, e1, F1, ρ1, fp1, s1, (RS.thn (R := RD G) s1 h1).mono fun kv H2 ⟨F2, ρ2, fp2, kd, p2, s2, r2, h2⟩ => ?_⟩
      split at h2
      · rename_i ds z q1
        split at h2
        · rename_i j q2
          obtain ⟨w', e3, e4⟩ := s2.slot i _ (join_some q1)
          rw [e1] at e3; cases e3
          rw [hm] at e4
          obtain ⟨a', ea, hfp, xs, e5, e6⟩ := e4
          cases ea
          have ha : a ∈ fp2 i := by rw [hfp]; simp
          obtain ⟨s3, st3⟩ := s2.write (o := .lst (xs.set j v)) (d := .lst (ds.set j d)) ha e1 (by rw [hm]; exact ⟨a, rfl, hfp, _, upd_same, e6.set j (Rep.ext p2.ext _ _ r1)⟩)
          refine ⟨a, xs, z, j, rfl, r2, e5, by rw [e6.length]; exact q2, h2 σ F2 _ fp2 st3 s3 .refl⟩
        · exact h2.elim
      · exact h2.elim
    · rw [if_neg q] at h1; exact h1.elim⟩
/-! ### what is walked -/
theorem tI_mono {it : ID} {t : TI} {tg e : Expr} (h : PI X tg e t) (hq : ∀ σ H Q, tG G m W (RI G) it σ H Q → t σ H Q) : PI X tg e (tG G m W (RI G) it) := PImono h hq
theorem YAt_ok {F : Fr} {ds : List D} {xs : List V} (r : RepL G F ds xs) : ∀ i H F1 x H', Ext F F1 → F1.In G H → i < ds.length → YAt xs i H x H' → ∃ F2 d, ds[i]? = some d ∧ Grow G F1 H F2 H' ∧ Rep G F2 d x := by
  rintro i H F1 x H' hx inn hi ⟨rfl, hy⟩
  obtain ⟨d, e1, e2⟩ := r.get' hy
  exact ⟨F1, d, e1, Grow.refl inn, Rep.ext hx _ _ e2⟩
def iD (f : ED) : ID := fun ρ => (f ρ).bind fun d ρ1 => opt (itemsD d) ρ1
/-- a list or a tuple that stands -/
theorem di_list {tg : Expr} (h : DE G X m W k e fe) : DI G X m W k tg e (fun ρ => (fe ρ).bind fun d ρ1 => match d with
    | .lst ds => .ok ds ρ1
    | .scr ns => .ok (ns.map .int) ρ1
    | _ => .bad) := fun c => PImono (pi_list (h c)) fun σ H R ⟨F, ρ, fp, s, h⟩ => ⟨F, ρ, fp, s, (RG.bind (R := RD G) s h).mono fun v H1 ⟨F1, ρ1, fp1, d, p1, s1, r1, h1⟩ => by
  rw [c.K]
  cases d with
  | lst ds =>
    obtain ⟨a, xs, rfl, e1, e2⟩ := r1
    refine ⟨a, rfl, ⟨xs, SqL.of (s1.inn.fx _ _ e1)⟩, h1 _ F1 H1 fp1 Step.refl s1 ⟨_, _, by rw [← e2.length]; exact walk_list (K := G.K) (a := a) (xs := xs), fun H F2 x i => SqL.of (i.fx _ _ (x.fx _ _ e1)), YAt_ok e2⟩⟩
  | scr ns =>
    obtain ⟨a, rfl, e1⟩ := r1
    have e2 : RepL G F1 (ns.map D.int) (ns.map V.int) := RepL.ints
    refine ⟨a, rfl, ⟨_, s1.inn.seqL e1⟩, h1 _ F1 H1 fp1 Step.refl s1 ⟨_, _, by rw [← e2.length]; exact walk_list (K := G.K) (a := a) (xs := ns.map V.int), fun H F2 x i => i.seqL (x.fx.seq e1), YAt_ok e2⟩⟩
  | _ => exact h1.elim⟩
theorem di_tup {tg : Expr} (h : DE G X m W k e fe) : DI G X m W k tg e (fun ρ => (fe ρ).bind fun d ρ1 => match d with
    | .tup ds => .ok ds ρ1
    | _ => .bad) := fun c => PImono (pi_tup (h c)) fun σ H R ⟨F, ρ, fp, s, h⟩ => ⟨F, ρ, fp, s, (RG.bind (R := RD G) s h).mono fun v H1 ⟨F1, ρ1, fp1, d, p1, s1, r1, h1⟩ => by
  rw [c.K]
  cases d with
  | tup ds =>
    obtain ⟨a, xs, rfl, e1, e2⟩ := r1
    refine ⟨a, rfl, ⟨xs, s1.inn.seqT e1⟩, h1 _ F1 H1 fp1 Step.refl s1 ⟨_, _, by rw [← e2.length]; exact walk_tup (K := G.K) (a := a) (xs := xs), fun H F2 x i => i.seqT (SameT x.fx e1), YAt_ok e2⟩⟩
  | _ => exact h1.elim⟩
def rngD (lo : Int) (n : Nat) : List D := (List.range n).map fun (i : Nat) => D.int (lo + i)
theorem rngD_length (lo : Int) (n : Nat) : (rngD lo n).length = n := by simp [rngD]
theorem YFn_rng {F : Fr} {lo : Int} {n : Nat} : ∀ i H F1 x H', Ext F F1 → F1.In G H → i < (rngD lo n).length → YFn (fun i => V.int (lo + i)) i H x H' → ∃ F2 d, (rngD lo n)[i]? = some d ∧ Grow G F1 H F2 H' ∧ Rep G F2 d x := by
  rintro i H F1 x H' hx inn hi ⟨rfl, rfl⟩
  rw [rngD_length] at hi
  exact ⟨F1, .int (lo + i), by simp [rngD, hi], Grow.refl inn, by simp [Rep]⟩
def iRg1 (f : AVD) : ID := fun ρ => (f ρ).bind fun avs ρ1 => match valsA avs with
  | some [.int j] => if -(2 ^ 62) ≤ j ∧ j < 2 ^ 62 then .ok (rngD 0 j.toNat) ρ1 else .bad
  | _ => .bad
theorem RI_rng {F : Fr} {H : Hp} {H0 : Hp} {fp0 fp : Nat → List Addr} {σ : L2.St} {ρ : Env} {lo : Int} {n : Nat} : RI G H0 fp0 F H fp σ ρ (rngD lo n) (Itr lo n) :=
  ⟨_, _, by rw [rngD_length]; exact walk_range, fun _ _ _ _ => trivial, YFn_rng⟩
theorem di_range1 {tg : Expr} (hm : G.mg "range" = none) (ha : DA G X m W k sh [a] f) (hg : Gl X "range" := by rfl) (hs : starEach [a] X.env = [(false, eval a X.env)] := by rfl) : DI G X m W k tg (.Call (.Name "range" p) [a] [] pos) (iRg1 f) := fun c =>
  PImono (pi_range1 hg (c.mg ▸ hm) (ha c) hs) fun σ H R ⟨F, ρ, fp, s, h⟩ => ⟨F, ρ, fp, s, (RG.bind (R := RA G sh) s h).mono fun vs H1 ⟨F1, ρ1, fp1, avs, p1, s1, r1, h1⟩ => by
    split at h1
    · rename_i j q
      split at h1
      · rename_i hz
        obtain ⟨v, vs', rfl, e1, e2⟩ := vals_rep r1 q
        cases e1; cases e2
        exact ⟨j, rfl, hz.1, hz.2, h1 _ F1 H1 fp1 Step.refl s1 RI_rng⟩
      · exact h1.elim
    · exact h1.elim⟩
def iRg2 (f : AVD) : ID := fun ρ => (f ρ).bind fun avs ρ1 => match valsA avs with
  | some [.int i, .int j] => if -(2 ^ 62) ≤ i ∧ i < 2 ^ 62 ∧ -(2 ^ 62) ≤ j ∧ j < 2 ^ 62 then .ok (rngD i (j - i).toNat) ρ1 else .bad
  | _ => .bad
theorem di_range2 {tg : Expr} (hm : G.mg "range" = none) (ha : DA G X m W k sh [a, b] f) (hg : Gl X "range" := by rfl) (hs : starEach [a, b] X.env = [(false, eval a X.env), (false, eval b X.env)] := by rfl) (hs2 : starEach [b] X.env = [(false, eval b X.env)] := by rfl) : DI G X m W k tg (.Call (.Name "range" p) [a, b] [] pos) (iRg2 f) := fun c =>
  PImono (pi_range2 hg (c.mg ▸ hm) (ha c) hs hs2) fun σ H R ⟨F, ρ, fp, s, h⟩ => ⟨F, ρ, fp, s, (RG.bind (R := RA G sh) s h).mono fun vs H1 ⟨F1, ρ1, fp1, avs, p1, s1, r1, h1⟩ => by
    split at h1
    · rename_i i j q
      split at h1
      · rename_i hz
        obtain ⟨v, vs', rfl, e1, w, ws', rfl, e2, e3⟩ := vals_rep r1 q
        cases e1; cases e2; cases e3
        exact ⟨i, j, rfl, hz, h1 _ F1 H1 fp1 Step.refl s1 RI_rng⟩
      · exact h1.elim
    · exact h1.elim⟩
/-- a text, sign by sign -/
def strD (z : Str) : List D := z.cps.toList.map fun c => .str ⟨#[c]⟩
theorem di_str {tg : Expr} (h : DE G X m W k e fe) : DI G X m W k tg e (fun ρ => (fe ρ).bind fun d ρ1 => match d with
    | .str z => .ok (strD z) ρ1
    | _ => .bad) := fun c => PImono (pi_str (h c)) fun σ H R ⟨F, ρ, fp, s, h⟩ => ⟨F, ρ, fp, s, (RG.bind (R := RD G) s h).mono fun v H1 ⟨F1, ρ1, fp1, d, p1, s1, r1, h1⟩ => by
  cases d with
  | str z =>
    refine ⟨z, r1, h1 _ F1 H1 fp1 Step.refl s1 ⟨_, _, by rw [show (strD z).length = z.cps.size by simp [strD]]; exact walk_str, fun _ _ _ _ => trivial, ?_⟩⟩
    rintro i H F2 x H' hx inn hi ⟨rfl, cc, e1, rfl⟩
    refine ⟨F2, .str ⟨#[cc]⟩, ?_, Grow.refl inn, by simp [Rep]⟩
    have : z.cps.toList[i]? = some cc := by rw [← e1]; simp
    simp [strD, this]
  | _ => exact h1.elim⟩
/-- pairs that are laid as they are walked -/
theorem YPair_ok {F : Fr} {xs ys : Nat → Option V} {zs : List D} (hz : ∀ (i : Nat) (u w : V), i < zs.length → xs i = some u → ys i = some w → ∃ d e, zs[i]? = some (D.tup [d, e]) ∧ Rep G F d u ∧ Rep G F e w) :
    ∀ i H F1 x H', Ext F F1 → F1.In G H → i < zs.length → YPair xs ys i H x H' → ∃ F2 d, zs[i]? = some d ∧ Grow G F1 H F2 H' ∧ Rep G F2 d x := by
  rintro i H F1 x H' hx1 inn hi ⟨T, u, w, rfl, hT, rfl, e1, e2⟩
  obtain ⟨d, e, e3, r3, r4⟩ := hz i u w hi e1 e2
  have rl : RepL G F1 [d, e] [u, w] := ⟨u, _, rfl, Rep.ext hx1 _ _ r3, w, [], rfl, Rep.ext hx1 _ _ r4, rfl⟩
  exact ⟨_, _, e3, Grow.lay inn hT, Rep.add_tup (inn.free hT).1 rl⟩
def enumD (ds : List D) : List D := ds.mapIdx fun i d => D.tup [D.int (i : Nat), d]
theorem enumD_length (ds : List D) : (enumD ds).length = ds.length := by simp [enumD]
theorem enum_ok {F : Fr} {ds : List D} {xs : List V} (r : RepL G F ds xs) : ∀ i H F1 x H', Ext F F1 → F1.In G H → i < (enumD ds).length → YPair (fun i => some (.int (i : Nat))) (fun i => xs[i]?) i H x H' → ∃ F2 d, (enumD ds)[i]? = some d ∧ Grow G F1 H F2 H' ∧ Rep G F2 d x :=
  YPair_ok fun i u w hi e1 e2 => by
    obtain ⟨d, e3, r3⟩ := r.get' e2
    cases e1
    exact ⟨.int (i : Nat), d, by simp [enumD, e3], by simp [Rep], r3⟩
def iEn (f : AVD) : ID := fun ρ => (f ρ).bind fun avs ρ1 => match valsA avs with
  | some [.lst ds] => .ok (enumD ds) ρ1
  | some [.scr ns] => .ok (enumD (ns.map .int)) ρ1
  | _ => .bad
theorem di_enum {elts : List Expr} {kk : Nat} {tpos : Pos} (hm : G.mg "enumerate" = none) (ha : DA G X m W k sh [a] f) (hg : Gl X "enumerate" := by rfl) (hs : starEach [a] X.env = [(false, eval a X.env)] := by rfl) : DI G X m W k (.Tuple elts kk tpos) (.Call (.Name "enumerate" p) [a] [] pos) (iEn f) := fun c =>
  PImono (pi_enum hg (c.mg ▸ hm) (ha c) hs) fun σ H R ⟨F, ρ, fp, s, h⟩ => ⟨F, ρ, fp, s, (RG.bind (R := RA G sh) s h).mono fun vs H1 ⟨F1, ρ1, fp1, avs, p1, s1, r1, h1⟩ => by
    rw [c.K]
    split at h1
    · rename_i ds q
      obtain ⟨v, vs', rfl, e1, e2⟩ := vals_rep r1 q
      cases e2
      obtain ⟨b, xs, rfl, e3, e4⟩ := e1
      refine ⟨b, xs, rfl, SqL.of (s1.inn.fx _ _ e3), h1 _ F1 H1 fp1 Step.refl s1 ⟨_, _, by rw [enumD_length, ← e4.length]; exact walk_enum (K := G.K) (a := b) (xs := xs), fun H F2 x i => SqL.of (i.fx _ _ (x.fx _ _ e3)), enum_ok e4⟩⟩
    · rename_i ns q
      obtain ⟨v, vs', rfl, e1, e2⟩ := vals_rep r1 q
      cases e2
      obtain ⟨b, rfl, e3⟩ := e1
      have e4 : RepL G F1 (ns.map D.int) (ns.map V.int) := RepL.ints
      refine ⟨b, _, rfl, s1.inn.seqL e3, h1 _ F1 H1 fp1 Step.refl s1 ⟨_, _, by rw [enumD_length, ← e4.length]; exact walk_enum (K := G.K) (a := b) (xs := ns.map V.int), fun H F2 x i => i.seqL (x.fx.seq e3), enum_ok e4⟩⟩
    · exact h1.elim⟩
end

/-! ### enumerate of a tuple -/
section
open AutoSeq1 (wpAny_loadPart')
set_option maxHeartbeats 2000000 in
theorem meets_enumerate_newT (l : Addr) (items : Array Value) (n : Nat) (dct : Option Addr) (sl : Array (Option Value)) :
    Meets (Builtin.«enumerate.__new__» ⟨[.type "enumerate", .ref l], []⟩) (fun _ R s => s.heap.get? l = some { cls := .type "tuple", dict := dct, data := .seq items n, slots := sl } ∧
      R (.ok (.ret (.ref (s.heap.push { cls := .type "tuple_iterator", data := .fields #[.ref l, .int 0 0] }).objs.size)))
        { s with heap := (s.heap.push { cls := .type "tuple_iterator", data := .fields #[.ref l, .int 0 0] }).push { cls := .type "enumerate", data := .fields #[.none, .bool false, .ref s.heap.objs.size, rawInt 0, .none, .none] } }) :=
  .of_wp fun prog w A R s h => by
    obtain ⟨hp, g, d, tk, os⟩ := s; obtain ⟨hl, h⟩ := h
    have hsub := sub_enumerate
    have hL : Heap.IsTuple (Shared.heap ⟨hp, g, d, tk, os⟩) l items := ⟨_, hl, rfl, n, rfl⟩
    wp_walk using wpAny_loadPart' hl
    refine wpAny_stack_any fun st => wpAny_pure ?_
    split
    · rename_i c _ _ _ _ _
      cases (c == Value.type "enumerate")
      · wp_walk using wpAny_loadPart' hl, wpAny_pyIter_tuple hL
        exact ⟨_, rfl, h⟩
      · wp_walk using wpAny_loadPart' hl, wpAny_pyIter_tuple hL
        exact ⟨_, rfl, h⟩
    · wp_walk using wpAny_loadPart' hl, wpAny_pyIter_tuple hL
      exact ⟨_, rfl, h⟩
variable {prog : Program} {w : World} {A : Around} {E : Value → Shared → Prop} {s : Shared}
theorem call_enumerate_tuple {l : Addr} {items : Array Value} {Q : Value → Shared → Prop} (hL : s.heap.IsTuple l items)
    (h : ∀ h', IsEnum h' (s.heap.objs.size + 1) s.heap.objs.size 0 .none → h'.IsTupleIter s.heap.objs.size l 0 → h'.objs.size = s.heap.objs.size + 2 →
      (∀ b o, s.heap.get? b = some o → h'.get? b = some o) → Q (.ref (s.heap.objs.size + 1)) { s with heap := h' }) :
    wpAny (model prog w) A (call (.type "enumerate") [.ref l]) Q E s := by
  obtain ⟨⟨c, dct, dt, sl⟩, hl, hc, n, hd⟩ := hL
  replace hc : c = .type "tuple" := hc
  replace hd : dt = .seq items n := hd
  subst hc hd
  refine callType_new F.called_enumerate (by decide) (F.typeCall_enumerate_1 _) (F.newCall_enumerate_1 _) (fun obj => F.args_object_init_2 obj _) F.entry_enumerate_new
    (meets_enumerate_newT l items n dct sl) ⟨hl, ?_⟩
  have hz : (s.heap.push { cls := .type "tuple_iterator", data := .fields #[.ref l, .int 0 0] }).objs.size = s.heap.objs.size + 1 := Heap.size_push ..
  show _ ∧ _
  rw [hz]
  have he : IsEnum ((s.heap.push { cls := .type "tuple_iterator", data := .fields #[.ref l, .int 0 0] }).push
      { cls := .type "enumerate", data := .fields #[.none, .bool false, .ref s.heap.objs.size, rawInt 0, .none, .none] }) (s.heap.objs.size + 1) s.heap.objs.size 0 .none := by
    have := Heap.get?_push_size (s.heap.push { cls := .type "tuple_iterator", data := .fields #[.ref l, .int 0 0] })
      (o := { cls := .type "enumerate", data := .fields #[.none, .bool false, .ref s.heap.objs.size, rawInt 0, .none, .none] }) rfl
    rw [hz] at this; exact this
  refine ⟨⟨_, he, rfl⟩, h _ he ⟨_, Heap.get?_push_of_some _ (Heap.get?_push_size _ rfl), rfl, rfl⟩ (by rw [Heap.size_push, hz]) fun b o x => Heap.get?_push_of_some _ (Heap.get?_push_of_some _ x)⟩
end

def IteT (K : PySem.W.Frag) (a : Addr) : It :=
  ⟨fun i H => ∃ (xs : List V) (x : V), SqT K H a xs ∧ xs[i]? = some x, fun i H v H' => ∃ T x, v = .ref T ∧ H T = none ∧ H' = upd H T (.tup [.int (i : Nat), x]) ∧ ∀ xs, SqT K H a xs → xs[i]? = some x, fun i H => ∃ xs : List V, SqT K H a xs ∧ xs.length = i⟩
theorem turn_enumT {P : Program} {w : World} {K : PySem.W.Frag} {elts : List Expr} {kk : Nat} {tpos : Pos} (a e it : Addr) :
    Turn P w K (.Tuple elts kk tpos) (IteT K a) [e, it] e (fun i h => (∃ old, IsEnum h e it ((i : Nat) : Int) old) ∧ h.IsTupleIter it a i ∧ e ≠ it ∧ e ≠ a ∧ a ≠ it) where
  mem := by simp
  obj := fun i h st b hb => by
    obtain ⟨⟨old, he⟩, ⟨o, ho, hc, hd⟩, _⟩ := st
    have e' : b = e ∨ b = it := by simpa using hb
    rcases e' with z | z
    · rw [z]; exact ⟨_, he, fun v q => nomatch q⟩
    · rw [z]; exact ⟨o, ho, fun v q => by rw [hd] at q; cases q⟩
  keep := fun i h h' st k => let ⟨⟨old, he⟩, hi, hne⟩ := st; ⟨⟨old, k e (by simp) _ he⟩, hi.at fun o q => k it (by simp) o q, hne⟩
  item := by
    intro X hP hw hK hc i pins s σ H E I hf st hg
    subst hP hw hK
    obtain ⟨⟨old, he⟩, hit, hne, hea, hai⟩ := st
    obtain ⟨xs, x, hq, hx⟩ := hg
    obtain ⟨its, rv, p, hz⟩ := I.tuple hq
    obtain ⟨u, hu, ru⟩ := rv.get hx
    have hel : e < s.heap.objs.size := Heap.lt_size he
    have hil : it < s.heap.objs.size := by obtain ⟨_, q, _⟩ := hit; exact Heap.lt_size q
    have hlt : i < its.toArray.size := by
      have := (List.getElem?_eq_some_iff.mp hu).1; simpa using this
    refine wpAny_pyNext_enum_itemD (Draws.tuple (prog := X.prog) (w := X.w) (A := X.A.in1) (I.ok.hd hc) it a hai its.toArray) he ⟨hit, p⟩ hlt hne (by simp [hne, hea]) fun u' h' tk hPx ho hst' hT hsz hk => ?_
    have hu' : u' = u := by
      have : its[i]? = some u' := by simpa using hPx
      rw [hu] at this; exact (Option.some.inj this).symm
    subst hu'
    refine ⟨_, rfl, wpAny_letOwnedTupleGo_enum (s := { s with heap := h', toks := tk + 1 }) ho fun h'' he' sb => ?_⟩
    have hT2 : h''.get? s.heap.objs.size = some { cls := .type "tuple", data := .seq #[.int i tk, u'] } := (sb.2 _ (Nat.ne_of_gt hel)).trans hT
    have new : ObjOk X.prog X.w (upd H s.heap.objs.size (.tup [.int (i : Nat), x])) h'' s.heap.objs.size (.tup [.int (i : Nat), x]) :=
      ⟨by show 2 ≤ sizeLine; decide, [.int i tk, u'], .cons ⟨_, rfl⟩ (.cons ru .nil), ⟨_, hT2, rfl, _, rfl⟩⟩
    have I1 : Inv X pins σ (upd H s.heap.objs.size (.tup [.int (i : Nat), x])) { s with heap := h'', toks := tk + 1 } :=
      I.turnedNew (ch := [e, it]) (fun b ob hb q => (sb.2 b (fun z => hb (by simp [z]))).trans (hk b ob (fun z => hb (by simp [z])) (fun z => hb (by simp [z])) q)) hf (Nat.le_refl _) new
    refine ⟨.ref s.heap.objs.size, _, I1, rfl, ⟨_, x, rfl, I.hok.fresh (Nat.le_refl _), rfl, fun ys hy => by rw [I.tuple_inj hy hq]; exact hx⟩, ⟨⟨u', ?_⟩, hst'.1.at fun o q => (sb.2 it (Ne.symm hne)).trans q, hne, hea, hai⟩, fun b hb => ?_⟩
    · have e1 : ((i + 1 : Nat) : Int) = (i : Int) + 1 := by omega
      rw [e1]; exact he'
    · have hb' : b < s.heap.objs.size := by
        have e' : b = e ∨ b = it := by simpa using hb
        rcases e' with z | z
        · rw [z]; exact hel
        · rw [z]; exact hil
      rw [upd_ne (Nat.ne_of_lt hb')]
      exact (hf b hb).1
  done := by
    intro X hP hw hK hc i pins s σ H E I hf st hg
    subst hP hw hK
    obtain ⟨⟨old, he⟩, hit, hne, hea, hai⟩ := st
    obtain ⟨xs, hq, hx⟩ := hg
    obtain ⟨its, rv, p, hz⟩ := I.tuple hq
    obtain ⟨f0, f1, f2, f3, f4, f5⟩ := hf it (by simp)
    -- the iterator stands at or behind the end
    have D := Draws.tuple (prog := X.prog) (w := X.w) (A := X.A.in1) (I.ok.hd hc) it a hai its.toArray
    have hn : i = its.toArray.size := by have := rv.length; simp; omega
    subst hn
    exact wpAny_pyNext_enum_endD D he ⟨hit, p⟩ fun h' hx' => ⟨rfl, I.turned (t' := s.toks) (fun b o hb q => hx' b o hb q) f0 f1 f3 f4 f5⟩
  self := fun A i s Q E st h => by
    obtain ⟨⟨old, he⟩, _⟩ := st
    exact wpAny_pyIter_enum he h
section
variable {X : Cx} {e : Expr} {ta : TA} {p pos tpos : Pos} {elts : List Expr} {kk : Nat}
def iEnumT (K : PySem.W.Frag) (ta : TA) : TI := fun σ H R => ta σ H fun vs H1 => ∃ a xs, vs = [.ref a] ∧ SqT K H1 a xs ∧ R (IteT K a) H1
theorem pi_enumT (hg : Gl X "enumerate") (hm : X.mg "enumerate" = none) (ha : PA X [e] ta) (hs : starEach [e] X.env = [(false, eval e X.env)] := by rfl) :
    PI X (.Tuple elts kk tpos) (.Call (.Name "enumerate" p) [e] [] pos) (iEnumT X.K ta) := by
  refine ⟨fun pins s σ H R I h => ?_⟩
  refine Call_ (ld_blt I hg hm boot_enumerate (PyProof.Rows.callWith_type1 (thn (ha.run pos pins s σ H _ I h) fun us s1 ⟨vs, H1, I1, r1, q1⟩ => ?_) hs rfl))
  obtain ⟨a, xs, ex, hq, q⟩ := q1
  subst ex
  cases r1 with
  | cons r rr =>
    cases rr
    cases r
    obtain ⟨its, rv, p', hz⟩ := I1.tuple hq
    have ha : a < s1.heap.objs.size := p'.lt
    refine call_enumerate_tuple (show s1.heap.IsTuple a its.toArray from p') fun h' he hit hsz hk => wpAny_pyIter_enum he ?_
    have I2 : Inv X pins σ H1 { s1 with heap := h' } := I1.kept (t' := s1.toks) hk
    refine ⟨s1.heap.objs.size + 1, [s1.heap.objs.size + 1, s1.heap.objs.size], _, _, H1, rfl, I2, turn_enumT a (s1.heap.objs.size + 1) s1.heap.objs.size, ⟨⟨.none, he⟩, hit, Nat.succ_ne_self _, Nat.ne_of_gt (Nat.lt_succ_of_lt ha), Nat.ne_of_lt ha⟩, fun b hb => ?_, q⟩
    have e' : b = s1.heap.objs.size + 1 ∨ b = s1.heap.objs.size := by simpa using hb
    have hle : s1.heap.objs.size ≤ b := by
      rcases e' with z | z
      · rw [z]; exact Nat.le_add_right _ _
      · rw [z]; exact Nat.le_refl _
    exact I1.fpOk hle (I1.hok.fresh hle)
theorem walk_enumT {K : PySem.W.Frag} {a : Addr} {xs : List V} : Walk (IteT K a) xs.length (fun H => SqT K H a xs) (YPair (fun i => some (.int (i : Nat))) (fun i => xs[i]?)) := by
  refine ⟨fun i _ hi q => ⟨xs, xs[i], q, by simp [hi]⟩, fun _ q => ⟨xs, q, rfl⟩, fun i H v H' _ q y => ?_⟩
  obtain ⟨T, x, h1, h2, h3, h4⟩ := y
  exact ⟨T, .int (i : Nat), x, h1, h2, h3, rfl, h4 xs q⟩
end
section
variable {G : Gx} {X : Cx} {m : Nat → Mode} {n : Nat} {W : WX} {k : Nat} {a b : Expr} {f : AVD} {sh : List (Option Nat)} {p pos tpos : Pos} {elts : List Expr} {kk : Nat}
def iEnT (f : AVD) : ID := fun ρ => (f ρ).bind fun avs ρ1 => match valsA avs with
  | some [.tup ds] => .ok (enumD ds) ρ1
  | _ => .bad
theorem di_enumT (hm : G.mg "enumerate" = none) (ha : DA G X m W k sh [a] f) (hg : Gl X "enumerate" := by rfl) (hs : starEach [a] X.env = [(false, eval a X.env)] := by rfl) : DI G X m W k (.Tuple elts kk tpos) (.Call (.Name "enumerate" p) [a] [] pos) (iEnT f) := fun c =>
  PImono (pi_enumT hg (c.mg ▸ hm) (ha c) hs) fun σ H R ⟨F, ρ, fp, s, h⟩ => ⟨F, ρ, fp, s, (RG.bind (R := RA G sh) s h).mono fun vs H1 ⟨F1, ρ1, fp1, avs, p1, s1, r1, h1⟩ => by
    rw [c.K]
    split at h1
    · rename_i ds q
      obtain ⟨v, vs', rfl, e1, e2⟩ := vals_rep r1 q
      cases e2
      obtain ⟨b, xs, rfl, e3, e4⟩ := e1
      refine ⟨b, xs, rfl, s1.inn.seqT e3, h1 _ F1 H1 fp1 Step.refl s1 ⟨_, _, by rw [enumD_length, ← e4.length]; exact walk_enumT (K := G.K) (a := b) (xs := xs), fun H F2 x i => i.seqT (SameT x.fx e3), enum_ok e4⟩⟩
    · exact h1.elim⟩
/-! ### zip -/
def zipD (ds es : List D) : List D := List.zipWith (fun d e => D.tup [d, e]) ds es
theorem zip_ok {F : Fr} {ds es : List D} {xs ys : List V} (r : RepL G F ds xs) (r' : RepL G F es ys) : ∀ i H F1 x H', Ext F F1 → F1.In G H → i < (zipD ds es).length → YPair (fun i => xs[i]?) (fun i => ys[i]?) i H x H' → ∃ F2 d, (zipD ds es)[i]? = some d ∧ Grow G F1 H F2 H' ∧ Rep G F2 d x :=
  YPair_ok fun i u w hi e1 e2 => by
    obtain ⟨d, e3, r3⟩ := r.get' e1
    obtain ⟨e, e4, r4⟩ := r'.get' e2
    exact ⟨d, e, by simp [zipD, List.getElem?_zipWith, e3, e4], r3, r4⟩
def iZp (f : AVD) : ID := fun ρ => (f ρ).bind fun avs ρ1 => match valsA avs with
  | some [.lst ds, .lst es] => .ok (zipD ds es) ρ1
  | some [.tup ds, .tup es] => .ok (zipD ds es) ρ1
  | _ => .bad
theorem walk_zipT {K : PySem.W.Frag} {a b : Addr} {xs ys : List V} {n : Nat} (hn : n = min xs.length ys.length) : Walk (RZ.ItzT K a b) n (fun H => SqT K H a xs ∧ SqT K H b ys) (YPair (fun i => xs[i]?) (fun i => ys[i]?)) := by
  subst hn
  refine ⟨fun i _ hi q => ?_, fun _ q => ⟨xs, ys, q.1, q.2, by omega⟩, fun i H v H' _ q y => ?_⟩
  · have h1 : i < xs.length := by omega
    have h2 : i < ys.length := by omega
    exact ⟨xs, ys, xs[i], ys[i], q.1, q.2, by simp [h1], by simp [h2]⟩
  · obtain ⟨T, x, z, h1, h2, h3, h4, h5⟩ := y
    exact ⟨T, x, z, h1, h2, h3, h4 xs q.1, h5 ys q.2⟩
theorem di_zip (hm : G.mg "zip" = none) (ha : DA G X m W k sh [a, b] f) (hg : Gl X "zip" := by rfl) (hs : starEach [a, b] X.env = (false, eval a X.env) :: starEach [b] X.env := by rfl) (hpl : (backTo pos (starEach [b] X.env)).any (·.1) = false := by rfl) : DI G X m W k (.Tuple elts kk tpos) (.Call (.Name "zip" p) [a, b] [] pos) (iZp f) := fun c =>
  PImono (RZ.pi_zipA hg (c.mg ▸ hm) (ha c) hs hpl) fun σ H R ⟨F, ρ, fp, s, h⟩ => ⟨F, ρ, fp, s, (RG.bind (R := RA G sh) s h).mono fun vs H1 ⟨F1, ρ1, fp1, avs, p1, s1, r1, h1⟩ => by
    rw [c.K]
    split at h1
    · rename_i ds es q
      obtain ⟨v, vs', rfl, e1, w, ws', rfl, e2, e3⟩ := vals_rep r1 q
      cases e3
      obtain ⟨a1, xs, rfl, e3, e4⟩ := e1
      obtain ⟨b1, ys, rfl, e5, e6⟩ := e2
      refine ⟨a1, b1, xs, ys, rfl, .inl ⟨SqL.of (s1.inn.fx _ _ e3), SqL.of (s1.inn.fx _ _ e5), h1 _ F1 H1 fp1 Step.refl s1 ⟨_, _, walk_zip (K := G.K) (a := a1) (b := b1) (xs := xs) (ys := ys) (by simp [zipD, e4.length, e6.length]), fun H F2 x i => ⟨SqL.of (i.fx _ _ (x.fx _ _ e3)), SqL.of (i.fx _ _ (x.fx _ _ e5))⟩, zip_ok e4 e6⟩⟩⟩
    · rename_i ds es q
      obtain ⟨v, vs', rfl, e1, w, ws', rfl, e2, e3⟩ := vals_rep r1 q
      cases e3
      obtain ⟨a1, xs, rfl, e3, e4⟩ := e1
      obtain ⟨b1, ys, rfl, e5, e6⟩ := e2
      refine ⟨a1, b1, xs, ys, rfl, .inr ⟨s1.inn.seqT e3, s1.inn.seqT e5, h1 _ F1 H1 fp1 Step.refl s1 ⟨_, _, walk_zipT (K := G.K) (a := a1) (b := b1) (xs := xs) (ys := ys) (by simp [zipD, e4.length, e6.length]), fun H F2 x i => ⟨i.seqT (SameT x.fx e3), i.seqT (SameT x.fx e5)⟩, zip_ok e4 e6⟩⟩⟩
    · exact h1.elim⟩
end
end Dn

/-! Dn9: items of owned lists, fields, the body of a def. -/
namespace Dn
open PySem PySem.Spec PyProof.Rows L2
section
variable {G : Gx} {X : Cx} {m : Nat → Mode} {n : Nat} {W : WX} {k : Nat} {e a b : Expr} {fe fk : ED} {x : Str} {p pos : Pos}
/-- xs[i], xs owned -/
def eIxO (i : Nat) (fk : ED) : ED := fun ρ => if isLst (ρ[i]?.join) = true then (fk ρ).bind fun kd ρ1 => match ρ1[i]?.join with
  | some (.lst ds) => opt (dAt (.lst ds) kd) ρ1
  | _ => .bad else .bad
theorem de_ixO (i : Nat) (hk : DE G X m W k b fk) (hm : (m i).lvl = 1 := by rfl) (hN : X.N[i]? = some x := by rfl) (hv : Vis X.env.scope x := by first | exact Or.inl rfl | exact Or.inr (Or.inl rfl) | exact Or.inr (Or.inr rfl)) (hd : (x == ("__debug__" : Str)) = false := by decide)
    (hcd : (x == ("__classdict__" : Str)) = false := by decide) (hs : PlainIx b := by exact fun _ _ => rfl) : DE G X m W k (.Subscript (.Name x p) b pos) (eIxO i fk) := fun c =>
  PEmono (pe_ix (r := rIxL G.K) (c.K ▸ ix_list) (pe_var hN hv hd hcd) (hk c) hs) fun σ H Q ⟨F, ρ, fp, s, h⟩ => by
    unfold eIxO at h
    by_cases q : isLst (ρ[i]?.join) = true
    · rw [if_pos q] at h
      obtain ⟨ds0, q0⟩ := isLst_some q
      obtain ⟨v, h1, h2⟩ := s.slot i _ (join_some q0)
      refine ⟨v, h1, F, ρ, fp, s, (RG.bind (R := RD G) s h).mono fun kv H1 ⟨F1, ρ1, fp1, kd, p1, s1, r1, h3⟩ => ?_⟩
      split at h3
      · rename_i ds q1
        obtain ⟨v', h5, h6⟩ := s1.slot i _ (join_some q1)
        rw [h1] at h5; cases h5
        rw [hm] at h6
        obtain ⟨a, rfl, hfp, xs, h7, h8⟩ := h6
        cases q2 : dAt (.lst ds) kd with
        | none => rw [q2] at h3; exact h3.elim
        | some d =>
          rw [q2] at h3
          cases kd with
          | int z =>
            obtain ⟨w, e1, e2⟩ := RepL.atI h8 q2
            exact ⟨a, xs, z, w, rfl, r1, SqL.of h7, e1, h3 w F1 H1 fp1 Step.refl s1 e2⟩
          | _ => cases q2
      · exact h3.elim
    · rw [if_neg q] at h; exact h.elim
/-! ### fields -/
def fldD (f : Str) : D → Option D
  | .obj _ fs => fs.lookup f
  | _ => none
theorem RepF.lookup {F : Fr} {f : Str} {d : D} : ∀ {fs : List (Str × D)} {gs : List (Str × V)}, RepF G F fs gs → fs.lookup f = some d → ∃ v, gs.lookup f = some v ∧ Rep G F d v
  | [], _, _, h => by cases h
  | (g, e) :: fs, _, r, h => by
    obtain ⟨y, ys, rfl, r1, r2⟩ := r
    rw [List.lookup_cons] at h ⊢
    by_cases q : (f == g) = true
    · rw [q] at h ⊢; cases h; exact ⟨y, rfl, r1⟩
    · have q' : (f == g) = false := by simpa using q
      rw [q'] at h ⊢
      exact RepF.lookup r2 h
/-- what the classes' fields ask of the text -/
def FldOk (G : Gx) (f : Str) : Prop := ∀ cn C, G.mg cn = some (.ref C) → (cn, f) ∈ ([] : List (Str × Str)) → False
structure ClsF (G : Gx) (cn : Str) (fl : List Str) : Prop where
  ex : ∀ C, G.mg cn = some (.ref C) → Cls G.K C ∧ ∀ f ∈ fl, NoAttr G.K C f
def eFld (cn f : Str) (fe : ED) : ED := fun ρ => (fe ρ).bind fun d ρ1 => match d with
  | .obj c fs => if c = cn then opt (fs.lookup f) ρ1 else .bad
  | _ => .bad
theorem de_fld {cn f : Str} {fl : List Str} (C : ClsF G cn fl) (he : DE G X m W k e fe) (hf : f ∈ fl := by decide) (hb : attributeBase e f X.env (eval e X.env) = eval e X.env := by rfl) : DE G X m W k (.Attribute e f pos) (eFld cn f fe) := fun c =>
  PEmono (pe_fld (he c) hb) fun σ H Q ⟨F, ρ, fp, s, h⟩ => ⟨F, ρ, fp, s, (RG.bind (R := RD G) s h).mono fun v H1 ⟨F1, ρ1, fp1, d, p1, s1, r1, h1⟩ => by
    rw [c.K]
    cases d with
    | obj cc fs =>
      simp only at h1
      by_cases hc : cc = cn
      · rw [if_pos hc] at h1
        subst hc
        obtain ⟨a, Ca, dx, gs, rfl, e1, e2, e3, e4⟩ := r1
        cases q : fs.lookup f with
        | none => rw [q] at h1; exact h1.elim
        | some d =>
          rw [q] at h1
          obtain ⟨w, e5, e6⟩ := e4.lookup q
          obtain ⟨c1, c2⟩ := C.ex Ca e3
          exact ⟨a, Ca, dx, gs, w, rfl, s1.inn.fx _ _ e1, c1, c2 f hf, e5, h1 w F1 H1 fp1 Step.refl s1 e6⟩
      · rw [if_neg hc] at h1; exact h1.elim
    | _ => exact h1.elim⟩
/-- self.f, self owned -/
def eFldO (i : Nat) (cn f : Str) : ED := fun ρ => match ρ[i]?.join with
  | some (.obj c fs) => if c = cn then opt (fs.lookup f) ρ else .bad
  | _ => .bad
theorem de_fldO (i : Nat) {cn f : Str} {fl : List Str} (C : ClsF G cn fl) (hm : (m i).lvl = 1 := by rfl) (hf : f ∈ fl := by decide) (hN : X.N[i]? = some x := by rfl) (hv : Vis X.env.scope x := by first | exact Or.inl rfl | exact Or.inr (Or.inl rfl) | exact Or.inr (Or.inr rfl)) (hd : (x == ("__debug__" : Str)) = false := by decide)
    (hcd : (x == ("__classdict__" : Str)) = false := by decide) (hb : attributeBase (.Name x p) f X.env (eval (.Name x p) X.env) = eval (.Name x p) X.env := by rfl) : DE G X m W k (.Attribute (.Name x p) f pos) (eFldO i cn f) := fun c =>
  PEmono (pe_fld (pe_var hN hv hd hcd) hb) fun σ H Q ⟨F, ρ, fp, s, h⟩ => by
    unfold eFldO at h
    split at h
    · rename_i cc fs q
      by_cases hc : cc = cn
      · rw [if_pos hc] at h
        subst hc
        obtain ⟨v, h1, h2⟩ := s.slot i _ (join_some q)
        rw [hm] at h2
        obtain ⟨a, rfl, Ca, dx, gs, hfp, e1, e2, e3, e4⟩ := h2
        cases q : fs.lookup f with
        | none => rw [q] at h; exact h.elim
        | some d =>
          rw [q] at h
          obtain ⟨w, e5, e6⟩ := e4.lookup q
          obtain ⟨c1, c2⟩ := C.ex Ca e3
          rw [← c.K] at c1
          have c2' := c2 f hf
          rw [← c.K] at c2'
          exact ⟨_, h1, a, Ca, dx, gs, w, rfl, e1, c1, c2', e5, h w F H fp Step.refl s e6⟩
      · rw [if_neg hc] at h; exact h.elim
    · exact h.elim
def putFD (f : Str) (v : D) : List (Str × D) → List (Str × D)
  | [] => [(f, v)]
  | (g, x) :: r => if g = f then (g, v) :: r else (g, x) :: putFD f v r
theorem RepF.put {F : Fr} {f : Str} {d : D} {v : V} (rv : Rep G F d v) : ∀ {fs : List (Str × D)} {gs : List (Str × V)}, RepF G F fs gs → RepF G F (putFD f d fs) (putF f v gs)
  | [], _, r => by cases r; exact ⟨v, [], rfl, rv, rfl⟩
  | (g, e) :: fs, _, r => by
    obtain ⟨y, ys, rfl, r1, r2⟩ := r
    by_cases q : g = f
    · show RepF G F (if g = f then (g, d) :: fs else _) (if g = f then (g, v) :: ys else _)
      rw [if_pos q, if_pos q]; exact ⟨v, ys, rfl, rv, r2⟩
    · show RepF G F (if g = f then _ else (g, e) :: putFD f d fs) (if g = f then _ else (g, y) :: putF f v ys)
      rw [if_neg q, if_neg q]; exact ⟨y, _, rfl, r1, RepF.put rv r2⟩
theorem RepF.length {F : Fr} : ∀ {fs : List (Str × D)} {gs : List (Str × V)}, RepF G F fs gs → gs.length = fs.length
  | [], _, r => by cases r; rfl
  | (g, e) :: fs, _, r => by obtain ⟨y, ys, rfl, _, r2⟩ := r; simp [RepF.length r2]
/-- self.f = e -/
def sFldPut (i : Nat) (cn f : Str) (fe : ED) : SD := fun ρ => (fe ρ).thn fun d ρ1 => match ρ1[i]?.join with
  | some (.obj c fs) => if c = cn ∧ fs.length < 1000 then .nx (ρ1.set i (some (.obj c (putFD f d fs)))) else .bad
  | _ => .bad
theorem ds_fldPut (i : Nat) {cn f : Str} {fl : List Str} {pos' spos : Pos} (C : ClsF G cn fl) (he : DE G X m W k e fe) (hm : (m i).lvl = 1 := by rfl) (hf : f ∈ fl := by decide) (hN : X.N[i]? = some x := by rfl) (hv : Vis X.env.scope x := by first | exact Or.inl rfl | exact Or.inr (Or.inl rfl) | exact Or.inr (Or.inr rfl)) (hd : (x == ("__debug__" : Str)) = false := by decide)
    (hcd : (x == ("__classdict__" : Str)) = false := by decide) (hs : swapsWith e (some (.Attribute (.Name x p) f pos')) spos.line X.env = pure false := by rfl) : DS G X m n W k (.Assign [.Attribute (.Name x p) f pos'] e spos) (sFldPut i cn f fe) := fun c =>
  PSmono (ps_fld (pe_var hN hv hd hcd) (he c) hs) fun D σ H ⟨F, ρ, fp, s, h⟩ => ⟨F, ρ, fp, s, (RS.thn (R := RD G) s h).mono fun v H1 ⟨F1, ρ1, fp1, d, p1, s1, r1, h1⟩ => by
    split at h1
    · rename_i cc fs q
      by_cases hc : cc = cn ∧ fs.length < 1000
      · rw [if_pos hc] at h1
        obtain ⟨hcn, hz⟩ := hc
        subst hcn
        obtain ⟨w, e1, e2⟩ := s1.slot i _ (join_some q)
        rw [hm] at e2
        obtain ⟨a, rfl, Ca, dx, gs, hfp, e3, e4, e5, e6⟩ := e2
        obtain ⟨c1, c2⟩ := C.ex Ca e5
        rw [← c.K] at c1
        have c2' := c2 f hf
        rw [← c.K] at c2'
        have hne : dx ≠ a := fun z => by subst z; rw [e3] at e4; cases e4
        have ha : a ∈ fp1 i := by rw [hfp]; simp
        obtain ⟨s3, st3⟩ := s1.write (o := .ins Ca dx (putF f v gs)) (d := .obj cc (putFD f d fs)) ha e1 (by rw [hm]; exact ⟨a, rfl, Ca, dx, _, hfp, upd_same, by rw [upd_ne hne]; exact e4, e5, RepF.put r1 e6⟩)
        exact ⟨_, e1, a, Ca, dx, gs, rfl, e3, c1, c2', by rw [e6.length]; exact hz, h1 σ F1 _ fp1 st3 s3 .refl⟩
      · rw [if_neg hc] at h1; exact h1.elim
    · exact h1.elim⟩
end

/-! ### the body of a def -/
def outs : List Mode → List D → Env → Option (List D)
  | p :: ps, d :: ds, o :: ρ => if p.isIo = true then o.bind fun d' => (outs ps ds ρ).map fun r => d' :: r else (outs ps ds ρ).map fun r => d :: r
  | [], [], _ => some []
  | _, _, _ => none
def runB (nN : Nat) (pml : List Mode) (mr : Mode) (b : SD) : FD := fun ds => match b (ds.map some ++ List.replicate (nN - ds.length) none) with
  | .rt r ρ' => (match outs pml ds ρ' with
    | some ds' => .ok r ds'
    | none => .bad)
  | .nx ρ' => if mr = .frz then (match outs pml ds ρ' with
    | some ds' => .ok .non ds'
    | none => .bad) else .bad
  | .exc e ρ' => (match outs pml ds ρ' with
    | some ds' => .exc e ds'
    | none => .bad)
  | _ => .bad
theorem outs_len : ∀ {pml : List Mode} {ds : List D} {ρ : Env} {ds' : List D}, outs pml ds ρ = some ds' → ds'.length = ds.length ∧ ds.length = pml.length
  | [], [], _, _, h => by simp [outs] at h; subst h; exact ⟨rfl, rfl⟩
  | p :: ps, d :: ds, o :: ρ, ds', h => by
    rw [outs] at h
    split at h
    · obtain ⟨d', rfl, h⟩ := Option.bind_eq_some_iff.mp h
      obtain ⟨r, h1, rfl⟩ := Option.map_eq_some_iff.mp h
      have := outs_len h1; simp [this]
    · obtain ⟨r, h1, rfl⟩ := Option.map_eq_some_iff.mp h
      have := outs_len h1; simp [this]
theorem outs_get : ∀ {pml : List Mode} {ds : List D} {ρ : Env} {ds' : List D}, outs pml ds ρ = some ds' → ∀ {i : Nat} {d : D}, ds'[i]? = some d → ∃ p, pml[i]? = some p ∧ (if p.isIo = true then ρ[i]? = some (some d) else ds[i]? = some d)
  | [], [], _, _, h, i, d, e => by simp [outs] at h; subst h; simp at e
  | p :: ps, d0 :: ds, o :: ρ, ds', h, i, d, e => by
    rw [outs] at h
    split at h
    · rename_i hp
      obtain ⟨d', rfl, h⟩ := Option.bind_eq_some_iff.mp h
      obtain ⟨r, h1, rfl⟩ := Option.map_eq_some_iff.mp h
      cases i with
      | zero => simp at e; subst e; exact ⟨p, rfl, by rw [if_pos hp]; rfl⟩
      | succ i => simpa using outs_get h1 (i := i) (by simpa using e)
    · rename_i hp
      obtain ⟨r, h1, rfl⟩ := Option.map_eq_some_iff.mp h
      cases i with
      | zero => simp at e; subst e; exact ⟨p, rfl, by rw [if_neg hp]; rfl⟩
      | succ i => simpa using outs_get h1 (i := i) (by simpa using e)
section
variable {G : Gx} {m : Nat → Mode} {pml : List Mode} {F F' : Fr} {H H' : Hp} {vs : List V} {ds : List D} {fp fp' : Nat → List Addr} {nN : Nat}
/-- what the modes of a def's names must be -/
structure ModesOk (m : Nat → Mode) (pml : List Mode) : Prop where
  par : ∀ i p, pml[i]? = some p → m i = p
  io : ∀ i, (m i).isIo = true → i < pml.length
  ok : ∀ p ∈ pml, p = .frz ∨ p.isIo = true
theorem mOf_get {pml : List Mode} {i : Nat} {p : Mode} (h : pml[i]? = some p) : mOf pml i = p := by
  unfold mOf; rw [List.getD_eq_getElem?_getD, h]; rfl
theorem enterB (M : ModesOk m pml) (hl : vs.length = pml.length) (s : St G (mOf pml) F H (vs.map some) (ds.map some) fp) : ds.length = pml.length ∧ St G m F H (vs.map some ++ List.replicate (nN - vs.length) none) (ds.map some ++ List.replicate (nN - ds.length) none) fp := by
  have l1 : ds.length = vs.length := by have := s.len; simpa using this
  refine ⟨l1.trans hl, s.inn, by simp [l1], fun i d e => ?_, fun i h => ?_, s.sep, s.own⟩
  · by_cases hi : i < ds.length
    · rw [List.getElem?_append_left (by simpa using hi)] at e
      obtain ⟨v, e1, e2⟩ := s.slot i d e
      refine ⟨v, by rw [List.getElem?_append_left (by simpa using l1 ▸ hi)]; exact e1, ?_⟩
      obtain ⟨p, hp⟩ : ∃ p, pml[i]? = some p := ⟨_, List.getElem?_eq_getElem (by omega)⟩
      rw [mOf_get hp] at e2
      rw [M.par i p hp]; exact e2
    · rw [List.getElem?_append_right (by simpa using hi)] at e
      simp at e
      have := List.getElem?_replicate (a := (none : Option D)) (n := nN - ds.length) (i := i - ds.length)
      rw [this] at e
      split at e <;> cases e
  · by_cases hi : i < ds.length
    · refine (h ds[i] ?_).elim
      rw [List.getElem?_append_left (by simpa using hi)]
      simp [hi]
    · refine s.dead i fun d e => ?_
      have := (List.getElem?_eq_some_iff.mp e).1
      simp at this; omega
theorem leaveB (M : ModesOk m pml) (hl : vs.length = pml.length) (s0 : St G (mOf pml) F H (vs.map some) (ds.map some) fp) {σ' : L2.St} {ρ' : Env} {ds' : List D} (p : Step G F H fp F' H' fp') (s : St G m F' H' σ' ρ' fp') (io : IoKept m (vs.map some ++ List.replicate (nN - vs.length) none) σ') (ho : outs pml ds ρ' = some ds') :
    ∃ fp2, St G (mOf pml) F' H' (vs.map some) (ds'.map some) fp2 ∧ Step G F H fp F' H' fp2 ∧ ∀ i a, a ∈ fp2 i → a ∈ fp' i := by
  obtain ⟨l1, l2⟩ := outs_len ho
  refine ⟨fun i => if (mOf pml i).isIo = true then fp' i else [], ⟨s.inn, by simp [l1, l2, hl], fun i d e => ?_, fun i h => ?_, fun i j a h1 h2 => ?_, fun i a h => ?_⟩, ⟨p.ext, p.newF, p.newN, fun i a h => ?_, p.frm, p.live⟩, fun i a h => ?_⟩
  · simp at e
    obtain ⟨pm, hp, q⟩ := outs_get ho e
    have hi : i < vs.length := by have := (List.getElem?_eq_some_iff.mp e).1; omega
    rw [mOf_get hp]
    by_cases hio : pm.isIo = true
    · rw [if_pos hio] at q
      rw [if_pos hio]
      obtain ⟨v, e1, e2⟩ := s.slot i d q
      have hm := M.par i pm hp
      rw [hm] at e2
      have e3 := io i (by rw [hm]; exact hio)
      rw [e1, List.getElem?_append_left (by simpa using hi)] at e3
      exact ⟨v, e3.symm, e2⟩
    · rw [if_neg hio] at q
      rw [if_neg hio]
      obtain ⟨v, e1, e2⟩ := s0.slot i d (by simp [q])
      rw [mOf_get hp] at e2
      rcases M.ok pm (List.mem_of_getElem? hp) with z | z
      · subst z
        exact ⟨v, e1, Rep.ext p.ext _ _ e2.1, rfl⟩
      · exact absurd z hio
  · by_cases hio : (mOf pml i).isIo = true
    · rw [if_pos hio]
      by_cases hi : i < ds'.length
      · exact (h ds'[i] (by simp [hi])).elim
      · have : mOf pml i = .frz := by
          unfold mOf; rw [List.getD_eq_getElem?_getD, List.getElem?_eq_none (by omega)]; rfl
        rw [this] at hio; cases hio
    · rw [if_neg hio]
  · split at h1
    · split at h2
      · exact s.sep i j a h1 h2
      · cases h2
    · cases h1
  · split at h
    · exact s.own i a h
    · cases h
  · split at h
    · exact p.fpn i a h
    · cases h
  · have h' : a ∈ (if (mOf pml i).isIo = true then fp' i else []) := h
    split at h'
    · exact h'
    · cases h'
/-- a def keeps the promise of its body's denotation -/
theorem mk_fn {x qual : Str} {st : Stmt} {f : Addr} {fd : FuncData} {N ps : List Str} {k : Nat} {mr : Mode} {b : SD} (Fn : Fun G.K x qual st f fd) (S : FnScope N ps (defScope st)) (hp : pml.length = ps.length) (M : ModesOk m pml)
    (body : ∀ (cdv : Value) (A : Around) (outer : List PySem.Env) (s : Shared) (H : Hp) (E : XK), DSs G (cxOf (L2.CX G.P G.w) G.P G.w G.K G.mg G.base N qual (defScope st) f cdv A outer s H E) m mr.lvl (fun c d _ H => E c d H) k (defBody st) b) :
    FnOk G.P G.w G.K G.mg G.base (L2.CX G.P G.w) (k + 1) f fd ps (spD G pml mr (runB N.length pml mr b)) := by
  refine Fn.okX S (fun vs H Q E h => h.1.trans hp) fun cdv A outer s H vs Q E hr h => ?_
  obtain ⟨hl, F, ds, fp, sc, hrf⟩ := h
  have cx : Ctx G (cxOf (L2.CX G.P G.w) G.P G.w G.K G.mg G.base N qual (defScope st) f cdv A outer s H E) (fun c d _ H => E c d H) k :=
    ⟨rfl, rfl, rfl, rfl, rfl, S.nd, rfl, hr, passes_of rfl, takes_of rfl rfl rfl rfl⟩
  refine ⟨_, body cdv A outer s H E cx, ?_⟩
  obtain ⟨ld, sB⟩ := enterB (nN := N.length) M hl sc
  have ld' : ds.length = vs.length := ld.trans hl.symm
  refine ⟨F, _, fp, sB, ?_⟩
  unfold runB at hrf
  show RS G m mr.lvl _ F H (start N vs) fp _ _
  have hst : start N vs = vs.map some ++ List.replicate (N.length - vs.length) none := rfl
  rw [hst]
  cases q : b (ds.map some ++ List.replicate (N.length - ds.length) none) with
  | bad => rw [q] at hrf; exact hrf
  | bk ρ' => rw [q] at hrf; exact hrf.elim
  | ct ρ' => rw [q] at hrf; exact hrf.elim
  | rt r ρ' =>
    rw [q] at hrf
    intro v σ' F' H' fp' p s' io rv
    cases qo : outs pml ds ρ' with
    | none => simp only [qo] at hrf; exact hrf.elim
    | some ds' =>
      simp only [qo] at hrf
      obtain ⟨fp2, s2, p2, sub⟩ := leaveB M hl sc p s' io qo
      refine hrf v F' H' fp2 p2 s2 ?_
      obtain ⟨fpv, o, nd, z⟩ := rv
      exact ⟨fpv, o, nd, fun a ha => ⟨(z a ha).1, (z a ha).2.1, fun i hi => (z a ha).2.2.1 i (sub i a hi), (z a ha).2.2.2⟩⟩
  | nx ρ' =>
    rw [q] at hrf
    intro σ' F' H' fp' p s' io
    by_cases hm : mr = .frz
    · simp only [if_pos hm] at hrf
      cases qo : outs pml ds ρ' with
      | none => simp only [qo] at hrf; exact hrf.elim
      | some ds' =>
        simp only [qo] at hrf
        obtain ⟨fp2, s2, p2, sub⟩ := leaveB M hl sc p s' io qo
        refine hrf .non F' H' fp2 p2 s2 ?_
        subst hm
        exact RV.zero (by simp [Rep])
    · simp only [if_neg hm] at hrf; exact hrf.elim
  | exc e ρ' =>
    rw [q] at hrf
    intro c dd σ' F' H' fp' p s' io ex
    cases qo : outs pml ds ρ' with
    | none => simp only [qo] at hrf; exact hrf.elim
    | some ds' =>
      simp only [qo] at hrf
      obtain ⟨fp2, s2, p2, sub⟩ := leaveB M hl sc p s' io qo
      exact hrf c dd F' H' fp2 p2 s2 ex
end
end Dn

/-! Dn10: dicts with tuples for keys. -/
namespace Dn
open PySem PySem.Spec PyProof.Rows L2
mutual
def NV (K : PySem.W.Frag) (H : Hp) : NestedKey → V → Prop
  | .none, v => v = .non
  | .num i, v => v = .int i ∨ ∃ b, v = .bl b ∧ i = if b = true then 1 else 0
  | .text x, v => v = .str x
  | .tup ks, v => ∃ a xs, v = .ref a ∧ SqT K H a xs ∧ NVs K H ks xs
def NVs (K : PySem.W.Frag) (H : Hp) : List NestedKey → List V → Prop
  | [], xs => xs = []
  | k :: ks, xs => ∃ y ys, xs = y :: ys ∧ NV K H k y ∧ NVs K H ks ys
end
mutual
theorem NV.is {X : Cx} {pins : List (Addr × Obj)} {σ : L2.St} {H : Hp} {s : Shared} (I : Inv X pins σ H s) : ∀ (nk : NestedKey) (v : V) (u : Value), NV X.K H nk v → RelV v u → NestedIs s.heap nk u
  | .none, _, _, h, r => by rw [NV] at h; subst h; cases r; exact .none
  | .num i, _, _, h, r => by
    rw [NV] at h
    rcases h with rfl | ⟨b, rfl, e⟩
    · obtain ⟨t, rfl⟩ := r; exact .int _ _
    · cases r; exact .bool e
  | .text x, _, _, h, r => by rw [NV] at h; subst h; obtain ⟨t, rfl⟩ := r; exact .text _ _
  | .tup ks, _, _, h, r => by
    rw [NV] at h
    obtain ⟨a, xs, rfl, h1, h2⟩ := h
    cases r
    obtain ⟨its, r1, ⟨o, e1, e2, n, e3⟩, _⟩ := I.tuple h1
    exact .tup e1 e2 e3 (NVs.is I ks xs its h2 r1)
theorem NVs.is {X : Cx} {pins : List (Addr × Obj)} {σ : L2.St} {H : Hp} {s : Shared} (I : Inv X pins σ H s) : ∀ (ks : List NestedKey) (xs : List V) (us : List Value), NVs X.K H ks xs → Vals xs us → NestedAll s.heap ks us
  | [], _, _, h, r => by rw [NVs] at h; subst h; cases r; exact .nil
  | k :: ks, _, _, h, r => by
    rw [NVs] at h
    obtain ⟨y, ys, rfl, h1, h2⟩ := h
    cases r with
    | cons r1 r2 => exact .cons (NV.is I k y _ h1 r1) (NVs.is I ks ys _ h2 r2)
end
mutual
theorem NV.of {G : Gx} {F : Fr} {H : Hp} (i : F.In G H) : ∀ (d : D) (v : V) (nk : NestedKey), Rep G F d v → toKey d = some nk → NV G.K H nk v
  | .non, _, _, r, e => by simp [toKey] at e; subst e; rw [Rep] at r; rw [NV]; exact r
  | .bl b, _, _, r, e => by simp [toKey] at e; subst e; rw [Rep] at r; rw [NV]; exact .inr ⟨b, r, rfl⟩
  | .int z, _, _, r, e => by simp [toKey] at e; subst e; rw [Rep] at r; rw [NV]; exact .inl r
  | .str x, _, _, r, e => by simp [toKey] at e; subst e; rw [Rep] at r; rw [NV]; exact r
  | .tup ds, _, _, r, e => by
    simp only [toKey, Option.map_eq_some_iff] at e
    obtain ⟨ks, e1, rfl⟩ := e
    rw [Rep] at r
    obtain ⟨a, xs, rfl, h1, h2⟩ := r
    rw [NV]
    exact ⟨a, xs, rfl, i.seqT h1, NVs.of i ds xs ks h2 e1⟩
  | .lst _, _, _, _, e | .dK _, _, _, _, e | .dN _, _, _, _, e | .rng _ _, _, _, _, e | .scr _, _, _, _, e | .obj _ _, _, _, _, e | .nts _, _, _, _, e => by simp [toKey] at e
theorem NVs.of {G : Gx} {F : Fr} {H : Hp} (i : F.In G H) : ∀ (ds : List D) (xs : List V) (ks : List NestedKey), RepL G F ds xs → toKeys ds = some ks → NVs G.K H ks xs
  | [], _, _, r, e => by simp [toKeys] at e; subst e; rw [RepL] at r; rw [NVs]; exact r
  | d :: ds, _, _, r, e => by
    rw [toKeys] at e
    obtain ⟨k, e1, e⟩ := Option.bind_eq_some_iff.mp e
    obtain ⟨ks, e2, rfl⟩ := Option.map_eq_some_iff.mp e
    rw [RepL] at r
    obtain ⟨y, ys, rfl, h1, h2⟩ := r
    rw [NVs]
    exact ⟨y, ys, rfl, NV.of i d y k h1 e1, NVs.of i ds ys ks h2 e2⟩
end
abbrev NEs := List (NestedKey × Addr × V)
def DNk (K : PySem.W.Frag) (H : Hp) (es : NEs) : Prop := ∀ e ∈ es, NV K H e.1 (.ref e.2.1) ∧ e.1.depth ≤ 8
def valN (es : NEs) (nk : NestedKey) : Option V := (es.find? fun e => decide (e.1 = nk)).map (·.2.2)
def putN (es : NEs) (nk : NestedKey) (b : Addr) (v : V) : NEs := if (es.any fun e => decide (e.1 = nk)) = true then es.map (fun e => if e.1 = nk then (e.1, e.2.1, v) else e) else es ++ [(nk, b, v)]
theorem PairN.length {es : NEs} {vs : List (NestedKey × Addr × Value)} (p : PairN es vs) : es.length = vs.length := Paired.length p
theorem PairN.mem {es : NEs} {vs : List (NestedKey × Addr × Value)} (p : PairN es vs) : ∀ x ∈ vs, ∃ e ∈ es, e.1 = x.1 ∧ e.2.1 = x.2.1 := by
  induction p with
  | nil => simp
  | cons h t ih =>
    intro x hx
    rcases List.mem_cons.mp hx with rfl | hx
    · exact ⟨_, by simp, h.1, h.2.1⟩
    · obtain ⟨e, h1, h2⟩ := ih x hx; exact ⟨e, by simp [h1], h2⟩
theorem PairN.val {es : NEs} {vs : List (NestedKey × Addr × Value)} (p : PairN es vs) (nk : NestedKey) : RelO (valN es nk) ((atKey vs nk).map (·.2)) := by
  induction p with
  | nil => exact True.intro
  | @cons a b as bs h t ih =>
    unfold valN atKey at ih ⊢
    rw [List.find?_cons, List.find?_cons]
    by_cases q : a.1 = nk
    · rw [decide_eq_true q, decide_eq_true (h.1 ▸ q)]; exact h.2.2
    · rw [decide_eq_false q, decide_eq_false (h.1 ▸ q)]; exact ih
theorem PairN.put {es : NEs} {vs : List (NestedKey × Addr × Value)} (p : PairN es vs) (nk : NestedKey) (b : Addr) {v : V} {u : Value} (r : RelV v u) : PairN (putN es nk b v) (storedH vs nk b u) := by
  have e : (es.any fun e => decide (e.1 = nk)) = (atKey vs nk).isSome := by
    unfold atKey
    rw [Option.isSome_map, List.isSome_find?]
    clear r
    induction p with
    | nil => rfl
    | @cons a c as bs h t ih => rw [List.any_cons, List.any_cons, ih, h.1]
  have m : PairN (es.map fun e => if e.1 = nk then (e.1, e.2.1, v) else e) (vs.map (putAt nk u)) := by
    clear e
    induction p with
    | nil => exact .nil
    | @cons a c as bs h t ih =>
      refine .cons ?_ ih
      show (if a.1 = nk then (a.1, a.2.1, v) else a).1 = (if c.1 = nk then (c.1, c.2.1, u) else c).1 ∧ (if a.1 = nk then (a.1, a.2.1, v) else a).2.1 = (if c.1 = nk then (c.1, c.2.1, u) else c).2.1 ∧ RelV (if a.1 = nk then (a.1, a.2.1, v) else a).2.2 (if c.1 = nk then (c.1, c.2.1, u) else c).2.2
      by_cases q : a.1 = nk
      · rw [if_pos q, if_pos (h.1 ▸ q)]; exact ⟨h.1, h.2.1, r⟩
      · rw [if_neg q, if_neg (h.1 ▸ q)]; exact h
  have n : PairN (es ++ [(nk, b, v)]) (vs ++ [(nk, b, u)]) := by
    clear e m
    induction p with
    | nil => exact .cons ⟨rfl, rfl, r⟩ .nil
    | cons h t ih => exact .cons h ih
  unfold putN storedH
  rw [e]
  split
  · exact m
  · exact n
section
variable {X : Cx} {pins : List (Addr × Obj)} {σ : L2.St} {H : Hp} {s : Shared} {A : Around} {E : Value → Shared → Prop} {a b : Addr} {es : NEs} {nk : NestedKey}
theorem dn_at (I : Inv X pins σ H s) (h : H a = some (dnO X.prog X.w a es)) (hk : DNk X.K H es) : es.length ≤ sizeLine ∧ (a == sysModules) = false ∧ ∃ vs, PairN es vs ∧ s.heap.DictOfH (nestedKind X.prog X.w) a vs := by
  obtain ⟨⟨h1, h2, vs, pv, o, es', ep, e1, e2, e3, e4, e5⟩, _⟩ := I.hok a _ h
  refine ⟨h1, h2, vs, pv, o, es', ep, e1, e2, e3, e4, fun x hx => ?_, e5⟩
  obtain ⟨e, he, q1, q2⟩ := pv.mem x hx
  obtain ⟨z1, z2⟩ := hk e he
  rw [q1, q2] at z1
  rw [q1] at z2
  exact ⟨NV.is I _ _ _ z1 rfl, z2⟩
theorem nk_at (I : Inv X pins σ H s) (h : NV X.K H nk (.ref b)) (hd : nk.depth ≤ 8) : (nestedKind X.prog X.w).is s.heap nk b := ⟨NV.is I _ _ _ h rfl, hd⟩
def rInN (P : Program) (w : World) (K : PySem.W.Frag) (neg : Bool) : R2 := fun x y H Q => ∃ b a es nk, x = .ref b ∧ y = .ref a ∧ H a = some (dnO P w a es) ∧ DNk K H es ∧ NV K H nk (.ref b) ∧ nk.depth ≤ 8 ∧ Q (.bl (if neg then !(valN es nk).isSome else (valN es nk).isSome)) H
theorem room8 {A : Around} (hu : A.units + 64 < cLine) : A.units + 8 < cLine ∧ A.in1.units + 8 < cLine ∧ A.in1.in1.units + 8 < cLine :=
  ⟨by omega, by show A.units + 1 + 8 < _; omega, by show A.units + 1 + 1 + 8 < _; omega⟩
theorem op_inN (hu : X.A.units + 64 < cLine) : OpR X (compareOp .In) (rInN X.prog X.w X.K false) := by
  intro pins s σ H x y v u Q I rx ry ⟨b, a, es, nk, ex, ey, h1, h2, h3, h4, q⟩
  subst ex ey
  cases rx; cases ry
  obtain ⟨_, hs, vs, pv, d⟩ := dn_at I h1 h2
  refine wpAny_in_heap (room8 hu).2.1 (nk_at I h3 h4) hs d ?_
  have z := (pv.val nk).isSome_eq
  rw [Option.isSome_map] at z
  rw [← z]
  exact ⟨.bl (valN es nk).isSome, H, I.tok _, rfl, q⟩
theorem op_notInN (hu : X.A.units + 64 < cLine) : OpR X (compareOp .NotIn) (rInN X.prog X.w X.K true) := by
  intro pins s σ H x y v u Q I rx ry ⟨b, a, es, nk, ex, ey, h1, h2, h3, h4, q⟩
  subst ex ey
  cases rx; cases ry
  obtain ⟨_, hs, vs, pv, d⟩ := dn_at I h1 h2
  refine wpAny_notIn_heap (room8 hu).2.1 (nk_at I h3 h4) hs d ?_
  have z := (pv.val nk).isSome_eq
  rw [Option.isSome_map] at z
  rw [← z]
  exact ⟨.bl (!(valN es nk).isSome), H, I.tok _, rfl, q⟩
end
def keyN : D → Option NestedKey
  | .tup ds => (toKey (.tup ds)).bind fun k => if k.depth ≤ 8 then some k else none
  | _ => none
def getND (kvs : List (D × D)) (nk : NestedKey) : Option D := (kvs.find? fun p => decide (toKey p.1 = some nk)).map (·.2)
def putND (kvs : List (D × D)) (k : D) (nk : NestedKey) (d : D) : List (D × D) :=
  if (kvs.any fun p => decide (toKey p.1 = some nk)) = true then kvs.map (fun p => if toKey p.1 = some nk then (p.1, d) else p) else kvs ++ [(k, d)]
section
variable {G : Gx} {F : Fr} {H : Hp}
theorem keyN_rep (i : F.In G H) {d : D} {v : V} {nk : NestedKey} (r : Rep G F d v) (e : keyN d = some nk) : ∃ b, v = .ref b ∧ toKey d = some nk ∧ NV G.K H nk (.ref b) ∧ nk.depth ≤ 8 := by
  cases d with
  | tup ds =>
    obtain ⟨k, e1, e2⟩ := Option.bind_eq_some_iff.mp e
    split at e2
    · rename_i hd
      cases e2
      obtain ⟨b, xs, rfl, z⟩ := id r
      exact ⟨b, rfl, e1, NV.of i _ _ _ r e1, hd⟩
    · cases e2
  | _ => cases e
theorem RepN.dnk (i : F.In G H) : ∀ {kvs : List (D × D)} {es : NEs}, RepN G F kvs es → DNk G.K H es
  | [], _, r => by rw [RepN] at r; subst r; intro e h; cases h
  | (k, d) :: kvs, _, r => by
    rw [RepN] at r
    obtain ⟨nk, b, y, ys, rfl, e1, e2, r1, r2, r3⟩ := r
    intro e h
    rcases List.mem_cons.mp h with rfl | h
    · exact ⟨NV.of i _ _ _ r1 e1, e2⟩
    · exact RepN.dnk i r3 e h
theorem RepN.length : ∀ {kvs : List (D × D)} {es : NEs}, RepN G F kvs es → es.length = kvs.length
  | [], _, r => by rw [RepN] at r; subst r; rfl
  | (k, d) :: kvs, _, r => by
    rw [RepN] at r
    obtain ⟨nk, b, y, ys, rfl, e1, e2, r1, r2, r3⟩ := r
    simp [RepN.length r3]
theorem RepN.val (nk : NestedKey) : ∀ {kvs : List (D × D)} {es : NEs}, RepN G F kvs es → match getND kvs nk with
    | some d => ∃ v, valN es nk = some v ∧ Rep G F d v
    | none => valN es nk = none
  | [], _, r => by rw [RepN] at r; subst r; rfl
  | (k, d) :: kvs, _, r => by
    rw [RepN] at r
    obtain ⟨nk', b, y, ys, rfl, e1, e2, r1, r2, r3⟩ := r
    have ih := RepN.val nk r3
    unfold getND valN at ih ⊢
    rw [List.find?_cons, List.find?_cons]
    by_cases q : nk' = nk
    · rw [decide_eq_true q, decide_eq_true (by rw [e1, q])]; exact ⟨y, rfl, r2⟩
    · rw [decide_eq_false q, decide_eq_false (by rw [e1]; intro z; exact q (Option.some.inj z))]; exact ih
theorem RepN.any (nk : NestedKey) : ∀ {kvs : List (D × D)} {es : NEs}, RepN G F kvs es → (kvs.any fun p => decide (toKey p.1 = some nk)) = (es.any fun e => decide (e.1 = nk))
  | [], _, r => by rw [RepN] at r; subst r; rfl
  | (k, d) :: kvs, _, r => by
    rw [RepN] at r
    obtain ⟨nk', b, y, ys, rfl, e1, e2, r1, r2, r3⟩ := r
    rw [List.any_cons, List.any_cons, RepN.any nk r3, e1]
    congr 1
    exact decide_eq_decide.mpr ⟨fun z => Option.some.inj z, fun z => congrArg some z⟩
theorem RepN.map {nk : NestedKey} {d : D} {v : V} (rv : Rep G F d v) : ∀ {kvs : List (D × D)} {es : NEs}, RepN G F kvs es → RepN G F (kvs.map fun p => if toKey p.1 = some nk then (p.1, d) else p) (es.map fun e => if e.1 = nk then (e.1, e.2.1, v) else e)
  | [], _, r => by rw [RepN] at r; subst r; simp [RepN]
  | (k, d) :: kvs, _, r => by
    rw [RepN] at r
    obtain ⟨nk', b, y, ys, rfl, e1, e2, r1, r2, r3⟩ := r
    have ih := RepN.map (nk := nk) rv r3
    rw [List.map_cons, List.map_cons]
    by_cases q : nk' = nk
    · rw [if_pos (by rw [e1, q]), if_pos q, RepN]; exact ⟨nk', b, v, _, rfl, e1, e2, r1, rv, ih⟩
    · rw [if_neg (by rw [e1]; intro z; exact q (Option.some.inj z)), if_neg q, RepN]; exact ⟨nk', b, y, _, rfl, e1, e2, r1, r2, ih⟩
theorem RepN.snoc {k d : D} {nk : NestedKey} {b : Addr} {v : V} (e1 : toKey k = some nk) (e2 : nk.depth ≤ 8) (rk : Rep G F k (.ref b)) (rv : Rep G F d v) : ∀ {kvs : List (D × D)} {es : NEs}, RepN G F kvs es → RepN G F (kvs ++ [(k, d)]) (es ++ [(nk, b, v)])
  | [], _, r => by rw [RepN] at r; subst r; simp only [List.nil_append, RepN]; exact ⟨nk, b, v, [], rfl, e1, e2, rk, rv, rfl⟩
  | (k', d') :: kvs, _, r => by
    rw [RepN] at r
    obtain ⟨nk', b', y, ys, rfl, z1, z2, r1, r2, r3⟩ := r
    rw [List.cons_append, List.cons_append, RepN]
    exact ⟨nk', b', y, _, rfl, z1, z2, r1, r2, RepN.snoc e1 e2 rk rv r3⟩
theorem RepN.put {k d : D} {nk : NestedKey} {b : Addr} {v : V} {kvs : List (D × D)} {es : NEs} (r : RepN G F kvs es) (e1 : toKey k = some nk) (e2 : nk.depth ≤ 8) (rk : Rep G F k (.ref b)) (rv : Rep G F d v) : RepN G F (putND kvs k nk d) (putN es nk b v) := by
  unfold putND putN
  rw [r.any nk]
  split
  · exact r.map rv
  · exact r.snoc e1 e2 rk rv
def dInN (neg : Bool) (x y : D) : Option D := match y with
  | .dN kvs => (keyN x).map fun nk => .bl (if neg then !(getND kvs nk).isSome else (getND kvs nk).isSome)
  | _ => none
theorem vs_inN {neg : Bool} : VS2 G (rInN G.P G.w G.K neg) (dInN neg) := fun F H x y d1 d2 d Q i r1 r2 e q => by
  cases d2 with
  | dN kvs =>
    obtain ⟨nk, e1, rfl⟩ := Option.map_eq_some_iff.mp e
    obtain ⟨b, rfl, z1, z2, z3⟩ := keyN_rep i r1 e1
    rw [Rep] at r2
    obtain ⟨a, es, rfl, h1, h2⟩ := r2
    refine ⟨b, a, es, nk, rfl, rfl, i.fx _ _ h1, h2.dnk i, z2, z3, ?_⟩
    have hv := h2.val nk
    have : (valN es nk).isSome = (getND kvs nk).isSome := by
      cases q1 : getND kvs nk with
      | none => rw [q1] at hv; rw [hv]; rfl
      | some d => rw [q1] at hv; obtain ⟨v, h, _⟩ := hv; rw [h]; rfl
    rw [this]
    exact q _ F H (Grow.refl i) (by simp [Rep])
  | _ => cases e
theorem sc_inN {neg : Bool} : ∀ x y d, dInN neg x y = some d → scal d = true := fun x y d e => by
  cases y with
  | dN kvs => obtain ⟨nk, _, rfl⟩ := Option.map_eq_some_iff.mp e; rfl
  | _ => cases e
variable {W : WX} {k : Nat}
theorem o_inN {X : Cx} (c : Ctx G X W k) : OpR X (compareOp .In) (rInN G.P G.w G.K false) := c.P ▸ c.w ▸ c.K ▸ op_inN c.room.units
theorem o_notinN {X : Cx} (c : Ctx G X W k) : OpR X (compareOp .NotIn) (rInN G.P G.w G.K true) := c.P ▸ c.w ▸ c.K ▸ op_notInN c.room.units
end
end Dn

set_option pp.maxSteps 200
/-! Dn11: comprehensions that make dicts, whatever the keys (the walk of the block follows HandS/DictComp, with the store and the empty dict as parameters). -/
namespace Dn
open PySem PySem.Spec PyProof.Rows L2
/-- d[k] = v of a comprehension, by values -/
def PDSet (X : Cx) (st : Addr → V → V → Hp → (Hp → Prop) → Prop) : Prop := ∀ (pins : List (Addr × Obj)) (σ : L2.St) (H : Hp) (s : Shared) (D : Addr) (y z : V) (u r : Value) (Nx : Hp → Prop), Inv X pins σ H s → RelV y u → RelV z r → st D y z H Nx →
  wpAny (model X.prog X.w) X.A (dictSet D u r) (fun _ s' => ∃ H', Inv X pins σ H' s' ∧ Nx H') X.xe s
def tDcG (o0 : Addr → HO) (st : Addr → V → V → Hp → (Hp → Prop) → Prop) (wi : TI) (g : TG) (tt : TT) (tk tv : TE) (vs : List Nat) : TE := fun σ H Q => wi σ H fun J H1 => ∀ D, H1 D = none → ∃ W : Nat → Nat → Hp → Prop, (∃ m, W 0 m (upd H1 D (o0 D))) ∧ ∀ i m H, W i m H →
  (J.stop i H ∧ Q (.ref D) H) ∨ (J.go i H ∧ ∃ Nx : Hp → Prop, (∀ H', Nx H' → ∃ m', m' < m ∧ W (i + 1) m' H') ∧ ∀ x H', J.yld i H x H' → g x (wipe σ vs) H' fun σ2 H2 => wipe σ2 vs = wipe σ vs ∧ tt σ2 H2 fun b H3 =>
    if b = true then tk σ2 H3 fun y H4 => tv σ2 H4 fun z H5 => st D y z H5 Nx else Nx H3)
section
variable {X : Cx}
theorem dcG_core {o0 : Addr → HO} {st : Addr → V → V → Hp → (Hp → Prop) → Prop} {pins : List (Addr × Obj)} {s : Shared} {σ : L2.St} {H : Hp} {Q : VK} {kx vx tg iter : Expr} {ifs : List Expr} {scope : Scope} {own : List (Str × Nat)} {pos pos' : Pos} {wi : TI} {g : TG} {tt : TT} {tk tv : TE} {use : Option (Value → Sem Unit)} {Qf : Value → Shared → Prop}
    (ho : ∀ (H : Hp) (h : Heap), sysModules < h.objs.size → ObjOk X.prog X.w H (h.push { cls := .type "dict", data := .dict #[] }) h.objs.size (o0 h.objs.size)) (hset : ∀ (s : Shared) (H : Hp) (C : Addr) (cl : List (Str × Addr)) (fp : List Addr), PDSet (X.blk s H scope (compEnvC scope cl C X.env) fp) st) (hc : X.calm = true) (hN : X.N.Nodup) (I : Inv X pins σ H s) (hi : PI X tg iter wi) (ok : BlkOk X.N X.env.scope scope own)
    (hg : ∀ (s : Shared) (H : Hp) (C : Addr) (cl : List (Str × Addr)) (fp : List Addr), PG (X.blk s H scope (compEnvC scope cl C X.env) fp) tg g) (ht : ∀ (s : Shared) (H : Hp) (C : Addr) (cl : List (Str × Addr)) (fp : List Addr), PTs (X.blk s H scope (compEnvC scope cl C X.env) fp) ifs tt)
    (hk : ∀ (s : Shared) (H : Hp) (C : Addr) (cl : List (Str × Addr)) (fp : List Addr), PE (X.blk s H scope (compEnvC scope cl C X.env) fp) kx tk)
    (he : ∀ (s : Shared) (H : Hp) (C : Addr) (cl : List (Str × Addr)) (fp : List Addr), PE (X.blk s H scope (compEnvC scope cl C X.env) fp) vx tv) (hs : ∀ x, foldedSetIterable iter X.env x = pure x)
    (h : tDcG o0 st wi g tt tk tv (own.map (·.2)) σ H Q)
    (hRR : ∀ D C s' m H', Inv X pins σ H' s' → Q (.ref D) H' → s'.heap.Ns C m → FpOk X pins H' C → compPost (model X.prog X.w) X.A X.xe use Qf (.ref D) C (.ok .next) s') :
    wpAny (model X.prog X.w) X.A (comprehension (.DictComp kx vx [⟨tg, iter, ifs, 0⟩] scope pos) scope X.env pos' newDict false (eval iter X.env) use) Qf X.xe s := by
  have hfree : ∀ y ∈ scope.names, y.2 = .free → ∃ c, X.env.cells.lookup y.1 = some c := fun y hy e => by
    rcases ok.free y hy e with k | k
    · exact I.ok.has _ (.inl k)
    · exact I.ok.has _ (.inr k)
  refine wpAny_comprehension_free (use := use) rfl hs (closure_ok hfree) ok.kind (fun y hy e => by rw [ok.uniq y hy, e])
    (thn (hi.run pins s σ H _ I h) fun xv s1 hx => thn hx fun itv s2 h2 => ?_)
  obtain ⟨it, fp, tn, J, H2, e, I2, T, st2, f2, q⟩ := h2
  subst e
  refine wpAny_newObj_type (newEnv_comp ?_)
  generalize hD : s2.heap.objs.size = D
  have hDn : H2 D = none := I2.hok.fresh (Nat.le_of_eq hD)
  obtain ⟨W, ⟨m0, w0⟩, turn⟩ := q D hDn
  -- the new list
  generalize hs3 : ({ s2 with heap := s2.heap.push { cls := .type "dict", data := .dict #[] } } : Shared) = s3
  have I3 : Inv X pins σ (upd H2 D (o0 D)) s3 := by
    rw [← hs3]
    refine I2.laid (t' := s2.toks) (fun b o e => Heap.get?_push_of_some _ e) (Nat.le_of_eq hD) ?_
    rw [← hD]
    exact ho _ s2.heap I2.big
  have h3 : s3.heap = s2.heap.push { cls := .type "dict", data := .dict #[] } := by rw [← hs3]
  have sz : ∀ b ∈ fp, b < s2.heap.objs.size := fun b hb => by
    obtain ⟨o, e, _⟩ := T.obj _ _ st2 b hb
    exact Heap.lt_size e
  have f3 : ∀ b ∈ fp, FpOk X pins (upd H2 D (o0 D)) b ∧ b < s3.heap.objs.size := fun b hb => by
    have hlt := sz b hb
    refine ⟨⟨?_, (f2 b hb).2⟩, by rw [h3, Heap.size_push]; exact Nat.lt_succ_of_lt hlt⟩
    rw [upd_ne (by rw [← hD]; exact Nat.ne_of_lt hlt)]
    exact (f2 b hb).1
  have st3 : tn 0 s3.heap := T.keep _ _ _ st2 fun b _ o e => by rw [h3]; exact Heap.get?_push_of_some _ e
  have I4 := block_start I3 ok hN f3
  have pg := hg s3 (upd H2 D (o0 D)) s3.heap.objs.size (cellsFrom (s3.heap.objs.size + 1) scope.names (cloFrom X.env.cells scope.names [])) fp
  have pt := ht s3 (upd H2 D (o0 D)) s3.heap.objs.size (cellsFrom (s3.heap.objs.size + 1) scope.names (cloFrom X.env.cells scope.names [])) fp
  have pk := hk s3 (upd H2 D (o0 D)) s3.heap.objs.size (cellsFrom (s3.heap.objs.size + 1) scope.names (cloFrom X.env.cells scope.names [])) fp
  have psd := hset s3 (upd H2 D (o0 D)) s3.heap.objs.size (cellsFrom (s3.heap.objs.size + 1) scope.names (cloFrom X.env.cells scope.names [])) fp
  have pe := he s3 (upd H2 D (o0 D)) s3.heap.objs.size (cellsFrom (s3.heap.objs.size + 1) scope.names (cloFrom X.env.cells scope.names [])) fp
  show codeAny _ _ (.compStart (.DictComp kx vx [⟨tg, iter, ifs, 0⟩] scope pos) 0 (.ref it) (.ref D) (compEnvC scope (cellsFrom (s3.heap.objs.size + 1) scope.names (cloFrom X.env.cells scope.names [])) s3.heap.objs.size X.env)) (compPost (model X.prog X.w) X.A X.xe use Qf (.ref D) s3.heap.objs.size) { s3 with heap := pushCells (s3.heap.push { cls := .type "dict", data := .dict #[] }) scope.names }
  have nfp : ∀ b ∈ fp, (upd H2 D (o0 D)) b = none := fun b hb => (f3 b hb).1.1
  generalize hce : compEnvC scope (cellsFrom (s3.heap.objs.size + 1) scope.names (cloFrom X.env.cells scope.names [])) s3.heap.objs.size X.env = ce at I4 pg pt pk pe psd ⊢
  have cL : ce.locals = s3.heap.objs.size := by subst hce; rfl
  generalize hH3 : upd H2 D (o0 D) = H3 at I3 I4 pg pt pk pe psd w0 nfp f3
  generalize hs4 : ({ s3 with heap := pushCells (s3.heap.push { cls := .type "dict", data := .dict #[] }) scope.names } : Shared) = s4 at I4 ⊢
  have st4 : tn 0 s4.heap := T.keep _ _ _ st3 fun b _ o e => by rw [← hs4]; exact pushCells_keeps _ _ _ _ (Heap.get?_push_of_some _ e)
  have stat : ∀ {σ' : L2.St} {H' : Hp} {s' : Shared}, Inv (X.blk s3 H3 scope ce fp) [] σ' H' s' → (∀ b ∈ fp, H' b = none) → ∀ b ∈ fp, FpOk (X.blk s3 H3 scope ce fp) [] H' b := fun {σ' H' s'} I' hn b hb =>
    ⟨hn b hb, (I'.ok.exf b hb).1, I'.ok.exfs b hb, .inl hb, fun x c e => (I'.ok.exf b hb).2 x c e, fun p hp => absurd (show p ∈ ([] : List (Addr × Obj)) ++ [] from hp) (by simp)⟩
  have loop : codeAny (model X.prog X.w) X.A (.compLoop (.DictComp kx vx [⟨tg, iter, ifs, 0⟩] scope pos) 0 (.ref it) (.ref D) ce) (compPost (model X.prog X.w) X.A X.xe use Qf (.ref D) s3.heap.objs.size) s4 := by
    refine compLoop_anyD (fun n s' => ∃ i H', Inv (X.blk s3 H3 scope ce fp) [] (wipe σ (own.map (·.2))) H' s' ∧ tn i s'.heap ∧ (∀ b ∈ fp, H' b = none) ∧ W i n H') ?_ m0 ⟨0, H3, I4, st4, nfp, w0⟩
    rintro n s5 ⟨i, H5, I5, st5, n5, w5⟩
    rcases turn i n H5 w5 with ⟨stop, qq⟩ | ⟨go, Nx, hNx, step⟩
    · have td := T.done (X.blk s3 H3 scope ce fp) rfl rfl rfl hc i [] s5 _ H5 (fun _ _ => False) I5 (stat I5 n5) st5 stop
      refine thnF td fun r s6 ⟨hr, I6⟩ => ?_
      subst hr
      -- back in the def's context
      have I7 : Inv X pins σ H5 s6 := I3.call' (ch := fp) I6.os I6.base I6.hok I6.bare fun b hb => ⟨(f3 b hb).1.2.2.2.1, (f3 b hb).1.2.1, (f3 b hb).1.2.2.2.2.1, (f3 b hb).1.2.2.2.2.2⟩
      have nC : H5 s3.heap.objs.size = none := by
        have z : H5 ce.locals = none := I6.free
        rw [cL] at z
        exact z
      obtain ⟨m, hn, _⟩ := I6.loc
      have hn : s6.heap.Ns ce.locals m := hn
      rw [cL] at hn
      exact hRR D s3.heap.objs.size s6 m H5 I7 qq hn (I3.fpOk (Nat.le_refl _) nC)
    · have ti := T.item (X.blk s3 H3 scope ce fp) rfl rfl rfl hc i [] s5 _ H5 (fun _ _ => False) I5 (stat I5 n5) st5 go
      refine thnF ti fun r s6 ⟨u, hr, h6⟩ => ?_
      subst hr
      refine thnF h6 fun _ s7 ⟨x, H7, I7, r7, y7, st7, n7⟩ => ?_
      have I7' := I7.pinned (stat I7 n7) (T.obj _ _ st7)
      refine thnF (pg.run _ s7 _ H7 x u _ I7' r7 (step x H7 y7)) fun _ s8 ⟨σ8, H8, I8, hw8, q8⟩ => ?_
      refine thnF (pt.run _ s8 σ8 H8 _ I8 q8) fun b s9 ⟨H9, I9, q9⟩ => ?_
      -- the turn's end
      have fin : ∀ {s' : Shared} {H' : Hp}, Inv (X.blk s3 H3 scope ce fp) ([] ++ pinsAt fp s7.heap) σ8 H' s' → Nx H' → ∃ m, m < n ∧ ∃ i H', Inv (X.blk s3 H3 scope ce fp) [] (wipe σ (own.map (·.2))) H' s' ∧ tn i s'.heap ∧ (∀ b ∈ fp, H' b = none) ∧ W i m H' := fun {s' H'} I' nx => by
        obtain ⟨m', hm, w'⟩ := hNx H' nx
        have pin' : ∀ b ∈ fp, ∀ o, s7.heap.get? b = some o → s'.heap.get? b = some o ∧ H' b = none := fun b hb o e =>
          let z := I'.pin (b, o) (List.mem_append_right _ (List.mem_append_right _ (mem_pinsAt hb e)))
          ⟨z.1, z.2.1⟩
        have hl : (wipe σ (own.map (·.2))).length = σ8.length := by rw [← hw8, wipe_length]
        refine ⟨m', hm, i + 1, H', (I'.unpinned (pins := [])).weak hl (fun j v e => ?_), T.keep _ _ _ st7 fun b hb o e => (pin' b hb o e).1, fun b hb => ?_, w'⟩
        · rw [← hw8] at e
          exact (wipe_some e).1
        · obtain ⟨o, e, _⟩ := T.obj _ _ st7 b hb
          exact (pin' b hb o e).2
      cases b with
      | false =>
        simp only [Bool.false_eq_true, if_false] at q9 ⊢
        exact fin I9 q9
      | true =>
        simp only [if_true] at q9 ⊢
        refine thnF (pk.run _ s9 σ8 H9 _ I9 q9) fun z s10 ⟨yk, H10, I10, r10, q10⟩ => ?_
        refine thnF (pe.run _ s10 σ8 H10 _ I10 q10) fun z2 s11 ⟨yv, H11, I11, r11, nx⟩ => ?_
        exact thnF (psd _ σ8 H11 s11 D _ _ _ _ _ I11 r10 r11 nx) fun _ s12 ⟨H12, I12, nx12⟩ => fin I12 nx12
  exact codeAny_compStart_dict loop (T.self X.A 0 _ _ _ st4 loop)
/-- as a value -/
theorem pe_dcG {o0 : Addr → HO} {st : Addr → V → V → Hp → (Hp → Prop) → Prop} {kx vx tg iter : Expr} {ifs : List Expr} {scope : Scope} {own : List (Str × Nat)} {pos : Pos} {wi : TI} {g : TG} {tt : TT} {tk tv : TE} (ho : ∀ (H : Hp) (h : Heap), sysModules < h.objs.size → ObjOk X.prog X.w H (h.push { cls := .type "dict", data := .dict #[] }) h.objs.size (o0 h.objs.size)) (hset : ∀ (s : Shared) (H : Hp) (C : Addr) (cl : List (Str × Addr)) (fp : List Addr), PDSet (X.blk s H scope (compEnvC scope cl C X.env) fp) st) (hc : X.calm = true) (hN : X.N.Nodup) (hi : PI X tg iter wi) (ok : BlkOk X.N X.env.scope scope own)
    (hg : ∀ (s : Shared) (H : Hp) (C : Addr) (cl : List (Str × Addr)) (fp : List Addr), PG (X.blk s H scope (compEnvC scope cl C X.env) fp) tg g) (ht : ∀ (s : Shared) (H : Hp) (C : Addr) (cl : List (Str × Addr)) (fp : List Addr), PTs (X.blk s H scope (compEnvC scope cl C X.env) fp) ifs tt)
    (hk : ∀ (s : Shared) (H : Hp) (C : Addr) (cl : List (Str × Addr)) (fp : List Addr), PE (X.blk s H scope (compEnvC scope cl C X.env) fp) kx tk)
    (he : ∀ (s : Shared) (H : Hp) (C : Addr) (cl : List (Str × Addr)) (fp : List Addr), PE (X.blk s H scope (compEnvC scope cl C X.env) fp) vx tv) (hs : ∀ x, foldedSetIterable iter X.env x = pure x := by intro _; rfl) :
    PE X (.DictComp kx vx [⟨tg, iter, ifs, 0⟩] scope pos) (tDcG o0 st wi g tt tk tv (own.map (·.2))) := by
  refine ⟨fun pins s σ H Q I h => ?_⟩
  rw [arm_eval_DictComp]
  refine dcG_core ho hset hc hN I hi ok hg ht hk he hs h fun D C s' m H' I' q hn f => ⟨m, hn, fun h'' sb => ?_⟩
  obtain ⟨f0, f1, f2, f3, f4, f5⟩ := f
  exact ⟨.ref D, H', I'.turned (t' := s'.toks) (fun b o hb e => (sb.2 b hb).trans e) f0 f1 f3 f4 f5, rfl, q⟩
/-- name = {..} on one line, the name a local -/
theorem ps_setDcG {o0 : Addr → HO} {st : Addr → V → V → Hp → (Hp → Prop) → Prop} {i : Nat} {y : Str} {py : Pos} {kx vx tg iter : Expr} {ifs : List Expr} {scope : Scope} {own : List (Str × Nat)} {pos spos : Pos} {wi : TI} {g : TG} {tt : TT} {tk tv : TE} (ho : ∀ (H : Hp) (h : Heap), sysModules < h.objs.size → ObjOk X.prog X.w H (h.push { cls := .type "dict", data := .dict #[] }) h.objs.size (o0 h.objs.size)) (hset : ∀ (s : Shared) (H : Hp) (C : Addr) (cl : List (Str × Addr)) (fp : List Addr), PDSet (X.blk s H scope (compEnvC scope cl C X.env) fp) st) (hc : X.calm = true) (hN : X.N.Nodup) (hy : X.N[i]? = some y) (hyl : X.env.scope.names.lookup y = some .local)
    (hsw : swapsWith (.DictComp kx vx [⟨tg, iter, ifs, 0⟩] scope pos) (some (.Name y py)) spos.line X.env = pure true) (hi : PI X tg iter wi) (ok : BlkOk X.N X.env.scope scope own)
    (hg : ∀ (s : Shared) (H : Hp) (C : Addr) (cl : List (Str × Addr)) (fp : List Addr), PG (X.blk s H scope (compEnvC scope cl C X.env) fp) tg g) (ht : ∀ (s : Shared) (H : Hp) (C : Addr) (cl : List (Str × Addr)) (fp : List Addr), PTs (X.blk s H scope (compEnvC scope cl C X.env) fp) ifs tt)
    (hk : ∀ (s : Shared) (H : Hp) (C : Addr) (cl : List (Str × Addr)) (fp : List Addr), PE (X.blk s H scope (compEnvC scope cl C X.env) fp) kx tk)
    (he : ∀ (s : Shared) (H : Hp) (C : Addr) (cl : List (Str × Addr)) (fp : List Addr), PE (X.blk s H scope (compEnvC scope cl C X.env) fp) vx tv) (hs : ∀ x, foldedSetIterable iter X.env x = pure x := by intro _; rfl) :
    PS X (.Assign [.Name y py] (.DictComp kx vx [⟨tg, iter, ifs, 0⟩] scope pos) spos) (tAsg (tDcG o0 st wi g tt tk tv (own.map (·.2))) (gName i)) := by
  refine ⟨fun pins s σ H D I h => ?_⟩
  rw [exec_Assign_Name_used _ _ _ _ hsw]
  refine wpAny_bind (wpAny_standAt (wpAny_bind ?_))
  show wpAny _ X.A (do let _ ← comprehension (.DictComp kx vx [⟨tg, iter, ifs, 0⟩] scope pos) scope X.env (firstIterPos [⟨tg, iter, ifs, 0⟩] pos) newDict false (eval iter X.env) (some (assign (.Name y py) X.env))) _ _ s
  have h : tDcG o0 st wi g tt tk tv (own.map (·.2)) σ H (fun x H1 => gName i x σ H1 D.nx) := h
  refine wpAny_bind (thn (dcG_core (Qf := fun _ s' => SP X pins D .next s') ho hset hc hN I hi ok hg ht hk he hs h fun L C s' m H' I' q hn f => ?_) fun _ s' hq => wpAny_pure (wpAny_pure hq))
  show wpAny _ _ (assign (.Name y py) X.env (.ref L)) _ _ _
  refine wpAny_assign_Name (store_ok2 (v := V.ref L) I' hN hy (.inl hyl) rfl (fun s2 I2 ⟨a, sb, ha⟩ => ?_) (.inr hyl))
  obtain ⟨f0, f1, f2, f3, f4, f5⟩ := f
  have haC : C ≠ a := by
    rcases ha with z | z
    · rw [z]; exact f1
    · exact fun e => f4 y a z e.symm
  refine ⟨m, hn.sameBut sb haC, fun h3 sb3 => ?_⟩
  exact ⟨_, H', I2.turned (t' := s2.toks) (fun b o hb e => (sb3.2 b hb).trans e) f0 f1 f3 f4 f5, q⟩
theorem sw_trueD {kx vx : Expr} {gs : List Comprehension} {scope : Scope} {pos py : Pos} {y : Str} {l : Nat} {env : PySem.Env} (hk : env.scope.kind = .function) (hy : env.scope.names.lookup y = some .local) (hl : (py.line == pos.line) = true)
    (ha : (scope.names.any fun (n, k) => n == y && (k == .local || k == .cell)) = false) : swapsWith (.DictComp kx vx gs scope pos) (some (.Name y py)) l env = pure true := by
  have ky : env.kindOf y = some .local := hy
  have hb : env.blockKind = .function := by unfold Env.blockKind; rw [hk]; rfl
  unfold swapsWith
  simp only [hb, ky, ha, Expr.pos, hl]
  rfl
end
end Dn

/-! Dn12: stores into dicts, the empty dict, dict comprehensions as denotations, list(d), d[k], d.get(k). -/
namespace Dn
open PySem PySem.Spec PyProof.Rows L2
def stD (P : Program) (w : World) (K : PySem.W.Frag) (D : Addr) (y z : V) (H : Hp) (Nx : Hp → Prop) : Prop :=
  (∃ kvs k, y = kV k ∧ H D = some (.dK kvs) ∧ kvs.length < sizeLine ∧ Nx (upd H D (.dK (putK kvs k z)))) ∨
  ∃ es nk b, H D = some (dnO P w D es) ∧ DNk K H es ∧ y = .ref b ∧ NV K H nk (.ref b) ∧ nk.depth ≤ 8 ∧ es.length < sizeLine ∧ Nx (upd H D (dnO P w D (putN es nk b z)))
section
variable {X : Cx} {pins : List (Addr × Obj)} {σ : L2.St} {H : Hp} {s : Shared} {A : Around} {E : Value → Shared → Prop}
theorem putN_len (es : NEs) (nk : NestedKey) (b : Addr) (v : V) : (putN es nk b v).length ≤ es.length + 1 := by
  unfold putN; split
  · rw [List.length_map]; omega
  · rw [List.length_append]; exact Nat.le_refl _
theorem dn_new {h' : Heap} {H' : Hp} {a : Addr} {es : NEs} {vs : List (NestedKey × Addr × Value)} (z : es.length ≤ sizeLine) (hd : (a == sysModules) = false) (pv : PairN es vs) (d : h'.DictOfH (nestedKind X.prog X.w) a vs) : ObjOk X.prog X.w H' h' a (dnO X.prog X.w a es) := by
  obtain ⟨o, es', ep, e1, e2, e3, e4, _, e5⟩ := d
  exact dnO_ok ⟨z, hd, vs, pv, o, es', ep, e1, e2, e3, e4, e5⟩
theorem pd_set (hu : X.A.units + 64 < cLine) : PDSet X (stD X.prog X.w X.K) := by
  intro pins σ H s D y z u r Nx I ry rz h
  rcases h with ⟨kvs, k, e, hD, hz, nx⟩ | ⟨es, nk, b, hD, hk, e, h1, h2, hz, nx⟩
  · subst e
    exact d_dictSet I hD hz ry rz fun s' I' => ⟨_, I', nx⟩
  · subst e
    cases (show u = Value.ref b from ry)
    obtain ⟨z1, hd, vs, pv, dd⟩ := dn_at I hD hk
    have hl := putN_len es nk b z
    refine wpAny_dictSet_heap (hsz := by rw [← pv.length]; exact z1) (room8 hu).1 (nk_at I h1 h2) dd fun h' dd' hs => ⟨_, d_write I (by rw [hD]; exact True.intro) hs ?_ (dn_new (by omega) hd (pv.put nk b rz) dd'), nx⟩
    obtain ⟨q, _, _, hq, _⟩ := dd'; exact ⟨q, hq⟩
def rSetDD (P : Program) (w : World) (K : PySem.W.Frag) : V → V → V → Hp → (Hp → Prop) → Prop := fun o i v H Q => ∃ D, o = .ref D ∧ stD P w K D i v H Q
theorem set_DD (hu : X.A.units + 64 < cLine) : PSet X (rSetDD X.prog X.w X.K) := by
  intro pins s σ H o i v ov iv u Q I ro ri rv h
  obtain ⟨D, rfl, h⟩ := h
  cases (show ov = Value.ref D from ro)
  rcases h with ⟨kvs, k, e, hD, hz, nx⟩ | ⟨es, nk, b, hD, hk, e, h1, h2, hz, nx⟩
  · subst e
    exact d_setItem (by omega) I (.k hD hz) ri rv fun s' I' => ⟨_, I', nx⟩
  · subst e
    cases (show iv = Value.ref b from ri)
    obtain ⟨z1, hd, vs, pv, dd⟩ := dn_at I hD hk
    have hl := putN_len es nk b v
    refine wpAny_setItem_heap (hsz := by rw [← pv.length]; exact z1) (room8 hu).2.1 (nk_at I h1 h2) dd fun h' dd' hs => ⟨_, d_write I (by rw [hD]; exact True.intro) hs ?_ (dn_new (by omega) hd (pv.put nk b rv) dd'), nx⟩
    obtain ⟨q, _, _, hq, _⟩ := dd'; exact ⟨q, hq⟩
theorem dn_empty (H : Hp) (h : Heap) (hb : sysModules < h.objs.size) : ObjOk X.prog X.w H (h.push { cls := .type "dict", data := .dict #[] }) h.objs.size (dnO X.prog X.w h.objs.size []) := by
  obtain ⟨z1, z2, xs, hx, o, es, ep, e1, e2, e3, e4, e5⟩ := dt_empty (P := X.prog) (w := X.w) (H := H) h hb
  refine dnO_ok ⟨Nat.zero_le _, z2, [], .nil, o, es, ep, e1, e2, e3, ?_, List.nodup_nil⟩
  cases hx
  rw [e4]; rfl
end
/-- the two kinds of dict -/
inductive DKd where
  | k | n
def o0 (P : Program) (w : World) : DKd → Addr → HO
  | .k, _ => .dK []
  | .n, a => dnO P w a []
def d0 : DKd → D
  | .k => .dK []
  | .n => .dN []
theorem o0_ok {P : Program} {w : World} (kd : DKd) (H : Hp) (h : Heap) (hb : sysModules < h.objs.size) : ObjOk P w H (h.push { cls := .type "dict", data := .dict #[] }) h.objs.size (o0 P w kd h.objs.size) := by
  cases kd with
  | k => exact dk_empty h hb
  | n =>
    obtain ⟨z1, z2, xs, hx, o, es, ep, e1, e2, e3, e4, e5⟩ := dt_empty (P := P) (w := w) (H := H) h hb
    refine dnO_ok ⟨Nat.zero_le _, z2, [], .nil, o, es, ep, e1, e2, e3, ?_, List.nodup_nil⟩
    cases hx
    rw [e4]; rfl
def keyK : D → Option Key
  | .int i => some (.inl i)
  | .str s => some (.inr s)
  | _ => none
def putKD (kvs : List (Key × D)) (k : Key) (d : D) : List (Key × D) :=
  if (kvs.any fun p => decide (p.1 = k)) = true then kvs.map (fun p => if p.1 = k then (p.1, d) else p) else kvs ++ [(k, d)]
def dPutD : D → D → D → Option D
  | .dK kvs, k, d => (keyK k).bind fun q => if kvs.length < sizeLine then some (.dK (putKD kvs q d)) else none
  | .dN kvs, k, d => (keyN k).bind fun q => if kvs.length < sizeLine then some (.dN (putND kvs k q d)) else none
  | _, _, _ => none
section
variable {G : Gx} {F : Fr} {H : Hp}
theorem keyK_rep {d : D} {v : V} {k : Key} (r : Rep G F d v) (e : keyK d = some k) : v = kV k := by
  cases d with
  | int i => cases e; rw [Rep] at r; exact r
  | str i => cases e; rw [Rep] at r; exact r
  | _ => cases e
theorem RepK.length : ∀ {kvs : List (Key × D)} {es : List (Key × V)}, RepK G F kvs es → es.length = kvs.length
  | [], _, r => by rw [RepK] at r; subst r; rfl
  | (k, d) :: kvs, _, r => by rw [RepK] at r; obtain ⟨y, ys, rfl, r1, r2⟩ := r; simp [RepK.length r2]
theorem RepK.any (q : Key) : ∀ {kvs : List (Key × D)} {es : List (Key × V)}, RepK G F kvs es → (kvs.any fun p => decide (p.1 = q)) = (es.any fun e => decide (e.1 = q))
  | [], _, r => by rw [RepK] at r; subst r; rfl
  | (k, d) :: kvs, _, r => by rw [RepK] at r; obtain ⟨y, ys, rfl, r1, r2⟩ := r; rw [List.any_cons, List.any_cons, RepK.any q r2]
theorem RepK.map {q : Key} {d : D} {v : V} (rv : Rep G F d v) : ∀ {kvs : List (Key × D)} {es : List (Key × V)}, RepK G F kvs es → RepK G F (kvs.map fun p => if p.1 = q then (p.1, d) else p) (es.map fun e => if e.1 = q then (e.1, v) else e)
  | [], _, r => by rw [RepK] at r; subst r; simp [RepK]
  | (k, d') :: kvs, _, r => by
    rw [RepK] at r
    obtain ⟨y, ys, rfl, r1, r2⟩ := r
    have ih := RepK.map (q := q) rv r2
    rw [List.map_cons, List.map_cons]
    by_cases z : k = q
    · rw [if_pos z, if_pos z, RepK]; exact ⟨v, _, rfl, rv, ih⟩
    · rw [if_neg z, if_neg z, RepK]; exact ⟨y, _, rfl, r1, ih⟩
theorem RepK.snoc {q : Key} {d : D} {v : V} (rv : Rep G F d v) : ∀ {kvs : List (Key × D)} {es : List (Key × V)}, RepK G F kvs es → RepK G F (kvs ++ [(q, d)]) (es ++ [(q, v)])
  | [], _, r => by rw [RepK] at r; subst r; simp only [List.nil_append, RepK]; exact ⟨v, [], rfl, rv, rfl⟩
  | (k', d') :: kvs, _, r => by
    rw [RepK] at r
    obtain ⟨y, ys, rfl, r1, r2⟩ := r
    rw [List.cons_append, List.cons_append, RepK]
    exact ⟨y, _, rfl, r1, RepK.snoc rv r2⟩
theorem RepK.put {q : Key} {d : D} {v : V} {kvs : List (Key × D)} {es : List (Key × V)} (r : RepK G F kvs es) (rv : Rep G F d v) : RepK G F (putKD kvs q d) (putK es q v) := by
  unfold putKD putK
  rw [r.any q]
  split
  · exact r.map rv
  · exact r.snoc rv
theorem node0 (kd : DKd) {a : Addr} (h : H a = some (o0 G.P G.w kd a)) : Node G F H a [a] (d0 kd) := by
  cases kd with
  | k => exact ⟨rfl, [], h, by rw [RepK]⟩
  | n => exact ⟨rfl, [], h, by rw [RepN]⟩
theorem st_put {D : Addr} {acc acc' k d : Dn.D} {y z : V} {Nx : Hp → Prop} (i : F.In G H) (n : Node G F H D [D] acc) (rk : Rep G F k y) (rd : Rep G F d z) (e : dPutD acc k d = some acc')
    (nx : ∀ o, Node G F (upd H D o) D [D] acc' → Nx (upd H D o)) : stD G.P G.w G.K D y z H Nx := by
  cases acc with
  | dK kvs =>
    obtain ⟨q, e1, e2⟩ := Option.bind_eq_some_iff.mp e
    split at e2
    · rename_i hl
      cases e2
      obtain ⟨_, ks, n1, n2⟩ := n
      exact .inl ⟨ks, q, keyK_rep rk e1, n1, by rw [n2.length]; exact hl, nx _ ⟨rfl, _, upd_same, n2.put rd⟩⟩
    · cases e2
  | dN kvs =>
    obtain ⟨q, e1, e2⟩ := Option.bind_eq_some_iff.mp e
    split at e2
    · rename_i hl
      cases e2
      obtain ⟨_, es, n1, n2⟩ := n
      obtain ⟨b, rfl, z1, z2, z3⟩ := keyN_rep i rk e1
      exact .inr ⟨es, q, b, n1, n2.dnk i, rfl, z2, z3, by rw [n2.length]; exact hl, nx _ ⟨rfl, _, upd_same, n2.put z1 z3 rk rd⟩⟩
    · cases e2
  | _ => cases e
end
/-! ### {} and d[k] = v -/
section
variable {G : Gx} {X : Cx} {m : Nat → Mode} {n : Nat} {W : WX} {k : Nat} {e a b : Expr} {fe fk : ED} {x : Str} {p pos spos : Pos}
def eNewD (kd : DKd) : ED := fun ρ => .ok (d0 kd) ρ
theorem do_newD (kd : DKd) : DO G X m W k 1 (.Dict [] [] pos) (eNewD kd) := fun c => ⟨fun pins s σ H Q I ⟨F, ρ, fp, st, h⟩ => by
  refine wpAny_Dict_empty ⟨.ref s.heap.objs.size, _, I.laid (a := s.heap.objs.size) (o := o0 G.P G.w kd s.heap.objs.size) (t' := s.toks) (fun _ _ q => Heap.get?_push_of_some _ q) (Nat.le_refl _) (c.P ▸ c.w ▸ o0_ok kd _ s.heap I.big), rfl, ?_⟩
  have hq : H s.heap.objs.size = none := I.hok.fresh (Nat.le_refl _)
  have g := Grow.drop (o := o0 G.P G.w kd s.heap.objs.size) st.inn hq
  exact h (.ref s.heap.objs.size) F (upd H s.heap.objs.size (o0 G.P G.w kd s.heap.objs.size)) fp g.step (st.grow g)
    ⟨[s.heap.objs.size], ⟨s.heap.objs.size, rfl, node0 kd upd_same⟩, by simp, fun a ha => by
      have : a = s.heap.objs.size := by simpa using ha
      subst this
      exact ⟨(st.inn.free hq).1, (st.inn.free hq).2, fun i hi => st.alloc hi hq, .inr hq⟩⟩⟩
def isDct : Option D → Bool
  | some (.dK _) => true
  | some (.dN _) => true
  | _ => false
theorem isDct_some {o : Option D} (h : isDct o = true) : ∃ d, o = some d := by
  cases o with
  | none => cases h
  | some d => exact ⟨d, rfl⟩
theorem own1_dct {F : Fr} {d : D} {v : V} {fp : List Addr} {H : Hp} (o : Own G F H 1 d v fp) (h : isDct (some d) = true) : ∃ a, v = .ref a ∧ fp = [a] ∧ Node G F H a [a] d := by
  obtain ⟨a, rfl, nd⟩ := o
  cases d with
  | dK kvs => obtain ⟨rfl, z⟩ := nd; exact ⟨a, rfl, rfl, rfl, z⟩
  | dN kvs => obtain ⟨rfl, z⟩ := nd; exact ⟨a, rfl, rfl, rfl, z⟩
  | _ => cases h
theorem dPutD_isDct {acc k d acc' : D} (h : dPutD acc k d = some acc') : isDct (some acc) = true ∧ isDct (some acc') = true := by
  cases acc with
  | dK kvs =>
    obtain ⟨q, e1, e2⟩ := Option.bind_eq_some_iff.mp h
    split at e2
    · cases e2; exact ⟨rfl, rfl⟩
    · cases e2
  | dN kvs =>
    obtain ⟨q, e1, e2⟩ := Option.bind_eq_some_iff.mp h
    split at e2
    · cases e2; exact ⟨rfl, rfl⟩
    · cases e2
  | _ => cases h
def sPutD (i : Nat) (fe fk : ED) : SD := fun ρ => (fe ρ).thn fun d ρ1 => if isDct (ρ1[i]?.join) = true then (fk ρ1).thn fun kd ρ2 => match (ρ2[i]?.join).bind fun acc => dPutD acc kd d with
    | some acc' => .nx (ρ2.set i (some acc'))
    | none => .bad else .bad
theorem ds_putD (i : Nat) (he : DE G X m W k e fe) (hk : DE G X m W k b fk) (hm : (m i).lvl = 1 := by rfl)
    (hN : X.N[i]? = some x := by rfl) (hv : Vis X.env.scope x := by first | exact Or.inl rfl | exact Or.inr (Or.inl rfl) | exact Or.inr (Or.inr rfl)) (hd : (x == ("__debug__" : Str)) = false := by decide)
    (hcd : (x == ("__classdict__" : Str)) = false := by decide)
    (ha : ∀ v, assign (.Subscript (.Name x p) b pos) X.env v = (do
      let ov ← holding [v] (eval (.Name x p) X.env)
      let iv ← holding [v, ov] (eval b X.env)
      standAt pos
      holding [v, ov, iv] (setItem ov iv v)
      release [v, ov, iv] []) := by intro _; rfl)
    (hs : swapsWithSole [.Subscript (.Name x p) b pos] e spos.line X.env = pure false := by rfl) (hw : swappedStores [.Subscript (.Name x p) b pos] e X.env = pure none := by rfl)
    (h1 : (assignEach [.Subscript (.Name x p) b pos] X.env).map (·.2) = [assign (.Subscript (.Name x p) b pos) X.env] := by rfl) :
    DS G X m n W k (.Assign [.Subscript (.Name x p) b pos] e spos) (sPutD i fe fk) := fun c =>
  PSmono (ps_asg (he c) (pg_sub (pe_var hN hv hd hcd) (hk c) (c.P ▸ c.w ▸ c.K ▸ set_DD c.room.units : PSet X (rSetDD G.P G.w G.K)) ha) hs hw h1) fun D σ H ⟨F, ρ, fp, s, h⟩ => ⟨F, ρ, fp, s, (RS.thn (R := RD G) s h).mono fun v H1 ⟨F1, ρ1, fp1, d, p1, s1, r1, h1⟩ => by
    by_cases q : isDct (ρ1[i]?.join) = true
    · rw [if_pos q] at h1
      obtain ⟨dd0, q0⟩ := isDct_some q
      obtain ⟨w, e1, e2⟩ := s1.slot i _ (join_some q0)
      rw [hm] at e2
      obtain ⟨a, rfl, _⟩ := own1_dct e2 (q0 ▸ q)
      refine ⟨_, e1, F1, ρ1, fp1, s1, (RS.thn (R := RD G) s1 h1).mono fun kv H2 ⟨F2, ρ2, fp2, kd, p2, s2, r2, h2⟩ => ?_⟩
      split at h2
      · rename_i acc' q2
        obtain ⟨acc, q3, q4⟩ := Option.bind_eq_some_iff.mp q2
        obtain ⟨w', e3, e4⟩ := s2.slot i _ (join_some q3)
        rw [e1] at e3; cases e3
        rw [hm] at e4
        obtain ⟨a', ea, hfp, nd⟩ := own1_dct e4 (dPutD_isDct q4).1
        cases ea
        have ha : a ∈ fp2 i := by rw [hfp]; simp
        refine ⟨a, rfl, st_put s2.inn nd r2 (Rep.ext p2.ext _ _ r1) q4 fun o nd' => ?_⟩
        obtain ⟨s3, st3⟩ := s2.write (o := o) (d := acc') ha e1 (by rw [hm]; exact ⟨a, rfl, hfp ▸ nd'⟩)
        exact h2 σ F2 _ fp2 st3 s3 .refl
      · exact h2.elim
    · rw [if_neg q] at h1; exact h1.elim⟩
end
end Dn

/-! Dn13: dict comprehensions. -/
namespace Dn
open PySem PySem.Spec PyProof.Rows L2
def dcLoop (t : TD) (ifs : BD) (fk fv : ED) (vs : List Nat) : List D → D → Env → ER D
  | [], acc, ρ => .ok acc ρ
  | d :: ds, acc, ρ => match t d ρ with
    | none => .bad
    | some ρ1 => (ifs ρ1).nox.bind fun b ρ2 => if b = true then (fk ρ2).nox.bind fun x ρ3 => (fv ρ3).nox.bind fun y ρ4 => match dPutD acc x y with
        | some acc' => dcLoop t ifs fk fv vs ds acc' (wipeE ρ4 vs)
        | none => .bad
        else dcLoop t ifs fk fv vs ds acc (wipeE ρ2 vs)
def eDc (kd : DKd) (it : ID) (t : TD) (ifs : BD) (fk fv : ED) (vs : List Nat) : ED := fun ρ => (it ρ).bind fun ds ρ1 => (dcLoop t ifs fk fv vs ds (d0 kd) (wipeE ρ1 vs)).bind fun acc ρ2 => .ok acc (unwipe ρ1 vs ρ2)
theorem dc_it {J : It} {n : Nat} {Gd : Hp → Prop} {Y : Nat → Hp → V → Hp → Prop} (w : Walk J n Gd Y) {o0 : Addr → HO} {st : Addr → V → V → Hp → (Hp → Prop) → Prop} {g : TG} {tt : TT} {tk tv : TE} {vs : List Nat} {σ : L2.St} {H1 : Hp} {D : Addr} {Qd : Hp → Prop} (Pv : Nat → Hp → Prop) (h0 : Pv 0 (upd H1 D (o0 D))) (hG : ∀ i H, i ≤ n → Pv i H → Gd H)
    (hs : ∀ i x H H', i < n → Pv i H → Y i H x H' → g x (wipe σ vs) H' fun σ2 H2 => wipe σ2 vs = wipe σ vs ∧ tt σ2 H2 fun b H3 =>
      if b = true then tk σ2 H3 fun y H4 => tv σ2 H4 fun z H5 => st D y z H5 (Pv (i + 1)) else Pv (i + 1) H3) (hd : ∀ H, Pv n H → Qd H) :
    ∃ W : Nat → Nat → Hp → Prop, (∃ m, W 0 m (upd H1 D (o0 D))) ∧ ∀ i m H, W i m H →
      (J.stop i H ∧ Qd H) ∨ (J.go i H ∧ ∃ Nx : Hp → Prop, (∀ H', Nx H' → ∃ m', m' < m ∧ W (i + 1) m' H') ∧ ∀ x H', J.yld i H x H' → g x (wipe σ vs) H' fun σ2 H2 => wipe σ2 vs = wipe σ vs ∧ tt σ2 H2 fun b H3 =>
        if b = true then tk σ2 H3 fun y H4 => tv σ2 H4 fun z H5 => st D y z H5 Nx else Nx H3) := by
  refine ⟨fun i m H => m = n - i ∧ i ≤ n ∧ Pv i H, ⟨n, by simp, Nat.zero_le _, h0⟩, ?_⟩
  rintro i m H ⟨rfl, hi, p⟩
  have q := hG i H hi p
  by_cases hlt : i < n
  · refine .inr ⟨w.goes i H hlt q, Pv (i + 1), fun H' p' => ⟨n - (i + 1), by omega, rfl, hlt, p'⟩, fun x H' y => hs i x H H' hlt p (w.yields i H x H' hlt q y)⟩
  · have e : i = n := by omega
    subst e
    exact .inl ⟨w.stops H q, hd H p⟩
section
variable {G : Gx} {m : Nat → Mode} {W : WX} {F : Fr} {H : Hp} {σ : L2.St} {fp : Nat → List Addr}
theorem Node.at {G : Gx} {F F' : Fr} {H H' : Hp} {a : Addr} {d : Dn.D} (x : Ext F F') (e : H' a = H a) (h : Node G F H a [a] d) (hd : isDct (some d) = true) : Node G F' H' a [a] d := by
  cases d with
  | dK kvs => obtain ⟨z, ks, e1, e2⟩ := h; exact ⟨z, ks, by rw [e]; exact e1, RepK.ext x _ _ e2⟩
  | dN kvs => obtain ⟨z, ks, e1, e2⟩ := h; exact ⟨z, ks, by rw [e]; exact e1, RepN.ext x _ _ e2⟩
  | _ => cases hd
theorem Node.alloc {G : Gx} {F : Fr} {H : Hp} {a : Addr} {d : Dn.D} (h : Node G F H a [a] d) (hd : isDct (some d) = true) : ∃ o, H a = some o := by
  cases d with
  | dK kvs => obtain ⟨z, ks, e1, e2⟩ := h; exact ⟨_, e1⟩
  | dN kvs => obtain ⟨z, ks, e1, e2⟩ := h; exact ⟨_, e1⟩
  | _ => cases hd
/-- the reading of a comprehension -/
theorem tDc_of {X : Cx} {k : Nat} {tg : Expr} {it : ID} {t : TD} {g : TG} {ix : List Nat} {ifs : BD} {fk fv : ED} {kd : DKd} {vs : List Nat} {Wt : WX}
    (hg : ∀ F H σ ρ fp d v ρ' Q, St G m F H σ ρ fp → Rep G F d v → t d ρ = some ρ' →
    (∀ σ' fp', St G m F H σ' ρ' fp' → Step G F H fp F H fp' → IoKept m σ σ' → (∀ vs : List Nat, (∀ j ∈ ix, j ∈ vs) → wipe σ' vs = wipe σ vs) → Q σ' H) → g v σ H Q)
    (hv : ∀ v ∈ vs, m v = .frz) (hix : ∀ j ∈ ix, j ∈ vs) {σ0 : L2.St} {H0 : Hp} {Q : VK} (h : tG G m W (RV G 1) (eDc kd it t ifs fk fv vs) σ0 H0 Q) :
    tDcG (o0 G.P G.w kd) (stD G.P G.w G.K) (tG G m W (RI G) it) g (tB G m W0 ifs) (tD G m W0 fk) (tD G m W0 fv) vs σ0 H0 Q := by
  obtain ⟨F, ρ, fp, s, h⟩ := h
  refine ⟨F, ρ, fp, s, (RG.bind (R := RI G) s h).mono fun J H1 ⟨F1, ρ1, fp1, ds, p1, s1, ⟨Gd, Y, w, hG, hY⟩, h1⟩ => ?_⟩
  intro D hD
  have sw := s1.wiped (vs := vs) hv
  have grD : Grow G F1 H1 F1 (upd H1 D (o0 G.P G.w kd D)) := Grow.drop s1.inn hD
  have sD := sw.grow grD
  have h1' : RG G m W (RV G 1) F1 H1 σ0 fp1 Q ((dcLoop t ifs fk fv vs ds (d0 kd) (wipeE ρ1 vs)).bind fun acc ρ2 => .ok acc (unwipe ρ1 vs ρ2)) := h1
  -- the end
  skip
  refine dc_it w (fun i H => ∃ F2 ρ2 fp2 acc, Step G F1 H1 fp1 F2 H fp2 ∧ St G m F2 H (wipe σ0 vs) ρ2 fp2 ∧ Node G F2 H D [D] acc ∧ isDct (some acc) = true ∧ F2.fx D = none ∧ F2.nt D = none ∧ (∀ i, D ∉ fp2 i) ∧
      (∃ r, dcLoop t ifs fk fv vs (ds.drop i) acc ρ2 = r ∧ match r with
        | .ok acc' ρ3 => ∀ F' H' fp', Step G F1 H1 fp1 F' H' fp' → St G m F' H' (wipe σ0 vs) ρ3 fp' → Node G F' H' D [D] acc' → F'.fx D = none → F'.nt D = none → (∀ i, D ∉ fp' i) → Q (.ref D) H'
        | .exc _ _ => False
        | .bad => False)) ?_ ?_ ?_ ?_
  · refine ⟨F1, wipeE ρ1 vs, fp1, d0 kd, grD.step, sD, node0 kd upd_same, (by cases kd <;> rfl), (s1.inn.free hD).1, (s1.inn.free hD).2, fun i hi => s1.alloc hi hD, _, rfl, ?_⟩
    rw [List.drop_zero]
    cases q : dcLoop t ifs fk fv vs ds (d0 kd) (wipeE ρ1 vs) with
    | bad => rw [q] at h1'; exact h1'.elim
    | exc e ρ2 =>
      -- no exception leaves the loop
      exfalso
      have aux : ∀ (ds : List Dn.D) (acc : Dn.D) (ρ : Env) e ρ', dcLoop t ifs fk fv vs ds acc ρ ≠ .exc e ρ' := by
        intro ds
        induction ds with
        | nil => intro acc ρ e ρ' z; cases z
        | cons d ds ih =>
          intro acc ρ e ρ' z
          rw [dcLoop] at z
          cases q1 : t d ρ with
          | none => rw [q1] at z; cases z
          | some ρa =>
            rw [q1] at z
            dsimp only at z
            cases q2 : ifs ρa with
            | bad => rw [q2] at z; cases z
            | exc _ _ => rw [q2] at z; cases z
            | ok b ρb =>
              rw [q2] at z
              cases b with
              | false => exact ih _ _ _ _ z
              | true =>
                simp only [nox_ok, bind_ok, if_true] at z
                cases q3 : fk ρb with
                | bad => rw [q3] at z; cases z
                | exc _ _ => rw [q3] at z; cases z
                | ok x ρc =>
                  rw [q3] at z
                  simp only [nox_ok, bind_ok] at z
                  cases q4 : fv ρc with
                  | bad => rw [q4] at z; cases z
                  | exc _ _ => rw [q4] at z; cases z
                  | ok y ρd =>
                    rw [q4] at z
                    simp only [nox_ok, bind_ok] at z
                    split at z
                    · exact ih _ _ _ _ z
                    · cases z
      exact aux _ _ _ _ _ q
    | ok acc' ρ3 =>
      rw [q] at h1'
      intro F' H' fp' st sx nd n1 n2 n3
      exact h1' (.ref D) F' H' fp' st (s1.unwiped st.ext sx hv) ⟨[D], ⟨D, rfl, nd⟩, by simp, fun a ha => by
        have : a = D := by simpa using ha
        subst this
        exact ⟨n1, n2, n3, .inr hD⟩⟩
  · rintro i H _ ⟨F2, ρ2, fp2, acc, st, s2, _⟩
    exact hG H F2 st.ext s2.inn
  · rintro i x H H' hi ⟨F2, ρ2, fp2, acc, st, s2, nd, hdc, n1, n2, n3, r, hr, q⟩ hy
    obtain ⟨oD, hDx⟩ := nd.alloc hdc
    obtain ⟨F3, d, ed, gr, rp⟩ := hY i H F2 x H' st.ext s2.inn hi hy
    have s3 := s2.grow gr
    have st3 : Step G F1 H1 fp1 F3 H' fp2 := st.trans gr.step s1.inn fun i a h => (s2.own i a h).2
    have hDx3 : H' D = some oD := gr.same _ _ hDx
    have nd3 := nd.at gr.ext (hDx3.trans hDx.symm) hdc
    have n1' : F3.fx D = none := by
      cases z : F3.fx D with
      | none => rfl
      | some o => rcases gr.newF D o z with y | y; rw [n1] at y; cases y; rw [hDx] at y; cases y
    have n2' : F3.nt D = none := by
      cases z : F3.nt D with
      | none => rfl
      | some o => rcases gr.newN D o z with y | y; rw [n2] at y; cases y; rw [hDx] at y; cases y
    have hd : ds.drop i = d :: ds.drop (i + 1) := by
      rw [List.drop_eq_getElem_cons hi]
      rw [List.getElem?_eq_getElem hi] at ed
      cases ed; rfl
    rw [hd, dcLoop] at hr
    cases q1 : t d ρ2 with
    | none => rw [q1] at hr; subst hr; exact q.elim
    | some ρa =>
      rw [q1] at hr
      dsimp only at hr
      refine hg F3 H' (wipe σ0 vs) ρ2 fp2 d x ρa _ s3 rp q1 fun σ4 fp4 s4 st4 io4 wp4 => ?_
      have hw : wipe σ4 vs = wipe σ0 vs := by
        rw [wp4 vs hix]
        have wipe_wipe : ∀ (vs : List Nat) (σ : L2.St), wipe (wipe σ vs) vs = wipe σ vs := by
          intro vs σ
          apply List.ext_getElem?
          intro j
          by_cases hj : j ∈ vs
          · have aux : ∀ (vs : List Nat) (σ : L2.St) (j : Nat), j ∈ vs → (wipe σ vs)[j]? = if j < σ.length then some none else none := by
              intro vs
              induction vs with
              | nil => intro σ j h; cases h
              | cons v vs ih =>
                intro σ j h
                show ((wipe σ vs).set v none)[j]? = _
                by_cases e : v = j
                · subst e
                  by_cases hl : v < (wipe σ vs).length
                  · rw [List.getElem?_set_self hl, if_pos (by rwa [wipe_length] at hl)]
                  · rw [List.getElem?_eq_none (by simpa using hl), if_neg (by rwa [wipe_length] at hl)]
                · rw [List.getElem?_set_ne e]
                  exact ih σ j (by simpa [Ne.symm e] using h)
            rw [aux vs _ j hj, aux vs _ j hj, wipe_length]
          · rw [wipe_out hj]
        exact wipe_wipe vs σ0
      have wne : ∀ {σ : L2.St}, wipe (wipe σ vs) vs = wipe σ vs → True := fun _ => trivial
      refine ⟨by rw [hw], ?_⟩
      have stA : Step G F1 H1 fp1 F3 H' fp4 := st3.trans st4 s1.inn fun i a h => (s3.own i a h).2
      have n3' : ∀ i, D ∉ fp4 i := fun i hi => by
        rcases st4.fpn i D hi with ⟨j, z⟩ | z
        · exact n3 j z
        · rw [hDx3] at z; cases z
      cases q2 : ifs ρa with
      | bad => rw [q2] at hr; subst hr; exact q.elim
      | exc _ _ => rw [q2] at hr; subst hr; exact q.elim
      | ok b ρb =>
        rw [q2] at hr
        simp only [nox_ok, bind_ok] at hr
        refine ⟨F3, ρa, fp4, s4, ?_⟩
        rw [q2]
        intro b' F5 H5 fp5 st5 s5 eb
        cases eb
        have stB : Step G F1 H1 fp1 F5 H5 fp5 := stA.trans st5 s1.inn fun i a h => (s4.own i a h).2
        have hD5 : H5 D = some oD := st5.frm D _ hDx3 n2' n3'
        have nd5 := nd3.at st5.ext (hD5.trans hDx3.symm) hdc
        have n15 : F5.fx D = none := by
          cases z : F5.fx D with
          | none => rfl
          | some o => rcases st5.newF D o z with y | y | ⟨j, y⟩; rw [n1'] at y; cases y; rw [hDx3] at y; cases y; exact absurd y (n3' j)
        have n25 : F5.nt D = none := by
          cases z : F5.nt D with
          | none => rfl
          | some o => rcases st5.newN D o z with y | y | ⟨j, y⟩; rw [n2'] at y; cases y; rw [hDx3] at y; cases y; exact absurd y (n3' j)
        have n35 : ∀ i, D ∉ fp5 i := fun i hi => by
          rcases st5.fpn i D hi with ⟨j, z⟩ | z
          · exact n3' j z
          · rw [hDx3] at z; cases z
        cases b with
        | false =>
          simp only [Bool.false_eq_true, if_false] at hr ⊢
          have s6 := s5.wiped (vs := vs) hv
          rw [hw] at s6
          exact ⟨F5, wipeE ρb vs, fp5, acc, stB, s6, nd5, hdc, n15, n25, n35, r, hr, q⟩
        | true =>
          simp only [if_true] at hr ⊢
          refine ⟨F5, ρb, fp5, s5, ?_⟩
          cases q3 : fk ρb with
          | bad => rw [q3] at hr; subst hr; exact q.elim
          | exc _ _ => rw [q3] at hr; subst hr; exact q.elim
          | ok kx ρc =>
            rw [q3] at hr
            simp only [nox_ok, bind_ok] at hr
            intro yk F7 H7 fp7 st7 s7 rk
            have hD7 : H7 D = some oD := st7.frm D _ hD5 n25 n35
            have nd7 := nd5.at st7.ext (hD7.trans hD5.symm) hdc
            have n17 : F7.fx D = none := by
              cases z : F7.fx D with
              | none => rfl
              | some o => rcases st7.newF D o z with y | y | ⟨j, y⟩; rw [n15] at y; cases y; rw [hD5] at y; cases y; exact absurd y (n35 j)
            have n27 : F7.nt D = none := by
              cases z : F7.nt D with
              | none => rfl
              | some o => rcases st7.newN D o z with y | y | ⟨j, y⟩; rw [n25] at y; cases y; rw [hD5] at y; cases y; exact absurd y (n35 j)
            have n37 : ∀ i, D ∉ fp7 i := fun i hi => by
              rcases st7.fpn i D hi with ⟨j, z⟩ | z
              · exact n35 j z
              · rw [hD5] at z; cases z
            have stC : Step G F1 H1 fp1 F7 H7 fp7 := stB.trans st7 s1.inn fun i a h => (s5.own i a h).2
            refine ⟨F7, ρc, fp7, s7, ?_⟩
            cases q4 : fv ρc with
            | bad => rw [q4] at hr; subst hr; exact q.elim
            | exc _ _ => rw [q4] at hr; subst hr; exact q.elim
            | ok y ρd =>
              rw [q4] at hr
              simp only [nox_ok, bind_ok] at hr
              intro yv F8 H8 fp8 st8 s8' rv
              have hD8 : H8 D = some oD := st8.frm D _ hD7 n27 n37
              have nd8 := nd7.at st8.ext (hD8.trans hD7.symm) hdc
              have n18 : F8.fx D = none := by
                cases z : F8.fx D with
                | none => rfl
                | some o => rcases st8.newF D o z with y | y | ⟨j, y⟩; rw [n17] at y; cases y; rw [hD7] at y; cases y; exact absurd y (n37 j)
              have n28 : F8.nt D = none := by
                cases z : F8.nt D with
                | none => rfl
                | some o => rcases st8.newN D o z with y | y | ⟨j, y⟩; rw [n27] at y; cases y; rw [hD7] at y; cases y; exact absurd y (n37 j)
              have n38 : ∀ i, D ∉ fp8 i := fun i hi => by
                rcases st8.fpn i D hi with ⟨j, z⟩ | z
                · exact n37 j z
                · rw [hD7] at z; cases z
              cases q5 : dPutD acc kx y with
              | none => rw [q5] at hr; subst hr; exact q.elim
              | some acc' =>
                rw [q5] at hr
                dsimp only at hr
                refine st_put s8'.inn nd8 (Rep.ext st8.ext _ _ rk) rv q5 fun o nd9 => ?_
                have s8 := s8'.wiped (vs := vs) hv
                rw [hw] at s8
                have inn9 : F8.In G (upd H8 D o) := ⟨fun a u e => by
                  have : a ≠ D := fun z => by subst z; rw [n18] at e; cases e
                  rw [upd_ne this]; exact s8'.inn.fx _ _ e, fun a d e => by
                  obtain ⟨kvs, e1, e2⟩ := s8'.inn.nt a d e
                  have : a ≠ D := fun z => by subst z; rw [n28] at e; cases e
                  exact ⟨kvs, by rw [upd_ne this]; exact e1, e2⟩⟩
                have s9 : St G m F8 (upd H8 D o) (wipe σ0 vs) (wipeE ρd vs) fp8 := ⟨inn9, s8.len, fun i d e => by
                  obtain ⟨v, e1, e2⟩ := s8.slot i d e
                  refine ⟨v, e1, e2.keep (Ext.refl _) fun b hb => upd_ne fun z => ?_⟩
                  subst z; exact n38 i hb, s8.dead, s8.sep, s8.own⟩
                have st9 : Step G F1 H1 fp1 F8 (upd H8 D o) fp8 := by
                  have a : Step G F1 H1 fp1 F8 H8 fp8 := stC.trans st8 s1.inn fun i a h => (s7.own i a h).2
                  refine ⟨a.ext, a.newF, a.newN, a.fpn, fun b o e1 e2 e3 => ?_, fun b e => ?_⟩
                  · have : b ≠ D := fun z => by subst z; rw [hD] at e1; cases e1
                    rw [upd_ne this]; exact a.frm b o e1 e2 e3
                  · by_cases z : b = D
                    · subst z; exact hD
                    · rw [upd_ne z] at e; exact a.live b e
                exact ⟨F8, wipeE ρd vs, fp8, acc', st9, s9, nd9, (dPutD_isDct q5).2, n18, n28, n38, r, hr, q⟩
  · rintro H ⟨F2, ρ2, fp2, acc, st, s2, nd, hdc, n1, n2, n3, r, hr, q⟩
    rw [List.drop_length] at hr
    subst hr
    exact q F2 H fp2 st s2 nd n1 n2 n3
end
section
variable {G : Gx} {X : Cx} {m : Nat → Mode} {n : Nat} {W : WX} {k : Nat} {kx vx tg iter : Expr} {ifs : List Expr} {scope : Scope} {own : List (Str × Nat)} {pos : Pos} {it : ID} {t : TD} {g : TG} {ix : List Nat} {bi : BD} {fk fv : ED}
theorem do_dc (kd : DKd) (hi : DI G X m W k tg iter it) (ok : BlkOk X.N X.env.scope scope own)
    (hg : ∀ (s : Shared) (H : Hp) (C : Addr) (cl : List (Str × Addr)) (fp : List Addr), DG G (X.blk s H scope (compEnvC scope cl C X.env) fp) m W0 k ix tg t g)
    (ht : ∀ (s : Shared) (H : Hp) (C : Addr) (cl : List (Str × Addr)) (fp : List Addr), DIf G (X.blk s H scope (compEnvC scope cl C X.env) fp) m W0 k ifs bi)
    (hk : ∀ (s : Shared) (H : Hp) (C : Addr) (cl : List (Str × Addr)) (fp : List Addr), DE G (X.blk s H scope (compEnvC scope cl C X.env) fp) m W0 k kx fk)
    (he : ∀ (s : Shared) (H : Hp) (C : Addr) (cl : List (Str × Addr)) (fp : List Addr), DE G (X.blk s H scope (compEnvC scope cl C X.env) fp) m W0 k vx fv)
    (hv : ∀ v ∈ own.map (·.2), m v = .frz := by decide) (hix : ∀ j ∈ ix, j ∈ own.map (·.2) := by decide) (hs : ∀ x, foldedSetIterable iter X.env x = pure x := by intro _; rfl) :
    DO G X m W k 1 (.DictComp kx vx [⟨tg, iter, ifs, 0⟩] scope pos) (eDc kd it t bi fk fv (own.map (·.2))) := fun c =>
  PEmono (pe_dcG (o0 := o0 G.P G.w kd) (st := stD G.P G.w G.K) (fun H h hb => c.P ▸ c.w ▸ o0_ok kd H h hb) (fun s H C cl fp => (c.P ▸ c.w ▸ c.K ▸ pd_set (X := X.blk s H scope (compEnvC scope cl C X.env) fp) c.room.units : PDSet (X.blk s H scope (compEnvC scope cl C X.env) fp) (stD G.P G.w G.K))) c.calm c.nd (hi c) ok (fun s H C cl fp => (hg s H C cl fp (c.blk ..)).1) (fun s H C cl fp => ht s H C cl fp (c.blk ..)) (fun s H C cl fp => hk s H C cl fp (c.blk ..)) (fun s H C cl fp => he s H C cl fp (c.blk ..)) hs) fun σ H Q h =>
    tDc_of (X := X) (k := k) (tg := tg) (Wt := W) (hg X.s_0 X.H_0 0 [] [] (c.blk ..)).2 hv hix h
theorem ds_setDc (kd : DKd) (i : Nat) {y : Str} {py spos : Pos} (hi : DI G X m W k tg iter it) (ok : BlkOk X.N X.env.scope scope own)
    (hg : ∀ (s : Shared) (H : Hp) (C : Addr) (cl : List (Str × Addr)) (fp : List Addr), DG G (X.blk s H scope (compEnvC scope cl C X.env) fp) m W0 k ix tg t g)
    (ht : ∀ (s : Shared) (H : Hp) (C : Addr) (cl : List (Str × Addr)) (fp : List Addr), DIf G (X.blk s H scope (compEnvC scope cl C X.env) fp) m W0 k ifs bi)
    (hk : ∀ (s : Shared) (H : Hp) (C : Addr) (cl : List (Str × Addr)) (fp : List Addr), DE G (X.blk s H scope (compEnvC scope cl C X.env) fp) m W0 k kx fk)
    (he : ∀ (s : Shared) (H : Hp) (C : Addr) (cl : List (Str × Addr)) (fp : List Addr), DE G (X.blk s H scope (compEnvC scope cl C X.env) fp) m W0 k vx fv)
    (hl : (m i).lvl = 1 ∨ (m i).lvl = 0 := by first | exact Or.inl rfl | exact Or.inr rfl) (hio : (m i).isIo = false := by rfl) (hy : X.N[i]? = some y := by rfl) (hyl : X.env.scope.names.lookup y = some .local := by rfl)
    (hsw : swapsWith (.DictComp kx vx [⟨tg, iter, ifs, 0⟩] scope pos) (some (.Name y py)) spos.line X.env = pure true := by exact sw_trueD rfl rfl rfl (by decide +kernel))
    (hv : ∀ v ∈ own.map (·.2), m v = .frz := by decide) (hix : ∀ j ∈ ix, j ∈ own.map (·.2) := by decide) (hs : ∀ x, foldedSetIterable iter X.env x = pure x := by intro _; rfl) :
    DS G X m n W k (.Assign [.Name y py] (.DictComp kx vx [⟨tg, iter, ifs, 0⟩] scope pos) spos) (sSet i (eDc kd it t bi fk fv (own.map (·.2)))) := fun c =>
  PSmono (ps_setDcG (o0 := o0 G.P G.w kd) (st := stD G.P G.w G.K) (fun H h hb => c.P ▸ c.w ▸ o0_ok kd H h hb) (fun s H C cl fp => (c.P ▸ c.w ▸ c.K ▸ pd_set (X := X.blk s H scope (compEnvC scope cl C X.env) fp) c.room.units : PDSet (X.blk s H scope (compEnvC scope cl C X.env) fp) (stD G.P G.w G.K))) c.calm c.nd hy hyl hsw (hi c) ok (fun s H C cl fp => (hg s H C cl fp (c.blk ..)).1) (fun s H C cl fp => ht s H C cl fp (c.blk ..)) (fun s H C cl fp => hk s H C cl fp (c.blk ..)) (fun s H C cl fp => he s H C cl fp (c.blk ..)) hs) fun D σ H ⟨F, ρ, fp, s, h⟩ => by
    rcases hl with hl | hl
    · exact tDc_of (X := X) (k := k) (tg := tg) (Wt := W) (hg X.s_0 X.H_0 0 [] [] (c.blk ..)).2 hv hix ⟨F, ρ, fp, s, hl ▸ set_run hio s h⟩
    · refine tDc_of (X := X) (k := k) (tg := tg) (Wt := W) (hg X.s_0 X.H_0 0 [] [] (c.blk ..)).2 hv hix ⟨F, ρ, fp, s, RG.freeze (n := 1) s ?_⟩
      have h2 := set_run hio s h
      rw [hl] at h2
      cases q : eDc kd it t bi fk fv (own.map (·.2)) ρ with
      | ok d ρ' => rw [q] at h2; exact fun v F' H' fp' a b r => h2 v F' H' fp' a b (RV.zero r)
      | exc e ρ' => rw [q] at h2; exact h2
      | bad => rw [q] at h2; exact h2
end
end Dn

namespace Dn
open PySem PySem.Spec PyProof.Rows L2
theorem slot_perm_iter : Slot "itertools.permutations" "__iter__" "itertools.permutations.__iter__" :=
  .of (owner := "itertools.permutations") (n := "__iter__") (by rw [typeLookup_type, builtinLookup_eq_fast]; kernel_rfl) (by decide +kernel) (by decide +kernel) (by decide +kernel)
    (by first | exact .inl (by decide +kernel) | exact .inr (by decide +kernel)) (by rw [isSubtype_type]; kernel_rfl)
theorem slot_perm_next : Slot "itertools.permutations" "__next__" "itertools.permutations.__next__" :=
  .of (owner := "itertools.permutations") (n := "__next__") (by rw [typeLookup_type, builtinLookup_eq_fast]; kernel_rfl) (by decide +kernel) (by decide +kernel) (by decide +kernel)
    (by first | exact .inl (by decide +kernel) | exact .inr (by decide +kernel)) (by rw [isSubtype_type]; kernel_rfl)
theorem slot_perm_init : Slot "itertools.permutations" "__init__" "object.__init__" :=
  .of (owner := "object") (n := "__init__") (by rw [typeLookup_type, builtinLookup_eq_fast]; kernel_rfl) (by decide +kernel) (by decide +kernel) (by decide +kernel)
    (by first | exact .inl (by decide +kernel) | exact .inr (by decide +kernel)) (by rw [isSubtype_type]; kernel_rfl)
theorem entry_perm_next : entryFor table "itertools.permutations.__next__" = some Builtin.«itertools.permutations.__next__» := entryFor_of_tree (by kernel_rfl)
theorem entry_perm_new : entryFor table "itertools.permutations.__new__" = some Builtin.«itertools.permutations.__new__» := entryFor_of_tree (by kernel_rfl)
theorem entry_perm_iter : entryFor table "itertools.permutations.__iter__" = some Builtin.«dict_keyiterator.__iter__» :=
  entryFor_alias (id' := "dict_keyiterator.__iter__") (by kernel_rfl) (by first | rfl | decide +kernel | (unfold String.splitOn; simp +decide [String.splitOnAux])) (by decide +kernel) (by kernel_rfl)
theorem mro_perm : mroOf (.type "itertools.permutations") = pure [.type "itertools.permutations", .type "object"] := by rw [mroOf_type]; kernel_rfl
theorem lookup_perm_new : typeLookup (.type "itertools.permutations") "__new__" = pure (some (.builtin "itertools.permutations.__new__")) := by rw [typeLookup_type, builtinLookup_eq_fast]; kernel_rfl
theorem called_perm : TypeCalled "itertools.permutations" "itertools.permutations.__new__" "object.__init__" :=
  ⟨by decide +kernel, by decide +kernel, ⟨_, _, mro_perm⟩, madeBy_type mro_perm lookup_perm_new (by decide +kernel), by decide +kernel, by rw [isSubtype_type]; kernel_rfl, slot_perm_init⟩
theorem typeCall_perm_1 (a : Value) : checkTypeCall "itertools.permutations" ⟨[a], []⟩ = pure () := by kernel_rfl
theorem newCall_perm_1 (a : Value) : checkBuiltinCall "itertools.permutations.__new__" ⟨[.type "itertools.permutations", a], []⟩ = pure () := by kernel_rfl
end Dn

namespace Dn
open PySem PySem.Spec PyProof.Rows L2
open PySem.Builtin PySem.Builtin.Itertools
def nextPerm (n : Nat) : (place : Nat) → (indices cycles : List Nat) → Option (List Nat × List Nat)
  | 0, _, _ => none
  | i + 1, indices, cycles =>
    let c := cycles.getD i 0 - 1
    if c == 0 then nextPerm n i (indices.take i ++ indices.drop (i + 1) ++ [indices.getD i 0]) (cycles.set i (n - i))
    else some ((indices.set i (indices.getD (n - c) 0)).set (n - c) (indices.getD i 0), cycles.set i c)
def permHand (self : Value) (items : Array Value) (r : Nat) (indices : List Nat) : Sem Fin := do
    let t ← newTuple ((indices.take r).map fun i => items.getD i .none)
    let before ← field self 3
    setField self 3 t
    letGo [before] [t]
    ret t
theorem perm_body (self : Value) : Builtin.«itertools.permutations.__next__» ⟨[self], []⟩ = (do
  let items ← itPoolItems (← field self 0)
  let n := items.size
  let r := (← itIntField self 2).toNat
  let numbers ← itNumbersFrom self 4
  match ← itIntField self 1 with
  | 0 => setField self 1 (rawInt 1); permHand self items r numbers
  | 1 =>
    match nextPerm n r (numbers.take n) (numbers.drop n) with
    | some (indices, cycles) => itSetNumbersFrom self 4 (indices ++ cycles); permHand self items r indices
    | none => setField self 1 (rawInt 2); itStop
  | _ => rule "itertools.permutations.ended"; itStop) := by
  kernel_rfl
def natOf : Value → Nat
  | .int n _ => n.toNat
  | _ => 0
/-- the iterator at it: its pool, its state, its numbers -/
def PermAt (h : Heap) (it T : Addr) (r : Nat) (st : Int) (nums : List Nat) : Prop :=
  ∃ o fs t1 t2 last ns, h.get? it = some o ∧ o.cls = .type "itertools.permutations" ∧ o.data = .fields fs ∧ fs.toList = .ref T :: .int st t1 :: .int (r : Nat) t2 :: last :: ns ∧ ns.map natOf = nums
theorem owner_perm : Manifest.owners.lookup (String.ofList ['s', 'n', 'o', 'i', 't', 'a', 't', 'u', 'm', 'r', 'e', 'p', '.', 's', 'l', 'o', 'o', 't', 'r', 'e', 't', 'i'].reverse) = some Manifest.sig_itertools_permutations := by kernel_rfl
theorem args_perm_next (a : Value) : argsOk "itertools.permutations.__next__" ⟨[a], []⟩ := by
  unfold argsOk; rw [signature?_of (id := "itertools.permutations.__next__") (n := ['_', '_', 't', 'x', 'e', 'n', '_', '_']) (o := ['s', 'n', 'o', 'i', 't', 'a', 't', 'u', 'm', 'r', 'e', 'p', '.', 's', 'l', 'o', 'o', 't', 'r', 'e', 't', 'i']) (by kernel_rfl) owner_perm]; kernel_rfl
theorem args_perm_iter (a : Value) : argsOk "itertools.permutations.__iter__" ⟨[a], []⟩ := by
  unfold argsOk; rw [signature?_of (id := "itertools.permutations.__iter__") (n := ['_', '_', 'r', 'e', 't', 'i', '_', '_']) (o := ['s', 'n', 'o', 'i', 't', 'a', 't', 'u', 'm', 'r', 'e', 'p', '.', 's', 'l', 'o', 'o', 't', 'r', 'e', 't', 'i']) (by kernel_rfl) owner_perm]; kernel_rfl
section
variable {prog : Program} {w : World} {A : Around} {E : Value → Shared → Prop} {s : Shared}
theorem wpAny_intField {it : Addr} {o : Obj} {vs : Array Value} {i : Nat} {n : Int} {t : Tok} {Q : Int → Shared → Prop} (ho : s.heap.get? it = some o) (hd : o.data = .fields vs) (hi : vs[i]? = some (.int n t)) (h : Q n s) :
    wpAny (model prog w) A (itIntField (.ref it) i) Q E s := by
  unfold itIntField
  exact wpAny_bind (wpAny_field ho hd hi (wpAny_pure h))
theorem wpAny_numbersFrom {it : Addr} {o : Obj} {vs : Array Value} {i : Nat} {Q : List Nat → Shared → Prop} (ho : s.heap.get? it = some o) (hd : o.data = .fields vs) (h : Q ((vs.toList.drop i).map natOf) s) :
    wpAny (model prog w) A (itNumbersFrom (.ref it) i) Q E s := by
  unfold itNumbersFrom
  refine wpAny_bind (wpAny_load ho ?_)
  rw [hd]
  exact wpAny_pure h
theorem wpAny_poolItems {T : Addr} {items : Array Value} {Q : Array Value → Shared → Prop} (hT : s.heap.IsTuple T items) (h : Q items s) : wpAny (model prog w) A (itPoolItems (.ref T)) Q E s := by
  obtain ⟨o, ho, _, n, hd⟩ := hT
  unfold itPoolItems
  exact wpAny_bind (wpAny_seqItems ho hd (wpAny_pure h))
/-- the tuple is handed out -/
theorem wpAny_permHand {it : Addr} {o : Obj} {fs : Array Value} {items : Array Value} {r : Nat} {ix : List Nat} {a b c d : Value} {ns : List Value} {Q : PySem.Fin → Shared → Prop} (ho : s.heap.get? it = some o) (hd : o.data = .fields fs) (hf : fs.toList = a :: b :: c :: d :: ns) (hr : ix.length ≤ sizeLine)
    (h : ∀ h' o' fs', h'.get? it = some o' → o'.cls = o.cls → o'.data = .fields fs' → fs'.toList = a :: b :: c :: .ref s.heap.objs.size :: ns → h'.get? s.heap.objs.size = some { cls := .type "tuple", data := .seq ((ix.take r).map fun i => items.getD i .none).toArray } →
      h'.objs.size = s.heap.objs.size + 1 → (∀ b o, b ≠ it → s.heap.get? b = some o → h'.get? b = some o) → Q (.done (.ret (.ref s.heap.objs.size))) { s with heap := h' }) :
    wpAny (model prog w) A (permHand (.ref it) items r ix) Q E s := by
  unfold permHand
  have hl : it < s.heap.objs.size := Heap.lt_size ho
  refine wpAny_bind (wpAny_newTuple ?_ (by rw [List.length_map, List.length_take]; omega))
  have ho1 := Heap.get?_push_of_some { cls := .type "tuple", data := .seq ((ix.take r).map fun i => items.getD i .none).toArray } ho
  have h3 : fs[3]? = some d := by rw [← Array.getElem?_toList, hf]; rfl
  have hz : 3 < fs.size := by rw [← Array.length_toList, hf]; simp
  refine wpAny_bind (wpAny_field (s := { s with heap := s.heap.push _ }) ho1 hd h3 ?_)
  refine wpAny_bind (wpAny_setField (s := { s with heap := s.heap.push _ }) ho1 hd hz (wpAny_bind (wpAny_letGo (wpAny_pure ?_))))
  refine h _ _ _ (Heap.get?_update_self _ ho1 (Obj.isFreed_of_fields (Obj.data_mapFields hd _))) (Obj.cls_mapFields ..) (Obj.data_mapFields hd _) (by rw [Array.toList_setIfInBounds, hf]; rfl) ?_ ?_ ?_
  · rw [Heap.get?_update_other _ _ (Nat.ne_of_lt hl)]; exact Heap.get?_push_size _ rfl
  · rw [Heap.size_update, Heap.size_push]
  · intro b o' hb hbo
    rw [Heap.get?_update_other _ _ (Ne.symm hb)]; exact Heap.get?_push_of_some _ hbo
end
end Dn

namespace Dn
open PySem PySem.Spec PyProof.Rows L2
open PySem.Builtin PySem.Builtin.Itertools
theorem PermAt.typeIs {s : Shared} {it T : Addr} {r : Nat} {st : Int} {nums : List Nat} (p : PermAt s.heap it T r st nums) : s.TypeIs (.ref it) "itertools.permutations" := by
  obtain ⟨o, fs, t1, t2, last, ns, ho, hc, _⟩ := p
  exact ⟨o, ho, hc⟩
section
variable {prog : Program} {w : World} {A : Around} {E : Value → Shared → Prop} {s : Shared} {it T : Addr} {items : Array Value} {r : Nat} {ix cy : List Nat}
/-- what a step hands out -/
def PermOut (s : Shared) (it T : Addr) (items : Array Value) (r : Nat) (ix cy : List Nat) (h' : Heap) : Prop :=
  PermAt h' it T r 1 (ix ++ cy) ∧ h'.get? s.heap.objs.size = some { cls := .type "tuple", data := .seq ((ix.take r).map fun i => items.getD i .none).toArray } ∧ h'.objs.size = s.heap.objs.size + 1 ∧ ∀ b o, b ≠ it → s.heap.get? b = some o → h'.get? b = some o
theorem mapNat_raw (l : List Nat) : (l.map fun (n : Nat) => (rawInt n : Value)).map natOf = l := by
  rw [List.map_map]
  conv => rhs; rw [← List.map_id l]
  exact List.map_congr_left fun a _ => by simp [natOf, rawInt]
theorem perm_next0 {Q : Option Value → Shared → Prop} (hT : s.heap.IsTuple T items) (hp : PermAt s.heap it T r 0 (ix ++ cy)) (hz : (ix ++ cy).length ≤ sizeLine) (hr : r ≤ ix.length)
    (hQ : ∀ h', PermOut s it T items r ix cy h' → Q (some (.ref s.heap.objs.size)) { s with heap := h' }) : wpAny (model prog w) A (pyNext (.ref it)) Q E s := by
  obtain ⟨o, fs, t1, t2, last, ns, ho, hc, hd, hf, hn⟩ := id hp
  unfold pyNext
  refine wpAny_bind (wpAny_attempt (wpAny_callSpecial?_slot (name := Str.ofString "__next__") hp.typeIs slot_perm_next
    (wpAny_call_entry slot_perm_next hp.typeIs entry_perm_next ?_ (args_perm_next _))))
  rw [perm_body]
  have g : ∀ i v, (Value.ref T :: .int 0 t1 :: .int (r : Nat) t2 :: last :: ns)[i]? = some v → fs[i]? = some v := fun i v h => by rw [← Array.getElem?_toList, hf]; exact h
  refine wpAny_bind (wpAny_field ho hd (g 0 (.ref T) rfl) (wpAny_bind (wpAny_poolItems hT ?_)))
  refine wpAny_bind (wpAny_intField ho hd (g 2 _ rfl) (wpAny_bind (wpAny_numbersFrom ho hd (wpAny_bind (wpAny_intField ho hd (g 1 _ rfl) ?_)))))
  have e4 : (fs.toList.drop 4).map natOf = ix ++ cy := by rw [hf]; exact hn
  rw [e4]
  have hz1 : 1 < fs.size := by rw [← Array.length_toList, hf]; simp
  show wpAny _ _ (setField (.ref it) 1 (rawInt 1) >>= fun _ => permHand (.ref it) items (Int.toNat (r : Int)) (ix ++ cy)) _ _ s
  rw [Int.toNat_natCast]
  refine wpAny_bind (wpAny_setField ho hd hz1 ?_)
  have ho1 := Heap.get?_update_self (Obj.mapFields (·.setIfInBounds 1 (rawInt 1))) ho (Obj.isFreed_of_fields (Obj.data_mapFields hd _))
  refine wpAny_permHand (s := { s with heap := s.heap.update it _ }) ho1 (Obj.data_mapFields hd _) (by rw [Array.toList_setIfInBounds, hf]; rfl) hz fun h' o' fs' q1 q2 q3 q4 q5 q6 q7 => ?_
  have hsz : (s.heap.update it (Obj.mapFields (·.setIfInBounds 1 (rawInt 1)))).objs.size = s.heap.objs.size := Heap.size_update ..
  refine ⟨_, rfl, wpAny_pure ?_⟩
  simp only [hsz] at q4 q5 q6 ⊢
  refine hQ h' ⟨⟨o', fs', 0, t2, _, ns, q1, q2.trans ((Obj.cls_mapFields ..).trans hc), q3, q4, hn⟩, ?_, q6, fun b ob hb hbo => q7 b ob hb (by show (s.heap.update it _).get? b = _; rw [Heap.get?_update_other _ _ (Ne.symm hb)]; exact hbo)⟩
  rw [q5, List.take_append_of_le_length hr]
theorem perm_next1 {ix' cy' : List Nat} {Q : Option Value → Shared → Prop} (hT : s.heap.IsTuple T items) (hp : PermAt s.heap it T r 1 (ix ++ cy)) (hl : ix.length = items.size) (hz : ix'.length + cy'.length ≤ sizeLine - 10) (he : nextPerm items.size r ix cy = some (ix', cy'))
    (hQ : ∀ h', PermOut s it T items r ix' cy' h' → Q (some (.ref s.heap.objs.size)) { s with heap := h' }) : wpAny (model prog w) A (pyNext (.ref it)) Q E s := by
  obtain ⟨o, fs, t1, t2, last, ns, ho, hc, hd, hf, hn⟩ := id hp
  unfold pyNext
  refine wpAny_bind (wpAny_attempt (wpAny_callSpecial?_slot (name := Str.ofString "__next__") hp.typeIs slot_perm_next
    (wpAny_call_entry slot_perm_next hp.typeIs entry_perm_next ?_ (args_perm_next _))))
  rw [perm_body]
  have g : ∀ i v, (Value.ref T :: .int 1 t1 :: .int (r : Nat) t2 :: last :: ns)[i]? = some v → fs[i]? = some v := fun i v h => by rw [← Array.getElem?_toList, hf]; exact h
  refine wpAny_bind (wpAny_field ho hd (g 0 (.ref T) rfl) (wpAny_bind (wpAny_poolItems hT ?_)))
  refine wpAny_bind (wpAny_intField ho hd (g 2 _ rfl) (wpAny_bind (wpAny_numbersFrom ho hd (wpAny_bind (wpAny_intField ho hd (g 1 _ rfl) ?_)))))
  have e4 : (fs.toList.drop 4).map natOf = ix ++ cy := by rw [hf]; exact hn
  rw [e4]
  dsimp only
  rw [Int.toNat_natCast, ← hl, List.take_left, List.drop_left, hl, he]
  dsimp only
  unfold itSetNumbersFrom
  have sz : (fs.extract 0 4 ++ (List.map (fun (n : Nat) => (rawInt n : Value)) (ix' ++ cy')).toArray).size ≤ sizeLine + 3 := by
    have hb : 10 ≤ sizeLine := by decide
    simp only [Array.size_append, Array.size_extract, List.size_toArray, List.length_map, List.length_append]
    omega
  refine wpAny_bind (wpAny_updateFields ho hd ?_ sz)
  have ho1 := Heap.get?_update_self (Obj.mapFields (fun fs => fs.extract 0 4 ++ (List.map (fun (n : Nat) => (rawInt n : Value)) (ix' ++ cy')).toArray)) ho (Obj.isFreed_of_fields (Obj.data_mapFields hd _))
  have ef : (fs.extract 0 4 ++ (List.map (fun (n : Nat) => (rawInt n : Value)) (ix' ++ cy')).toArray).toList = .ref T :: .int 1 t1 :: .int (r : Nat) t2 :: last :: List.map (fun (n : Nat) => (rawInt n : Value)) (ix' ++ cy') := by
    simp [Array.toList_append, Array.toList_extract, hf]
  refine wpAny_permHand (s := { s with heap := s.heap.update it _ }) ho1 (Obj.data_mapFields hd _) ef (by omega) fun h' o' fs' q1 q2 q3 q4 q5 q6 q7 => ?_
  have hsz : (s.heap.update it (Obj.mapFields (fun fs => fs.extract 0 4 ++ (List.map (fun (n : Nat) => (rawInt n : Value)) (ix' ++ cy')).toArray))).objs.size = s.heap.objs.size := Heap.size_update ..
  refine ⟨_, rfl, wpAny_pure ?_⟩
  simp only [hsz] at q4 q5 q6 ⊢
  exact hQ h' ⟨⟨o', fs', t1, t2, _, _, q1, q2.trans ((Obj.cls_mapFields ..).trans hc), q3, q4, mapNat_raw _⟩, q5, q6, fun b ob hb hbo => q7 b ob hb (by show (s.heap.update it _).get? b = _; rw [Heap.get?_update_other _ _ (Ne.symm hb)]; exact hbo)⟩
theorem perm_end {Q : Option Value → Shared → Prop} (hh : A.handled = none) (hT : s.heap.IsTuple T items) (hp : PermAt s.heap it T r 1 (ix ++ cy)) (hl : ix.length = items.size) (he : nextPerm items.size r ix cy = none)
    (hQ : ∀ h', Heap.ExtBut it s.heap h' → Q none { s with heap := h' }) : wpAny (model prog w) A (pyNext (.ref it)) Q E s := by
  obtain ⟨o, fs, t1, t2, last, ns, ho, hc, hd, hf, hn⟩ := id hp
  unfold pyNext
  refine wpAny_bind (wpAny_attempt (wpAny_callSpecial?_slot (name := Str.ofString "__next__") hp.typeIs slot_perm_next
    (wpAny_call_entry slot_perm_next hp.typeIs entry_perm_next ?_ (args_perm_next _))))
  rw [perm_body]
  have g : ∀ i v, (Value.ref T :: .int 1 t1 :: .int (r : Nat) t2 :: last :: ns)[i]? = some v → fs[i]? = some v := fun i v h => by rw [← Array.getElem?_toList, hf]; exact h
  refine wpAny_bind (wpAny_field ho hd (g 0 (.ref T) rfl) (wpAny_bind (wpAny_poolItems hT ?_)))
  refine wpAny_bind (wpAny_intField ho hd (g 2 _ rfl) (wpAny_bind (wpAny_numbersFrom ho hd (wpAny_bind (wpAny_intField ho hd (g 1 _ rfl) ?_)))))
  have e4 : (fs.toList.drop 4).map natOf = ix ++ cy := by rw [hf]; exact hn
  rw [e4]
  dsimp only
  rw [Int.toNat_natCast, ← hl, List.take_left, List.drop_left, hl, he]
  dsimp only
  have hz1 : 1 < fs.size := by rw [← Array.length_toList, hf]; simp
  refine wpAny_bind (wpAny_setField ho hd hz1 ?_)
  unfold itStop
  refine wpAny_bind ?_
  simp only [newExc, newTuple]
  refine wpAny_bind (wpAny_newObj_type ?_ (by size_fits))
  refine wpAny_bind (m := firstArgMember _ _) (wpAny_of_eq (a := Value.none) (by first | rfl | (simp only [firstArgMember]; rfl)) ?_)
  refine wpAny_newObj_type ?_ (by size_fits)
  simp only [raiseNew]
  refine wpAny_bind (wpAny_handled ?_)
  first | rw [show A.in1.handled = none from hh] | rw [hh]
  refine wpAny_bind (wpAny_pure (wpAny_throw ?_))
  refine wpAny_bind (wpAny_isInstance (T := "StopIteration") (b := true) ⟨_, Heap.get?_push_size _ rfl, rfl⟩ isSubtype_stop ?_)
  exact wpAny_pure (hQ _ (((Heap.SameBut.update ..).extBut.push _).push _))
theorem wpAny_pyIter_perm {Q : Value → Shared → Prop} {st : Int} {nums : List Nat} (hp : PermAt s.heap it T r st nums) (h : Q (.ref it) s) : wpAny (model prog w) A (pyIter (.ref it)) Q E s := by
  refine wpAny_pyIter_slot hp.typeIs slot_perm_iter (wpAny_call_entry slot_perm_iter hp.typeIs entry_perm_iter ?_ (args_perm_iter _))
  show wpAny _ _ (ret (.ref it)) _ _ s
  exact wpAny_pure ⟨_, rfl, "itertools.permutations", _, hp.typeIs, slot_perm_next.lookup, h⟩
end
end Dn

namespace Dn
open PySem PySem.Spec PyProof.Rows L2
open PySem.Builtin PySem.Builtin.Itertools
theorem sub_perm : isSubtype (.type "itertools.permutations") (.type "itertools.permutations") = pure true := by rw [isSubtype_type]; kernel_rfl
theorem plain_perm_new : plainId "itertools.permutations.__new__" = true := by decide +kernel
def permRec (T : Value) (n r : Nat) : List Value := [T, rawInt (if r > n then 2 else 0), rawInt r, .none] ++ (List.range n).map (fun (i : Nat) => rawInt i) ++ (List.range r).map fun (i : Nat) => rawInt ((n : Int) - i)
theorem classRest_perm {prog : Program} {w : World} {A : Around} {E : Value → Shared → Prop} {s : Shared} {vs : List Value} {kw : List (Str × Value)} {Q : Value × List Value → Shared → Prop} (h : Q (.type "itertools.permutations", vs) s) :
    wpAny (model prog w) A (itClassAndRest "permutations" ⟨.type "itertools.permutations" :: vs, kw⟩) Q E s := by
  unfold itClassAndRest
  have e : "itertools." ++ "permutations" = "itertools.permutations" := by decide +kernel
  dsimp only
  rw [e]
  refine wpAny_bind (wpAny_of_eq (a := true) (by first | rfl | kernel_rfl) ?_)
  refine wpAny_bind (wpAny_of_eq sub_perm ?_)
  exact wpAny_pure h
theorem bindNamed_perm1 (v : Value) : itBindNamed "permutations" ["iterable", "r"] 1 2 [v] [] = pure [some v, none] := by
  first | rfl | kernel_rfl
theorem typeNoDict_perm : typeHasDict (.type "itertools.permutations") = false := by first | rfl | decide +kernel | kernel_rfl
section
variable {prog : Program} {w : World} {A : Around} {E : Value → Shared → Prop} {s : Shared} {r : Addr}
/-- the iterable at r can be taken: its items -/
def CanCollect (prog : Program) (w : World) (s : Shared) (r : Addr) (IT : List Value → Prop) : Prop :=
  ∀ (A : Around) (Q' : List Value → Shared → Prop) (E' : Value → Shared → Prop), A.handled = none → (∀ h' tk vs, (∀ b o, s.heap.get? b = some o → h'.get? b = some o) → IT vs → Q' vs { s with heap := h', toks := tk }) → wpAny (model prog w) A (collect (.ref r)) Q' E' s
theorem code_perm_new {IT : List Value → Prop} {Q₁ : Value → Shared → Prop} (hh : A.handled = none) (hc : CanCollect prog w s r IT) (hz : ∀ vs, IT vs → 2 * vs.length + 10 ≤ sizeLine ∧ vs.length ≤ 2 ^ 20)
    (h : ∀ (h' : Heap) tk vs, (∀ b o, s.heap.get? b = some o → h'.get? b = some o) → IT vs →
      Q₁ (.ref (h'.objs.size + 1)) { s with heap := (h'.push { cls := .type "tuple", data := .seq vs.toArray }).push { cls := .type "itertools.permutations", data := .fields (permRec (.ref h'.objs.size) vs.length vs.length).toArray }, toks := tk }) :
    codeAny (model prog w) A (.call (.builtin "itertools.permutations.__new__") ⟨[.type "itertools.permutations", .ref r], []⟩) (wants Q₁ E) s := by
  refine codeAny_of_tree ?_
  show wpAny _ A.in1 (do checkBuiltinCall "itertools.permutations.__new__" ⟨[.type "itertools.permutations", .ref r], []⟩; again (.builtin "itertools.permutations.__new__" ⟨[.type "itertools.permutations", .ref r], []⟩)) _ _ s
  refine wpAny_bind (wpAny_of_eq (newCall_perm_1 _) (wpAny_pure ⟨plainId_quiet plain_perm_new _, codeAny_builtin entry_perm_new ?_⟩))
  rw [Around.under_plainId plain_perm_new _]
  unfold Builtin.«itertools.permutations.__new__»
  refine wpAny_bind (classRest_perm ?_)
  dsimp only
  refine wpAny_bind (wpAny_of_eq (bindNamed_perm1 _) ?_)
  dsimp only
  refine wpAny_bind (hc _ _ _ hh fun h' tk vs hk hi => ?_)
  obtain ⟨z1, z2⟩ := hz vs hi
  refine wpAny_bind (wpAny_pure ?_)
  rw [if_neg (by omega)]
  have ht : itTooMany (vs.length : Int) = false := by
    unfold itTooMany; exact decide_eq_false (by omega)
  rw [ht]
  simp only [Bool.false_eq_true, if_false, Int.toNat_natCast]
  refine wpAny_bind (wpAny_newTuple ?_ (by omega))
  refine wpAny_bind ?_
  unfold itNewRecord
  rw [typeNoDict_perm]
  simp only [Bool.not_false, if_true]
  have q := h h' tk vs hk hi
  rw [show h'.objs.size + 1 = (h'.push { cls := .type "tuple", data := .seq vs.toArray }).objs.size from (Heap.size_push ..).symm] at q
  refine wpAny_newObj_type ?_ (by show Array.size _ ≤ _; simp; omega)
  exact wpAny_pure q
theorem call_perm {IT : List Value → Prop} {Q : Value → Shared → Prop} (hh : A.handled = none) (hc : CanCollect prog w s r IT) (hz : ∀ vs, IT vs → 2 * vs.length + 10 ≤ sizeLine ∧ vs.length ≤ 2 ^ 20)
    (h : ∀ (h' : Heap) tk vs, (∀ b o, s.heap.get? b = some o → h'.get? b = some o) → IT vs →
      Q (.ref (h'.objs.size + 1)) { s with heap := (h'.push { cls := .type "tuple", data := .seq vs.toArray }).push { cls := .type "itertools.permutations", data := .fields (permRec (.ref h'.objs.size) vs.length vs.length).toArray }, toks := tk }) :
    wpAny (model prog w) A (call (.type "itertools.permutations") [.ref r]) Q E s := by
  refine callType_codes (Q₁ := fun obj s₁ => s₁.TypeIs obj "itertools.permutations" ∧ Q obj s₁) called_perm (typeCall_perm_1 _) F.entry_object_init
    (code_perm_new (A := A.in1) hh hc hz fun h' tk vs hk hi => ⟨?_, h h' tk vs hk hi⟩) fun obj s₁ h₁ => ?_
  · refine ⟨{ cls := .type "itertools.permutations", data := .fields (permRec (.ref h'.objs.size) vs.length vs.length).toArray }, ?_, rfl⟩
    have := Heap.get?_push_size (h'.push { cls := .type "tuple", data := .seq vs.toArray }) (o := { cls := .type "itertools.permutations", data := .fields (permRec (.ref h'.objs.size) vs.length vs.length).toArray }) rfl
    rw [Heap.size_push] at this
    exact this
  · exact ⟨h₁.1, F.args_object_init_2 obj _, object_init_meets called_perm.init.lookup called_perm.made (by decide) prog w A.in1 _ s₁ ⟨h₁.1, rfl, h₁.2⟩⟩
end
end Dn

namespace Dn
open PySem PySem.Spec PyProof.Rows L2
open PySem.Builtin PySem.Builtin.Itertools
theorem nextPerm_len {n : Nat} : ∀ (i : Nat) (ix cy ix' cy' : List Nat), i ≤ ix.length → nextPerm n i ix cy = some (ix', cy') → ix'.length = ix.length ∧ cy'.length = cy.length
  | 0, _, _, _, _, _, h => by cases h
  | i + 1, ix, cy, ix', cy', hi, h => by
    unfold nextPerm at h
    dsimp only at h
    split at h
    · have := nextPerm_len i _ _ _ _ (by simp; omega) h
      simp at this
      omega
    · cases h; simp
/-- the numbers behind i steps -/
def permSt (n r : Nat) : Nat → Option (List Nat × List Nat)
  | 0 => some (List.range n, (List.range r).map fun i => n - i)
  | i + 1 => (permSt n r i).bind fun p => nextPerm n r p.1 p.2
theorem permSt_len {n r : Nat} (hr : r ≤ n) : ∀ (i : Nat) (p : List Nat × List Nat), permSt n r i = some p → p.1.length = n ∧ p.2.length = r
  | 0, p, h => by cases h; simp
  | i + 1, p, h => by
    obtain ⟨q, h1, h2⟩ := Option.bind_eq_some_iff.mp h
    obtain ⟨e1, e2⟩ := permSt_len hr i q h1
    obtain ⟨a, b⟩ := p
    have := nextPerm_len r q.1 q.2 a b (by omega) h2
    simp; omega
def pickV (vs : List V) (r : Nat) (ix : List Nat) : List V := (ix.take r).map fun i => vs.getD i .non
def ItPerm (vs : List V) (r : Nat) : It :=
  ⟨fun i H => (permSt vs.length r i).isSome, fun i H v H' => ∃ q p, permSt vs.length r i = some p ∧ v = .ref q ∧ H q = none ∧ H' = upd H q (.tup (pickV vs r p.1)), fun i H => permSt vs.length r i = none⟩
theorem vals_pick {vs : List V} {us : List Value} (h : Vals vs us) (r : Nat) (ix : List Nat) : Vals (pickV vs r ix) ((ix.take r).map fun i => us.toArray.getD i .none) := by
  unfold pickV
  induction ix.take r with
  | nil => exact .nil
  | cons i l ih =>
    refine .cons ?_ ih
    have e : us.toArray.getD i .none = us.getD i .none := by simp [Array.getD_eq_getD_getElem?, List.getD_eq_getElem?_getD]
    show RelV (vs.getD i .non) (us.toArray.getD i .none)
    rw [e, List.getD_eq_getElem?_getD, List.getD_eq_getElem?_getD]
    cases q : vs[i]? with
    | none =>
      have : us[i]? = none := by
        have h1 := h.length
        have := List.getElem?_eq_none_iff.mp q
        exact List.getElem?_eq_none_iff.mpr (by omega)
      rw [this]; rfl
    | some x =>
      obtain ⟨u, h1, h2⟩ := h.get q
      rw [h1]; exact h2
def PermTn (T it : Addr) (us : List Value) (r : Nat) (i : Nat) (h : Heap) : Prop :=
  it ≠ T ∧ (∃ c, h.get? T = some { cls := .type "tuple", data := .seq us.toArray c }) ∧ ((i = 0 ∧ PermAt h it T r 0 (List.range us.length ++ (List.range r).map fun i => us.length - i)) ∨ ∃ j p, i = j + 1 ∧ permSt us.length r j = some p ∧ PermAt h it T r 1 (p.1 ++ p.2))
theorem turn_perm {P : Program} {w : World} {K : PySem.W.Frag} {tg : Expr} {T it : Addr} {vs : List V} {us : List Value} {r : Nat} (hv : Vals vs us) (hr : r ≤ vs.length) (hz : vs.length + r ≤ sizeLine - 10) :
    Turn P w K tg (ItPerm vs r) [it, T] it (PermTn T it us r) where
  mem := by simp
  obj := fun i h ⟨hne, ⟨c, hT⟩, st⟩ b hb => by
    have e' : b = it ∨ b = T := by simpa using hb
    rcases e' with z | z
    · rw [z]
      rcases st with ⟨_, o, fs, t1, t2, last, ns, ho, hc, hd, _⟩ | ⟨j, p, _, _, o, fs, t1, t2, last, ns, ho, hc, hd, _⟩ <;> exact ⟨o, ho, fun v q => by rw [hd] at q; cases q⟩
    · rw [z]; exact ⟨_, hT, fun v q => nomatch q⟩
  keep := fun i h h' ⟨hne, ⟨c, hT⟩, st⟩ k => by
    refine ⟨hne, ⟨c, k T (by simp) _ hT⟩, ?_⟩
    rcases st with ⟨e, o, fs, t1, t2, last, ns, ho, hx⟩ | ⟨j, p, e, e1, o, fs, t1, t2, last, ns, ho, hx⟩
    · exact .inl ⟨e, o, fs, t1, t2, last, ns, k it (by simp) _ ho, hx⟩
    · exact .inr ⟨j, p, e, e1, o, fs, t1, t2, last, ns, k it (by simp) _ ho, hx⟩
  item := by
    intro X hP hw hK hc i pins s σ H E I hf st hg
    subst hP hw hK
    obtain ⟨hne, ⟨c, hT⟩, st⟩ := st
    have hl := hv.length
    have hTT : s.heap.IsTuple T us.toArray := ⟨_, hT, rfl, c, rfl⟩
    obtain ⟨p, hp⟩ := Option.isSome_iff_exists.mp hg
    obtain ⟨l1, l2⟩ := permSt_len hr i p hp
    have key : ∀ h', PermOut s it T us.toArray r p.1 p.2 h' → ∃ u, (some (Value.ref s.heap.objs.size)) = some u ∧
        wpAny (model X.prog X.w) X.A (letOwnedTupleGo tg (.ref it) u) (fun _ s2 => ∃ x H', Inv X pins σ H' s2 ∧ RelV x u ∧ (ItPerm vs r).yld i H x H' ∧ PermTn T it us r (i + 1) s2.heap ∧ ∀ b ∈ [it, T], H' b = none) E { s with heap := h' } := by
      intro h' ⟨pa, ht, hsz, hk⟩
      obtain ⟨o, fs, t1, t2, last, ns, ho, hcl, hd, hx⟩ := id pa
      have hTl : T < s.heap.objs.size := Heap.lt_size hT
      have hil : it < s.heap.objs.size := by
        have := Heap.lt_size ho
        rw [hsz] at this
        rcases Nat.lt_succ_iff_lt_or_eq.mp this with z | z
        · exact z
        · rw [z, ht] at ho; cases ho; exact absurd hcl (by simp)
      have new : ObjOk X.prog X.w (upd H s.heap.objs.size (.tup (pickV vs r p.1))) h' s.heap.objs.size (.tup (pickV vs r p.1)) := by
        refine ⟨by unfold pickV; rw [List.length_map, List.length_take]; omega, _, vals_pick hv r p.1, ?_⟩
        exact ⟨_, ht, rfl, _, rfl⟩
      have I1 : Inv X pins σ (upd H s.heap.objs.size (.tup (pickV vs r p.1))) { s with heap := h', toks := s.toks } :=
        I.turnedNew (ch := [it, T]) (fun b ob hb q => hk b ob (fun z => hb (by simp [z])) q) hf (Nat.le_refl _) new
      refine ⟨_, rfl, go_of (s := { s with heap := h' }) (n := "itertools.permutations") ho hcl hd (by decide) ⟨.ref s.heap.objs.size, _, I1, rfl, ⟨_, p, hp, rfl, I.hok.fresh (Nat.le_refl _), rfl⟩, ⟨hne, ⟨c, hk T _ (Ne.symm hne) hT⟩, .inr ⟨i, p, rfl, hl ▸ hp, pa⟩⟩, fun b hb => ?_⟩⟩
      have hb' : b < s.heap.objs.size := by
        have e' : b = it ∨ b = T := by simpa using hb
        rcases e' with z | z
        · rw [z]; exact hil
        · rw [z]; exact hTl
      rw [upd_ne (Nat.ne_of_lt hb')]
      exact (hf b hb).1
    rcases st with ⟨e, pa⟩ | ⟨j, q, e, hq, pa⟩
    · subst e
      cases hp
      refine perm_next0 hTT (hl ▸ pa) (by simp; omega) (by simp; exact hr) fun h' ho => key h' (by simpa [hl] using ho)
    · subst e
      obtain ⟨m1, m2⟩ := permSt_len hr j q (hl ▸ hq)
      have he : nextPerm us.toArray.size r q.1 q.2 = some (p.1, p.2) := by
        have := hp
        rw [permSt, hl, hq] at this
        simpa using this
      exact perm_next1 hTT pa (by simp; omega) (by omega) he fun h' ho => key h' ho
  done := by
    intro X hP hw hK hc i pins s σ H E I hf st hg
    subst hP hw hK
    obtain ⟨hne, ⟨c, hT⟩, st⟩ := st
    have hl := hv.length
    have hTT : s.heap.IsTuple T us.toArray := ⟨_, hT, rfl, c, rfl⟩
    have hg' : permSt vs.length r i = none := hg
    rcases st with ⟨e, pa⟩ | ⟨j, q, e, hq, pa⟩
    · subst e; cases hg'
    · subst e
      obtain ⟨m1, m2⟩ := permSt_len hr j q (hl ▸ hq)
      have he : nextPerm us.toArray.size r q.1 q.2 = none := by
        rw [permSt, hl, hq] at hg'
        simpa using hg'
      obtain ⟨f0, f1, f2, f3, f4, f5⟩ := hf it (by simp)
      exact perm_end (I.ok.hd hc) hTT pa (by simp; omega) he fun h' eb => ⟨rfl, I.turned (t' := s.toks) (fun b o hb e => eb b o hb e) f0 f1 f3 f4 f5⟩
  self := fun _ _ _ _ _ st h => by
    obtain ⟨hne, hT, st⟩ := st
    rcases st with ⟨_, pa⟩ | ⟨_, _, _, _, pa⟩ <;> exact wpAny_pyIter_perm pa h
end Dn

namespace Dn
open PySem PySem.Spec PyProof.Rows L2
open PySem.Builtin PySem.Builtin.Itertools
/-! ### range objects as values -/
section
variable {G : Gx} {W : WX} {k : Nat}
def dRange1 : D → Option D
  | .int i => some (.rng 0 i)
  | _ => none
def dRange2 := int2 fun i j => some (.rng i j)
abbrev rRange1 : List V → Hp → VK → Prop := fun vs H Q => ∃ i, vs = [V.int i] ∧ ∀ p, H p = none → Q (.ref p) (upd H p (.rng 0 i))
abbrev rRange2 : List V → Hp → VK → Prop := fun vs H Q => ∃ i j, vs = [V.int i, V.int j] ∧ ∀ p, H p = none → Q (.ref p) (upd H p (.rng i j))
theorem cr_range1 {X : Cx} : CallR X (.type "range") rRange1 := by
  intro pins s σ H vs us Q I r h
  obtain ⟨i, rfl, q⟩ := h
  obtain ⟨u1, rfl, ri⟩ := vals1 r
  obtain ⟨t, rfl⟩ := ri
  refine call_range_1 ⟨.ref s.heap.objs.size, upd H s.heap.objs.size (.rng 0 i), I.laid (t' := s.toks + 2) (fun b o e => Heap.get?_push_of_some _ e) (Nat.le_refl _) ?_, rfl, q _ (I.hok.fresh (Nat.le_refl _))⟩
  exact ⟨_, _, _, Heap.get?_push_size _ rfl⟩
theorem c_range1 {X : Cx} (c : Ctx G X W k) : CallR X (.type "range") rRange1 := cr_range1
theorem c_range2 {X : Cx} (c : Ctx G X W k) : CallR X (.type "range") rRange2 := cr_range2
theorem rep_rng {F : Fr} {H : Hp} (i : F.In G H) {a b : Int} {d : D} {Q : VK} (h : ∀ v F' H', Grow G F H F' H' → Rep G F' (.rng a b) v → Q v H') : ∀ p, H p = none → Q (.ref p) (upd H p (.rng a b)) := by
  intro p hp
  exact h (.ref p) _ _ (Grow.lay (o := .rng a b) i hp) (by rw [Rep]; exact ⟨p, rfl, upd_same⟩)
theorem vc_range1 : VC G rRange1 (on1 dRange1) := fun F H xs ds d Q i r e q => by
  obtain ⟨x, rfl, e1⟩ := on1_some e
  obtain ⟨y, ys, rfl, r1, r2⟩ := r
  cases r2
  cases x with
  | int z =>
    cases e1
    rw [Rep] at r1; subst r1
    exact ⟨z, rfl, rep_rng (d := .non) i q⟩
  | _ => cases e1
theorem vc_range2 : VC G rRange2 (on2 dRange2) := fun F H xs ds d Q i r e q => by
  obtain ⟨x, y, rfl, e1⟩ := on2_some e
  obtain ⟨x1, xs1, rfl, r1, y1, ys1, rfl, r2, r3⟩ := r
  cases r3
  cases x with
  | int a =>
    cases y with
    | int b =>
      cases e1
      rw [Rep] at r1 r2; subst r1; subst r2
      exact ⟨a, b, rfl, rep_rng (d := .non) i q⟩
    | _ => cases e1
  | _ => cases y <;> cases e1
end
theorem RepL.rng {G : Gx} {F : Fr} {a b : Int} : RepL G F (rngD a (b - a).toNat) (rgV a b) := by
  unfold rngD rgV
  generalize List.range (b - a).toNat = l
  induction l with
  | nil => simp [RepL]
  | cons x l ih => rw [List.map_cons, List.map_cons, RepL]; exact ⟨_, _, rfl, by simp [Rep], ih⟩
/-! ### permutations -/
def permGo (n r : Nat) : Nat → List Nat × List Nat → Option (List (List Nat))
  | 0, _ => none
  | f + 1, p => match nextPerm n r p.1 p.2 with
    | none => some [p.1]
    | some q => (permGo n r f q).map (p.1 :: ·)
def permL (n r : Nat) : Option (List (List Nat)) := permGo n r 6000 (List.range n, (List.range r).map fun i => n - i)
theorem permGo_st {n r : Nat} : ∀ (f i : Nat) (p : List Nat × List Nat) (L : List (List Nat)), permSt n r i = some p → permGo n r f p = some L → permSt n r (i + L.length) = none ∧ ∀ j ix, L[j]? = some ix → ∃ q, permSt n r (i + j) = some q ∧ q.1 = ix
  | 0, _, _, _, _, h => by cases h
  | f + 1, i, p, L, hp, h => by
    unfold permGo at h
    cases e : nextPerm n r p.1 p.2 with
    | none =>
      rw [e] at h; cases h
      refine ⟨by show (permSt n r i).bind _ = none; rw [hp]; exact e, fun j ix hj => ?_⟩
      cases j with
      | zero => simp at hj; exact ⟨p, hp, hj⟩
      | succ j => simp at hj
    | some q =>
      rw [e] at h
      obtain ⟨L', h1, rfl⟩ := Option.map_eq_some_iff.mp h
      have hq : permSt n r (i + 1) = some q := by show (permSt n r i).bind _ = some q; rw [hp]; exact e
      obtain ⟨a, b⟩ := permGo_st f (i + 1) q L' hq h1
      refine ⟨by rw [List.length_cons, show i + (L'.length + 1) = i + 1 + L'.length by omega]; exact a, fun j ix hj => ?_⟩
      cases j with
      | zero => simp at hj; exact ⟨p, hp, hj⟩
      | succ j => rw [show i + (j + 1) = i + 1 + j by omega]; exact b j ix (by simpa using hj)
def YTup (f : Nat → Option (List V)) : Nat → Hp → V → Hp → Prop := fun i H v H' => ∃ q xs, f i = some xs ∧ v = .ref q ∧ H q = none ∧ H' = upd H q (.tup xs)
theorem walk_perm {vs : List V} {r : Nat} {L : List (List Nat)} (h : permL vs.length r = some L) : Walk (ItPerm vs r) L.length (fun _ => True) (YTup fun i => (L[i]?).map (pickV vs r)) := by
  obtain ⟨a, b⟩ := permGo_st 6000 0 _ L rfl h
  rw [Nat.zero_add] at a
  refine ⟨fun i _ hi _ => ?_, fun _ _ => a, fun i H v H' hi _ y => ?_⟩
  · obtain ⟨q, h1, h2⟩ := b i L[i] (by simp [hi])
    rw [Nat.zero_add] at h1
    show (permSt vs.length r i).isSome = true
    rw [h1]; rfl
  · obtain ⟨q, p, h1, h2, h3, h4⟩ := y
    obtain ⟨p', h5, h6⟩ := b i L[i] (by simp [hi])
    rw [Nat.zero_add, h1] at h5
    cases h5
    exact ⟨q, _, by simp [hi, h6], h2, h3, h4⟩
/-- the items of what a value walks over -/
def itemsR : D → Option (List D)
  | .tup ds => some ds
  | .lst ds => some ds
  | .scr ns => some (ns.map .int)
  | .rng a b => if -(2 ^ 62) ≤ a ∧ a < 2 ^ 62 ∧ -(2 ^ 62) ≤ b ∧ b < 2 ^ 62 ∧ (b - a).toNat ≤ 1000 then some (rngD a (b - a).toNat) else none
  | _ => none
section
variable {G : Gx} {X : Cx} {pins : List (Addr × Obj)} {σ : L2.St} {H : Hp} {s : Shared}
theorem can_of {F : Fr} {d : D} {y : V} {ds : List D} (I : Inv X pins σ H s) (hK : X.K = G.K) (i : F.In G H) (r : Rep G F d y) (h : itemsR d = some ds) :
    ∃ a vs, y = .ref a ∧ RepL G F ds vs ∧ CanCollect X.prog X.w s a (fun us => Vals vs us) := by
  have seq : ∀ {a : Addr} {xs : List V}, (∃ T, (T = "list" ∨ T = "tuple") ∧ ∃ its o n, Vals xs its ∧ s.heap.get? a = some o ∧ o.cls = .type T ∧ o.data = .seq (List.toArray its) n ∧ xs.length ≤ sizeLine) → CanCollect X.prog X.w s a (fun us => Vals xs us) := by
    rintro a xs ⟨T, hT, its, o, n, hv, ho, hc, hd, hz⟩ A Q' E' hh q
    have := hv.length
    exact wpAny_collect_seq a hT ho hc hd (fun h' hk => q h' s.toks its hk hv) (by simp; omega)
  cases d with
  | tup es =>
    cases h
    rw [Rep] at r
    obtain ⟨a, xs, rfl, h1, h2⟩ := r
    obtain ⟨its, rv, ⟨o, ho, hc, n, hd⟩, hz⟩ := I.tuple (hK ▸ i.seqT h1)
    exact ⟨a, xs, rfl, h2, seq ⟨"tuple", .inr rfl, its, o, n, rv, ho, hc, hd, hz⟩⟩
  | lst es =>
    cases h
    rw [Rep] at r
    obtain ⟨a, xs, rfl, h1, h2⟩ := r
    obtain ⟨its, rv, ⟨o, n, ho, hc, _, hd⟩, hz⟩ := I.list (SqL.of (i.fx _ _ h1))
    exact ⟨a, xs, rfl, h2, seq ⟨"list", .inl rfl, its, o, n, rv, ho, hc, hd, hz⟩⟩
  | scr ns =>
    cases h
    rw [Rep] at r
    obtain ⟨a, rfl, h1⟩ := r
    obtain ⟨its, rv, ⟨o, n, ho, hc, _, hd⟩, hz⟩ := I.list (hK ▸ i.seqL h1)
    exact ⟨a, _, rfl, RepL.ints, seq ⟨"list", .inl rfl, its, o, n, rv, ho, hc, hd, hz⟩⟩
  | rng lo hi =>
    rw [itemsR] at h
    split at h
    · rename_i hb
      cases h
      obtain ⟨b1, b2, b3, b4, b5⟩ := hb
      rw [Rep] at r
      obtain ⟨a, rfl, h1⟩ := r
      obtain ⟨t, u, v, hr⟩ := I.hok a _ (i.fx _ _ h1)
      refine ⟨a, rgV lo hi, rfl, ?_, fun A Q' E' hh q => ?_⟩
      · exact RepL.rng
      · exact collect_range (n := (hi - lo).toNat) hh hr (small_one b1 b2 b3 b4) (rangeSize_nat lo hi) (by omega) fun h' tk acc hk hi' => q h' tk _ hk (vals_rg hi')
    · cases h
  | _ => cases h
end
section
variable {G : Gx} {X : Cx} {m : Nat → Mode} {n : Nat} {W : WX} {k : Nat} {a tg : Expr} {fa : ED} {p pos : Pos}
def pickD (ds : List D) (r : Nat) (ix : List Nat) : D := .tup ((ix.take r).map fun i => ds.getD i .non)
theorem RepL.pick {F : Fr} {ds : List D} {vs : List V} (r : RepL G F ds vs) (k : Nat) (ix : List Nat) : RepL G F ((ix.take k).map fun i => ds.getD i .non) (pickV vs k ix) := by
  unfold pickV
  induction ix.take k with
  | nil => simp [RepL]
  | cons i l ih =>
    rw [List.map_cons, List.map_cons, RepL]
    refine ⟨_, _, rfl, ?_, ih⟩
    rw [List.getD_eq_getElem?_getD, List.getD_eq_getElem?_getD]
    cases q : vs[i]? with
    | none =>
      have h1 := r.length
      have := List.getElem?_eq_none_iff.mp q
      rw [List.getElem?_eq_none_iff.mpr (by omega)]
      simp [Rep]
    | some x =>
      obtain ⟨d, h1, h2⟩ := r.get' q
      rw [h1]; exact h2
/-- the orders of what a value walks over -/
def iPerm (fa : ED) : ID := fun ρ => (fa ρ).bind fun d ρ1 => match itemsR d with
  | some ds => (match permL ds.length ds.length with
    | some L => if ds.length ≤ 1000 then .ok (L.map (pickD ds ds.length)) ρ1 else .bad
    | none => .bad)
  | none => .bad
theorem YTup_ok {F : Fr} {ds : List D} {vs : List V} {r : Nat} {L : List (List Nat)} (rp : RepL G F ds vs) (hz : vs.length ≤ 1000) : ∀ i H F1 x H', Ext F F1 → F1.In G H → i < (L.map (pickD ds r)).length → YTup (fun i => (L[i]?).map (pickV vs r)) i H x H' → ∃ F2 d, (L.map (pickD ds r))[i]? = some d ∧ Grow G F1 H F2 H' ∧ Rep G F2 d x := by
  rintro i H F1 x H' hx inn hi ⟨q, xs, h1, rfl, h3, rfl⟩
  obtain ⟨ix, h4, rfl⟩ := Option.map_eq_some_iff.mp h1
  refine ⟨_, pickD ds r ix, by simp [h4], Grow.lay (o := .tup (pickV vs r ix)) inn h3, ?_⟩
  rw [pickD, Rep]
  exact ⟨q, _, rfl, SqT.of upd_same, ((RepL.ext hx _ _ rp).ext (Ext.add (inn.free h3).1) _ _).pick r ix⟩
theorem di_perm (hm : G.mg "permutations" = some (.type "itertools.permutations")) (ha : DE G X m W k a fa) (hg : Gl X "permutations" := by rfl) (hs : starEach [a] X.env = [(false, eval a X.env)] := by rfl) : DI G X m W k tg (.Call (.Name "permutations" p) [a] [] pos) (iPerm fa) := fun c => ⟨fun pins s σ H R I ⟨F, ρ, fp, st, h⟩ => by
  have hx := (RG.bind (R := RD G) (R' := RI G) st h)
  refine Call_ (ld_glob I hg (c.mg ▸ hm) (PyProof.Rows.callWith_type1 (args_cons (thn ((ha c).run pins s σ H _ I ⟨F, ρ, fp, st, hx⟩) fun v s1 ⟨y, H1, I1, r1, q1⟩ => args_nil ?_) hs) hs rfl))
  obtain ⟨F1, ρ1, fp1, d, p1, s1', rd, h1⟩ := q1
  split at h1
  · rename_i ds hds
    split at h1
    · rename_i L hL
      split at h1
      · rename_i hz
        obtain ⟨b, vs, rfl, rl, hc⟩ := can_of I1 c.K s1'.inn rd hds
        cases r1
        have el := rl.length
        refine call_perm (I1.ok.hd c.calm) hc (fun us hu => ?_) fun h' tk us hk hu => ?_
        · have := hu.length
          have hb : 100000 ≤ sizeLine := by decide
          omega
        · have eu := hu.length
          have I2 : Inv X pins σ H1 { s1 with heap := h', toks := tk } := I1.kept hk
          have sz : (h'.push { cls := .type "tuple", data := .seq us.toArray }).objs.size = h'.objs.size + 1 := Heap.size_push ..
          have hT : ((h'.push { cls := .type "tuple", data := .seq us.toArray }).push { cls := .type "itertools.permutations", data := .fields (permRec (.ref h'.objs.size) us.length us.length).toArray }).get? h'.objs.size = some { cls := .type "tuple", data := .seq us.toArray } := Heap.get?_push_of_some _ (Heap.get?_push_size _ rfl)
          have hI : ((h'.push { cls := .type "tuple", data := .seq us.toArray }).push { cls := .type "itertools.permutations", data := .fields (permRec (.ref h'.objs.size) us.length us.length).toArray }).get? (h'.objs.size + 1) = some { cls := .type "itertools.permutations", data := .fields (permRec (.ref h'.objs.size) us.length us.length).toArray } := by
            have := Heap.get?_push_size (h'.push { cls := .type "tuple", data := .seq us.toArray }) (o := { cls := .type "itertools.permutations", data := .fields (permRec (.ref h'.objs.size) us.length us.length).toArray }) rfl
            rw [sz] at this; exact this
          have I3 : Inv X pins σ H1 { s1 with heap := (h'.push { cls := .type "tuple", data := .seq us.toArray }).push { cls := .type "itertools.permutations", data := .fields (permRec (.ref h'.objs.size) us.length us.length).toArray }, toks := tk } :=
            I1.kept fun b o e => Heap.get?_push_of_some _ (Heap.get?_push_of_some _ (hk b o e))
          have pa : PermAt ((h'.push { cls := .type "tuple", data := .seq us.toArray }).push { cls := .type "itertools.permutations", data := .fields (permRec (.ref h'.objs.size) us.length us.length).toArray }) (h'.objs.size + 1) h'.objs.size us.length 0 (List.range us.length ++ (List.range us.length).map fun i => us.length - i) := by
            refine ⟨_, _, 0, 0, .none, (List.range us.length).map (fun (i : Nat) => rawInt i) ++ (List.range us.length).map (fun (i : Nat) => rawInt ((us.length : Int) - i)), hI, rfl, rfl, ?_, ?_⟩
            · show permRec _ _ _ = _
              unfold permRec
              rw [if_neg (Nat.lt_irrefl _)]
              rfl
            · rw [List.map_append, mapNat_raw, List.map_map]
              congr 1
              refine List.map_congr_left fun a ha => ?_
              have : a < us.length := by simpa using ha
              show Int.toNat ((us.length : Int) - (a : Int)) = _
              omega
          have hz2 : vs.length + vs.length ≤ sizeLine - 10 := by
            have hb : 100000 ≤ sizeLine := by decide
            omega
          have hL' : permL vs.length vs.length = some L := by rw [el]; exact hL
          refine wpAny_pyIter_perm pa ⟨h'.objs.size + 1, [h'.objs.size + 1, h'.objs.size], _, ItPerm vs vs.length, H1, rfl, I3, turn_perm (us := us) hu (Nat.le_refl _) hz2, ⟨Nat.succ_ne_self _, ⟨0, hT⟩, .inl ⟨rfl, eu ▸ pa⟩⟩, fun b hb => ?_, ?_⟩
          · have hle : h'.objs.size ≤ b := by
              have e' : b = h'.objs.size + 1 ∨ b = h'.objs.size := by simpa using hb
              rcases e' with z | z
              · rw [z]; exact Nat.le_add_right _ _
              · rw [z]; exact Nat.le_refl _
            exact I2.fpOk hle (I2.hok.fresh hle)
          · rw [← el] at h1
            exact h1 (ItPerm vs vs.length) F1 H1 fp1 Step.refl s1' ⟨_, _, by rw [List.length_map]; exact walk_perm hL', fun _ _ _ _ => True.intro, YTup_ok (r := vs.length) rl (by omega)⟩
      · exact h1.elim
    · exact h1.elim
  · exact h1.elim⟩
end
end Dn

/-! Dn20: in over data, isinstance, sorted, what is walked whatever its kind. -/
namespace Dn
open PySem PySem.Spec PyProof.Rows L2
/-! ### x in xs, data -/
def dInD (neg : Bool) (x y : D) : Option D := (toPyS x).bind fun d => (toPyS y).bind fun e => match e with
  | .list ds => some (.bl (if neg then !(ds.any fun z => PyData.eqv z d) else ds.any fun z => PyData.eqv z d))
  | .tuple ds => some (.bl (if neg then !(ds.any fun z => PyData.eqv z d) else ds.any fun z => PyData.eqv z d))
  | _ => none
def rInDD (K : PySem.W.Frag) (neg : Bool) : R2 := fun x y H Q => ∃ d e ds, Dp K H x d ∧ Dp K H y e ∧ (e = .list ds ∨ e = .tuple ds) ∧ SeqAt.shaped d = true ∧ SeqAt.shaped e = true ∧ Q (.bl (if neg then !(ds.any fun z => PyData.eqv z d) else ds.any fun z => PyData.eqv z d)) H
section
variable {X : Cx}
theorem op_inDD (hu : X.A.units + 65 < cLine) : OpR X (compareOp .In) (rInDD X.K false) := by
  intro pins s σ H x y v u Q I rx ry h
  obtain ⟨d, e, ds, hd, he, hs, sd, se, q⟩ := h
  obtain ⟨as, r1⟩ := Dp.reads I d x v hd rx
  obtain ⟨bs, r2⟩ := Dp.reads I e y u he ry
  rcases hs with rfl | rfl
  · exact SeqAt.in_list_reads r2 r1 (SeqAt.canLay_of_shaped se) (SeqAt.canLay_of_shaped sd) (room_in_shaped sd hu) ⟨.bl _, H, I, rfl, q⟩
  · exact SeqAt.in_tuple_reads r2 r1 (SeqAt.canLay_of_shaped se) (SeqAt.canLay_of_shaped sd) (room_in_shaped sd hu) ⟨.bl _, H, I, rfl, q⟩
theorem op_notInDD (hu : X.A.units + 65 < cLine) : OpR X (compareOp .NotIn) (rInDD X.K true) := by
  intro pins s σ H x y v u Q I rx ry h
  obtain ⟨d, e, ds, hd, he, hs, sd, se, q⟩ := h
  obtain ⟨as, r1⟩ := Dp.reads I d x v hd rx
  obtain ⟨bs, r2⟩ := Dp.reads I e y u he ry
  rcases hs with rfl | rfl
  · exact SeqAt.notIn_list_reads r2 r1 (SeqAt.canLay_of_shaped se) (SeqAt.canLay_of_shaped sd) (room_in_shaped sd hu) ⟨.bl _, H, I, rfl, q⟩
  · exact SeqAt.notIn_tuple_reads r2 r1 (SeqAt.canLay_of_shaped se) (SeqAt.canLay_of_shaped sd) (room_in_shaped sd hu) ⟨.bl _, H, I, rfl, q⟩
end
section
variable {G : Gx} {W : WX} {k : Nat}
theorem vs_inDD {neg : Bool} : VS2 G (rInDD G.K neg) (dInD neg) := fun F H x y d1 d2 d Q i r1 r2 e q => by
  unfold dInD at e
  obtain ⟨p1, e1, e⟩ := Option.bind_eq_some_iff.mp e
  obtain ⟨p2, e2, e⟩ := Option.bind_eq_some_iff.mp e
  obtain ⟨h1, s1⟩ := toPyS_some e1
  obtain ⟨h2, s2⟩ := toPyS_some e2
  split at e
  · cases e
    exact ⟨p1, _, _, rep_dp i _ _ _ r1 h1, rep_dp i _ _ _ r2 h2, .inl rfl, s1, s2, q _ F H (Grow.refl i) (by simp [Rep])⟩
  · cases e
    exact ⟨p1, _, _, rep_dp i _ _ _ r1 h1, rep_dp i _ _ _ r2 h2, .inr rfl, s1, s2, q _ F H (Grow.refl i) (by simp [Rep])⟩
  · cases e
theorem sc_inD {neg : Bool} : ∀ x y d, dInD neg x y = some d → scal d = true := fun x y d e => by
  unfold dInD at e
  obtain ⟨p1, e1, e⟩ := Option.bind_eq_some_iff.mp e
  obtain ⟨p2, e2, e⟩ := Option.bind_eq_some_iff.mp e
  split at e
  · cases e; rfl
  · cases e; rfl
  · cases e
theorem o_inD {X : Cx} (c : Ctx G X W k) : OpR X (compareOp .In) (rInDD G.K false) := c.K ▸ op_inDD (by have := c.room.un; omega)
theorem o_notinD {X : Cx} (c : Ctx G X W k) : OpR X (compareOp .NotIn) (rInDD G.K true) := c.K ▸ op_notInDD (by have := c.room.un; omega)
end
/-! ### isinstance -/
def tyN : D → Option String
  | .non => some "NoneType"
  | .bl _ => some "bool"
  | .int _ => some "int"
  | .str _ => some "str"
  | .tup _ => some "tuple"
  | .lst _ => some "list"
  | .scr _ => some "list"
  | .dK _ => some "dict"
  | _ => none
def dIsi (T : String) (d : D) : Option D := (tyN d).bind fun a => (kitB a T).map .bl
def dIsi2 (T U : String) (d : D) : Option D := (tyN d).bind fun a => (kitB a T).bind fun b => if b = true then some (.bl true) else (kitB a U).map .bl
section
variable {G : Gx} {X : Cx} {m : Nat → Mode} {W : WX} {k : Nat} {a : Expr} {fa : ED} {p q pos tpos : Pos} {x y : Str} {T U : String}
theorem tyN_rep {F : Fr} {H : Hp} (i : F.In G H) {d : D} {v : V} {t : String} (r : Rep G F d v) (e : tyN d = some t) : TyX G.K H v (.type t) := by
  cases d with
  | non => cases e; rw [Rep] at r; subst r; exact .base .non
  | bl b => cases e; rw [Rep] at r; subst r; exact .base (.bl b)
  | int b => cases e; rw [Rep] at r; subst r; exact .base (.int b)
  | str b => cases e; rw [Rep] at r; subst r; exact .base (.str b)
  | tup ds =>
    cases e; rw [Rep] at r
    obtain ⟨a, xs, rfl, h, _⟩ := r
    rcases i.seqT h with (h | ⟨o, h⟩) | ⟨o, its, n, h, hc, _⟩
    · exact .base (.tup h)
    · exact .fTuple h
    · exact .kTuple h hc
  | lst ds =>
    cases e; rw [Rep] at r
    obtain ⟨a, xs, rfl, h, _⟩ := r
    exact .base (.lst (i.fx _ _ h))
  | scr ns =>
    cases e; rw [Rep] at r
    obtain ⟨a, rfl, h⟩ := r
    rcases i.seqL h with (h | ⟨o, h⟩) | ⟨o, its, n, h, hc, _⟩
    · exact .base (.lst h)
    · exact .base (.frz h)
    · exact .kList h hc
  | dK kvs =>
    cases e; rw [Rep] at r
    obtain ⟨a, ks, rfl, h, _⟩ := r
    exact .base (.dK (i.fx _ _ h))
  | _ => cases e
theorem pe_isi1 (ha : DE G X m W k a fa) (hm : G.mg "isinstance" = none) (hmT : G.mg y = none) (hT : bootBuiltins y = some (.type T)) (hg : Gl X "isinstance" := by rfl) (hgT : Gl X y := by rfl)
    (hn : y ≠ "__name__" := by decide) (hdb : (y == ("__debug__" : Str)) = false := by decide)
    (he : starEach (a :: [.Name y q]) X.env = (false, eval a X.env) :: starEach [.Name y q] X.env := by rfl) (hs : starEach [.Name y q] X.env = [(false, eval (.Name y q) X.env)] := by rfl) (hpl : (backTo pos (starEach [.Name y q] X.env)).any (·.1) = false := by rfl) (c : Ctx G X W k) :
    PE X (.Call (.Name "isinstance" p) [a, .Name y q] [] pos) (tCB (rIsi X.K) (tCons (tD G m W fa) (tCons (tC (.ty T)) tNil))) := by
  exact pe_callB call_isi hg (c.mg ▸ hm) (by rfl) (pa_cons (ha c) (pa_cons (pe_bltn hgT (c.mg ▸ hmT) hT (show RelV (.ty T) (.type T) from rfl) hn hdb) pa_nil hs) he) (by decide) (by decide) he hpl
theorem de_isi (ha : DE G X m W k a fa) (hm : G.mg "isinstance" = none) (hmT : G.mg y = none) (hT : bootBuiltins y = some (.type T)) (hg : Gl X "isinstance" := by rfl) (hgT : Gl X y := by rfl)
    (hn : y ≠ "__name__" := by decide) (hdb : (y == ("__debug__" : Str)) = false := by decide)
    (he : starEach (a :: [.Name y q]) X.env = (false, eval a X.env) :: starEach [.Name y q] X.env := by rfl) (hs : starEach [.Name y q] X.env = [(false, eval (.Name y q) X.env)] := by rfl) (hpl : (backTo pos (starEach [.Name y q] X.env)).any (·.1) = false := by rfl) :
    DE G X m W k (.Call (.Name "isinstance" p) [a, .Name y q] [] pos) (eUn (dIsi T) fa) := fun c =>
  PEmono (pe_isi1 ha hm hmT hT hg hgT hn hdb he hs hpl c) fun σ H Q ⟨F, ρ, fp, s, h⟩ => ⟨F, ρ, fp, s, (RG.bind (R := RD G) s h).mono fun v H1 ⟨F1, ρ1, fp1, d, p1, s1, r1, h1⟩ => by
    show rIsi X.K [v, .ty T] H1 Q
    cases e : dIsi T d with
    | none => rw [e] at h1; exact h1.elim
    | some d' =>
      rw [e] at h1
      obtain ⟨t, e1, e2⟩ := Option.bind_eq_some_iff.mp e
      obtain ⟨b, e3, rfl⟩ := Option.map_eq_some_iff.mp e2
      rw [c.K]
      exact ⟨v, .ty T, .type t, .type T, b, rfl, .ty T, tyN_rep s1.inn r1 e1, kit_ty e3, h1 _ F1 H1 fp1 Step.refl s1 (by simp [Rep])⟩⟩
theorem de_isi2 {y2 : Str} {q2 : Pos} {x1} (ha : DE G X m W k a fa) (hm : G.mg "isinstance" = none) (hmT : G.mg y = none) (hT : bootBuiltins y = some (.type T)) (hmU : G.mg y2 = none) (hU : bootBuiltins y2 = some (.type U)) (hg : Gl X "isinstance" := by rfl) (hgT : Gl X y := by rfl) (hgU : Gl X y2 := by rfl)
    (hn : y ≠ "__name__" := by decide) (hdb : (y == ("__debug__" : Str)) = false := by decide) (hn2 : y2 ≠ "__name__" := by decide) (hdb2 : (y2 == ("__debug__" : Str)) = false := by decide)
    (he : starEach (a :: [.Tuple [.Name y q, .Name y2 q2] x1 tpos]) X.env = (false, eval a X.env) :: starEach [.Tuple [.Name y q, .Name y2 q2] x1 tpos] X.env := by rfl) (hs : starEach [.Tuple [.Name y q, .Name y2 q2] x1 tpos] X.env = [(false, eval (.Tuple [.Name y q, .Name y2 q2] x1 tpos) X.env)] := by rfl)
    (hpl : (backTo pos (starEach [.Tuple [.Name y q, .Name y2 q2] x1 tpos] X.env)).any (·.1) = false := by rfl)
    (hs1 : starEach [.Name y q, .Name y2 q2] X.env = (false, eval (.Name y q) X.env) :: starEach [.Name y2 q2] X.env := by rfl) (hs2 : starEach [.Name y2 q2] X.env = (false, eval (.Name y2 q2) X.env) :: starEach [] X.env := by rfl) :
    DE G X m W k (.Call (.Name "isinstance" p) [a, .Tuple [.Name y q, .Name y2 q2] x1 tpos] [] pos) (eUn (dIsi2 T U) fa) := fun c =>
  PEmono (pe_callB call_isiT hg (c.mg ▸ hm) (by rfl) (pa_cons (ha c) (pa_cons (pe_tup (pa_cons (pe_bltn hgT (c.mg ▸ hmT) hT (show RelV (.ty T) (.type T) from rfl) hn hdb) (pa_cons (pe_bltn hgU (c.mg ▸ hmU) hU (show RelV (.ty U) (.type U) from rfl) hn2 hdb2) pa_nil hs2) hs1)) pa_nil hs) he) (by decide) (by decide) he hpl)
    fun σ H Q ⟨F, ρ, fp, s, h⟩ => ⟨F, ρ, fp, s, (RG.bind (R := RD G) s h).mono fun v H1 ⟨F1, ρ1, fp1, d, p1, s1, r1, h1⟩ => by
    cases e : dIsi2 T U d with
    | none => rw [e] at h1; exact h1.elim
    | some d' =>
      rw [e] at h1
      obtain ⟨t, e1, e2⟩ := Option.bind_eq_some_iff.mp e
      obtain ⟨b, e3, e4⟩ := Option.bind_eq_some_iff.mp e2
      refine ⟨by show 2 ≤ sizeLine; decide, fun tp htp => ?_⟩
      have gr : Grow G F1 H1 F1 (upd H1 tp (.tup [.ty T, .ty U])) := Grow.drop s1.inn htp
      have s2 := s1.grow gr
      have ty := tyN_rep s2.inn r1 e1
      rw [c.K]
      by_cases hb : b = true
      · subst hb
        rw [if_pos rfl] at e4
        cases e4
        exact ⟨v, tp, _, .type t, [.type T, .type U], true, rfl, upd_same, .cons (.ty T) (.cons (.ty U) .nil), ty, kitAny_cons (b := true) (r := true) (kit_ty e3) (fun z => nomatch z) (fun _ => rfl), h1 _ F1 _ fp1 gr.step s2 (by simp [Rep])⟩
      · rw [if_neg hb] at e4
        obtain ⟨b2, e5, rfl⟩ := Option.map_eq_some_iff.mp e4
        have hb' : b = false := by simpa using hb
        subst hb'
        refine ⟨v, tp, _, .type t, [.type T, .type U], b2, rfl, upd_same, .cons (.ty T) (.cons (.ty U) .nil), ty, kitAny_cons (b := false) (r := b2) (kit_ty e3) (fun _ => ?_) (fun z => nomatch z), h1 _ F1 _ fp1 gr.step s2 (by simp [Rep])⟩
        refine kitAny_cons (b := b2) (r := b2) (kit_ty e5) (fun z => ?_) (fun z => z)
        subst z; exact kitAny_nil⟩
end
/-! ### sorted -/
def encD (d : D) : PyData := (toPy d).getD .none
def tupNE : PyData → Bool
  | .tuple (_ :: _) => true
  | _ => false
def othK : PyData → Bool
  | .none => false
  | .tuple _ => false
  | _ => true
def okSort (ds : List D) : Bool := ds.all (fun d => (toPy d).isSome) && ds.all (fun d => ds.all fun e => PySem.W.alike (encD d) (encD e)) && (ds.all (fun d => tupNE (encD d)) || ds.all (fun d => othK (encD d))) && ds.all (fun d => decide ((encD d).depth ≤ 32))
def sortD (ds : List D) : List D := ds.mergeSort (PySem.W.dataLe false encD)
def qSort (sq : SQ) : Option (List D) := if okSort sq.ds = true ∧ sq.ds.length ≤ sizeLine then (match sq with
  | .l ds => some (sortD ds)
  | .t _ => none) else none
abbrev rSortL (K : PySem.W.Frag) : List V → Hp → VK → Prop := fun xs H Q => ∃ (a : Addr) (ys : List V) (ds : List D) (RR : V → D → Prop), xs = [.ref a] ∧ SqL K H a ys ∧ Paired RR ys ds ∧ (∀ y d, RR y d → ∃ p, toPy d = some p ∧ Dp K H y p) ∧ okSort ds = true ∧ ds.length ≤ sizeLine ∧
  ∀ zs p, Paired RR zs (sortD ds) → H p = none → Q (.ref p) (upd H p (.lst zs))
section
variable {X : Cx}
theorem paired_each {α β γ : Type} {R : α → β → Prop} {S : α → γ → Prop} : ∀ {xs : List α} {us : List γ} {bs : List β}, Paired S xs us → Paired R xs bs → PySem.W.EachIs (fun u b => ∃ x, S x u ∧ R x b) us bs
  | _, _, _, .nil, .nil => .nil
  | _, _, _, .cons s ss, .cons r rs => .cons ⟨_, s, r⟩ (paired_each ss rs)
theorem each_paired {α β γ : Type} {R : α → β → Prop} {S : α → γ → Prop} : ∀ {us : List γ} {bs : List β}, PySem.W.EachIs (fun u b => ∃ x, S x u ∧ R x b) us bs → ∃ xs, Paired S xs us ∧ Paired R xs bs
  | _, _, .nil => ⟨[], .nil, .nil⟩
  | _, _, .cons ⟨x, s, r⟩ t => by
    obtain ⟨xs, h1, h2⟩ := each_paired t
    exact ⟨x :: xs, .cons s h1, .cons r h2⟩
theorem okSort_at {ds : List D} (h : okSort ds = true) : (∀ d ∈ ds, ∃ p, toPy d = some p ∧ encD d = p) ∧ PySem.W.AllAlike (ds.map encD) ∧ PySem.W.Sortable (ds.map encD) ∧ ∀ d ∈ ds, (encD d).depth ≤ 32 := by
  unfold okSort at h
  simp only [Bool.and_eq_true, List.all_eq_true, Bool.or_eq_true, decide_eq_true_eq] at h
  obtain ⟨⟨⟨h1, h2⟩, h3⟩, h4⟩ := h
  refine ⟨fun d hd => ?_, fun d hd e he => ?_, ?_, h4⟩
  · obtain ⟨p, hp⟩ := Option.isSome_iff_exists.mp (h1 d hd)
    exact ⟨p, hp, by unfold encD; rw [hp]; rfl⟩
  · obtain ⟨a, ha, rfl⟩ := List.mem_map.mp hd
    obtain ⟨b, hb, rfl⟩ := List.mem_map.mp he
    exact h2 a ha b hb
  · rcases h3 with h3 | h3
    · refine .inl fun d hd => ?_
      obtain ⟨a, ha, rfl⟩ := List.mem_map.mp hd
      have := h3 a ha
      unfold tupNE at this
      split at this
      · rename_i x r e; exact ⟨x, r, e⟩
      · cases this
    · refine .inr fun d hd => ?_
      obtain ⟨a, ha, rfl⟩ := List.mem_map.mp hd
      have := h3 a ha
      refine ⟨fun z => ?_, fun xs z => ?_⟩ <;> (rw [z] at this; cases this)
theorem cr_sortL (hu : X.A.units + 64 < cLine) : CallR X (.builtin "sorted") (rSortL X.K) := by
  intro pins s σ H vs us Q I r ⟨a, ys, ds, RR, ex, hs, pr, hd, ok, hz, q⟩
  subst ex
  obtain ⟨u, rfl, ru⟩ := vals1 r
  obtain rfl : u = Value.ref a := ru
  obtain ⟨its, rv, hl, hzz⟩ := I.list hs
  obtain ⟨o1, o2, o3, o4⟩ := okSort_at ok
  have e : PySem.W.EachIs (fun u d => ∃ x, RelV x u ∧ RR x d) its ds := paired_each rv pr
  have er : PySem.W.EachIs (fun v d => ∃ as, Reads s.heap v (encD d) as) its ds := by
    refine e.mono fun u d ⟨x, h1, h2⟩ => ?_
    obtain ⟨p, e1, e2⟩ := hd x d h2
    obtain ⟨as, r1⟩ := Dp.reads I p x u e2 h1
    exact ⟨as, by unfold encD; rw [e1]; exact r1⟩
  refine PySem.W.sorted_data (enc := encD) hl.isList e er o2 o3 hz (fun d hd => by have := o4 d hd; omega) fun out ho hout => ?_
  obtain ⟨zs, z1, z2⟩ := each_paired hout
  obtain ⟨n, hn⟩ := sortedAll_at s.heap its (List.toArray out)
  refine ⟨.ref (s.heap.objs.size + 1), upd H (s.heap.objs.size + 1) (.lst zs), I.laid (t' := s.toks) (fun b o e => sortedAll_old e) (Nat.le_succ _) ⟨?_, out, n, z1, hn⟩, rfl, q zs _ z2 (I.hok.fresh (Nat.le_succ _))⟩
  have := z2.length
  unfold sortD at this
  rw [List.length_mergeSort] at this
  omega
end
section
variable {G : Gx} {W : WX} {k : Nat}
theorem c_sortL {X : Cx} (c : Ctx G X W k) : CallR X (.builtin "sorted") (rSortL G.K) := c.K ▸ cr_sortL c.room.units
theorem RepL.paired {F : Fr} : ∀ {ds : List D} {xs : List V}, RepL G F ds xs → Paired (fun x d => Rep G F d x) xs ds
  | [], _, h => by rw [RepL] at h; subst h; exact .nil
  | d :: ds, _, h => by rw [RepL] at h; obtain ⟨y, ys, rfl, h1, h2⟩ := h; exact .cons h1 (RepL.paired h2)
theorem RepL.ofPaired {F : Fr} : ∀ {ds : List D} {xs : List V}, Paired (fun x d => Rep G F d x) xs ds → RepL G F ds xs
  | _, _, .nil => by rw [RepL]
  | _, _, .cons h t => by rw [RepL]; exact ⟨_, _, rfl, h, RepL.ofPaired t⟩
theorem vq_sort : VQO G (rSortL G.K) qSort := fun F H x sq ds Q i r e q => by
  unfold qSort at e
  split at e
  · rename_i hc
    cases sq with
    | t es => cases e
    | l es =>
      cases e
      obtain ⟨a, xs, rfl, h1, h2⟩ := r
      obtain ⟨o1, _⟩ := okSort_at hc.1
      have pr : Paired (fun x d => d ∈ es ∧ Rep G F d x) xs es := by
        have aux : ∀ {xs : List V} {ds : List D}, (∀ d ∈ ds, d ∈ es) → Paired (fun x d => Rep G F d x) xs ds → Paired (fun x d => d ∈ es ∧ Rep G F d x) xs ds := by
          intro xs ds hm p
          induction p with
          | nil => exact .nil
          | cons h t ih => exact .cons ⟨hm _ (by simp), h⟩ (ih fun d hd => hm d (by simp [hd]))
        exact aux (fun _ h => h) h2.paired
      refine ⟨a, xs, es, _, rfl, h1, pr, fun y d ⟨hm, h⟩ => ?_, hc.1, hc.2, fun zs p hp hn => ?_⟩
      · obtain ⟨p, e1, _⟩ := o1 d hm
        exact ⟨p, e1, rep_dp i d y p h e1⟩
      · have aux : ∀ {xs : List V} {ds : List D}, Paired (fun x d => d ∈ es ∧ Rep G F d x) xs ds → Paired (fun x d => Rep G F d x) xs ds := by
          intro xs ds p
          induction p with
          | nil => exact .nil
          | cons h t ih => exact .cons h.2 ih
        exact q p zs F H (Grow.refl i) hn (RepL.ofPaired (aux hp))
  · cases e
end
end Dn

/-! Dn21: walking any sequence; walking a list that one was lent. -/
namespace Dn
open PySem PySem.Spec PyProof.Rows L2
section
variable {X : Cx} {tg : Expr}
def iAny (K : PySem.W.Frag) (tl : TE) : TI := fun σ H R => tl σ H fun x H1 => ∃ a, x = .ref a ∧ ((∃ xs, SqL K H1 a xs ∧ R (Itl K a) H1) ∨ (∃ xs, SqT K H1 a xs ∧ R (Itt K a) H1) ∨
  ∃ lo hi, H1 a = some (.rng lo hi) ∧ -(2 ^ 62) ≤ lo ∧ lo < 2 ^ 62 ∧ -(2 ^ 62) ≤ hi ∧ hi < 2 ^ 62 ∧ R (Itr lo (hi - lo).toNat) H1)
theorem pi_any {l : Expr} {tl : TE} (hl : PE X l tl) : PI X tg l (iAny X.K tl) := by
  refine ⟨fun pins s σ H R I h => ?_⟩
  refine thn (hl.run pins s σ H _ I h) fun v s1 ⟨x, H1, I1, r1, q1⟩ => ?_
  obtain ⟨a, e, ⟨xs, hq, q⟩ | ⟨xs, hq, q⟩ | ⟨lo, hi, hq, b1, b2, b3, b4, q⟩⟩ := q1
  · subst e
    cases r1
    obtain ⟨its, rv, p, hz⟩ := I1.list hq
    refine wpAny_pyIter_list p.isList ?_
    refine ⟨s1.heap.objs.size, [s1.heap.objs.size], _, _, H1, rfl, I1.kept (t' := s1.toks) fun b o e => Heap.get?_push_of_some _ e, turn_list a _, ⟨_, Heap.get?_push_size _ rfl, rfl, rfl⟩, fun b hb => ?_, q⟩
    have e : b = s1.heap.objs.size := by simpa using hb
    subst e
    exact I1.fpOk (Nat.le_refl _) (I1.hok.fresh (Nat.le_refl _))
  · subst e
    cases r1
    obtain ⟨its, rv, p, hz⟩ := I1.tuple hq
    refine wpAny_pyIter_tuple (show s1.heap.IsTuple a its.toArray from p) ?_
    refine ⟨s1.heap.objs.size, [s1.heap.objs.size], _, _, H1, rfl, I1.kept (t' := s1.toks) fun b o e => Heap.get?_push_of_some _ e, turn_tuple a _, ⟨_, Heap.get?_push_size _ rfl, rfl, rfl⟩, fun b hb => ?_, q⟩
    have e : b = s1.heap.objs.size := by simpa using hb
    subst e
    exact I1.fpOk (Nat.le_refl _) (I1.hok.fresh (Nat.le_refl _))
  · subst e
    cases r1
    obtain ⟨t, u, w, hr⟩ := I1.hok a _ hq
    refine wpAny_pyIter_range hr (small_one b1 b2 b3 b4) ?_
    refine ⟨s1.heap.objs.size, [s1.heap.objs.size], _, _, H1, rfl, I1.kept (t' := s1.toks) fun b o e => Heap.get?_push_of_some _ e, turn_range _ lo (hi - lo).toNat, ?_, fun b hb => ?_, q⟩
    · have e1 : lo + ((0 : Nat) : Int) * 1 = lo := by simp
      have e2 : (((hi - lo).toNat : Nat) : Int) - ((0 : Nat) : Int) = Builtin.Range.rangeSize lo hi 1 := by rw [rangeSize_one]; split <;> omega
      show IsRangeIter _ _ (lo + ((0 : Nat) : Int) * 1) ((((hi - lo).toNat : Nat) : Int) - ((0 : Nat) : Int)) 1
      rw [e1, e2]
      exact Heap.get?_push_size _ rfl
    · have e : b = s1.heap.objs.size := by simpa using hb
      subst e
      exact I1.fpOk (Nat.le_refl _) (I1.hok.fresh (Nat.le_refl _))
end
section
variable {G : Gx} {X : Cx} {m : Nat → Mode} {n : Nat} {W : WX} {k : Nat} {a tg : Expr} {fa : ED} {x : Str} {p pos : Pos}
def iAnyD (fa : ED) : ID := fun ρ => (fa ρ).bind fun d ρ1 => opt (itemsR d) ρ1
theorem di_any (ha : DE G X m W k a fa) : DI G X m W k tg a (iAnyD fa) := fun c =>
  PImono (pi_any (ha c)) fun σ H R ⟨F, ρ, fp, s, h⟩ => ⟨F, ρ, fp, s, (RG.bind (R := RD G) s h).mono fun v H1 ⟨F1, ρ1, fp1, d, p1, s1, r1, h1⟩ => by
    rw [c.K]
    cases d with
    | lst ds =>
      obtain ⟨a, xs, rfl, e1, e2⟩ := r1
      exact ⟨a, rfl, .inl ⟨xs, SqL.of (s1.inn.fx _ _ e1), h1 _ F1 H1 fp1 Step.refl s1 ⟨_, _, by rw [← e2.length]; exact walk_list (K := G.K) (a := a) (xs := xs), fun H F2 x i => SqL.of (i.fx _ _ (x.fx _ _ e1)), YAt_ok e2⟩⟩⟩
    | scr ns =>
      obtain ⟨a, rfl, e1⟩ := r1
      have e2 : RepL G F1 (ns.map D.int) (ns.map V.int) := RepL.ints
      exact ⟨a, rfl, .inl ⟨_, s1.inn.seqL e1, h1 _ F1 H1 fp1 Step.refl s1 ⟨_, _, by rw [← e2.length]; exact walk_list (K := G.K) (a := a) (xs := ns.map V.int), fun H F2 x i => i.seqL (x.fx.seq e1), YAt_ok e2⟩⟩⟩
    | tup ds =>
      obtain ⟨a, xs, rfl, e1, e2⟩ := r1
      exact ⟨a, rfl, .inr (.inl ⟨xs, s1.inn.seqT e1, h1 _ F1 H1 fp1 Step.refl s1 ⟨_, _, by rw [← e2.length]; exact walk_tup (K := G.K) (a := a) (xs := xs), fun H F2 x i => i.seqT (SameT x.fx e1), YAt_ok e2⟩⟩)⟩
    | rng lo hi =>
      obtain ⟨a, rfl, e1⟩ := r1
      rw [itemsR] at h1
      split at h1
      · rename_i hb
        obtain ⟨b1, b2, b3, b4, b5⟩ := hb
        exact ⟨a, rfl, .inr (.inr ⟨lo, hi, s1.inn.fx _ _ e1, b1, b2, b3, b4, h1 _ F1 H1 fp1 Step.refl s1 RI_rng⟩)⟩
      · exact h1.elim
    | _ => exact h1.elim⟩
/-! ### a list that one was lent -/
def sLoopIo (i n : Nat) (t : TD) (b : SD) : Nat → Env → SR
  | 0, ρ => match ρ[i]?.join with
    | some (.lst ds) => if ds.length = n then .nx ρ else .bad
    | _ => .bad
  | r + 1, ρ => match ρ[i]?.join with
    | some (.lst ds) => if ds.length = n then (match ds[n - (r + 1)]? with
      | some d => (match t d ρ with
        | none => .bad
        | some ρ1 => match b ρ1 with
          | .nx ρ2 => sLoopIo i n t b r ρ2
          | .ct ρ2 => sLoopIo i n t b r ρ2
          | .bk ρ2 => .nx ρ2
          | z => z)
      | none => .bad) else .bad
    | _ => .bad
def sForIo (i : Nat) (t : TD) (b : SD) : SD := fun ρ => match ρ[i]?.join with
  | some (.lst ds) => sLoopIo i ds.length t b ds.length ρ
  | _ => .bad
theorem walk_listN {K : PySem.W.Frag} {a : Addr} {n : Nat} : Walk (Itl K a) n (fun H => ∃ xs, SqL K H a xs ∧ xs.length = n) (fun i H x H' => H' = H ∧ ∀ xs, SqL K H a xs → xs[i]? = some x) :=
  ⟨fun i _ hi ⟨xs, q, e⟩ => ⟨xs, xs[i], q, by simp [e, hi]⟩, fun _ ⟨xs, q, e⟩ => ⟨xs, q, Nat.le_of_eq e⟩, fun _ _ _ _ _ q y => ⟨y.1, fun xs h => y.2 xs h⟩⟩
theorem ds_forIo {ix : List Nat} {t : TD} {g : TG} {body : List Stmt} {b : SD} (i : Nat) (hg : DG G X m W k ix tg t g) (hb : DSs G X m n W k body b) (hm : (m i).lvl = 1 := by rfl) (hio : (m i).isIo = true := by rfl)
    (hN : X.N[i]? = some x := by rfl) (hv : Vis X.env.scope x := by first | exact Or.inl rfl | exact Or.inr (Or.inl rfl) | exact Or.inr (Or.inr rfl)) (hd : (x == ("__debug__" : Str)) = false := by decide)
    (hcd : (x == ("__classdict__" : Str)) = false := by decide) (hs : ∀ y, foldedSetIterable (.Name x p) X.env y = pure y := by intro _; rfl) : DS G X m n W k (.For tg (.Name x p) body [] pos) (sForIo i t b) := fun c => by
  obtain ⟨pg, r⟩ := hg c
  refine PSmono (ps_for c.po c.calm (pi_list (pe_var hN hv hd hcd)) pg (hb c) hs) fun D σ0 H0 ⟨F, ρ, fp, s, h⟩ => ?_
  unfold sForIo at h
  split at h
  · rename_i ds q0
    obtain ⟨v, e1, e2⟩ := s.slot i _ (join_some q0)
    rw [hm] at e2
    obtain ⟨a, rfl, hfp, xs, e3, e4⟩ := e2
    rw [c.K]
    refine ⟨_, e1, a, rfl, ⟨xs, SqL.of e3⟩, ?_⟩
    have own : ∀ {F2 : Fr} {ρ2 : Env} {fp2 : Nat → List Addr} {σ : L2.St} {H : Hp} {es : List Dn.D}, St G m F2 H σ ρ2 fp2 → IoKept m σ0 σ → ρ2[i]?.join = some (.lst es) → ∃ ys, H a = some (.lst ys) ∧ RepL G F2 es ys := by
      intro F2 ρ2 fp2 σ H es s2 io q
      obtain ⟨v, z1, z2⟩ := s2.slot i _ (join_some q)
      rw [hm] at z2
      rw [io i hio, e1] at z1
      cases z1
      obtain ⟨a', ea, _, ys, z3, z4⟩ := z2
      cases ea
      exact ⟨ys, z3, z4⟩
    have base : ∀ {F2 : Fr} {ρ2 : Env} {fp2 : Nat → List Addr} {σ : L2.St} {H : Hp} {j : Nat}, St G m F2 H σ ρ2 fp2 → IoKept m σ0 σ → RS G m n W F2 H σ fp2 D (sLoopIo i ds.length t b j ρ2) → ∃ es, ρ2[i]?.join = some (.lst es) ∧ es.length = ds.length := by
      intro F2 ρ2 fp2 σ H j s2 io h2
      cases j with
      | zero =>
        unfold sLoopIo at h2
        split at h2
        · rename_i es q
          split at h2
          · exact ⟨es, q, by assumption⟩
          · exact h2.elim
        · exact h2.elim
      | succ j =>
        unfold sLoopIo at h2
        split at h2
        · rename_i es q
          split at h2
          · exact ⟨es, q, by assumption⟩
          · exact h2.elim
        · exact h2.elim
    refine for_it (walk_listN (K := G.K) (a := a) (n := ds.length)) (fun j σ H => ∃ F2 ρ2 fp2, Ext F F2 ∧ St G m F2 H σ ρ2 fp2 ∧ IoKept m σ0 σ ∧ j ≤ ds.length ∧ RS G m n W F2 H σ fp2 D (sLoopIo i ds.length t b (ds.length - j) ρ2)) ⟨F, ρ, fp, Ext.refl _, s, .refl, Nat.zero_le _, h⟩ ?_ ?_ ?_
    · rintro j σ H _ ⟨F2, ρ2, fp2, x2, s2, io, _, h2⟩
      obtain ⟨es, q, hl⟩ := base s2 io h2
      obtain ⟨ys, y1, y2⟩ := own s2 io q
      exact ⟨ys, SqL.of y1, by rw [y2.length]; exact hl⟩
    · rintro j y σ H H' hj ⟨F2, ρ2, fp2, x2, s2, io, _, h2⟩ ⟨eH, hy⟩
      subst eH
      obtain ⟨es, q, hl⟩ := base s2 io h2
      obtain ⟨ys, y1, y2⟩ := own s2 io q
      have hyj := hy ys (SqL.of y1)
      obtain ⟨d, d1, d2⟩ := y2.get' hyj
      have hr : ds.length - j = (ds.length - (j + 1)) + 1 := by omega
      rw [hr] at h2
      unfold sLoopIo at h2
      rw [q] at h2
      dsimp only at h2
      rw [if_pos hl, show ds.length - (ds.length - (j + 1) + 1) = j by omega, d1] at h2
      dsimp only at h2
      cases qt : t d ρ2 with
      | none => rw [qt] at h2; exact h2.elim
      | some ρ3 =>
        rw [qt] at h2
        dsimp only at h2
        refine r F2 _ σ ρ2 fp2 d y ρ3 _ s2 d2 qt fun σ4 fp4 s4 st4 io4 _ => ?_
        have h4 := RS.rebase s2 st4 s4 io4 h2
        have io5 := io.trans io4
        refine ⟨F2, ρ3, fp4, s4, ?_⟩
        cases qb : b ρ3 with
        | nx ρ5 => rw [qb] at h4; exact fun σ' F' H' fp' a b c => ⟨F', ρ5, fp', x2.trans a.ext, b, io5.trans c, hj, h4.rebase s4 a b c⟩
        | ct ρ5 => rw [qb] at h4; exact fun σ' F' H' fp' a b c => ⟨F', ρ5, fp', x2.trans a.ext, b, io5.trans c, hj, h4.rebase s4 a b c⟩
        | bk ρ5 => rw [qb] at h4; exact h4
        | rt d5 ρ5 => rw [qb] at h4; exact h4
        | exc e5 ρ5 => rw [qb] at h4; exact h4
        | bad => rw [qb] at h4; exact h4
    · rintro σ H ⟨F2, ρ2, fp2, x2, s2, io, _, h2⟩
      obtain ⟨es, q, hl⟩ := base s2 io h2
      rw [Nat.sub_self] at h2
      unfold sLoopIo at h2
      rw [q] at h2
      dsimp only at h2
      rw [if_pos hl] at h2
      exact h2 σ F2 H fp2 Step.refl s2 .refl
  · exact h.elim
end
end Dn

/-! Dn22: list comprehensions of two clauses. -/
namespace Dn
open PySem PySem.Spec PyProof.Rows L2
theorem wipe_at {vs : List Nat} {σ : L2.St} {j : Nat} (h : j ∈ vs) : (wipe σ vs)[j]? = if j < σ.length then some none else none := by
  induction vs generalizing σ with
  | nil => cases h
  | cons v vs ih =>
    show ((wipe σ vs).set v none)[j]? = _
    by_cases e : v = j
    · subst e
      by_cases hl : v < (wipe σ vs).length
      · rw [List.getElem?_set_self hl, if_pos (by rwa [wipe_length] at hl)]
      · rw [List.getElem?_eq_none (by simpa using hl), if_neg (by rwa [wipe_length] at hl)]
    · rw [List.getElem?_set_ne e]
      exact ih (by simpa [Ne.symm e] using h)
theorem wipe_sub {vs vs1 : List Nat} {σ : L2.St} (h : ∀ i ∈ vs1, i ∈ vs) : wipe (wipe σ vs1) vs = wipe σ vs := by
  apply List.ext_getElem?
  intro j
  by_cases hj : j ∈ vs
  · rw [wipe_at hj, wipe_at hj, wipe_length]
  · rw [wipe_out hj, wipe_out hj, wipe_out fun z => hj (h j z)]
theorem lc_itS {J : It} {n : Nat} {Gd : Hp → Prop} {Y : Nat → Hp → V → Hp → Prop} (w : Walk J n Gd Y) {g : TG} {tt : TT} {te : TE} {vs : List Nat} {σ : L2.St} {Hs : Hp} {D : Addr} {Qd : Hp → Prop} (Pv : Nat → Hp → Prop) (h0 : Pv 0 Hs) (hG : ∀ i H, i ≤ n → Pv i H → Gd H)
    (hs : ∀ i x H H', i < n → Pv i H → Y i H x H' → g x (wipe σ vs) H' fun σ2 H2 => wipe σ2 vs = wipe σ vs ∧ tt σ2 H2 fun b H3 =>
      if b = true then te σ2 H3 fun y H4 => ∃ acc, H4 D = some (.lst acc) ∧ acc.length < sizeLine ∧ Pv (i + 1) (upd H4 D (.lst (acc ++ [y]))) else Pv (i + 1) H3) (hd : ∀ H, Pv n H → Qd H) :
    ∃ W : Nat → Nat → Hp → Prop, (∃ m, W 0 m Hs) ∧ ∀ i m H, W i m H →
      (J.stop i H ∧ Qd H) ∨ (J.go i H ∧ ∃ Nx : Hp → Prop, (∀ H', Nx H' → ∃ m', m' < m ∧ W (i + 1) m' H') ∧ ∀ x H', J.yld i H x H' → g x (wipe σ vs) H' fun σ2 H2 => wipe σ2 vs = wipe σ vs ∧ tt σ2 H2 fun b H3 =>
        if b = true then te σ2 H3 fun y H4 => ∃ acc, H4 D = some (.lst acc) ∧ acc.length < sizeLine ∧ Nx (upd H4 D (.lst (acc ++ [y]))) else Nx H3) := by
  refine ⟨fun i m H => m = n - i ∧ i ≤ n ∧ Pv i H, ⟨n, by simp, Nat.zero_le _, h0⟩, ?_⟩
  rintro i m H ⟨rfl, hi, p⟩
  have q := hG i H hi p
  by_cases hlt : i < n
  · refine .inr ⟨w.goes i H hlt q, Pv (i + 1), fun H' p' => ⟨n - (i + 1), by omega, rfl, hlt, p'⟩, fun x H' y => hs i x H H' hlt p (w.yields i H x H' hlt q y)⟩
  · have e : i = n := by omega
    subst e
    exact .inl ⟨w.stops H q, hd H p⟩
theorem lcLoop_nox (t : TD) (ifs : BD) (fe : ED) (vs : List Nat) : ∀ (ds acc : List Dn.D) (ρ : Env) e ρ', lcLoop t ifs fe vs ds acc ρ ≠ .exc e ρ' := by
  intro ds
  induction ds with
  | nil => intro acc ρ e ρ' z; cases z
  | cons d ds ih =>
    intro acc ρ e ρ' z
    rw [lcLoop] at z
    cases q1 : t d ρ with
    | none => rw [q1] at z; cases z
    | some ρa =>
      rw [q1] at z
      dsimp only at z
      cases q2 : ifs ρa with
      | bad => rw [q2] at z; cases z
      | exc _ _ => rw [q2] at z; cases z
      | ok b ρb =>
        rw [q2] at z
        cases b with
        | false => exact ih _ _ _ _ z
        | true =>
          simp only [nox_ok, bind_ok, if_true] at z
          cases q3 : fe ρb with
          | bad => rw [q3] at z; cases z
          | exc _ _ => rw [q3] at z; cases z
          | ok x ρc =>
            rw [q3] at z
            simp only [nox_ok, bind_ok] at z
            split at z
            · exact ih _ _ _ _ z
            · cases z
section
variable {G : Gx} {m : Nat → Mode} {W : WX} {F : Fr} {H : Hp} {σ : L2.St} {fp : Nat → List Addr}
/-- the turns of a clause: D the new list, (F1, H1, fp1) what stood before D -/
theorem lcTurns {t : TD} {g : TG} {ix : List Nat} {ifs : BD} {fe : ED} {vs : List Nat} (hg : ∀ F H σ ρ fp d v ρ' Q, St G m F H σ ρ fp → Rep G F d v → t d ρ = some ρ' →
    (∀ σ' fp', St G m F H σ' ρ' fp' → Step G F H fp F H fp' → IoKept m σ σ' → (∀ vs : List Nat, (∀ j ∈ ix, j ∈ vs) → wipe σ' vs = wipe σ vs) → Q σ' H) → g v σ H Q)
    (hv : ∀ v ∈ vs, m v = .frz) (hix : ∀ j ∈ ix, j ∈ vs) {σ0 : L2.St} {F1 : Fr} {H1 : Hp} {fp1 : Nat → List Addr} {D : Addr} {σb : L2.St} {ρb' : Env} (s1 : St G m F1 H1 σb ρb' fp1) (hD : H1 D = none)
    {J : It} {Gd : Hp → Prop} {Y : Nat → Hp → V → Hp → Prop} {ds : List Dn.D} {F0 : Fr} (w : Walk J ds.length Gd Y) (hG : ∀ H F1, Ext F0 F1 → F1.In G H → Gd H) (hY : ∀ i H F1 x H', Ext F0 F1 → F1.In G H → i < ds.length → Y i H x H' → ∃ F2 d, ds[i]? = some d ∧ Grow G F1 H F2 H' ∧ Rep G F2 d x)
    {Qd : Hp → Prop} {Hs : Hp} {ρs : Env} {fps : Nat → List Addr} {acc0 : List Dn.D} {xs0 : List V} (sts : Step G F1 H1 fp1 F0 Hs fps) (ss : St G m F0 Hs (wipe σ0 vs) ρs fps) (hDs : Hs D = some (.lst xs0)) (rxs : RepL G F0 acc0 xs0) (m1 : F0.fx D = none) (m2 : F0.nt D = none) (m3 : ∀ i, D ∉ fps i)
    (hend : match lcLoop t ifs fe vs ds acc0 ρs with
        | .ok acc' ρ3 => ∀ F' H' fp' xs', Ext F0 F' → Step G F1 H1 fp1 F' H' fp' → St G m F' H' (wipe σ0 vs) ρ3 fp' → H' D = some (.lst xs') → RepL G F' acc' xs' → F'.fx D = none → F'.nt D = none → (∀ i, D ∉ fp' i) → Qd H'
        | .exc _ _ => False
        | .bad => False) :
    ∃ W : Nat → Nat → Hp → Prop, (∃ m, W 0 m Hs) ∧ ∀ i m' H, W i m' H →
      (J.stop i H ∧ Qd H) ∨ (J.go i H ∧ ∃ Nx : Hp → Prop, (∀ H', Nx H' → ∃ k, k < m' ∧ W (i + 1) k H') ∧ ∀ x H', J.yld i H x H' → g x (wipe σ0 vs) H' fun σ2 H2 => wipe σ2 vs = wipe σ0 vs ∧ tB G m W0 ifs σ2 H2 fun b H3 =>
        if b = true then tD G m W0 fe σ2 H3 fun y H4 => ∃ acc, H4 D = some (.lst acc) ∧ acc.length < sizeLine ∧ Nx (upd H4 D (.lst (acc ++ [y]))) else Nx H3) := by
  refine lc_itS w (fun i H => ∃ F2 ρ2 fp2 acc xs, Ext F0 F2 ∧ Step G F1 H1 fp1 F2 H fp2 ∧ St G m F2 H (wipe σ0 vs) ρ2 fp2 ∧ H D = some (.lst xs) ∧ RepL G F2 acc xs ∧ F2.fx D = none ∧ F2.nt D = none ∧ (∀ i, D ∉ fp2 i) ∧
      (∃ r, lcLoop t ifs fe vs (ds.drop i) acc ρ2 = r ∧ match r with
        | .ok acc' ρ3 => ∀ F' H' fp' xs', Ext F0 F' → Step G F1 H1 fp1 F' H' fp' → St G m F' H' (wipe σ0 vs) ρ3 fp' → H' D = some (.lst xs') → RepL G F' acc' xs' → F'.fx D = none → F'.nt D = none → (∀ i, D ∉ fp' i) → Qd H'
        | .exc _ _ => False
        | .bad => False)) ?_ ?_ ?_ ?_
  · exact ⟨F0, ρs, fps, acc0, xs0, Ext.refl _, sts, ss, hDs, rxs, m1, m2, m3, _, rfl, by rw [List.drop_zero]; exact hend⟩
  · rintro i H _ ⟨F2, ρ2, fp2, acc, xs, x0, st, s2, _⟩
    exact hG H F2 x0 s2.inn
  · rintro i x H H' hi ⟨F2, ρ2, fp2, acc, xs, x0, st, s2, hDx, rx, n1, n2, n3, r, hr, q⟩ hy
    obtain ⟨F3, d, ed, gr, rp⟩ := hY i H F2 x H' x0 s2.inn hi hy
    have s3 := s2.grow gr
    have st3 : Step G F1 H1 fp1 F3 H' fp2 := st.trans gr.step s1.inn fun i a h => (s2.own i a h).2
    have hDx3 : H' D = some (.lst xs) := gr.same _ _ hDx
    have rx3 := RepL.ext gr.ext _ _ rx
    have n1' : F3.fx D = none := by
      cases z : F3.fx D with
      | none => rfl
      | some o => rcases gr.newF D o z with y | y; rw [n1] at y; cases y; rw [hDx] at y; cases y
    have n2' : F3.nt D = none := by
      cases z : F3.nt D with
      | none => rfl
      | some o => rcases gr.newN D o z with y | y; rw [n2] at y; cases y; rw [hDx] at y; cases y
    have hd : ds.drop i = d :: ds.drop (i + 1) := by
      rw [List.drop_eq_getElem_cons hi]
      rw [List.getElem?_eq_getElem hi] at ed
      cases ed; rfl
    rw [hd, lcLoop] at hr
    cases q1 : t d ρ2 with
    | none => rw [q1] at hr; subst hr; exact q.elim
    | some ρa =>
      rw [q1] at hr
      dsimp only at hr
      refine hg F3 H' (wipe σ0 vs) ρ2 fp2 d x ρa _ s3 rp q1 fun σ4 fp4 s4 st4 io4 wp4 => ?_
      have hw : wipe σ4 vs = wipe σ0 vs := by
        rw [wp4 vs hix]
        exact wipe_sub fun _ h => h
      have wne : ∀ {σ : L2.St}, wipe (wipe σ vs) vs = wipe σ vs → True := fun _ => trivial
      refine ⟨by rw [hw], ?_⟩
      have stA : Step G F1 H1 fp1 F3 H' fp4 := st3.trans st4 s1.inn fun i a h => (s3.own i a h).2
      have n3' : ∀ i, D ∉ fp4 i := fun i hi => by
        rcases st4.fpn i D hi with ⟨j, z⟩ | z
        · exact n3 j z
        · rw [hDx3] at z; cases z
      cases q2 : ifs ρa with
      | bad => rw [q2] at hr; subst hr; exact q.elim
      | exc _ _ => rw [q2] at hr; subst hr; exact q.elim
      | ok b ρb =>
        rw [q2] at hr
        simp only [nox_ok, bind_ok] at hr
        refine ⟨F3, ρa, fp4, s4, ?_⟩
        rw [q2]
        intro b' F5 H5 fp5 st5 s5 eb
        cases eb
        have stB : Step G F1 H1 fp1 F5 H5 fp5 := stA.trans st5 s1.inn fun i a h => (s4.own i a h).2
        have hD5 : H5 D = some (.lst xs) := st5.frm D _ hDx3 n2' n3'
        have rx5 := RepL.ext st5.ext _ _ rx3
        have n15 : F5.fx D = none := by
          cases z : F5.fx D with
          | none => rfl
          | some o => rcases st5.newF D o z with y | y | ⟨j, y⟩; rw [n1'] at y; cases y; rw [hDx3] at y; cases y; exact absurd y (n3' j)
        have n25 : F5.nt D = none := by
          cases z : F5.nt D with
          | none => rfl
          | some o => rcases st5.newN D o z with y | y | ⟨j, y⟩; rw [n2'] at y; cases y; rw [hDx3] at y; cases y; exact absurd y (n3' j)
        have n35 : ∀ i, D ∉ fp5 i := fun i hi => by
          rcases st5.fpn i D hi with ⟨j, z⟩ | z
          · exact n3' j z
          · rw [hDx3] at z; cases z
        cases b with
        | false =>
          simp only [Bool.false_eq_true, if_false] at hr ⊢
          have s6 := s5.wiped (vs := vs) hv
          rw [hw] at s6
          exact ⟨F5, wipeE ρb vs, fp5, acc, xs, x0.trans (gr.ext.trans st5.ext), stB, s6, hD5, rx5, n15, n25, n35, r, hr, q⟩
        | true =>
          simp only [if_true] at hr ⊢
          refine ⟨F5, ρb, fp5, s5, ?_⟩
          cases q3 : fe ρb with
          | bad => rw [q3] at hr; subst hr; exact q.elim
          | exc _ _ => rw [q3] at hr; subst hr; exact q.elim
          | ok y ρc =>
            rw [q3] at hr
            simp only [nox_ok, bind_ok] at hr
            intro yv F7 H7 fp7 st7 s7 ry
            have hD7 : H7 D = some (.lst xs) := st7.frm D _ hD5 n25 n35
            have n17 : F7.fx D = none := by
              cases z : F7.fx D with
              | none => rfl
              | some o => rcases st7.newF D o z with y | y | ⟨j, y⟩; rw [n15] at y; cases y; rw [hD5] at y; cases y; exact absurd y (n35 j)
            have n27 : F7.nt D = none := by
              cases z : F7.nt D with
              | none => rfl
              | some o => rcases st7.newN D o z with y | y | ⟨j, y⟩; rw [n25] at y; cases y; rw [hD5] at y; cases y; exact absurd y (n35 j)
            have n37 : ∀ i, D ∉ fp7 i := fun i hi => by
              rcases st7.fpn i D hi with ⟨j, z⟩ | z
              · exact n35 j z
              · rw [hD5] at z; cases z
            refine ⟨xs, hD7, ?_⟩
            by_cases hz : acc.length < sizeLine
            · rw [if_pos hz] at hr
              have rx7 := RepL.ext st7.ext _ _ rx5
              refine ⟨by rw [rx7.length]; exact hz, ?_⟩
              have s8 := s7.wiped (vs := vs) hv
              rw [hw] at s8
              -- the new list
              have inn9 : F7.In G (upd H7 D (.lst (xs ++ [yv]))) := ⟨fun a o e => by
                have : a ≠ D := fun z => by subst z; rw [n17] at e; cases e
                rw [upd_ne this]; exact s7.inn.fx _ _ e, fun a d e => by
                obtain ⟨kvs, e1, e2⟩ := s7.inn.nt a d e
                have : a ≠ D := fun z => by subst z; rw [n27] at e; cases e
                exact ⟨kvs, by rw [upd_ne this]; exact e1, e2⟩⟩
              have s9 : St G m F7 (upd H7 D (.lst (xs ++ [yv]))) (wipe σ0 vs) (wipeE ρc vs) fp7 := ⟨inn9, s8.len, fun i d e => by
                obtain ⟨v, e1, e2⟩ := s8.slot i d e
                refine ⟨v, e1, e2.keep (Ext.refl _) fun b hb => upd_ne fun z => ?_⟩
                subst z; exact n37 i hb, s8.dead, s8.sep, s8.own⟩
              have st9 : Step G F1 H1 fp1 F7 (upd H7 D (.lst (xs ++ [yv]))) fp7 := by
                have a : Step G F1 H1 fp1 F7 H7 fp7 := stB.trans st7 s1.inn fun i a h => (s5.own i a h).2
                refine ⟨a.ext, a.newF, a.newN, a.fpn, fun b o e1 e2 e3 => ?_, fun b e => ?_⟩
                · have : b ≠ D := fun z => by subst z; rw [hD] at e1; cases e1
                  rw [upd_ne this]; exact a.frm b o e1 e2 e3
                · by_cases z : b = D
                  · subst z; exact hD
                  · rw [upd_ne z] at e; exact a.live b e
              exact ⟨F7, wipeE ρc vs, fp7, acc ++ [y], xs ++ [yv], x0.trans (gr.ext.trans (st5.ext.trans st7.ext)), st9, s9, upd_same, rx7.append (.one ry), n17, n27, n37, r, hr, q⟩
            · rw [if_neg hz] at hr; subst hr; exact q.elim
  · rintro H ⟨F2, ρ2, fp2, acc, xs, x0, st, s2, hDx, rx, n1, n2, n3, r, hr, q⟩
    rw [List.drop_length] at hr
    subst hr
    exact q F2 H fp2 xs x0 st s2 hDx rx n1 n2 n3
def lc2Loop (t : TD) (ifs : BD) (it1 : ID) (t1 : TD) (ifs1 : BD) (fe : ED) (vs vs1 : List Nat) : List D → List D → Env → ER (List D)
  | [], acc, ρ => .ok acc ρ
  | d :: ds, acc, ρ => match t d ρ with
    | none => .bad
    | some ρ1 => (ifs ρ1).nox.bind fun b ρ2 => if b = true then (it1 ρ2).nox.bind fun es ρ3 => (lcLoop t1 ifs1 fe vs1 es acc (wipeE ρ3 vs1)).bind fun acc' ρ4 => lc2Loop t ifs it1 t1 ifs1 fe vs vs1 ds acc' (wipeE ρ4 vs)
        else lc2Loop t ifs it1 t1 ifs1 fe vs vs1 ds acc (wipeE ρ2 vs)
def eLc2 (it : ID) (t : TD) (ifs : BD) (it1 : ID) (t1 : TD) (ifs1 : BD) (fe : ED) (vs vs1 : List Nat) : ED := fun ρ => (it ρ).bind fun ds ρ1 => (lc2Loop t ifs it1 t1 ifs1 fe vs vs1 ds [] (wipeE ρ1 vs)).bind fun acc ρ2 => .ok (.lst acc) (unwipe ρ1 vs ρ2)
theorem lc2_it {J : It} {n : Nat} {Gd : Hp → Prop} {Y : Nat → Hp → V → Hp → Prop} (w : Walk J n Gd Y) {H1 : Hp} {Qd : Hp → Prop} {Body : V → Hp → (Hp → Prop) → Prop} (Pv : Nat → Hp → Prop) (h0 : Pv 0 H1) (hG : ∀ i H, i ≤ n → Pv i H → Gd H)
    (hs : ∀ i x H H', i < n → Pv i H → Y i H x H' → Body x H' (Pv (i + 1))) (hd : ∀ H, Pv n H → Qd H) :
    ∃ W : Nat → Nat → Hp → Prop, (∃ m, W 0 m H1) ∧ ∀ i m H, W i m H → (J.stop i H ∧ Qd H) ∨ (J.go i H ∧ ∃ Nx : Hp → Prop, (∀ H', Nx H' → ∃ m', m' < m ∧ W (i + 1) m' H') ∧ ∀ x H', J.yld i H x H' → Body x H' Nx) := by
  refine ⟨fun i m H => m = n - i ∧ i ≤ n ∧ Pv i H, ⟨n, by simp, Nat.zero_le _, h0⟩, ?_⟩
  rintro i m H ⟨rfl, hi, p⟩
  have q := hG i H hi p
  by_cases hlt : i < n
  · refine .inr ⟨w.goes i H hlt q, Pv (i + 1), fun H' p' => ⟨n - (i + 1), by omega, rfl, hlt, p'⟩, fun x H' y => hs i x H H' hlt p (w.yields i H x H' hlt q y)⟩
  · have e : i = n := by omega
    subst e
    exact .inl ⟨w.stops H q, hd H p⟩
theorem lc2Loop_nox (t : TD) (ifs : BD) (it1 : ID) (t1 : TD) (ifs1 : BD) (fe : ED) (vs vs1 : List Nat) : ∀ (ds acc : List Dn.D) (ρ : Env) e ρ', lc2Loop t ifs it1 t1 ifs1 fe vs vs1 ds acc ρ ≠ .exc e ρ' := by
  intro ds
  induction ds with
  | nil => intro acc ρ e ρ' z; cases z
  | cons d ds ih =>
    intro acc ρ e ρ' z
    rw [lc2Loop] at z
    cases q1 : t d ρ with
    | none => rw [q1] at z; cases z
    | some ρa =>
      rw [q1] at z
      dsimp only at z
      cases q2 : ifs ρa with
      | bad => rw [q2] at z; cases z
      | exc _ _ => rw [q2] at z; cases z
      | ok b ρb =>
        rw [q2] at z
        cases b with
        | false => exact ih _ _ _ _ z
        | true =>
          simp only [nox_ok, bind_ok, if_true] at z
          cases q3 : it1 ρb with
          | bad => rw [q3] at z; cases z
          | exc _ _ => rw [q3] at z; cases z
          | ok x ρc =>
            rw [q3] at z
            simp only [nox_ok, bind_ok] at z
            cases q4 : lcLoop t1 ifs1 fe vs1 x acc (wipeE ρc vs1) with
            | bad => rw [q4] at z; cases z
            | exc _ _ => exact lcLoop_nox _ _ _ _ _ _ _ _ _ q4
            | ok x ρd => rw [q4] at z; exact ih _ _ _ _ z
/-- the reading of a comprehension of two clauses -/
theorem tLc2_of {it : ID} {t : TD} {g : TG} {ix : List Nat} {ifs : BD} {fe : ED} {vs : List Nat} {it1 : ID} {t1 : TD} {g1 : TG} {ix1 : List Nat} {ifs1 : BD} {vs1 : List Nat} (hg : ∀ F H σ ρ fp d v ρ' Q, St G m F H σ ρ fp → Rep G F d v → t d ρ = some ρ' →
    (∀ σ' fp', St G m F H σ' ρ' fp' → Step G F H fp F H fp' → IoKept m σ σ' → (∀ vs : List Nat, (∀ j ∈ ix, j ∈ vs) → wipe σ' vs = wipe σ vs) → Q σ' H) → g v σ H Q)
    (hv : ∀ v ∈ vs, m v = .frz) (hix : ∀ j ∈ ix, j ∈ vs)
    (hg1 : ∀ F H σ ρ fp d v ρ' Q, St G m F H σ ρ fp → Rep G F d v → t1 d ρ = some ρ' →
    (∀ σ' fp', St G m F H σ' ρ' fp' → Step G F H fp F H fp' → IoKept m σ σ' → (∀ vs : List Nat, (∀ j ∈ ix1, j ∈ vs) → wipe σ' vs = wipe σ vs) → Q σ' H) → g1 v σ H Q)
    (hix1 : ∀ j ∈ ix1, j ∈ vs1) (hsub : ∀ i ∈ vs1, i ∈ vs) {σ0 : L2.St} {H0 : Hp} {Q : VK} (h : tG G m W (RV G 1) (eLc2 it t ifs it1 t1 ifs1 fe vs vs1) σ0 H0 Q) :
    tLc2 (tG G m W (RI G) it) g (tB G m W0 ifs) (tG G m W0 (RI G) it1) g1 (tB G m W0 ifs1) (tD G m W0 fe) vs vs1 σ0 H0 Q := by
  obtain ⟨F, ρ, fp, s, h⟩ := h
  refine ⟨F, ρ, fp, s, (RG.bind (R := RI G) s h).mono fun J H1 ⟨F1, ρ1, fp1, ds, p1, s1, ⟨Gd, Y, w, hG, hY⟩, h1⟩ => ?_⟩
  intro D hD
  have hv1 : ∀ v ∈ vs1, m v = .frz := fun v h => hv v (hsub v h)
  have sw := s1.wiped (vs := vs) hv
  have grD : Grow G F1 H1 F1 (upd H1 D (.lst [])) := Grow.drop s1.inn hD
  have sD := sw.grow grD
  have h1' : RG G m W (RV G 1) F1 H1 σ0 fp1 Q ((lc2Loop t ifs it1 t1 ifs1 fe vs vs1 ds [] (wipeE ρ1 vs)).bind fun acc ρ2 => .ok (.lst acc) (unwipe ρ1 vs ρ2)) := h1
  refine lc2_it w (fun i H => ∃ F2 ρ2 fp2 acc xs, Step G F1 H1 fp1 F2 H fp2 ∧ St G m F2 H (wipe σ0 vs) ρ2 fp2 ∧ H D = some (.lst xs) ∧ RepL G F2 acc xs ∧ F2.fx D = none ∧ F2.nt D = none ∧ (∀ i, D ∉ fp2 i) ∧
      (∃ r, lc2Loop t ifs it1 t1 ifs1 fe vs vs1 (ds.drop i) acc ρ2 = r ∧ match r with
        | .ok acc' ρ3 => ∀ F' H' fp' xs', Step G F1 H1 fp1 F' H' fp' → St G m F' H' (wipe σ0 vs) ρ3 fp' → H' D = some (.lst xs') → RepL G F' acc' xs' → F'.fx D = none → F'.nt D = none → (∀ i, D ∉ fp' i) → Q (.ref D) H'
        | .exc _ _ => False
        | .bad => False)) ?_ ?_ ?_ ?_
  · refine ⟨F1, wipeE ρ1 vs, fp1, [], [], grD.step, sD, upd_same, rfl, (s1.inn.free hD).1, (s1.inn.free hD).2, fun i hi => s1.alloc hi hD, _, rfl, ?_⟩
    rw [List.drop_zero]
    cases q : lc2Loop t ifs it1 t1 ifs1 fe vs vs1 ds [] (wipeE ρ1 vs) with
    | bad => rw [q] at h1'; exact h1'.elim
    | exc e ρ2 => exact lc2Loop_nox _ _ _ _ _ _ _ _ _ _ _ _ _ q
    | ok acc' ρ3 =>
      rw [q] at h1'
      intro F' H' fp' xs' st sx hD' rx n1 n2 n3
      exact h1' (.ref D) F' H' fp' st (s1.unwiped st.ext sx hv) ⟨[D], ⟨D, rfl, rfl, xs', hD', rx⟩, by simp, fun a ha => by
        have : a = D := by simpa using ha
        subst this
        exact ⟨n1, n2, n3, .inr hD⟩⟩
  · rintro i H _ ⟨F2, ρ2, fp2, acc, xs, st, s2, _⟩
    exact hG H F2 st.ext s2.inn
  · rintro i x H H' hi ⟨F2, ρ2, fp2, acc, xs, st, s2, hDx, rx, n1, n2, n3, r, hr, q⟩ hy
    obtain ⟨F3, d, ed, gr, rp⟩ := hY i H F2 x H' st.ext s2.inn hi hy
    have s3 := s2.grow gr
    have st3 : Step G F1 H1 fp1 F3 H' fp2 := st.trans gr.step s1.inn fun i a h => (s2.own i a h).2
    have hDx3 : H' D = some (.lst xs) := gr.same _ _ hDx
    have rx3 := RepL.ext gr.ext _ _ rx
    have n1' : F3.fx D = none := by
      cases z : F3.fx D with
      | none => rfl
      | some o => rcases gr.newF D o z with y | y; rw [n1] at y; cases y; rw [hDx] at y; cases y
    have n2' : F3.nt D = none := by
      cases z : F3.nt D with
      | none => rfl
      | some o => rcases gr.newN D o z with y | y; rw [n2] at y; cases y; rw [hDx] at y; cases y
    have hd : ds.drop i = d :: ds.drop (i + 1) := by
      rw [List.drop_eq_getElem_cons hi]
      rw [List.getElem?_eq_getElem hi] at ed
      cases ed; rfl
    rw [hd, lc2Loop] at hr
    cases q1 : t d ρ2 with
    | none => rw [q1] at hr; subst hr; exact q.elim
    | some ρa =>
      rw [q1] at hr
      dsimp only at hr
      refine hg F3 H' (wipe σ0 vs) ρ2 fp2 d x ρa _ s3 rp q1 fun σ4 fp4 s4 st4 io4 wp4 => ?_
      have hw : wipe σ4 vs = wipe σ0 vs := by
        rw [wp4 vs hix]
        exact wipe_sub fun _ h => h
      have wne : ∀ {σ : L2.St}, wipe (wipe σ vs) vs = wipe σ vs → True := fun _ => trivial
      refine ⟨by rw [hw], ?_⟩
      have stA : Step G F1 H1 fp1 F3 H' fp4 := st3.trans st4 s1.inn fun i a h => (s3.own i a h).2
      have n3' : ∀ i, D ∉ fp4 i := fun i hi => by
        rcases st4.fpn i D hi with ⟨j, z⟩ | z
        · exact n3 j z
        · rw [hDx3] at z; cases z
      cases q2 : ifs ρa with
      | bad => rw [q2] at hr; subst hr; exact q.elim
      | exc _ _ => rw [q2] at hr; subst hr; exact q.elim
      | ok b ρb =>
        rw [q2] at hr
        simp only [nox_ok, bind_ok] at hr
        refine ⟨F3, ρa, fp4, s4, ?_⟩
        rw [q2]
        intro b' F5 H5 fp5 st5 s5 eb
        cases eb
        have stB : Step G F1 H1 fp1 F5 H5 fp5 := stA.trans st5 s1.inn fun i a h => (s4.own i a h).2
        have hD5 : H5 D = some (.lst xs) := st5.frm D _ hDx3 n2' n3'
        have rx5 := RepL.ext st5.ext _ _ rx3
        have n15 : F5.fx D = none := by
          cases z : F5.fx D with
          | none => rfl
          | some o => rcases st5.newF D o z with y | y | ⟨j, y⟩; rw [n1'] at y; cases y; rw [hDx3] at y; cases y; exact absurd y (n3' j)
        have n25 : F5.nt D = none := by
          cases z : F5.nt D with
          | none => rfl
          | some o => rcases st5.newN D o z with y | y | ⟨j, y⟩; rw [n2'] at y; cases y; rw [hDx3] at y; cases y; exact absurd y (n3' j)
        have n35 : ∀ i, D ∉ fp5 i := fun i hi => by
          rcases st5.fpn i D hi with ⟨j, z⟩ | z
          · exact n3' j z
          · rw [hDx3] at z; cases z
        cases b with
        | false =>
          simp only [Bool.false_eq_true, if_false] at hr ⊢
          have s6 := s5.wiped (vs := vs) hv
          rw [hw] at s6
          exact ⟨F5, wipeE ρb vs, fp5, acc, xs, stB, s6, hD5, rx5, n15, n25, n35, r, hr, q⟩
        | true =>
          simp only [if_true] at hr ⊢
          refine ⟨F5, ρb, fp5, s5, ?_⟩
          cases q3 : it1 ρb with
          | bad => rw [q3] at hr; subst hr; exact q.elim
          | exc _ _ => rw [q3] at hr; subst hr; exact q.elim
          | ok es ρc =>
            rw [q3] at hr
            simp only [nox_ok, bind_ok] at hr
            intro J1 F7 H7 fp7 st7 s7 ⟨Gd1, Y1, w1, hG1, hY1⟩
            have hD7 : H7 D = some (.lst xs) := st7.frm D _ hD5 n25 n35
            have n17 : F7.fx D = none := by
              cases z : F7.fx D with
              | none => rfl
              | some o => rcases st7.newF D o z with y | y | ⟨j, y⟩; rw [n15] at y; cases y; rw [hD5] at y; cases y; exact absurd y (n35 j)
            have n27 : F7.nt D = none := by
              cases z : F7.nt D with
              | none => rfl
              | some o => rcases st7.newN D o z with y | y | ⟨j, y⟩; rw [n25] at y; cases y; rw [hD5] at y; cases y; exact absurd y (n35 j)
            have n37 : ∀ i, D ∉ fp7 i := fun i hi => by
              rcases st7.fpn i D hi with ⟨j, z⟩ | z
              · exact n35 j z
              · rw [hD5] at z; cases z
            have stC : Step G F1 H1 fp1 F7 H7 fp7 := stB.trans st7 s1.inn fun i a h => (s5.own i a h).2
            have rx7 := RepL.ext st7.ext _ _ rx5
            refine lcTurns (vs := vs1) (σ0 := σ4) hg1 hv1 hix1 s1 hD w1 hG1 hY1 stC (s7.wiped (vs := vs1) hv1) hD7 rx7 n17 n27 n37 ?_
            cases q4 : lcLoop t1 ifs1 fe vs1 es acc (wipeE ρc vs1) with
            | bad => rw [q4] at hr; subst hr; exact q.elim
            | exc _ _ => exact lcLoop_nox _ _ _ _ _ _ _ _ _ q4
            | ok acc' ρd =>
              rw [q4] at hr
              simp only [bind_ok] at hr
              intro F' H9 fp' xs' x9 st9 s9 hD9 rx9 o1 o2 o3
              have s10 := s9.wiped (vs := vs) hv
              rw [wipe_sub hsub, hw] at s10
              exact ⟨F', wipeE ρd vs, fp', acc', xs', st9, s10, hD9, rx9, o1, o2, o3, r, hr, q⟩
  · rintro H ⟨F2, ρ2, fp2, acc, xs, st, s2, hDx, rx, n1, n2, n3, r, hr, q⟩
    rw [List.drop_length] at hr
    subst hr
    exact q F2 H fp2 xs st s2 hDx rx n1 n2 n3
end
section
variable {G : Gx} {X : Cx} {m : Nat → Mode} {n : Nat} {W : WX} {k : Nat} {elt tg iter tg1 iter1 : Expr} {ifs ifs1 : List Expr} {scope : Scope} {own : List (Str × Nat)} {pos : Pos} {it it1 : ID} {t t1 : TD} {g g1 : TG} {ix ix1 : List Nat} {bi bi1 : BD} {fe : ED}
theorem do_lc2 (vs1 : List Nat) (hi : DI G X m W k tg iter it) (ok : BlkOk X.N X.env.scope scope own)
    (hg : ∀ (s : Shared) (H : Hp) (C : Addr) (cl : List (Str × Addr)) (fp : List Addr), DG G (X.blk s H scope (compEnvC scope cl C X.env) fp) m W0 k ix tg t g)
    (ht : ∀ (s : Shared) (H : Hp) (C : Addr) (cl : List (Str × Addr)) (fp : List Addr), DIf G (X.blk s H scope (compEnvC scope cl C X.env) fp) m W0 k ifs bi)
    (hi1 : ∀ (s : Shared) (H : Hp) (C : Addr) (cl : List (Str × Addr)) (fp : List Addr), DI G (X.blk s H scope (compEnvC scope cl C X.env) fp) m W0 k tg1 iter1 it1)
    (hg1 : ∀ (s : Shared) (H : Hp) (C : Addr) (cl : List (Str × Addr)) (fp : List Addr), DG G (X.blk s H scope (compEnvC scope cl C X.env) fp) m W0 k ix1 tg1 t1 g1)
    (ht1 : ∀ (s : Shared) (H : Hp) (C : Addr) (cl : List (Str × Addr)) (fp : List Addr), DIf G (X.blk s H scope (compEnvC scope cl C X.env) fp) m W0 k ifs1 bi1)
    (he : ∀ (s : Shared) (H : Hp) (C : Addr) (cl : List (Str × Addr)) (fp : List Addr), DE G (X.blk s H scope (compEnvC scope cl C X.env) fp) m W0 k elt fe)
    (hv : ∀ v ∈ own.map (·.2), m v = .frz := by decide) (hix : ∀ j ∈ ix, j ∈ own.map (·.2) := by decide) (hix1 : ∀ j ∈ ix1, j ∈ vs1 := by decide) (hsub : ∀ j ∈ vs1, j ∈ own.map (·.2) := by decide) (hs : ∀ x, foldedSetIterable iter X.env x = pure x := by intro _; rfl) (hs1 : ∀ env x, foldedSetIterable iter1 env x = pure x := by intro _ _; rfl) :
    DO G X m W k 1 (.ListComp elt [⟨tg, iter, ifs, 0⟩, ⟨tg1, iter1, ifs1, 0⟩] scope pos) (eLc2 it t bi it1 t1 bi1 fe (own.map (·.2)) vs1) := fun c =>
  PEmono (pe_lc2 c.calm c.nd (hi c) ok hsub (fun s H C cl fp => (hg s H C cl fp (c.blk ..)).1) (fun s H C cl fp => ht s H C cl fp (c.blk ..)) (fun s H C cl fp => hi1 s H C cl fp (c.blk ..)) (fun s H C cl fp => (hg1 s H C cl fp (c.blk ..)).1) (fun s H C cl fp => ht1 s H C cl fp (c.blk ..)) (fun s H C cl fp => he s H C cl fp (c.blk ..)) hs hs1) fun σ H Q h =>
    tLc2_of (hg X.s_0 X.H_0 0 [] [] (c.blk ..)).2 hv hix (hg1 X.s_0 X.H_0 0 [] [] (c.blk ..)).2 hix1 hsub h
theorem ds_setLc2 (vs1 : List Nat) (i : Nat) {y : Str} {py spos : Pos} (hi : DI G X m W k tg iter it) (ok : BlkOk X.N X.env.scope scope own)
    (hg : ∀ (s : Shared) (H : Hp) (C : Addr) (cl : List (Str × Addr)) (fp : List Addr), DG G (X.blk s H scope (compEnvC scope cl C X.env) fp) m W0 k ix tg t g)
    (ht : ∀ (s : Shared) (H : Hp) (C : Addr) (cl : List (Str × Addr)) (fp : List Addr), DIf G (X.blk s H scope (compEnvC scope cl C X.env) fp) m W0 k ifs bi)
    (hi1 : ∀ (s : Shared) (H : Hp) (C : Addr) (cl : List (Str × Addr)) (fp : List Addr), DI G (X.blk s H scope (compEnvC scope cl C X.env) fp) m W0 k tg1 iter1 it1)
    (hg1 : ∀ (s : Shared) (H : Hp) (C : Addr) (cl : List (Str × Addr)) (fp : List Addr), DG G (X.blk s H scope (compEnvC scope cl C X.env) fp) m W0 k ix1 tg1 t1 g1)
    (ht1 : ∀ (s : Shared) (H : Hp) (C : Addr) (cl : List (Str × Addr)) (fp : List Addr), DIf G (X.blk s H scope (compEnvC scope cl C X.env) fp) m W0 k ifs1 bi1)
    (he : ∀ (s : Shared) (H : Hp) (C : Addr) (cl : List (Str × Addr)) (fp : List Addr), DE G (X.blk s H scope (compEnvC scope cl C X.env) fp) m W0 k elt fe)
    (hl : (m i).lvl = 1 ∨ (m i).lvl = 0 := by first | exact Or.inl rfl | exact Or.inr rfl) (hio : (m i).isIo = false := by rfl) (hy : X.N[i]? = some y := by rfl) (hyl : X.env.scope.names.lookup y = some .local := by rfl)
    (hsw : swapsWith (.ListComp elt [⟨tg, iter, ifs, 0⟩, ⟨tg1, iter1, ifs1, 0⟩] scope pos) (some (.Name y py)) spos.line X.env = pure true := by exact sw_true rfl rfl rfl (by decide +kernel))
    (hv : ∀ v ∈ own.map (·.2), m v = .frz := by decide) (hix : ∀ j ∈ ix, j ∈ own.map (·.2) := by decide) (hix1 : ∀ j ∈ ix1, j ∈ vs1 := by decide) (hsub : ∀ j ∈ vs1, j ∈ own.map (·.2) := by decide) (hs : ∀ x, foldedSetIterable iter X.env x = pure x := by intro _; rfl) (hs1 : ∀ env x, foldedSetIterable iter1 env x = pure x := by intro _ _; rfl) :
    DS G X m n W k (.Assign [.Name y py] (.ListComp elt [⟨tg, iter, ifs, 0⟩, ⟨tg1, iter1, ifs1, 0⟩] scope pos) spos) (sSet i (eLc2 it t bi it1 t1 bi1 fe (own.map (·.2)) vs1)) := fun c =>
  PSmono (ps_setLc2 c.calm c.nd hy hyl hsw (hi c) ok hsub (fun s H C cl fp => (hg s H C cl fp (c.blk ..)).1) (fun s H C cl fp => ht s H C cl fp (c.blk ..)) (fun s H C cl fp => hi1 s H C cl fp (c.blk ..)) (fun s H C cl fp => (hg1 s H C cl fp (c.blk ..)).1) (fun s H C cl fp => ht1 s H C cl fp (c.blk ..)) (fun s H C cl fp => he s H C cl fp (c.blk ..)) hs hs1) fun D σ H ⟨F, ρ, fp, s, h⟩ => by
    rcases hl with hl | hl
    · exact tLc2_of (hg X.s_0 X.H_0 0 [] [] (c.blk ..)).2 hv hix (hg1 X.s_0 X.H_0 0 [] [] (c.blk ..)).2 hix1 hsub ⟨F, ρ, fp, s, hl ▸ set_run hio s h⟩
    · refine tLc2_of (hg X.s_0 X.H_0 0 [] [] (c.blk ..)).2 hv hix (hg1 X.s_0 X.H_0 0 [] [] (c.blk ..)).2 hix1 hsub ⟨F, ρ, fp, s, RG.freeze (n := 1) s ?_⟩
      have h2 := set_run hio s h
      rw [hl] at h2
      cases q : eLc2 it t bi it1 t1 bi1 fe (own.map (·.2)) vs1 ρ with
      | ok d ρ' => rw [q] at h2; exact fun v F' H' fp' a b r => h2 v F' H' fp' a b (RV.zero r)
      | exc e ρ' => rw [q] at h2; exact h2
      | bad => rw [q] at h2; exact h2
end
end Dn

/-! Dn23: sorted(xs, key=f), f a def that gives (len(x), x); list(d). -/
namespace Dn
open PySem PySem.Spec PyProof.Rows L2
section
variable {X : Cx} {pins : List (Addr × Obj)} {σ : L2.St} {H : Hp} {s : Shared}
theorem key_run {x qual y : Str} {st : Stmt} {f : Addr} {fd : FuncData} {N : List Str} {p1 p2 p3 p4 p5 p6 : Pos} {x1} {A : Around} {h : Heap} {tk : Nat} {a : Addr} {its : List Value} {d : PyData}
    (I : Inv X pins σ H s) (Fn : L2.Fun X.K x qual st f fd) (S : FnScope N [y] (defScope st)) (hl : (defScope st).names.lookup y = some .local)
    (hbody : defBody st = [.Return (some (.Tuple [.Call (.Name "len" p1) [.Name y p2] [] p3, .Name y p4] x1 p5)) p6])
    (hglob : (defScope st).names.lookup ("len" : Str) = some .globalImplicit)
    (hb : ∀ (kV doc pm : Value) (an : Option Addr) (cdv ct : Value) (us : List Value), us.length = 1 → bindArgs (PySem.W.fnOf x qual (defArgs st) (defBody st) (defScope st) .none kV doc pm an cdv ct) ⟨us, []⟩ = pure ([y].zip us)) (hm : X.mg "len" = none) (hA : A.depth < recursionLimit)
    (hyd : (y == ("__debug__" : Str)) = false)
    (hk : ∀ b o, s.heap.get? b = some o → h.get? b = some o) (ht : IsTup h a its.toArray) (hz : its.length < 2 ^ 62) (hr : Reads h (.ref a) d []) :
    wpAny (model X.prog X.w) A (call (.ref f) [.ref a]) (PySem.W.KeyPure (.tuple [.int its.length, d]) { s with heap := h, toks := tk }) (fun _ _ => False) { s with heap := h, toks := tk } := by
  obtain ⟨oc, od, kV, doc, pm, an, cdv, ct, osl, rfl, lk, hcd⟩ := Fn.ex
  have KX : X.K.In h := I.kIn.keeps hk
  have lim : h.NoLimit := I.nolimit.keeps hk
  have bk : ∀ b o, X.base.get? b = some o → h.get? b = some o := fun b o e => hk b o (I.bk b o e)
  refine wpAny_call ?_
  refine codeAny_call_cells (s := { s with heap := h, toks := tk }) hA (KX _ _ lk) rfl lim (PySem.W.codeRec_of KX hcd) (body := [.Return (some (.Tuple [.Call (.Name "len" p1) [.Name y p2] [] p3, .Name y p4] x1 p5)) p6]) (by rw [← hbody]; first | done | rfl) (hb kV doc pm an cdv ct [.ref a] rfl) rfl (fun z hz => by
    have : z = (y, .ref a) := by simpa using hz
    subst this; exact .inl hl) (fun s1 ic => ?_) (hk := S.kind) (hco := S.co) (hgen := S.gen)
  have kp := ic.toInCall.keep
  have hy : (callEnvC (PySem.W.fnOf x qual (defArgs st) (defBody st) (defScope st) .none kV doc pm an cdv ct) h.objs.size f).kindOf y = some .local := hl
  have hmy : bindL (callEnvC (PySem.W.fnOf x qual (defArgs st) (defBody st) (defScope st) .none kV doc pm an cdv ct) h.objs.size f).kindOf ([y].zip [Value.ref a]) (fun _ => none) y = some (.ref a) := by
    show bindL _ [(y, Value.ref a)] _ y = _
    unfold bindL bindL
    rw [if_pos hy]
    exact if_pos rfl
  dsimp only at ic hy hmy ⊢
  generalize henv : callEnvC (PySem.W.fnOf x qual (defArgs st) (defBody st) (defScope st) .none kV doc pm an cdv ct) h.objs.size f = env at ic hy hmy ⊢
  have hkind : env.scope.kind = .function := by rw [← henv]; exact S.kind
  have hg : env.globals = mainGlobals := by rw [← henv]; rfl
  have hbl : env.builtins = builtinsNs := by rw [← henv]; rfl
  have hlen : env.kindOf "len" = some .globalImplicit := by rw [← henv]; exact hglob
  have ldy : ∀ {A : Around} {E : Value → Shared → Prop} {Q : Value → Shared → Prop} {p : Pos} {s2 : Shared}, InCallC { s with heap := h, toks := tk } env.locals (bindL env.kindOf ([y].zip [Value.ref a]) fun _ => none) env.cells (bindC env.kindOf ([y].zip [Value.ref a]) fun _ => none) s2 → Q (.ref a) s2 → wpAny (model X.prog X.w) A (eval (.Name y p) env) Q E s2 := fun x q =>
    NameLC x hkind hy hmy q hyd
  refine wpAny_execs_cons (wpAny_Return_some (wpAny_Tuple_spliced ?_))
  have he : starEach [.Call (.Name "len" p1) [.Name y p2] [] p3, .Name y p4] env = [(false, eval (.Call (.Name "len" p1) [.Name y p2] [] p3) env), (false, eval (.Name y p4) env)] := rfl
  rw [he]
  refine Calls.spliced_cons (wpAny_Call_Name_kw ?_)
  obtain ⟨mb, b1, b2⟩ := I.mod.blt
  refine Calls.Name_function_global hkind hlen (Calls.loadGlobal_builtin (by rw [hg]; exact I.mod.glob.keeps fun b o e => kp b o (bk b o e)) hm (by rw [hbl]; exact b1.keeps fun b o e => kp b o (bk b o e)) ((b2 "len" (by decide)).trans (by rfl)) ?_)
  refine PyProof.Rows.callWith_builtin1 (Calls.spliced_cons (ldy ic (Calls.spliced_nil ?_))) rfl rfl
  have ks : ∀ {s1 : Shared}, InCallC { s with heap := h, toks := tk } env.locals (bindL env.kindOf ([y].zip [Value.ref a]) fun _ => none) env.cells (bindC env.kindOf ([y].zip [Value.ref a]) fun _ => none) s1 → IsTup s1.heap a its.toArray := fun x => by
    obtain ⟨o, ho, hc, n, hd⟩ := ht
    exact ⟨o, x.toInCall.keep a o ho, hc, n, hd⟩
  refine len_tuple (ks ic) (by simp only [List.size_toArray]; omega) (Calls.spliced_cons (ldy (ic.kept (fun _ _ e => e)) (Calls.spliced_nil ⟨by show 2 ≤ sizeLine; decide, ?_⟩)))
  obtain ⟨⟨h1, tk1, e1⟩, ns, keep, fresh⟩ := ic.toInCall
  subst e1
  refine ⟨_, _, rfl, fun b o e => Heap.get?_push_of_some _ (keep b o e), ?_⟩
  have r2 : Reads (h1.push { cls := .type "tuple", data := .seq [Value.int its.toArray.size (tk1 + 1), Value.ref a].toArray }) (.ref a) d [] := PyProof.Rows.Reads.keeps (fun b o e => Heap.get?_push_of_some _ (keep b o e)) hr
  have el : ((its.toArray.size : Nat) : Int) = its.length := by simp
  exact Reads.tuple (as := [] ++ ([] ++ [])) (Heap.get?_push_size _ rfl) rfl rfl (.cons (el ▸ Reads.int _ _) (.cons r2 .nil))
end
/-! ### what a list of tuples sorts by -/
mutual
def noL : PyData → Bool
  | .list _ => false
  | .dict _ => false
  | .tuple ds => noLs ds
  | .none => true
  | .bool _ => true
  | .int _ => true
  | .str _ => true
def noLs : List PyData → Bool
  | [] => true
  | d :: ds => noL d && noLs ds
end
mutual
theorem noL_nil {h : Heap} : ∀ (d : PyData) (v : Value) (as : List Addr), noL d = true → Reads h v d as → as = []
  | .none, _, _, _, r => by cases r; rfl
  | .bool _, _, _, _, r => by cases r; rfl
  | .int _, _, _, _, r => by cases r; rfl
  | .str _, _, _, _, r => by cases r; rfl
  | .tuple ds, _, _, n, r => by
    cases r with
    | tuple h1 h2 h3 h4 => exact noLs_nil ds _ _ (by rw [noL] at n; exact n) h4
  | .list _, _, _, n, _ => by rw [noL] at n; cases n
  | .dict _, _, _, n, _ => by rw [noL] at n; cases n
theorem noLs_nil {h : Heap} : ∀ (ds : List PyData) (vs : List Value) (as : List Addr), noLs ds = true → ReadsAll h vs ds as → as = []
  | [], _, _, _, r => by cases r; rfl
  | d :: ds, _, _, n, r => by
    rw [noLs, Bool.and_eq_true] at n
    cases r with
    | cons h1 h2 => rw [noL_nil d _ _ n.1 h1, noLs_nil ds _ _ n.2 h2]; rfl
end
def keyD : D → PyData
  | .tup es => .tuple [.int es.length, encD (.tup es)]
  | _ => .none
def okSortK (ds : List D) : Bool := ds.all (fun d => (toPy d).isSome && noL (encD d) && tupNE (keyD d) && decide ((keyD d).depth ≤ 32)) && ds.all (fun d => ds.all fun e => PySem.W.alike (keyD d) (keyD e)) && ds.all (fun d => match d with
  | .tup es => decide (es.length ≤ 100000)
  | _ => false)
def sortKD (ds : List D) : List D := ds.mergeSort (PySem.W.dataLe false keyD)
def qSortK (sq : SQ) : Option (List D) := if okSortK sq.ds = true ∧ sq.ds.length ≤ sizeLine then (match sq with
  | .l ds => some (sortKD ds)
  | .t _ => none) else none
/-- what is known of the def that the list sorts by -/
structure KeyF (K : PySem.W.Frag) (mg : Str → Option Value) (f : Addr) : Prop where
  ex : ∃ (x qual y : Str) (st : Stmt) (fd : FuncData) (N : List Str) (p1 p2 p3 p4 p5 p6 : Pos) (x1 : Nat), L2.Fun K x qual st f fd ∧ FnScope N [y] (defScope st) ∧ (defScope st).names.lookup y = some .local ∧
    defBody st = [.Return (some (.Tuple [.Call (.Name "len" p1) [.Name y p2] [] p3, .Name y p4] x1 p5)) p6] ∧ (defScope st).names.lookup ("len" : Str) = some .globalImplicit ∧
    (∀ (kV doc pm : Value) (an : Option Addr) (cdv ct : Value) (us : List Value), us.length = 1 → bindArgs (PySem.W.fnOf x qual (defArgs st) (defBody st) (defScope st) .none kV doc pm an cdv ct) ⟨us, []⟩ = pure ([y].zip us)) ∧ (y == ("__debug__" : Str)) = false
  len : mg "len" = none
abbrev rSortK (K : PySem.W.Frag) (f : Addr) : List V → List V → Hp → VK → Prop := fun xs zs H Q => ∃ (a : Addr) (ys : List V) (ds : List D) (RR : V → D → Prop), xs = [.ref a] ∧ zs = [.ref f] ∧ SqL K H a ys ∧ Paired RR ys ds ∧
  (∀ y d, RR y d → ∃ es b ws p, d = .tup es ∧ y = .ref b ∧ SqT K H b ws ∧ ws.length = es.length ∧ toPy d = some p ∧ Dp K H y p) ∧ okSortK ds = true ∧ ds.length ≤ sizeLine ∧
  ∀ zs p, Paired RR zs (sortKD ds) → H p = none → Q (.ref p) (upd H p (.lst zs))
section
variable {X : Cx}
theorem okSortK_at {ds : List D} (h : okSortK ds = true) : (∀ d ∈ ds, (toPy d).isSome = true ∧ noL (encD d) = true ∧ tupNE (keyD d) = true ∧ (keyD d).depth ≤ 32 ∧ ∀ es, d = .tup es → es.length ≤ 100000) ∧ PySem.W.AllAlike (ds.map keyD) ∧ PySem.W.Sortable (ds.map keyD) := by
  unfold okSortK at h
  simp only [Bool.and_eq_true, List.all_eq_true, decide_eq_true_eq] at h
  obtain ⟨⟨h1, h2⟩, h3⟩ := h
  refine ⟨fun d hd => ⟨(h1 d hd).1.1.1, (h1 d hd).1.1.2, (h1 d hd).1.2, (h1 d hd).2, fun es e => ?_⟩, fun d hd e he => ?_, .inl fun d hd => ?_⟩
  · have := h3 d hd
    subst e
    simpa using this
  · obtain ⟨a, ha, rfl⟩ := List.mem_map.mp hd
    obtain ⟨b, hb, rfl⟩ := List.mem_map.mp he
    exact h2 a ha b hb
  · obtain ⟨a, ha, rfl⟩ := List.mem_map.mp hd
    have := (h1 a ha).1.2
    unfold tupNE at this
    split at this
    · rename_i x r e; exact ⟨x, r, e⟩
    · cases this
theorem cr_sortK {f : Addr} (kf : KeyF X.K X.mg f) (hu : X.A.units + 64 < cLine) (hd : X.A.depth < recursionLimit) : CallRK X (.builtin "sorted") [Str.ofString "key"] (rSortK X.K f) := by
  intro pins s σ H xs zs us ws Q I r rz ⟨a, ys, ds, RR, ex, ez, hs, pr, hdd, ok, hz, q⟩
  subst ex ez
  obtain ⟨u, rfl, ru⟩ := vals1 r
  obtain rfl : u = Value.ref a := ru
  obtain ⟨w, rfl, rw'⟩ := vals1 rz
  obtain rfl : w = Value.ref f := rw'
  obtain ⟨its, rv, hl, hzz⟩ := I.list hs
  obtain ⟨o1, o2, o3⟩ := okSortK_at ok
  obtain ⟨⟨x, qual, y, st, fd, N, p1, p2, p3, p4, p5, p6, x1, Fn, S, hly, hbody, hglob, hb, hyd⟩, hm⟩ := kf
  have e : PySem.W.EachIs (fun u d => ∃ x, RelV x u ∧ RR x d) its ds := paired_each rv pr
  refine PySem.W.sorted_key_data (kw := [(Str.ofString "key", .ref f)]) (b := false) keyD hl.isList e o2 o3 hz (fun d hd => by have := (o1 d hd).2.2.2.1; omega) (ksk_s1 _ _) (fun x => ksk_l1 (.ref x) (.ref f)) (fun x => ksk_t1 f x) (fun v d ⟨x', hv, hr⟩ hm' h tk hk => ?_) fun out c h' tk hk _ hn ho hout => ?_
  · obtain ⟨es, b, ws, p, rfl, rfl, hT, hw, e1, hp⟩ := hdd _ _ hr
    obtain rfl : v = Value.ref b := hv
    obtain ⟨its2, rv2, ht, _⟩ := I.tuple hT
    obtain ⟨as, r1⟩ := Dp.reads I p _ _ hp (show RelV (.ref b) (.ref b) from rfl)
    have oo := o1 _ hm'
    have hn : noL p = true := by have := oo.2.1; unfold encD at this; rw [e1] at this; exact this
    have := noL_nil p _ _ hn r1
    subst this
    have hl2 := rv2.length
    have hle := oo.2.2.2.2 es rfl
    have ht' : IsTup h b its2.toArray := by
      obtain ⟨o, ho, hc, n, hd⟩ := ht
      exact ⟨o, hk b o ho, hc, n, hd⟩
    have := key_run (x := x) (A := X.A.in1.in1) (tk := tk) I Fn S hly hbody hglob hb hm hd hyd hk ht' (by omega) (PyProof.Rows.Reads.keeps hk r1)
    have ek : keyD (.tup es) = .tuple [.int its2.length, p] := by
      show PyData.tuple [.int es.length, (toPy (.tup es)).getD .none] = _
      have : (es.length : Int) = its2.length := by omega
      rw [e1, this]; rfl
    rw [ek]
    exact this
  · obtain ⟨zs, z1, z2⟩ := each_paired hout
    refine ⟨.ref (s.heap.objs.size + 1), upd H (s.heap.objs.size + 1) (.lst zs), I.laid (t' := tk) hk (Nat.le_succ _) ⟨?_, out, c, z1, hn⟩, rfl, q zs _ z2 (I.hok.fresh (Nat.le_succ _))⟩
    have := z2.length
    unfold sortKD at this
    rw [List.length_mergeSort] at this
    omega
end
section
variable {G : Gx} {X : Cx} {m : Nat → Mode} {W : WX} {k : Nat} {e : Expr} {fq : QD} {p kp kpos pos : Pos} {f : Addr} {kn : Str}
theorem vq_sortK {F : Fr} {H : Hp} {x : V} {sq : SQ} {ds : List D} {Q : VK} (i : F.In G H) (r : SqRep G F H sq x) (e : qSortK sq = some ds) (q : ∀ p xs F' H', Grow G F H F' H' → H' p = none → RepL G F' ds xs → Q (.ref p) (upd H' p (.lst xs))) : rSortK G.K f [x] [.ref f] H Q := by
  unfold qSortK at e
  split at e
  · rename_i hc
    cases sq with
    | t es => cases e
    | l es =>
      cases e
      obtain ⟨a, xs, rfl, h1, h2⟩ := r
      obtain ⟨o1, _⟩ := okSortK_at hc.1
      have pr : Paired (fun x d => d ∈ es ∧ Rep G F d x) xs es := by
        have aux : ∀ {xs : List V} {ds : List D}, (∀ d ∈ ds, d ∈ es) → Paired (fun x d => Rep G F d x) xs ds → Paired (fun x d => d ∈ es ∧ Rep G F d x) xs ds := by
          intro xs ds hm p
          induction p with
          | nil => exact .nil
          | cons h t ih => exact .cons ⟨hm _ (by simp), h⟩ (ih fun d hd => hm d (by simp [hd]))
        exact aux (fun _ h => h) h2.paired
      refine ⟨a, xs, es, _, rfl, rfl, h1, pr, fun y d ⟨hm, h⟩ => ?_, hc.1, hc.2, fun zs p hp hn => ?_⟩
      · have o := o1 d hm
        obtain ⟨p, hp⟩ := Option.isSome_iff_exists.mp o.1
        cases d with
        | tup fs =>
          have hd := rep_dp i _ y p h hp
          rw [Rep] at h
          obtain ⟨b, ws, rfl, h3, h4⟩ := h
          exact ⟨fs, b, ws, p, rfl, rfl, i.seqT h3, h4.length, hp, hd⟩
        | _ => exact absurd o.2.2.1 (by simp [keyD, tupNE])
      · have aux : ∀ {xs : List V} {ds : List D}, Paired (fun x d => d ∈ es ∧ Rep G F d x) xs ds → Paired (fun x d => Rep G F d x) xs ds := by
          intro xs ds p
          induction p with
          | nil => exact .nil
          | cons h t ih => exact .cons h.2 ih
        exact q p zs F H (Grow.refl i) hn (RepL.ofPaired (aux hp))
  · cases e
theorem do_sortK (kf : KeyF G.K G.mg f) (hf : G.mg kn = some (.ref f)) (hm : G.mg "sorted" = none) (ha : DQ G X m W k e fq) (hg : Gl X "sorted" := by rfl) (hgk : Gl X kn := by rfl) (hkd : (kn == ("__debug__" : Str)) = false := by decide)
    (hs : starEach [e] X.env = (false, eval e X.env) :: starEach [] X.env := by rfl) (he : backTo pos (starEach [e] X.env) = (false, eval e X.env) :: backTo pos (starEach [] X.env) := by rfl) (hpl : (backTo pos (starEach [e] X.env)).any (·.1) = false := by rfl)
    (hall : (backToKw pos (keywordEach [⟨some "key", .Name kn kp, kpos⟩] X.env)).all (·.1.isSome) = true := by rfl) (hnone : (backToKw pos (keywordEach [⟨some "key", .Name kn kp, kpos⟩] X.env)).any (·.1.isNone) = false := by rfl) (hks : (backToKw pos (keywordEach [⟨some "key", .Name kn kp, kpos⟩] X.env)).filterMap (·.1) = [Str.ofString "key"] := by rfl) :
    DO G X m W k 1 (.Call (.Name "sorted" p) [e] [⟨some "key", .Name kn kp, kpos⟩] pos) (eQO qSortK fq) := fun c =>
  PEmono (pe_callBK (cr_sortK (X := X) (f := f) (c.K ▸ c.mg ▸ kf) c.room.units c.room.depth) hg (c.mg ▸ hm) (by rfl) (pa_cons (ha c) pa_nil hs) (pk_cons (pe_glob hgk (c.mg ▸ hf) (show RelV (.ref f) (.ref f) from rfl) hkd) pk_nil) (by decide) (by decide) he hpl hall hnone hks) fun σ H Q ⟨F, ρ, fp, s, h⟩ => by
    refine ⟨F, ρ, fp, s, (RG.bind (R := RSq G) s h).mono fun v H1 ⟨F1, ρ1, fp1, sq, p1, s1, r1, h1⟩ => ?_⟩
    cases q : qSortK sq with
    | none => rw [q] at h1; exact h1.elim
    | some ds =>
      rw [q] at h1
      rw [c.K]
      refine vq_sortK s1.inn r1 q fun p xs F' H' gr hp rx => ?_
      exact RV.newList (s1.grow gr) (RG.rebase s1 gr.step (s1.grow gr) h1) hp rx
/-! ### list(d) -/
def keysD : D → Option (List D)
  | .dN kvs => if kvs.length ≤ 100000 then some (kvs.map (·.1)) else none
  | .dK kvs => if kvs.length ≤ 100000 then some (kvs.map fun p => match p.1 with
    | .inl i => .int i
    | .inr s => .str s) else none
  | _ => none
end
end Dn

/-! Dn24: list(d), len(d). -/
namespace Dn
open PySem PySem.Spec PyProof.Rows L2
def rListK (P : Program) (w : World) : List V → Hp → VK → Prop := fun xs H Q => (∃ (a : Addr) (kvs : List (Key × V)), xs = [.ref a] ∧ Rd H a (.dK kvs) ∧ ∀ p, H p = none → Q (.ref p) (upd H p (.lst (kvs.map fun kv => kV kv.1)))) ∨
  ∃ (a : Addr) (es : NEs), xs = [.ref a] ∧ H a = some (dnO P w a es) ∧ ∀ p, H p = none → Q (.ref p) (upd H p (.lst (es.map fun e => V.ref e.2.1)))
theorem pn_keys {es : NEs} {ks : List (NestedKey × Addr × Value)} (pv : PairN es ks) : (es.map fun x => Value.ref x.2.1) = ks.map fun x => Value.ref x.2.1 := by
  induction pv with
  | nil => rfl
  | cons h t ih => rw [List.map_cons, List.map_cons, ih, h.2.1]
theorem call_listK {X : Cx} (hc : X.calm = true) : CallR X (.type "list") (rListK X.prog X.w) := by
  intro pins s σ H xs us Q I r h
  rcases h with h | ⟨d, es, rfl, hd, q⟩
  · exact call_listD hc pins s σ H xs us Q I r h
  obtain ⟨u, rfl, rx⟩ := r.one
  cases rx
  obtain ⟨⟨z, hs, ks, pv, o, es', ep, ho, hx, hdt, he, hn⟩, _⟩ := I.hok d _ hd
  have l1 : es'.size = ks.length := size_of_entries he
  have l2 : es.length = ks.length := pv.length
  refine PySem.W.kdl_call (kdl_raw hs hx hdt) (I.ok.hd hc) ho (by omega) fun h' tk acc' c' kp e it => ?_
  have ea : acc'.toList = ks.map fun x => Value.ref x.2.1 := by
    have hl : acc'.toList.length = ks.length := by rw [Array.length_toList, it.1]; exact l1
    apply List.ext_getElem?
    intro j
    rw [List.getElem?_map]
    cases hj : acc'.toList[j]? with
    | none =>
      have h1 := List.getElem?_eq_none_iff.mp hj
      rw [List.getElem?_eq_none (by omega)]
      rfl
    | some v =>
      obtain ⟨en, hen, hv⟩ := it.2 j v (by rw [← Array.getElem?_toList]; exact hj)
      have qe := entry_at he j
      rw [hen] at qe
      cases hb : ks[j]? with
      | none => rw [hb] at qe; exact nomatch (show some en = none from qe)
      | some b =>
        rw [hb] at qe
        have e2 : en = entryOfKey (nestedKind X.prog X.w) b := Option.some.inj qe
        rw [hv, e2]
        rfl
  have eb : acc'.toList = (es.map fun x => x.2.1).map Value.ref := by
    rw [ea, List.map_map]
    exact (pn_keys pv).symm
  have rv : Vals ((es.map fun x => x.2.1).map V.ref) acc'.toList := by rw [eb]; exact vals_refs _
  have hz : ((es.map fun x => x.2.1).map V.ref).length ≤ sizeLine := by rw [List.length_map, List.length_map]; omega
  have em : (es.map fun x => x.2.1).map V.ref = es.map fun e => V.ref e.2.1 := by rw [List.map_map]; rfl
  rw [em] at rv hz
  refine ⟨.ref s.heap.objs.size, _, I.laid (t' := tk) (o := .lst (es.map fun e => V.ref e.2.1)) kp (Nat.le_refl _) ?_, rfl, q _ (I.hok.fresh (Nat.le_refl _))⟩
  exact ⟨hz, acc'.toList, c', rv, by rw [Array.toArray_toList]; exact e⟩
section
variable {G : Gx} {X : Cx} {m : Nat → Mode} {W : WX} {k : Nat} {e : Expr} {fa : ED} {p pos : Pos}
def eListK (fa : ED) : ED := fun ρ => (fa ρ).bind fun d ρ1 => opt ((keysD d).map .lst) ρ1
theorem RepN.keys {F : Fr} : ∀ {kvs : List (D × D)} {es : NEs}, RepN G F kvs es → RepL G F (kvs.map (·.1)) (es.map fun e => V.ref e.2.1)
  | [], _, r => by rw [RepN] at r; subst r; simp [RepL]
  | (k, d) :: kvs, _, r => by
    rw [RepN] at r
    obtain ⟨nk, b, y, ys, rfl, e1, e2, r1, r2, r3⟩ := r
    rw [List.map_cons, List.map_cons, RepL]
    exact ⟨_, _, rfl, r1, RepN.keys r3⟩
theorem RepK.keys {F : Fr} : ∀ {kvs : List (Key × D)} {es : List (Key × V)}, RepK G F kvs es → RepL G F (kvs.map fun p => match p.1 with
    | .inl i => .int i
    | .inr s => .str s) (es.map fun kv => kV kv.1)
  | [], _, r => by rw [RepK] at r; subst r; simp [RepL]
  | (k, d) :: kvs, _, r => by
    rw [RepK] at r
    obtain ⟨y, ys, rfl, r1, r2⟩ := r
    rw [List.map_cons, List.map_cons, RepL]
    refine ⟨_, _, rfl, ?_, RepK.keys r2⟩
    cases k with
    | inl i => simp [kV, Rep]
    | inr i => simp [kV, Rep]
theorem do_listK (hm : G.mg "list" = none) (ha : DE G X m W k e fa) (hg : Gl X "list" := by rfl) (he : starEach [e] X.env = (false, eval e X.env) :: starEach [] X.env := by rfl) (hpl : (backTo pos (starEach [] X.env)).any (·.1) = false := by rfl) :
    DO G X m W k 1 (.Call (.Name "list" p) [e] [] pos) (eListK fa) := fun c =>
  PEmono (pe_callTy (call_listK c.calm) hg (c.mg ▸ hm) (by rfl) (pa_cons (ha c) pa_nil he) (by decide) (by decide) he hpl) fun σ H Q ⟨F, ρ, fp, s, h⟩ => by
    refine ⟨F, ρ, fp, s, (RG.bind (R := RD G) s h).mono fun v H1 ⟨F1, ρ1, fp1, d, p1, s1, r1, h1⟩ => ?_⟩
    rw [c.P, c.w]
    cases d with
    | dN kvs =>
      obtain ⟨a, es, rfl, e1, e2⟩ := r1
      rw [keysD] at h1
      split at h1
      · refine .inr ⟨a, es, rfl, s1.inn.fx _ _ e1, fun p hp => ?_⟩
        exact RV.newList s1 h1 hp e2.keys
      · exact h1.elim
    | dK kvs =>
      obtain ⟨a, es, rfl, e1, e2⟩ := r1
      rw [keysD] at h1
      split at h1
      · refine .inl ⟨a, es, rfl, .inl (s1.inn.fx _ _ e1), fun p hp => ?_⟩
        exact RV.newList s1 h1 hp e2.keys
      · exact h1.elim
    | _ => exact h1.elim
end
end Dn

/-! Dn25: instances are made. -/
namespace Dn
open PySem PySem.Spec PyProof.Rows L2
section
variable {X : Cx} {CX : CXT} {k : Nat} {f C : Addr} {fd : FuncData} {ps : List Str} {sp : Sp} {E : L2.St → XK} {x : Str} {p pos : Pos} {e : Expr} {es : List Expr} {t : TA}
def tMakeSD (C : Addr) (sp : Sp) (E : L2.St → XK) (t : TA) : TE := fun σ H Q => t σ H fun vs H1 => ∀ x dx, H1 x = none → H1 dx = none → dx ≠ x →
  sp (.ref x :: vs) (upd (upd H1 dx (.own x)) x (.ins C dx [])) (fun v H2 => v = .non ∧ Q (.ref x) H2) (E σ)
theorem run_makeSD {pins : List (Addr × Obj)} {σ : L2.St} {H : Hp} {s : Shared} {Q : VK} {us : List Value} {kw : List (Str × Value)} {us' : List Value} {vs' : List V} (M : Mk X.K C f) (F : FnOk X.prog X.w X.K X.mg X.base CX k f fd ps sp) (hr : Room (k + 1) X.A)
    (hb : ∀ (s : Shared) (x : Value), X.K.In s.heap → (x :: us').length = ps.length → BindsTo s fd ⟨x :: us, kw⟩ (ps.zip (x :: us')))
    (hx : PassesAt CX X σ (E σ)) (I : Inv X pins σ H s) (r : Vals vs' us')
    (h : ∀ x dx, H x = none → H dx = none → dx ≠ x → sp (.ref x :: vs') (upd (upd H dx (.own x)) x (.ins C dx [])) (fun v H2 => v = .non ∧ Q (.ref x) H2) (E σ)) :
    wpAny (model X.prog X.w) X.A (call (.ref C) us kw) (EP X pins σ Q) X.xe s := by
  have hq := h (s.heap.objs.size + 1) s.heap.objs.size (I.hok.fresh (Nat.le_succ _)) (I.hok.fresh (Nat.le_refl _)) (Nat.ne_of_lt (Nat.lt_succ_self _))
  have I2 := Inv.made (C := C) I
  have r2 : Vals (V.ref (s.heap.objs.size + 1) :: vs') (Value.ref (s.heap.objs.size + 1) :: us') := .cons rfl r
  have hl : (Value.ref (s.heap.objs.size + 1) :: us').length = ps.length := by
    have e := r2.length
    rw [F.len _ _ _ _ hq] at e
    exact e.symm
  refine wpAny_call (make_map (f := f) I.kIn M.makes M.init (beq_iff_eq.mp M.fn) (codeAny_mono (F.run _ X.stack _ _ ⟨Value.ref (s.heap.objs.size + 1) :: us, kw⟩ (Value.ref (s.heap.objs.size + 1) :: us') _ _ (E σ) (hr.make C us kw)
    (I2.env0.make C us kw) (hb _ _ I2.kIn hl) r2 hq) fun r s' hq' => ?_))
  cases r with
  | error e => exact hx pins _ _ e s' I2 hq'
  | ok fl =>
    cases fl with
    | ret u =>
      obtain ⟨v, H', I3, rv, ev, q3⟩ := I2.after hq'
      subst ev
      exact ⟨rv, ⟨V.ref (s.heap.objs.size + 1), H', I3, rfl, q3⟩⟩
    | next => exact False.elim hq'
    | brk => exact False.elim hq'
    | cont => exact False.elim hq'
theorem pe_makeSD (M : Mk X.K C f) (F : FnOk X.prog X.w X.K X.mg X.base CX k f fd ps sp) (hr : Room (k + 1) X.A) (hg : Gl X x) (hm : X.mg x = some (.ref C)) (hb : Binds X.K fd ps []) (hx : ∀ σ, PassesAt CX X σ (E σ))
    (ha : PA X (e :: es) t) (hdb : (x == ("__debug__" : Str)) = false := by decide) (he : starEach (e :: es) X.env = (false, eval e X.env) :: starEach es X.env := by rfl) (hpl : (backTo pos (starEach es X.env)).any (·.1) = false := by rfl) :
    PE X (.Call (.Name x p) (e :: es) [] pos) (tMakeSD C sp E t) := by
  refine ⟨fun pins s σ H Q I h => ?_⟩
  refine wpAny_Call_Name_kw (ld_glob I hg hm ?_ hdb)
  refine PySem.W.callWith_K (h₀ := X.base) I.ok.mod.kin M.kp (thn (ha.run pos pins s σ H _ I h) fun us s1 ⟨vs, H1, I1, r, q⟩ => ⟨I1.kIn, ?_⟩) he hpl
  exact run_makeSD (us' := us) M F hr (fun s x hK hl => by have := hb s (x :: us) hK (by simpa using hl); simpa using this) (hx σ) I1 r q
end
/-! ### on plain data -/
/-- a class that may be made -/
structure MkD (G : Gx) (cn : Str) (ps : List Str) (pml : List Mode) (k : Nat) (d : FD) : Prop where
  ex : ∃ C f fd, G.mg cn = some (.ref C) ∧ Mk G.K C f ∧ Binds G.K fd ps [] ∧ FnOk G.P G.w G.K G.mg G.base (L2.CX G.P G.w) k f fd ps (spD G (.io :: pml) .frz d)
def eMake (cn : Str) (d : FD) (as : AVD) : ED := fun ρ => (as ρ).bind fun avs ρ1 => match fillA ρ1 avs with
  | none => .bad
  | some ds => match d (.obj cn [] :: ds) with
    | .ok .non (o :: ds') => .ok o (putA ρ1 avs ds')
    | .exc e (_ :: ds') => .exc e (putA ρ1 avs ds')
    | _ => .bad
section
variable {G : Gx} {m : Nat → Mode} {F F' : Fr} {H H' : Hp} {σ : L2.St} {ρ : Env} {fp fp' : Nat → List Addr}
def fpCons (l : List Addr) (fp : Nat → List Addr) : Nat → List Addr
  | 0 => l
  | i + 1 => fp i
/-- an owned thing is the first parameter -/
theorem St.cons {pml : List Mode} {vs : List V} {ds : List D} {fpc : Nat → List Addr} {d : D} {v : V} {fpv : List Addr} {p : Mode} (s : St G (mOf pml) F H (vs.map some) (ds.map some) fpc) (o : Own G F H p.lvl d v fpv) (h1 : ∀ a ∈ fpv, F.fx a = none ∧ F.nt a = none ∧ ∀ i, a ∉ fpc i) :
    St G (mOf (p :: pml)) F H ((v :: vs).map some) ((d :: ds).map some) (fpCons fpv fpc) where
  inn := s.inn
  len := by have := s.len; simpa using this
  slot := fun i d' e => by
    cases i with
    | zero => simp at e; subst e; exact ⟨v, rfl, o⟩
    | succ i => exact s.slot i d' (by simpa using e)
  dead := fun i h => by
    cases i with
    | zero => exact absurd rfl (h d)
    | succ i => exact s.dead i fun d' => h d'
  sep := fun i j a hi hj => by
    cases i with
    | zero =>
      cases j with
      | zero => rfl
      | succ j => exact absurd hj ((h1 a hi).2.2 j)
    | succ i =>
      cases j with
      | zero => exact absurd hi ((h1 a hj).2.2 i)
      | succ j => rw [s.sep i j a hi hj]
  own := fun i a h => by
    cases i with
    | zero => exact ⟨(h1 a h).1, (h1 a h).2.1⟩
    | succ i => exact s.own i a h
theorem St.tail {p : Mode} {pml : List Mode} {v : V} {vs : List V} {d : D} {ds : List D} {fps : Nat → List Addr} (s : St G (mOf (p :: pml)) F H ((v :: vs).map some) ((d :: ds).map some) fps) :
    St G (mOf pml) F H (vs.map some) (ds.map some) (fun i => fps (i + 1)) ∧ Own G F H p.lvl d v (fps 0) := by
  refine ⟨⟨s.inn, by have := s.len; simpa using this, fun i d' e => s.slot (i + 1) d' (by simpa using e), fun i h => s.dead (i + 1) fun d' => by simpa using h d', fun i j a hi hj => by have := s.sep (i + 1) (j + 1) a hi hj; omega, fun i a h => s.own (i + 1) a h⟩, ?_⟩
  obtain ⟨w, e1, e2⟩ := s.slot 0 d rfl
  cases e1
  exact e2
/-- the promise of __init__, used where an instance is made -/
theorem make_sp {W : WX} {cn : Str} {C : Addr} {pml : List Mode} {d : FD} {sh : List (Option Nat)} {f : AVD} {Q : VK} (hC : G.mg cn = some (.ref C)) (hok : okSh m sh pml = true) (s : St G m F H σ ρ fp) (h : RG G m W (RV G 1) F H σ fp Q (eMake cn d f ρ)) :
    RG G m W (RA G sh) F H σ fp (fun vs H1 => ∀ x dx, H1 x = none → H1 dx = none → dx ≠ x → spD G (.io :: pml) .frz d (.ref x :: vs) (upd (upd H1 dx (.own x)) x (.ins C dx [])) (fun v H2 => v = .non ∧ Q (.ref x) H2) (WE W σ)) (f ρ) := by
  refine (RG.bind (R := RA G sh) s h).mono fun vs H1 ⟨F1, ρ1, fp1, avs, p1, s1, r1, h1⟩ x dx hx hdx hne => ?_
  cases q : fillA ρ1 avs with
  | none => rw [q] at h1; exact h1.elim
  | some ds =>
    rw [q] at h1
    dsimp only at h1
    obtain ⟨hl, sc⟩ := enter hok s1 r1 q
    have g1 : Grow G F1 H1 F1 (upd H1 dx (.own x)) := Grow.drop s1.inn hdx
    have hx1 : (upd H1 dx (.own x)) x = none := by rw [upd_ne (Ne.symm hne)]; exact hx
    have g2 : Grow G F1 (upd H1 dx (.own x)) F1 (upd (upd H1 dx (.own x)) x (.ins C dx [])) := Grow.drop g1.inn hx1
    have g := g1.trans g2
    have sc2 := sc.grow g
    have own : Own G F1 (upd (upd H1 dx (.own x)) x (.ins C dx [])) 1 (.obj cn []) (.ref x) [x, dx] :=
      ⟨x, rfl, C, dx, [], rfl, upd_same, by rw [upd_ne hne]; exact upd_same, hC, by simp [RepF]⟩
    have nofp : ∀ a ∈ [x, dx], F1.fx a = none ∧ F1.nt a = none ∧ ∀ i, a ∉ fpC fp1 sh i := fun a ha => by
      have hn : H1 a = none := by
        have : a = x ∨ a = dx := by simpa using ha
        rcases this with rfl | rfl
        · exact hx
        · exact hdx
      refine ⟨(s1.inn.free hn).1, (s1.inn.free hn).2, fun i hi => ?_⟩
      obtain ⟨j, _, hj⟩ := fpC_mem hi
      exact s1.alloc hj hn
    have sS := sc2.cons (p := .io) own nofp
    refine ⟨by simpa using hl, F1, .obj cn [] :: ds, _, sS, ?_⟩
    have back' : ∀ {F' : Fr} {H' : Hp} {fp' : Nat → List Addr} {o : D} {ds' : List D}, Step G F1 (upd (upd H1 dx (.own x)) x (.ins C dx [])) (fpCons [x, dx] (fpC fp1 sh)) F' H' fp' → St G (mOf (.io :: pml)) F' H' ((V.ref x :: vs).map some) ((o :: ds').map some) fp' →
        ∃ fpT, St G m F' H' σ (putA ρ1 avs ds') fpT ∧ Step G F1 H1 fp1 F' H' fpT ∧ Own G F' H' 1 o (.ref x) (fp' 0) ∧ (∀ a ∈ fp' 0, (∀ i, a ∉ fpT i) ∧ ((∃ j, a ∈ fp1 j) ∨ H1 a = none)) := by
      intro F' H' fp' o ds' pp sp
      obtain ⟨st, ow⟩ := sp.tail
      have nn : ∀ a, (upd (upd H1 dx (.own x)) x (.ins C dx [])) a = none → H1 a = none := fun a h => by
        by_cases e1 : a = x
        · subst e1; exact hx
        · by_cases e2 : a = dx
          · subst e2; exact hdx
          · rw [upd_ne e1, upd_ne e2] at h; exact h
      have z0 : ∀ a, a ∈ [x, dx] → H1 a = none := fun a ha => by
        have : a = x ∨ a = dx := by simpa using ha
        rcases this with rfl | rfl
        · exact hx
        · exact hdx
      have mem : ∀ a, (∃ i, a ∈ fpCons [x, dx] (fpC fp1 sh) i) → H1 a = none ∨ ∃ i, a ∈ fpC fp1 sh i := fun a ⟨i, hi⟩ => by
        cases i with
        | zero => exact .inl (z0 a hi)
        | succ i => exact .inr ⟨i, hi⟩
      have pt : Step G F1 H1 (fpC fp1 sh) F' H' (fun i => fp' (i + 1)) := by
        refine ⟨pp.ext, fun a o e => ?_, fun a o e => ?_, fun i a hi => ?_, fun a o e1 e2 e3 => ?_, fun a e => nn a (pp.live a e)⟩
        · rcases pp.newF a o e with y | y | y
          · exact .inl y
          · exact .inr (.inl (nn a y))
          · rcases mem a y with z | z
            · exact .inr (.inl z)
            · exact .inr (.inr z)
        · rcases pp.newN a o e with y | y | y
          · exact .inl y
          · exact .inr (.inl (nn a y))
          · rcases mem a y with z | z
            · exact .inr (.inl z)
            · exact .inr (.inr z)
        · rcases pp.fpn (i + 1) a hi with y | y
          · rcases mem a y with z | z
            · exact .inr z
            · exact .inl z
          · exact .inr (nn a y)
        · refine pp.frm a o (g.same a o e1) e2 fun i hi => ?_
          rcases mem a ⟨i, hi⟩ with z | ⟨j, z⟩
          · rw [z] at e1; cases e1
          · exact e3 j z
      obtain ⟨b1, b2⟩ := back hok s1 r1 pt st
      refine ⟨_, b1, b2, ow, fun a ha => ⟨fun i hi => ?_, ?_⟩⟩
      · by_cases e0 : ∃ j : Nat, sh[j]? = some (some i)
        · obtain ⟨j, ej⟩ := e0
          rw [fpB_in hok ej] at hi
          exact absurd (sp.sep 0 (j + 1) a ha hi) (by omega)
        · have e' : ∀ j : Nat, sh[j]? ≠ some (some i) := fun j z => e0 ⟨j, z⟩
          rw [fpB_out e'] at hi
          rcases pp.fpn 0 a ha with y | y
          · rcases mem a y with z | ⟨j, z⟩
            · exact s1.alloc hi z
            · obtain ⟨i2, ei, q2⟩ := fpC_mem z
              have := s1.sep i2 i a q2 hi
              subst this
              exact e' j ei
          · exact s1.alloc hi (nn a y)
      · rcases pp.fpn 0 a ha with y | y
        · rcases mem a y with z | ⟨j, z⟩
          · exact .inr z
          · obtain ⟨i2, _, q2⟩ := fpC_mem z
            exact .inl ⟨i2, q2⟩
        · exact .inr (nn a y)
    cases qd : d (.obj cn [] :: ds) with
    | bad => rw [qd] at h1; exact h1.elim
    | ok r ds' =>
      rw [qd] at h1
      cases r with
      | non =>
        cases ds' with
        | nil => exact h1.elim
        | cons o ds' =>
          intro v F' H' fp' pp sp rv
          obtain ⟨fpT, b1, b2, ow, hz⟩ := back' pp sp
          refine ⟨by have := rv.rep; rw [Rep] at this; exact this, h1 (.ref x) F' H' fpT b2 b1 ⟨fp' 0, ow, ow.nodup b1.inn, fun a ha => ⟨(sp.own 0 a ha).1, (sp.own 0 a ha).2, (hz a ha).1, (hz a ha).2⟩⟩⟩
      | _ => exact h1.elim
    | exc ex ds' =>
      rw [qd] at h1
      cases ds' with
      | nil => exact h1.elim
      | cons o ds' =>
        intro c dd F' H' fp' pp sp rv
        obtain ⟨fpT, b1, b2, _, _⟩ := back' pp sp
        exact h1 c dd F' H' fpT b2 b1 rv
end
section
variable {G : Gx} {X : Cx} {m : Nat → Mode} {W : WX} {k k' : Nat} {sh : List (Option Nat)} {pml : List Mode} {ps : List Str} {d : FD} {x : Str} {p pos : Pos} {e : Expr} {es : List Expr} {f : AVD}
/-- C(e, ..) -/
theorem do_make (M : MkD G x ps pml k' d) (ha : DA G X m W k sh (e :: es) f) (hok : okSh m sh pml = true := by rfl) (hk : k' + 1 ≤ k := by first | decide | omega) (hg : Gl X x := by rfl) (hdb : (x == ("__debug__" : Str)) = false := by decide)
    (he : starEach (e :: es) X.env = (false, eval e X.env) :: starEach es X.env := by rfl) (hpl : (backTo pos (starEach es X.env)).any (·.1) = false := by rfl) : DO G X m W k 1 (.Call (.Name x p) (e :: es) [] pos) (eMake x d f) := fun c => by
  obtain ⟨C, g, fd, h1, h2, h3, h4⟩ := M.ex
  have hC := h1
  obtain ⟨cP, cw, cK, cmg, cb, cnd, ccalm, croom, cpo, ctk⟩ := id c
  rw [← cP, ← cw, ← cK, ← cmg, ← cb] at h4
  rw [← cK] at h2 h3
  rw [← cmg] at h1
  refine PEmono (pe_makeSD h2 h4 (croom.mono hk) hg h1 h3 (fun σ => passAt ctk σ) (ha c) hdb he hpl) fun σ H Q h => ?_
  obtain ⟨F, ρ, fp, s, h⟩ := h
  exact ⟨F, ρ, fp, s, (make_sp hC hok s h).mono fun vs H1 q => q⟩
end
end Dn

/-! Dn26: arguments by name. -/
namespace Dn
open PySem PySem.Spec PyProof.Rows L2
def pick {α : Type} (π : List Nat) (l : List α) : List α := π.filterMap fun (i : Nat) => l[i]?
theorem pick_get {α : Type} {l : List α} : ∀ {π : List Nat}, (∀ i ∈ π, i < l.length) → ∀ j : Nat, (pick π l)[j]? = (π[j]?).bind (fun (i : Nat) => l[i]?)
  | [], _, j => by simp [pick]
  | i :: π, h, j => by
    have hi : i < l.length := h i (by simp)
    have e : pick (i :: π) l = l[i] :: pick π l := by
      unfold pick
      rw [List.filterMap_cons]
      simp [hi]
    rw [e]
    cases j with
    | zero => simp [hi]
    | succ j => simpa using pick_get (fun k hk => h k (by simp [hk])) j
theorem pick_len {α : Type} {l : List α} {π : List Nat} (h : ∀ i ∈ π, i < l.length) : (pick π l).length = π.length := by
  apply Nat.le_antisymm
  · exact List.length_filterMap_le ..
  · apply Nat.le_of_not_lt
    intro hlt
    have h1 := pick_get h (pick π l).length
    rw [List.getElem?_eq_none (Nat.le_refl _)] at h1
    obtain ⟨i, hi⟩ : ∃ i, π[(pick π l).length]? = some i := ⟨_, List.getElem?_eq_getElem hlt⟩
    rw [hi] at h1
    have := h i (List.mem_of_getElem? hi)
    simp [this] at h1
theorem pick_map {α β : Type} (f : α → β) (π : List Nat) (l : List α) : (pick π l).map f = pick π (l.map f) := by
  unfold pick
  rw [List.map_filterMap]
  congr 1
  funext i
  simp
theorem vals_pick' {vs : List V} {us : List Value} (h : Vals vs us) {π : List Nat} (hp : ∀ i ∈ π, i < vs.length) : Vals (pick π vs) (pick π us) := by
  have hl := h.length
  have hp' : ∀ i ∈ π, i < us.length := fun i hi => by have := hp i hi; omega
  refine vals_of_at (by rw [pick_len hp, pick_len hp']) fun j x u h1 h2 => ?_
  rw [pick_get hp] at h1
  rw [pick_get hp'] at h2
  obtain ⟨i, e1, e2⟩ := Option.bind_eq_some_iff.mp h1
  obtain ⟨i', e3, e4⟩ := Option.bind_eq_some_iff.mp h2
  rw [e1] at e3; cases e3
  obtain ⟨u', e5, e6⟩ := h.get e2
  rw [e4] at e5; cases e5
  exact e6
/-- how a call binds: np values by place, then those of the names ks; pick π puts them in the parameters' order -/
def KB (K : PySem.W.Frag) (fd : FuncData) (ps ks : List Str) (np : Nat) (π : List Nat) : Prop :=
  ∀ (s : Shared) (us : List Value), K.In s.heap → us.length = np + ks.length → BindsTo s fd ⟨us.take np, ks.zip (us.drop np)⟩ (ps.zip (pick π us))
def tKw (n : Nat) (t tk : TA) : TA := fun σ H Q => t σ H fun vs H1 => tk σ H1 fun zs H2 => vs.length = n ∧ Q (vs ++ zs) H2
section
variable {X : Cx} {CX : CXT} {k np : Nat} {f C : Addr} {fd : FuncData} {ps ks : List Str} {π : List Nat} {sp : Sp} {E : L2.St → XK} {x : Str} {p pos : Pos} {e : Expr} {es : List Expr} {kws : List Keyword} {t tk : TA}
def tCallKW (sp : Sp) (π : List Nat) (n : Nat) (E : L2.St → XK) (t : TA) : TE := fun σ H Q => t σ H fun vs H1 => vs.length = n ∧ sp (pick π vs) H1 Q (E σ)
theorem call_KW (F : FnOk X.prog X.w X.K X.mg X.base CX k f fd ps sp) (hr : Room k X.A) (hb : KB X.K fd ps ks np π) (hπ : ∀ i ∈ π, i < np + ks.length) {pins : List (Addr × Obj)} {σ : L2.St} (hx : PassesAt CX X σ (E σ)) {us ws : List Value} {vs zs : List V} {H2 : Hp} {s2 : Shared} {Q : VK} (I2 : Inv X pins σ H2 s2) (r : Vals vs us) (rz : Vals zs ws) (l1 : vs.length = np) (l2 : (vs ++ zs).length = np + ks.length) (q : sp (pick π (vs ++ zs)) H2 Q (E σ)) :
    wpAny (model X.prog X.w) X.A (call (.ref f) us (ks.zip ws)) (EP X pins σ Q) X.xe s2 := by
  have rr := r.append rz
  have hl := rr.length
  have hu : us.length = np := by rw [← r.length]; exact l1
  have b := hb s2 (us ++ ws) I2.kIn (by omega)
  rw [show np = us.length from hu.symm, List.take_left, List.drop_left] at b
  refine wpAny_call (codeAny_mono (F.run X.A X.stack s2 H2 ⟨us, ks.zip ws⟩ (pick π (us ++ ws)) (pick π (vs ++ zs)) Q (E σ) hr I2.env0 b (vals_pick' rr fun i hi => by rw [l2]; exact hπ i hi) q) fun r s' hq => ?_)
  cases r with
  | error e => exact hx pins H2 s2 e s' I2 hq
  | ok fl =>
    cases fl with
    | ret u => exact I2.after hq
    | next => exact False.elim hq
    | brk => exact False.elim hq
    | cont => exact False.elim hq
theorem pe_callKW (F : FnOk X.prog X.w X.K X.mg X.base CX k f fd ps sp) (hr : Room k X.A) (hg : Gl X x) (hm : X.mg x = some (.ref f)) (hk : PySem.W.keepIn X.K (.ref f) = true) (hb : KB X.K fd ps ks np π) (hπ : ∀ i ∈ π, i < np + ks.length) (hx : ∀ σ, PassesAt CX X σ (E σ))
    (ha : PA X (e :: es) t) (hkw : PK X kws tk) (hall : (backToKw pos (keywordEach kws X.env)).all (·.1.isSome) = true) (hks : (backToKw pos (keywordEach kws X.env)).filterMap (·.1) = ks)
    (hdb : (x == ("__debug__" : Str)) = false) (he : starEach (e :: es) X.env = (false, eval e X.env) :: starEach es X.env)
    (hpl : ((backTo pos (starEach (e :: es) X.env)).any (·.1) || (backToKw pos (keywordEach kws X.env)).any (·.1.isNone)) = false) :
    PE X (.Call (.Name x p) (e :: es) kws pos) (tCallKW sp π (np + ks.length) E (tKw np t tk)) := by
  refine ⟨fun pins s σ H Q I h => ?_⟩
  refine wpAny_Call_Name_kw (ld_glob I hg hm ?_ hdb)
  refine PySem.W.callWith_KW (h₀ := X.base) I.ok.mod.kin hk hall (thn (ha.run pos pins s σ H _ I h) fun us s1 ⟨vs, H1, I1, r, q⟩ => ?_) hpl he
  refine thn (hkw.run pos pins s1 σ H1 _ I1 q) fun ws s2 ⟨zs, H2, I2, rz, l1, l2, q2⟩ => ⟨I2.kIn, ?_⟩
  rw [hks]
  exact call_KW F hr hb hπ (hx σ) I2 r rz l1 l2 q2
theorem pe_callKW0 (F : FnOk X.prog X.w X.K X.mg X.base CX k f fd ps sp) (hr : Room k X.A) (hg : Gl X x) (hm : X.mg x = some (.ref f)) (hk : PySem.W.keepIn X.K (.ref f) = true) (hb : KB X.K fd ps ks 0 π) (hπ : ∀ i ∈ π, i < 0 + ks.length) (hx : ∀ σ, PassesAt CX X σ (E σ))
    (hkw : PK X kws tk) (hall : (backToKw pos (keywordEach kws X.env)).all (·.1.isSome) = true) (hks : (backToKw pos (keywordEach kws X.env)).filterMap (·.1) = ks)
    (hdb : (x == ("__debug__" : Str)) = false)
    (hpl : ((backTo pos (starEach [] X.env)).any (·.1) || (backToKw pos (keywordEach kws X.env)).any (·.1.isNone)) = false) :
    PE X (.Call (.Name x p) [] kws pos) (tCallKW sp π (0 + ks.length) E tk) := by
  refine ⟨fun pins s σ H Q I h => ?_⟩
  refine wpAny_Call_Name_kw (ld_glob I hg hm ?_ hdb)
  refine PySem.W.callWith_KW0 (h₀ := X.base) I.ok.mod.kin hk hall ?_ hpl
  refine thn (hkw.run pos pins s σ H _ I h) fun ws s2 ⟨zs, H2, I2, rz, l2, q2⟩ => ⟨I2.kIn, ?_⟩
  rw [hks]
  exact call_KW (us := []) (vs := []) F hr hb hπ (hx σ) I2 .nil rz rfl l2 q2
/-- the instance's self first -/
def KBM (K : PySem.W.Frag) (fd : FuncData) (ps ks : List Str) (np : Nat) (π : List Nat) : Prop :=
  ∀ (s : Shared) (x : Value) (us : List Value), K.In s.heap → us.length = np + ks.length → BindsTo s fd ⟨x :: us.take np, ks.zip (us.drop np)⟩ (ps.zip (x :: pick π us))
def tMakeKW (C : Addr) (sp : Sp) (π : List Nat) (n : Nat) (E : L2.St → XK) (t : TA) : TE := fun σ H Q => t σ H fun vs H1 => vs.length = n ∧ ∀ x dx, H1 x = none → H1 dx = none → dx ≠ x →
  sp (.ref x :: pick π vs) (upd (upd H1 dx (.own x)) x (.ins C dx [])) (fun v H2 => v = .non ∧ Q (.ref x) H2) (E σ)
theorem make_KW (M : Mk X.K C f) (F : FnOk X.prog X.w X.K X.mg X.base CX k f fd ps sp) (hr : Room (k + 1) X.A) (hb : KBM X.K fd ps ks np π) (hπ : ∀ i ∈ π, i < np + ks.length) {pins : List (Addr × Obj)} {σ : L2.St} (hx : PassesAt CX X σ (E σ)) {us ws : List Value} {vs zs : List V} {H2 : Hp} {s2 : Shared} {Q : VK} (I2 : Inv X pins σ H2 s2) (r : Vals vs us) (rz : Vals zs ws) (l1 : vs.length = np) (l2 : (vs ++ zs).length = np + ks.length)
    (q : ∀ x dx, H2 x = none → H2 dx = none → dx ≠ x → sp (.ref x :: pick π (vs ++ zs)) (upd (upd H2 dx (.own x)) x (.ins C dx [])) (fun v H2 => v = .non ∧ Q (.ref x) H2) (E σ)) :
    wpAny (model X.prog X.w) X.A (call (.ref C) us (ks.zip ws)) (EP X pins σ Q) X.xe s2 := by
  have rr := r.append rz
  have hl := rr.length
  have hu : us.length = np := by rw [← r.length]; exact l1
  refine run_makeSD (us' := pick π (us ++ ws)) (vs' := pick π (vs ++ zs)) M F hr (fun s x hK _ => ?_) hx I2 (vals_pick' rr fun i hi => by rw [l2]; exact hπ i hi) q
  have b := hb s x (us ++ ws) hK (by omega)
  rw [show np = us.length from hu.symm, List.take_left, List.drop_left] at b
  exact b
theorem pe_makeKW (M : Mk X.K C f) (F : FnOk X.prog X.w X.K X.mg X.base CX k f fd ps sp) (hr : Room (k + 1) X.A) (hg : Gl X x) (hm : X.mg x = some (.ref C)) (hb : KBM X.K fd ps ks np π) (hπ : ∀ i ∈ π, i < np + ks.length) (hx : ∀ σ, PassesAt CX X σ (E σ))
    (ha : PA X (e :: es) t) (hkw : PK X kws tk) (hall : (backToKw pos (keywordEach kws X.env)).all (·.1.isSome) = true) (hks : (backToKw pos (keywordEach kws X.env)).filterMap (·.1) = ks)
    (hdb : (x == ("__debug__" : Str)) = false) (he : starEach (e :: es) X.env = (false, eval e X.env) :: starEach es X.env)
    (hpl : ((backTo pos (starEach (e :: es) X.env)).any (·.1) || (backToKw pos (keywordEach kws X.env)).any (·.1.isNone)) = false) :
    PE X (.Call (.Name x p) (e :: es) kws pos) (tMakeKW C sp π (np + ks.length) E (tKw np t tk)) := by
  refine ⟨fun pins s σ H Q I h => ?_⟩
  refine wpAny_Call_Name_kw (ld_glob I hg hm ?_ hdb)
  refine PySem.W.callWith_KW (h₀ := X.base) I.ok.mod.kin M.kp hall (thn (ha.run pos pins s σ H _ I h) fun us s1 ⟨vs, H1, I1, r, q⟩ => ?_) hpl he
  refine thn (hkw.run pos pins s1 σ H1 _ I1 q) fun ws s2 ⟨zs, H2, I2, rz, l1, l2, q2⟩ => ⟨I2.kIn, ?_⟩
  rw [hks]
  exact make_KW M F hr hb hπ (hx σ) I2 r rz l1 l2 q2
theorem pe_makeKW0 (M : Mk X.K C f) (F : FnOk X.prog X.w X.K X.mg X.base CX k f fd ps sp) (hr : Room (k + 1) X.A) (hg : Gl X x) (hm : X.mg x = some (.ref C)) (hb : KBM X.K fd ps ks 0 π) (hπ : ∀ i ∈ π, i < 0 + ks.length) (hx : ∀ σ, PassesAt CX X σ (E σ))
    (hkw : PK X kws tk) (hall : (backToKw pos (keywordEach kws X.env)).all (·.1.isSome) = true) (hks : (backToKw pos (keywordEach kws X.env)).filterMap (·.1) = ks)
    (hdb : (x == ("__debug__" : Str)) = false)
    (hpl : ((backTo pos (starEach [] X.env)).any (·.1) || (backToKw pos (keywordEach kws X.env)).any (·.1.isNone)) = false) :
    PE X (.Call (.Name x p) [] kws pos) (tMakeKW C sp π (0 + ks.length) E tk) := by
  refine ⟨fun pins s σ H Q I h => ?_⟩
  refine wpAny_Call_Name_kw (ld_glob I hg hm ?_ hdb)
  refine PySem.W.callWith_KW0 (h₀ := X.base) I.ok.mod.kin M.kp hall ?_ hpl
  refine thn (hkw.run pos pins s σ H _ I h) fun ws s2 ⟨zs, H2, I2, rz, l2, q2⟩ => ⟨I2.kIn, ?_⟩
  rw [hks]
  exact make_KW (us := []) (vs := []) M F hr hb hπ (hx σ) I2 .nil rz rfl l2 q2
end
/-! ### on plain data -/
def DK (G : Gx) (X : Cx) (m : Nat → Mode) (W : WX) (k : Nat) (sh : List (Option Nat)) (kws : List Keyword) (f : AVD) : Prop := Ctx G X W k → PK X kws (tG G m W (RA G sh) f)
theorem PKmono {X : Cx} {e : List Keyword} {t t' : TA} (h : PK X e t) (hq : ∀ σ H Q, t' σ H Q → t σ H Q) : PK X e t' := ⟨fun p pins s σ H Q I q => h.run p pins s σ H Q I (hq σ H Q q)⟩
def aApp (f g : AVD) : AVD := fun ρ => (f ρ).bind fun as ρ1 => (g ρ1).bind fun bs ρ2 => .ok (as ++ bs) ρ2
def aPick (π : List Nat) (f : AVD) : AVD := fun ρ => (f ρ).bind fun as ρ1 => .ok (pick π as) ρ1
section
variable {G : Gx} {X : Cx} {m : Nat → Mode} {W : WX} {k k' np : Nat} {sh sh1 sh2 : List (Option Nat)} {pml : List Mode} {mr : Mode} {ps ks : List Str} {π : List Nat} {d : FD} {x : Str} {p pos kpos : Pos} {e : Expr} {es : List Expr} {kws : List Keyword} {nm : Option Str} {f r fe : AVD} {fv : ED}
theorem dk_nil : DK G X m W k [] [] aNil := fun c => PKmono pk_nil fun σ H Q h => by
  obtain ⟨F, ρ, fp, s, h⟩ := h
  exact h [] F H fp Step.refl s ⟨rfl, rfl, fun j av v e _ => by simp at e⟩
theorem dk_val (ha : DE G X m W k e fv) (hr : DK G X m W k sh kws r) : DK G X m W k (none :: sh) (⟨nm, e, kpos⟩ :: kws) (aVal fv r) := fun c =>
  PKmono (pk_cons (ha c) (hr c)) fun σ H Q h => by
    obtain ⟨F, ρ, fp, s, h⟩ := h
    refine ⟨F, ρ, fp, s, (RG.bind (R := RD G) s h).mono fun x H1 ⟨F1, ρ1, fp1, d1, p1, s1, r1, h1⟩ => ?_⟩
    refine ⟨F1, ρ1, fp1, s1, (RG.bind (R := RA G sh) s1 h1).mono fun xs H2 ⟨F2, ρ2, fp2, ds, p2, s2, ⟨r21, r22, r23⟩, h2⟩ => ?_⟩
    refine h2 _ F2 H2 fp2 Step.refl s2 ⟨by simp [AV.sl, r21], by simp [r22], fun j av v e1 e2 => ?_⟩
    cases j with
    | zero => simp at e1 e2; subst e1 e2; exact Rep.ext p2.ext _ _ r1
    | succ j => exact r23 j av v (by simpa using e1) (by simpa using e2)
theorem RA.pick {F : Fr} {H0 H : Hp} {fp0 fp : Nat → List Addr} {σ : L2.St} {ρ : Env} {avs : List AV} {vs : List V} (h : RA G sh H0 fp0 F H fp σ ρ avs vs) (hp : ∀ i ∈ π, i < sh.length) : RA G (pick π sh) H0 fp0 F H fp σ ρ (pick π avs) (pick π vs) := by
  obtain ⟨h1, h2, h3⟩ := h
  have la : avs.length = sh.length := by rw [← h1]; simp
  have pa : ∀ i ∈ π, i < avs.length := fun i hi => by rw [la]; exact hp i hi
  have pv : ∀ i ∈ π, i < vs.length := fun i hi => by rw [h2, la]; exact hp i hi
  refine ⟨by rw [pick_map, h1], by rw [pick_len pa, pick_len pv], fun j av v e1 e2 => ?_⟩
  rw [pick_get pa] at e1
  rw [pick_get pv] at e2
  obtain ⟨i, a1, a2⟩ := Option.bind_eq_some_iff.mp e1
  obtain ⟨i', b1, b2⟩ := Option.bind_eq_some_iff.mp e2
  rw [a1] at b1; cases b1
  exact h3 i av v a2 b2
theorem RG.pick {F : Fr} {H : Hp} {σ : L2.St} {ρ : Env} {fp : Nat → List Addr} {P : List V → Hp → Prop} {n : Nat} (hn : sh.length = n) (hp : ∀ i ∈ π, i < sh.length) (h : RG G m W (RA G (pick π sh)) F H σ fp P (aPick π f ρ)) : RG G m W (RA G sh) F H σ fp (fun vs H1 => vs.length = n ∧ P (pick π vs) H1) (f ρ) := by
  unfold aPick at h
  cases q : f ρ with
  | ok avs ρ' =>
    rw [q] at h
    exact fun vs F' H' fp' a b r => ⟨by rw [r.2.1, ← hn, ← r.1]; simp, h _ F' H' fp' a b (r.pick hp)⟩
  | exc e ρ' => rw [q] at h; exact h
  | bad => rw [q] at h; exact h
/-- positional and named values together -/
theorem tKw_of {t tk : TA} (ht : ∀ {σ H} {P : List V → Hp → Prop}, tG G m W (RA G sh1) f σ H P → t σ H P) (htk : ∀ {σ H} {P : List V → Hp → Prop}, tG G m W (RA G sh2) r σ H P → tk σ H P) (hn : sh1.length = np) {σ : L2.St} {H : Hp} {P : List V → Hp → Prop} (h : tG G m W (RA G (sh1 ++ sh2)) (aApp f r) σ H P) : tKw np t tk σ H P := by
  obtain ⟨F, ρ, fp, s, h⟩ := h
  refine ht ⟨F, ρ, fp, s, (RG.bind (R := RA G sh1) s h).mono fun vs H1 ⟨F1, ρ1, fp1, avs, p1, s1, ⟨a1, a2, a3⟩, h1⟩ => ?_⟩
  refine htk ⟨F1, ρ1, fp1, s1, (RG.bind (R := RA G sh2) s1 h1).mono fun zs H2 ⟨F2, ρ2, fp2, bvs, p2, s2, ⟨b1, b2, b3⟩, h2⟩ => ?_⟩
  refine ⟨by rw [a2, ← hn, ← a1]; simp, h2 _ F2 H2 fp2 Step.refl s2 ⟨by rw [List.map_append, a1, b1], by simp [a2, b2], fun j av v e1 e2 => ?_⟩⟩
  by_cases hj : j < avs.length
  · rw [List.getElem?_append_left hj] at e1
    rw [List.getElem?_append_left (by omega)] at e2
    exact (a3 j av v e1 e2).ext p2.ext
  · rw [List.getElem?_append_right (by omega)] at e1
    rw [List.getElem?_append_right (by omega), a2] at e2
    exact b3 _ av v e1 e2
structure CalK (G : Gx) (x : Str) (ps ks : List Str) (np : Nat) (π : List Nat) (pml : List Mode) (mr : Mode) (k : Nat) (d : FD) : Prop where
  ex : ∃ f fd, G.mg x = some (.ref f) ∧ PySem.W.keepIn G.K (.ref f) = true ∧ KB G.K fd ps ks np π ∧ FnOk G.P G.w G.K G.mg G.base (L2.CX G.P G.w) k f fd ps (spD G pml mr d)
structure MkDK (G : Gx) (cn : Str) (ps ks : List Str) (np : Nat) (π : List Nat) (pml : List Mode) (k : Nat) (d : FD) : Prop where
  ex : ∃ C f fd, G.mg cn = some (.ref C) ∧ Mk G.K C f ∧ KBM G.K fd ps ks np π ∧ FnOk G.P G.w G.K G.mg G.base (L2.CX G.P G.w) k f fd ps (spD G (.io :: pml) .frz d)
theorem do_callK0 (C : CalK G x ps ks 0 π pml mr k' d) (hkw : DK G X m W k sh kws f) (hok : okSh m (pick π sh) pml = true := by rfl) (hn : sh.length = 0 + ks.length := by rfl) (hp : ∀ i ∈ π, i < sh.length := by decide) (hk : k' ≤ k := by first | decide | omega) (hg : Gl X x := by rfl) (hdb : (x == ("__debug__" : Str)) = false := by decide)
    (hall : (backToKw pos (keywordEach kws X.env)).all (·.1.isSome) = true := by rfl) (hks : (backToKw pos (keywordEach kws X.env)).filterMap (·.1) = ks := by rfl)
    (hpl : ((backTo pos (starEach [] X.env)).any (·.1) || (backToKw pos (keywordEach kws X.env)).any (·.1.isNone)) = false := by rfl) : DO G X m W k mr.lvl (.Call (.Name x p) [] kws pos) (eCall d (aPick π f)) := fun c => by
  obtain ⟨g, fd, h1, h2, h3, h4⟩ := C.ex
  obtain ⟨cP, cw, cK, cmg, cb, cnd, ccalm, croom, cpo, ctk⟩ := id c
  rw [← cP, ← cw, ← cK, ← cmg, ← cb] at h4
  rw [← cK] at h2 h3
  rw [← cmg] at h1
  refine PEmono (pe_callKW0 h4 (croom.mono hk) hg h1 h2 h3 (fun i hi => by rw [← hn]; exact hp i hi) (fun σ => passAt ctk σ) (hkw c) hall hks hdb hpl) fun σ H Q h => ?_
  obtain ⟨F, ρ, fp, s, h⟩ := h
  exact ⟨F, ρ, fp, s, RG.pick hn hp (call_sp hok s h)⟩
theorem do_callK (C : CalK G x ps ks np π pml mr k' d) (ha : DA G X m W k sh1 (e :: es) f) (hkw : DK G X m W k sh2 kws r) (hok : okSh m (pick π (sh1 ++ sh2)) pml = true := by rfl) (hn1 : sh1.length = np := by rfl) (hn : (sh1 ++ sh2).length = np + ks.length := by rfl) (hp : ∀ i ∈ π, i < (sh1 ++ sh2).length := by decide) (hk : k' ≤ k := by first | decide | omega) (hg : Gl X x := by rfl) (hdb : (x == ("__debug__" : Str)) = false := by decide)
    (hall : (backToKw pos (keywordEach kws X.env)).all (·.1.isSome) = true := by rfl) (hks : (backToKw pos (keywordEach kws X.env)).filterMap (·.1) = ks := by rfl) (he : starEach (e :: es) X.env = (false, eval e X.env) :: starEach es X.env := by rfl)
    (hpl : ((backTo pos (starEach (e :: es) X.env)).any (·.1) || (backToKw pos (keywordEach kws X.env)).any (·.1.isNone)) = false := by rfl) : DO G X m W k mr.lvl (.Call (.Name x p) (e :: es) kws pos) (eCall d (aPick π (aApp f r))) := fun c => by
  obtain ⟨g, fd, h1, h2, h3, h4⟩ := C.ex
  obtain ⟨cP, cw, cK, cmg, cb, cnd, ccalm, croom, cpo, ctk⟩ := id c
  rw [← cP, ← cw, ← cK, ← cmg, ← cb] at h4
  rw [← cK] at h2 h3
  rw [← cmg] at h1
  refine PEmono (pe_callKW h4 (croom.mono hk) hg h1 h2 h3 (fun i hi => by rw [← hn]; exact hp i hi) (fun σ => passAt ctk σ) (ha c) (hkw c) hall hks hdb he hpl) fun σ H Q h => ?_
  obtain ⟨F, ρ, fp, s, h⟩ := h
  exact tKw_of (fun h => h) (fun h => h) hn1 ⟨F, ρ, fp, s, RG.pick hn hp (call_sp hok s h)⟩
theorem do_makeK0 (M : MkDK G x ps ks 0 π pml k' d) (hkw : DK G X m W k sh kws f) (hok : okSh m (pick π sh) pml = true := by rfl) (hn : sh.length = 0 + ks.length := by rfl) (hp : ∀ i ∈ π, i < sh.length := by decide) (hk : k' + 1 ≤ k := by first | decide | omega) (hg : Gl X x := by rfl) (hdb : (x == ("__debug__" : Str)) = false := by decide)
    (hall : (backToKw pos (keywordEach kws X.env)).all (·.1.isSome) = true := by rfl) (hks : (backToKw pos (keywordEach kws X.env)).filterMap (·.1) = ks := by rfl)
    (hpl : ((backTo pos (starEach [] X.env)).any (·.1) || (backToKw pos (keywordEach kws X.env)).any (·.1.isNone)) = false := by rfl) : DO G X m W k 1 (.Call (.Name x p) [] kws pos) (eMake x d (aPick π f)) := fun c => by
  obtain ⟨C, g, fd, h1, h2, h3, h4⟩ := M.ex
  have hC := h1
  obtain ⟨cP, cw, cK, cmg, cb, cnd, ccalm, croom, cpo, ctk⟩ := id c
  rw [← cP, ← cw, ← cK, ← cmg, ← cb] at h4
  rw [← cK] at h2 h3
  rw [← cmg] at h1
  refine PEmono (pe_makeKW0 h2 h4 (croom.mono hk) hg h1 h3 (fun i hi => by rw [← hn]; exact hp i hi) (fun σ => passAt ctk σ) (hkw c) hall hks hdb hpl) fun σ H Q h => ?_
  obtain ⟨F, ρ, fp, s, h⟩ := h
  exact ⟨F, ρ, fp, s, RG.pick hn hp (make_sp hC hok s h)⟩
theorem do_makeK (M : MkDK G x ps ks np π pml k' d) (ha : DA G X m W k sh1 (e :: es) f) (hkw : DK G X m W k sh2 kws r) (hok : okSh m (pick π (sh1 ++ sh2)) pml = true := by rfl) (hn1 : sh1.length = np := by rfl) (hn : (sh1 ++ sh2).length = np + ks.length := by rfl) (hp : ∀ i ∈ π, i < (sh1 ++ sh2).length := by decide) (hk : k' + 1 ≤ k := by first | decide | omega) (hg : Gl X x := by rfl) (hdb : (x == ("__debug__" : Str)) = false := by decide)
    (hall : (backToKw pos (keywordEach kws X.env)).all (·.1.isSome) = true := by rfl) (hks : (backToKw pos (keywordEach kws X.env)).filterMap (·.1) = ks := by rfl) (he : starEach (e :: es) X.env = (false, eval e X.env) :: starEach es X.env := by rfl)
    (hpl : ((backTo pos (starEach (e :: es) X.env)).any (·.1) || (backToKw pos (keywordEach kws X.env)).any (·.1.isNone)) = false := by rfl) : DO G X m W k 1 (.Call (.Name x p) (e :: es) kws pos) (eMake x d (aPick π (aApp f r))) := fun c => by
  obtain ⟨C, g, fd, h1, h2, h3, h4⟩ := M.ex
  have hC := h1
  obtain ⟨cP, cw, cK, cmg, cb, cnd, ccalm, croom, cpo, ctk⟩ := id c
  rw [← cP, ← cw, ← cK, ← cmg, ← cb] at h4
  rw [← cK] at h2 h3
  rw [← cmg] at h1
  refine PEmono (pe_makeKW h2 h4 (croom.mono hk) hg h1 h3 (fun i hi => by rw [← hn]; exact hp i hi) (fun σ => passAt ctk σ) (ha c) (hkw c) hall hks hdb he hpl) fun σ H Q h => ?_
  obtain ⟨F, ρ, fp, s, h⟩ := h
  exact tKw_of (fun h => h) (fun h => h) hn1 ⟨F, ρ, fp, s, RG.pick hn hp (make_sp hC hok s h)⟩
end
end Dn

/-! Dn27: combinations. -/
namespace Dn
open PySem PySem.Spec PyProof.Rows L2
open PySem.Builtin PySem.Builtin.Itertools
theorem slot_comb_iter : Slot "itertools.combinations" "__iter__" "itertools.combinations.__iter__" :=
  .of (owner := "itertools.combinations") (n := "__iter__") (by rw [typeLookup_type, builtinLookup_eq_fast]; kernel_rfl) (by decide +kernel) (by decide +kernel) (by decide +kernel)
    (by first | exact .inl (by decide +kernel) | exact .inr (by decide +kernel)) (by rw [isSubtype_type]; kernel_rfl)
theorem slot_comb_next : Slot "itertools.combinations" "__next__" "itertools.combinations.__next__" :=
  .of (owner := "itertools.combinations") (n := "__next__") (by rw [typeLookup_type, builtinLookup_eq_fast]; kernel_rfl) (by decide +kernel) (by decide +kernel) (by decide +kernel)
    (by first | exact .inl (by decide +kernel) | exact .inr (by decide +kernel)) (by rw [isSubtype_type]; kernel_rfl)
theorem slot_comb_init : Slot "itertools.combinations" "__init__" "object.__init__" :=
  .of (owner := "object") (n := "__init__") (by rw [typeLookup_type, builtinLookup_eq_fast]; kernel_rfl) (by decide +kernel) (by decide +kernel) (by decide +kernel)
    (by first | exact .inl (by decide +kernel) | exact .inr (by decide +kernel)) (by rw [isSubtype_type]; kernel_rfl)
theorem entry_comb_next : entryFor table "itertools.combinations.__next__" = some Builtin.«itertools.combinations.__next__» := entryFor_of_tree (by kernel_rfl)
theorem entry_comb_new : entryFor table "itertools.combinations.__new__" = some Builtin.«itertools.combinations.__new__» := entryFor_of_tree (by kernel_rfl)
theorem entry_comb_iter : entryFor table "itertools.combinations.__iter__" = some Builtin.«dict_keyiterator.__iter__» :=
  entryFor_alias (id' := "dict_keyiterator.__iter__") (by kernel_rfl) (by first | rfl | decide +kernel | (unfold String.splitOn; simp +decide [String.splitOnAux])) (by decide +kernel) (by kernel_rfl)
theorem mro_comb : mroOf (.type "itertools.combinations") = pure [.type "itertools.combinations", .type "object"] := by rw [mroOf_type]; kernel_rfl
theorem lookup_comb_new : typeLookup (.type "itertools.combinations") "__new__" = pure (some (.builtin "itertools.combinations.__new__")) := by rw [typeLookup_type, builtinLookup_eq_fast]; kernel_rfl
theorem called_comb : TypeCalled "itertools.combinations" "itertools.combinations.__new__" "object.__init__" :=
  ⟨by decide +kernel, by decide +kernel, ⟨_, _, mro_comb⟩, madeBy_type mro_comb lookup_comb_new (by decide +kernel), by decide +kernel, by rw [isSubtype_type]; kernel_rfl, slot_comb_init⟩
theorem typeCall_comb_2 (a b : Value) : checkTypeCall "itertools.combinations" ⟨[a, b], []⟩ = pure () := by kernel_rfl
theorem newCall_comb_2 (a b : Value) : checkBuiltinCall "itertools.combinations.__new__" ⟨[.type "itertools.combinations", a, b], []⟩ = pure () := by kernel_rfl
theorem owner_comb : Manifest.owners.lookup (String.ofList ['s', 'n', 'o', 'i', 't', 'a', 'n', 'i', 'b', 'm', 'o', 'c', '.', 's', 'l', 'o', 'o', 't', 'r', 'e', 't', 'i'].reverse) = some Manifest.sig_itertools_combinations := by kernel_rfl
theorem args_comb_next (a : Value) : argsOk "itertools.combinations.__next__" ⟨[a], []⟩ := by
  unfold argsOk; rw [signature?_of (id := "itertools.combinations.__next__") (n := ['_', '_', 't', 'x', 'e', 'n', '_', '_']) (o := ['s', 'n', 'o', 'i', 't', 'a', 'n', 'i', 'b', 'm', 'o', 'c', '.', 's', 'l', 'o', 'o', 't', 'r', 'e', 't', 'i']) (by kernel_rfl) owner_comb]; kernel_rfl
theorem args_comb_iter (a : Value) : argsOk "itertools.combinations.__iter__" ⟨[a], []⟩ := by
  unfold argsOk; rw [signature?_of (id := "itertools.combinations.__iter__") (n := ['_', '_', 'r', 'e', 't', 'i', '_', '_']) (o := ['s', 'n', 'o', 'i', 't', 'a', 'n', 'i', 'b', 'm', 'o', 'c', '.', 's', 'l', 'o', 'o', 't', 'r', 'e', 't', 'i']) (by kernel_rfl) owner_comb]; kernel_rfl
theorem args_object_init_3 (a b c : Value) : argsOk "object.__init__" ⟨[a, b, c], []⟩ := by
  first | (unfold argsOk; kernel_rfl) | (unfold argsOk; rw [signature?_of (id := "object.__init__") (n := ['_', '_', 't', 'i', 'n', 'i', '_', '_']) (o := ['t', 'c', 'e', 'j', 'b', 'o']) (by kernel_rfl) (show Manifest.owners.lookup (String.ofList ['t', 'c', 'e', 'j', 'b', 'o'].reverse) = some Manifest.sig_object by kernel_rfl)]; kernel_rfl)
end Dn

/-! Dn28: combinations, their steps. -/
namespace Dn
open PySem PySem.Spec PyProof.Rows L2
open PySem.Builtin PySem.Builtin.Itertools
def nextComb (n : Nat) (indices : List Nat) : Option (List Nat) :=
  let r := indices.length
  match (List.range r).reverse.find? fun i => indices.getD i 0 != i + n - r with
  | none => none
  | some i => some (indices.take i ++ (List.range (r - i)).map (indices.getD i 0 + 1 + ·))
def combHand (self pool : Value) (indices : List Nat) : Sem PySem.Fin := do
    let result ← (do
      let items ← itPoolItems pool
      newTuple (indices.map fun i => items.getD i .none) : Sem Value)
    let before ← field self 2
    setField self 2 result
    letGo [before] [result]
    ret result
theorem comb_body (self : Value) : Builtin.«itertools.combinations.__next__» ⟨[self], []⟩ = (do
  let pool ← field self 0
  let indices ← itNumbersFrom self 3
  match ← itIntField self 1 with
  | 0 => setField self 1 (rawInt 1); combHand self pool indices
  | 1 =>
    match nextComb (← itPoolItems pool).size indices with
    | some next => itSetNumbersFrom self 3 next; combHand self pool next
    | none => setField self 1 (rawInt 2); itStop
  | _ => rule "itertools.combinations.ended"; itStop) := by
  kernel_rfl
def CombAt (h : Heap) (it T : Addr) (st : Int) (nums : List Nat) : Prop :=
  ∃ o fs t1 last ns, h.get? it = some o ∧ o.cls = .type "itertools.combinations" ∧ o.data = .fields fs ∧ fs.toList = .ref T :: .int st t1 :: last :: ns ∧ ns.map natOf = nums
theorem CombAt.typeIs {s : Shared} {it T : Addr} {st : Int} {nums : List Nat} (p : CombAt s.heap it T st nums) : s.TypeIs (.ref it) "itertools.combinations" := by
  obtain ⟨o, fs, t1, last, ns, ho, hc, _⟩ := p
  exact ⟨o, ho, hc⟩
section
variable {prog : Program} {w : World} {A : Around} {E : Value → Shared → Prop} {s : Shared} {it T : Addr} {items : Array Value} {ix : List Nat}
theorem wpAny_combHand {o : Obj} {fs : Array Value} {a b c : Value} {ns : List Value} {Q : PySem.Fin → Shared → Prop} (hT : s.heap.IsTuple T items) (ho : s.heap.get? it = some o) (hd : o.data = .fields fs) (hf : fs.toList = a :: b :: c :: ns) (hr : ix.length ≤ sizeLine)
    (h : ∀ h' o' fs', h'.get? it = some o' → o'.cls = o.cls → o'.data = .fields fs' → fs'.toList = a :: b :: .ref s.heap.objs.size :: ns → h'.get? s.heap.objs.size = some { cls := .type "tuple", data := .seq (ix.map fun i => items.getD i .none).toArray } →
      h'.objs.size = s.heap.objs.size + 1 → (∀ b o, b ≠ it → s.heap.get? b = some o → h'.get? b = some o) → Q (.done (.ret (.ref s.heap.objs.size))) { s with heap := h' }) :
    wpAny (model prog w) A (combHand (.ref it) (.ref T) ix) Q E s := by
  unfold combHand
  have hl : it < s.heap.objs.size := Heap.lt_size ho
  refine wpAny_bind (wpAny_bind (wpAny_poolItems hT ?_))
  refine (wpAny_newTuple ?_ (by rw [List.length_map]; omega))
  have ho1 := Heap.get?_push_of_some { cls := .type "tuple", data := .seq (ix.map fun i => items.getD i .none).toArray } ho
  have h3 : fs[2]? = some c := by rw [← Array.getElem?_toList, hf]; rfl
  have hz : 2 < fs.size := by rw [← Array.length_toList, hf]; simp
  refine wpAny_bind (wpAny_field (s := { s with heap := s.heap.push _ }) ho1 hd h3 ?_)
  refine wpAny_bind (wpAny_setField (s := { s with heap := s.heap.push _ }) ho1 hd hz (wpAny_bind (wpAny_letGo (wpAny_pure ?_))))
  refine h _ _ _ (Heap.get?_update_self _ ho1 (Obj.isFreed_of_fields (Obj.data_mapFields hd _))) (Obj.cls_mapFields ..) (Obj.data_mapFields hd _) (by rw [Array.toList_setIfInBounds, hf]; rfl) ?_ ?_ ?_
  · rw [Heap.get?_update_other _ _ (Nat.ne_of_lt hl)]; exact Heap.get?_push_size _ rfl
  · rw [Heap.size_update, Heap.size_push]
  · intro b o' hb hbo
    rw [Heap.get?_update_other _ _ (Ne.symm hb)]; exact Heap.get?_push_of_some _ hbo
def CombOut (s : Shared) (it T : Addr) (items : Array Value) (ix : List Nat) (h' : Heap) : Prop :=
  CombAt h' it T 1 ix ∧ h'.get? s.heap.objs.size = some { cls := .type "tuple", data := .seq (ix.map fun i => items.getD i .none).toArray } ∧ h'.objs.size = s.heap.objs.size + 1 ∧ ∀ b o, b ≠ it → s.heap.get? b = some o → h'.get? b = some o
theorem comb_next0 {Q : Option Value → Shared → Prop} (hne : it ≠ T) (hT : s.heap.IsTuple T items) (hp : CombAt s.heap it T 0 ix) (hz : ix.length ≤ sizeLine)
    (hQ : ∀ h', CombOut s it T items ix h' → Q (some (.ref s.heap.objs.size)) { s with heap := h' }) : wpAny (model prog w) A (pyNext (.ref it)) Q E s := by
  obtain ⟨o, fs, t1, last, ns, ho, hc, hd, hf, hn⟩ := id hp
  unfold pyNext
  refine wpAny_bind (wpAny_attempt (wpAny_callSpecial?_slot (name := Str.ofString "__next__") hp.typeIs slot_comb_next
    (wpAny_call_entry slot_comb_next hp.typeIs entry_comb_next ?_ (args_comb_next _))))
  rw [comb_body]
  have g : ∀ i v, (Value.ref T :: .int 0 t1 :: last :: ns)[i]? = some v → fs[i]? = some v := fun i v h => by rw [← Array.getElem?_toList, hf]; exact h
  refine wpAny_bind (wpAny_field ho hd (g 0 (.ref T) rfl) ?_)
  refine wpAny_bind (wpAny_numbersFrom ho hd (wpAny_bind (wpAny_intField ho hd (g 1 _ rfl) ?_)))
  have e4 : (fs.toList.drop 3).map natOf = ix := by rw [hf]; exact hn
  rw [e4]
  have hz1 : 1 < fs.size := by rw [← Array.length_toList, hf]; simp
  show wpAny _ _ (setField (.ref it) 1 (rawInt 1) >>= fun _ => combHand (.ref it) (.ref T) ix) _ _ s
  refine wpAny_bind (wpAny_setField ho hd hz1 ?_)
  have ho1 := Heap.get?_update_self (Obj.mapFields (·.setIfInBounds 1 (rawInt 1))) ho (Obj.isFreed_of_fields (Obj.data_mapFields hd _))
  have hT1 : (s.heap.update it (Obj.mapFields (·.setIfInBounds 1 (rawInt 1)))).IsTuple T items := by
    obtain ⟨oT, hoT, r⟩ := hT
    exact ⟨oT, by rw [Heap.get?_update_other _ _ hne]; exact hoT, r⟩
  refine wpAny_combHand (s := { s with heap := s.heap.update it _ }) hT1 ho1 (Obj.data_mapFields hd _) (by rw [Array.toList_setIfInBounds, hf]; rfl) hz fun h' o' fs' q1 q2 q3 q4 q5 q6 q7 => ?_
  have hsz : (s.heap.update it (Obj.mapFields (·.setIfInBounds 1 (rawInt 1)))).objs.size = s.heap.objs.size := Heap.size_update ..
  refine ⟨_, rfl, wpAny_pure ?_⟩
  simp only [hsz] at q4 q5 q6 ⊢
  exact hQ h' ⟨⟨o', fs', 0, _, ns, q1, q2.trans ((Obj.cls_mapFields ..).trans hc), q3, q4, hn⟩, q5, q6, fun b ob hb hbo => q7 b ob hb (by show (s.heap.update it _).get? b = _; rw [Heap.get?_update_other _ _ (Ne.symm hb)]; exact hbo)⟩
theorem comb_next1 {ix' : List Nat} {Q : Option Value → Shared → Prop} (hne : it ≠ T) (hT : s.heap.IsTuple T items) (hp : CombAt s.heap it T 1 ix) (hz : ix'.length ≤ sizeLine - 10) (he : nextComb items.size ix = some ix')
    (hQ : ∀ h', CombOut s it T items ix' h' → Q (some (.ref s.heap.objs.size)) { s with heap := h' }) : wpAny (model prog w) A (pyNext (.ref it)) Q E s := by
  obtain ⟨o, fs, t1, last, ns, ho, hc, hd, hf, hn⟩ := id hp
  unfold pyNext
  refine wpAny_bind (wpAny_attempt (wpAny_callSpecial?_slot (name := Str.ofString "__next__") hp.typeIs slot_comb_next
    (wpAny_call_entry slot_comb_next hp.typeIs entry_comb_next ?_ (args_comb_next _))))
  rw [comb_body]
  have g : ∀ i v, (Value.ref T :: .int 1 t1 :: last :: ns)[i]? = some v → fs[i]? = some v := fun i v h => by rw [← Array.getElem?_toList, hf]; exact h
  refine wpAny_bind (wpAny_field ho hd (g 0 (.ref T) rfl) ?_)
  refine wpAny_bind (wpAny_numbersFrom ho hd (wpAny_bind (wpAny_intField ho hd (g 1 _ rfl) ?_)))
  have e4 : (fs.toList.drop 3).map natOf = ix := by rw [hf]; exact hn
  rw [e4]
  refine wpAny_bind (wpAny_poolItems hT ?_)
  rw [he]
  dsimp only
  unfold itSetNumbersFrom
  have hb10 : 10 ≤ sizeLine := by decide
  have sz : (fs.extract 0 3 ++ (List.map (fun (n : Nat) => (rawInt n : Value)) ix').toArray).size ≤ sizeLine + 3 := by
    simp only [Array.size_append, Array.size_extract, List.size_toArray, List.length_map]
    omega
  refine wpAny_bind (wpAny_updateFields ho hd ?_ sz)
  have ho1 := Heap.get?_update_self (Obj.mapFields (fun fs => fs.extract 0 3 ++ (List.map (fun (n : Nat) => (rawInt n : Value)) ix').toArray)) ho (Obj.isFreed_of_fields (Obj.data_mapFields hd _))
  have ef : (fs.extract 0 3 ++ (List.map (fun (n : Nat) => (rawInt n : Value)) ix').toArray).toList = .ref T :: .int 1 t1 :: last :: List.map (fun (n : Nat) => (rawInt n : Value)) ix' := by
    simp [Array.toList_append, Array.toList_extract, hf]
  have hT1 : (s.heap.update it (Obj.mapFields (fun fs => fs.extract 0 3 ++ (List.map (fun (n : Nat) => (rawInt n : Value)) ix').toArray))).IsTuple T items := by
    obtain ⟨oT, hoT, r⟩ := hT
    exact ⟨oT, by rw [Heap.get?_update_other _ _ hne]; exact hoT, r⟩
  refine wpAny_combHand (s := { s with heap := s.heap.update it _ }) hT1 ho1 (Obj.data_mapFields hd _) ef (by omega) fun h' o' fs' q1 q2 q3 q4 q5 q6 q7 => ?_
  have hsz : (s.heap.update it (Obj.mapFields (fun fs => fs.extract 0 3 ++ (List.map (fun (n : Nat) => (rawInt n : Value)) ix').toArray))).objs.size = s.heap.objs.size := Heap.size_update ..
  refine ⟨_, rfl, wpAny_pure ?_⟩
  simp only [hsz] at q4 q5 q6 ⊢
  exact hQ h' ⟨⟨o', fs', t1, _, _, q1, q2.trans ((Obj.cls_mapFields ..).trans hc), q3, q4, mapNat_raw _⟩, q5, q6, fun b ob hb hbo => q7 b ob hb (by show (s.heap.update it _).get? b = _; rw [Heap.get?_update_other _ _ (Ne.symm hb)]; exact hbo)⟩
theorem comb_end {Q : Option Value → Shared → Prop} (hh : A.handled = none) (hT : s.heap.IsTuple T items) (hp : CombAt s.heap it T 1 ix) (he : nextComb items.size ix = none)
    (hQ : ∀ h', Heap.ExtBut it s.heap h' → Q none { s with heap := h' }) : wpAny (model prog w) A (pyNext (.ref it)) Q E s := by
  obtain ⟨o, fs, t1, last, ns, ho, hc, hd, hf, hn⟩ := id hp
  unfold pyNext
  refine wpAny_bind (wpAny_attempt (wpAny_callSpecial?_slot (name := Str.ofString "__next__") hp.typeIs slot_comb_next
    (wpAny_call_entry slot_comb_next hp.typeIs entry_comb_next ?_ (args_comb_next _))))
  rw [comb_body]
  have g : ∀ i v, (Value.ref T :: .int 1 t1 :: last :: ns)[i]? = some v → fs[i]? = some v := fun i v h => by rw [← Array.getElem?_toList, hf]; exact h
  refine wpAny_bind (wpAny_field ho hd (g 0 (.ref T) rfl) ?_)
  refine wpAny_bind (wpAny_numbersFrom ho hd (wpAny_bind (wpAny_intField ho hd (g 1 _ rfl) ?_)))
  have e4 : (fs.toList.drop 3).map natOf = ix := by rw [hf]; exact hn
  rw [e4]
  refine wpAny_bind (wpAny_poolItems hT ?_)
  rw [he]
  dsimp only
  have hz1 : 1 < fs.size := by rw [← Array.length_toList, hf]; simp
  refine wpAny_bind (wpAny_setField ho hd hz1 ?_)
  unfold itStop
  refine wpAny_bind ?_
  simp only [newExc, newTuple]
  refine wpAny_bind (wpAny_newObj_type ?_ (by size_fits))
  refine wpAny_bind (m := firstArgMember _ _) (wpAny_of_eq (a := Value.none) (by first | rfl | (simp only [firstArgMember]; rfl)) ?_)
  refine wpAny_newObj_type ?_ (by size_fits)
  simp only [raiseNew]
  refine wpAny_bind (wpAny_handled ?_)
  first | rw [show A.in1.handled = none from hh] | rw [hh]
  refine wpAny_bind (wpAny_pure (wpAny_throw ?_))
  refine wpAny_bind (wpAny_isInstance (T := "StopIteration") (b := true) ⟨_, Heap.get?_push_size _ rfl, rfl⟩ isSubtype_stop ?_)
  exact wpAny_pure (hQ _ (((Heap.SameBut.update ..).extBut.push _).push _))
theorem comb_ended {Q : Option Value → Shared → Prop} (hh : A.handled = none) (hp : CombAt s.heap it T 2 ix)
    (hQ : ∀ h', Heap.ExtBut it s.heap h' → Q none { s with heap := h' }) : wpAny (model prog w) A (pyNext (.ref it)) Q E s := by
  obtain ⟨o, fs, t1, last, ns, ho, hc, hd, hf, hn⟩ := id hp
  unfold pyNext
  refine wpAny_bind (wpAny_attempt (wpAny_callSpecial?_slot (name := Str.ofString "__next__") hp.typeIs slot_comb_next
    (wpAny_call_entry slot_comb_next hp.typeIs entry_comb_next ?_ (args_comb_next _))))
  rw [comb_body]
  have g : ∀ i v, (Value.ref T :: .int 2 t1 :: last :: ns)[i]? = some v → fs[i]? = some v := fun i v h => by rw [← Array.getElem?_toList, hf]; exact h
  refine wpAny_bind (wpAny_field ho hd (g 0 (.ref T) rfl) ?_)
  refine wpAny_bind (wpAny_numbersFrom ho hd (wpAny_bind (wpAny_intField ho hd (g 1 _ rfl) ?_)))
  show wpAny _ _ (do rule "itertools.combinations.ended"; itStop) _ _ s
  refine wpAny_bind ?_
  refine wpAny_rule ?_
  unfold itStop
  refine wpAny_bind ?_
  simp only [newExc, newTuple]
  refine wpAny_bind (wpAny_newObj_type ?_ (by size_fits))
  refine wpAny_bind (m := firstArgMember _ _) (wpAny_of_eq (a := Value.none) (by first | rfl | (simp only [firstArgMember]; rfl)) ?_)
  refine wpAny_newObj_type ?_ (by size_fits)
  simp only [raiseNew]
  refine wpAny_bind (wpAny_handled ?_)
  first | rw [show A.in1.handled = none from hh] | rw [hh]
  refine wpAny_bind (wpAny_pure (wpAny_throw ?_))
  refine wpAny_bind (wpAny_isInstance (T := "StopIteration") (b := true) ⟨_, Heap.get?_push_size _ rfl, rfl⟩ isSubtype_stop ?_)
  exact wpAny_pure (hQ _ (((Heap.ExtBut.refl _ _).push _).push _))
theorem wpAny_pyIter_comb {Q : Value → Shared → Prop} {st : Int} {nums : List Nat} (hp : CombAt s.heap it T st nums) (h : Q (.ref it) s) : wpAny (model prog w) A (pyIter (.ref it)) Q E s := by
  refine wpAny_pyIter_slot hp.typeIs slot_comb_iter (wpAny_call_entry slot_comb_iter hp.typeIs entry_comb_iter ?_ (args_comb_iter _))
  show wpAny _ _ (ret (.ref it)) _ _ s
  exact wpAny_pure ⟨_, rfl, "itertools.combinations", _, hp.typeIs, slot_comb_next.lookup, h⟩
end
theorem sub_comb : isSubtype (.type "itertools.combinations") (.type "itertools.combinations") = pure true := by rw [isSubtype_type]; kernel_rfl
theorem plain_comb_new : plainId "itertools.combinations.__new__" = true := by decide +kernel
def combRec (T : Value) (n r : Nat) : List Value := [T, rawInt (if r > n then 2 else 0), .none] ++ (List.range r).map fun (i : Nat) => rawInt i
/-- what __new__ does, its helpers unfolded -/
theorem comb_new_body (a b : Value) : Builtin.«itertools.combinations.__new__» ⟨[.type "itertools.combinations", a, b], []⟩ = (do
  let x ← (do
    let (cls, rest) ← itClassAndRest "combinations" ⟨[.type "itertools.combinations", a, b], []⟩
    let [some iterable, some rV] ← itBindNamed "combinations" ["iterable", "r"] 2 2 rest ([] : List (Str × Value)) | unsupported "internal:itertools.combinations.__new__"
    let r ← itSsizeArg rV
    let items ← collect iterable
    if r < 0 then rule "itertools.combinations.negative-r"; raiseError "ValueError" "r must be non-negative"
    if itTooMany r then unsupported s!"itertools.{"combinations"}.__new__:memory"
    return (cls, ← newTuple items, items.length, r.toNat) : Sem (Value × Value × Nat × Nat))
  ret (← itNewRecord x.1 ([x.2.1, rawInt (if x.2.2.2 > x.2.2.1 then 2 else 0), .none] ++ (List.range x.2.2.2).map fun (i : Nat) => rawInt i))) := by
  kernel_rfl
theorem classRest_comb {prog : Program} {w : World} {A : Around} {E : Value → Shared → Prop} {s : Shared} {vs : List Value} {kw : List (Str × Value)} {Q : Value × List Value → Shared → Prop} (h : Q (.type "itertools.combinations", vs) s) :
    wpAny (model prog w) A (itClassAndRest "combinations" ⟨.type "itertools.combinations" :: vs, kw⟩) Q E s := by
  unfold itClassAndRest
  have e : "itertools." ++ "combinations" = "itertools.combinations" := by decide +kernel
  dsimp only
  rw [e]
  refine wpAny_bind (wpAny_of_eq (a := true) (by first | rfl | kernel_rfl) ?_)
  refine wpAny_bind (wpAny_of_eq sub_comb ?_)
  exact wpAny_pure h
theorem bindNamed_comb2 (v u : Value) : itBindNamed "combinations" ["iterable", "r"] 2 2 [v, u] [] = pure [some v, some u] := by
  first | rfl | kernel_rfl
theorem typeNoDict_comb : typeHasDict (.type "itertools.combinations") = false := by first | rfl | decide +kernel | kernel_rfl
section
variable {prog : Program} {w : World} {A : Around} {E : Value → Shared → Prop} {s : Shared} {r : Addr}
theorem wpAny_ssize {i : Int} {t : Tok} {Q : Int → Shared → Prop} (h1 : -(2 ^ 63) ≤ i) (h2 : i < 2 ^ 63) (h : Q i s) : wpAny (model prog w) A (itSsizeArg (.int i t)) Q E s := by
  unfold itSsizeArg
  refine wpAny_bind (wpAny_of_eq (a := i) (by first | rfl | kernel_rfl) ?_)
  rw [show (decide (i < -(2 ^ 63 : Int)) || decide (i ≥ 2 ^ 63)) = false by simp; omega]
  exact wpAny_pure h
end
end Dn

/-! Dn29: for places in combinations(xs, r). -/
namespace Dn
open PySem PySem.Spec PyProof.Rows L2
open PySem.Builtin PySem.Builtin.Itertools
section
variable {prog : Program} {w : World} {A : Around} {E : Value → Shared → Prop} {s : Shared} {a : Addr} {r : Nat} {t : Tok}
theorem code_comb_new {IT : List Value → Prop} {Q₁ : Value → Shared → Prop} (hh : A.handled = none) (hc : CanCollect prog w s a IT) (hr : r ≤ 1000) (hz : ∀ vs, IT vs → vs.length + 10 ≤ sizeLine ∧ r + 10 ≤ sizeLine)
    (h : ∀ (h' : Heap) tk vs, (∀ b o, s.heap.get? b = some o → h'.get? b = some o) → IT vs →
      Q₁ (.ref (h'.objs.size + 1)) { s with heap := (h'.push { cls := .type "tuple", data := .seq vs.toArray }).push { cls := .type "itertools.combinations", data := .fields (combRec (.ref h'.objs.size) vs.length r).toArray }, toks := tk }) :
    codeAny (model prog w) A (.call (.builtin "itertools.combinations.__new__") ⟨[.type "itertools.combinations", .ref a, .int (r : Nat) t], []⟩) (wants Q₁ E) s := by
  refine codeAny_of_tree ?_
  show wpAny _ A.in1 (do checkBuiltinCall "itertools.combinations.__new__" ⟨[.type "itertools.combinations", .ref a, .int (r : Nat) t], []⟩; again (.builtin "itertools.combinations.__new__" ⟨[.type "itertools.combinations", .ref a, .int (r : Nat) t], []⟩)) _ _ s
  refine wpAny_bind (wpAny_of_eq (newCall_comb_2 _ _) (wpAny_pure ⟨plainId_quiet plain_comb_new _, codeAny_builtin entry_comb_new ?_⟩))
  rw [Around.under_plainId plain_comb_new _]
  rw [comb_new_body]
  refine wpAny_bind (wpAny_bind (classRest_comb ?_))
  dsimp only
  refine wpAny_bind (wpAny_of_eq (bindNamed_comb2 _ _) ?_)
  dsimp only
  refine wpAny_bind (wpAny_ssize (by omega) (by omega) ?_)
  refine wpAny_bind (hc _ _ _ hh fun h' tk vs hk hi => ?_)
  obtain ⟨z1, z3⟩ := hz vs hi
  rw [if_neg (by omega)]
  have ht : itTooMany (r : Int) = false := by
    unfold itTooMany; exact decide_eq_false (by omega)
  rw [ht]
  simp only [Bool.false_eq_true, if_false, Int.toNat_natCast]
  refine wpAny_bind (wpAny_newTuple ?_ (by omega))
  refine wpAny_pure ?_
  dsimp only
  refine wpAny_bind ?_
  unfold itNewRecord
  rw [typeNoDict_comb]
  simp only [Bool.not_false, if_true]
  have q := h h' tk vs hk hi
  rw [show h'.objs.size + 1 = (h'.push { cls := .type "tuple", data := .seq vs.toArray }).objs.size from (Heap.size_push ..).symm] at q
  refine wpAny_newObj_type ?_ (by show Array.size _ ≤ _; simp; omega)
  exact wpAny_pure q
theorem call_comb {IT : List Value → Prop} {Q : Value → Shared → Prop} (hh : A.handled = none) (hc : CanCollect prog w s a IT) (hr : r ≤ 1000) (hz : ∀ vs, IT vs → vs.length + 10 ≤ sizeLine ∧ r + 10 ≤ sizeLine)
    (h : ∀ (h' : Heap) tk vs, (∀ b o, s.heap.get? b = some o → h'.get? b = some o) → IT vs →
      Q (.ref (h'.objs.size + 1)) { s with heap := (h'.push { cls := .type "tuple", data := .seq vs.toArray }).push { cls := .type "itertools.combinations", data := .fields (combRec (.ref h'.objs.size) vs.length r).toArray }, toks := tk }) :
    wpAny (model prog w) A (call (.type "itertools.combinations") [.ref a, .int (r : Nat) t]) Q E s := by
  refine callType_codes (Q₁ := fun obj s₁ => s₁.TypeIs obj "itertools.combinations" ∧ Q obj s₁) called_comb (typeCall_comb_2 _ _) F.entry_object_init
    (code_comb_new (A := A.in1) hh hc hr hz fun h' tk vs hk hi => ⟨?_, h h' tk vs hk hi⟩) fun obj s₁ h₁ => ?_
  · refine ⟨{ cls := .type "itertools.combinations", data := .fields (combRec (.ref h'.objs.size) vs.length r).toArray }, ?_, rfl⟩
    have := Heap.get?_push_size (h'.push { cls := .type "tuple", data := .seq vs.toArray }) (o := { cls := .type "itertools.combinations", data := .fields (combRec (.ref h'.objs.size) vs.length r).toArray }) rfl
    rw [Heap.size_push] at this
    exact this
  · exact ⟨h₁.1, args_object_init_3 obj _ _, object_init_meets called_comb.init.lookup called_comb.made (by decide) prog w A.in1 _ s₁ ⟨h₁.1, rfl, h₁.2⟩⟩
end
theorem nextComb_len {n : Nat} {ix ix' : List Nat} (h : nextComb n ix = some ix') : ix'.length = ix.length := by
  unfold nextComb at h
  dsimp only at h
  split at h
  · cases h
  · rename_i i hi
    cases h
    have := List.mem_of_find?_eq_some hi
    simp at this
    simp; omega
/-- the numbers behind i steps -/
def combSt (n r : Nat) : Nat → Option (List Nat)
  | 0 => if r > n then none else some (List.range r)
  | i + 1 => (combSt n r i).bind fun p => nextComb n p
theorem combSt_len {n r : Nat} : ∀ (i : Nat) (p : List Nat), combSt n r i = some p → p.length = r
  | 0, p, h => by
    unfold combSt at h; split at h
    · cases h
    · cases h; simp
  | i + 1, p, h => by
    obtain ⟨q, h1, h2⟩ := Option.bind_eq_some_iff.mp h
    rw [nextComb_len h2, combSt_len i q h1]
def pickW (vs : List V) (ix : List Nat) : List V := ix.map fun i => vs.getD i .non
theorem pickW_eq (vs : List V) (ix : List Nat) : pickW vs ix = pickV vs ix.length ix := by unfold pickW pickV; rw [List.take_length]
def ItComb (vs : List V) (r : Nat) : It :=
  ⟨fun i H => (combSt vs.length r i).isSome, fun i H v H' => ∃ q p, combSt vs.length r i = some p ∧ v = .ref q ∧ H q = none ∧ H' = upd H q (.tup (pickW vs p)), fun i H => combSt vs.length r i = none⟩
def CombTn (T it : Addr) (us : List Value) (r : Nat) (i : Nat) (h : Heap) : Prop :=
  it ≠ T ∧ (∃ c, h.get? T = some { cls := .type "tuple", data := .seq us.toArray c }) ∧ ((i = 0 ∧ CombAt h it T (if r > us.length then 2 else 0) (List.range r)) ∨ ∃ j p, i = j + 1 ∧ combSt us.length r j = some p ∧ CombAt h it T 1 p)
theorem turn_comb {P : Program} {w : World} {K : PySem.W.Frag} {tg : Expr} {T it : Addr} {vs : List V} {us : List Value} {r : Nat} (hv : Vals vs us) (hz : r ≤ sizeLine - 10) :
    Turn P w K tg (ItComb vs r) [it, T] it (CombTn T it us r) where
  mem := by simp
  obj := fun i h ⟨hne, ⟨c, hT⟩, st⟩ b hb => by
    have e' : b = it ∨ b = T := by simpa using hb
    rcases e' with z | z
    · rw [z]
      rcases st with ⟨_, o, fs, t1, last, ns, ho, hc, hd, _⟩ | ⟨j, p, _, _, o, fs, t1, last, ns, ho, hc, hd, _⟩ <;> exact ⟨o, ho, fun v q => by rw [hd] at q; cases q⟩
    · rw [z]; exact ⟨_, hT, fun v q => nomatch q⟩
  keep := fun i h h' ⟨hne, ⟨c, hT⟩, st⟩ k => by
    refine ⟨hne, ⟨c, k T (by simp) _ hT⟩, ?_⟩
    rcases st with ⟨e, o, fs, t1, last, ns, ho, hx⟩ | ⟨j, p, e, e1, o, fs, t1, last, ns, ho, hx⟩
    · exact .inl ⟨e, o, fs, t1, last, ns, k it (by simp) _ ho, hx⟩
    · exact .inr ⟨j, p, e, e1, o, fs, t1, last, ns, k it (by simp) _ ho, hx⟩
  item := by
    intro X hP hw hK hc i pins s σ H E I hf st hg
    subst hP hw hK
    obtain ⟨hne, ⟨c, hT⟩, st⟩ := st
    have hl := hv.length
    have hb10 : 10 ≤ sizeLine := by decide
    have hTT : s.heap.IsTuple T us.toArray := ⟨_, hT, rfl, c, rfl⟩
    obtain ⟨p, hp⟩ := Option.isSome_iff_exists.mp hg
    have l1 := combSt_len i p hp
    have key : ∀ h', CombOut s it T us.toArray p h' → ∃ u, (some (Value.ref s.heap.objs.size)) = some u ∧
        wpAny (model X.prog X.w) X.A (letOwnedTupleGo tg (.ref it) u) (fun _ s2 => ∃ x H', Inv X pins σ H' s2 ∧ RelV x u ∧ (ItComb vs r).yld i H x H' ∧ CombTn T it us r (i + 1) s2.heap ∧ ∀ b ∈ [it, T], H' b = none) E { s with heap := h' } := by
      intro h' ⟨pa, ht, hsz, hk⟩
      obtain ⟨o, fs, t1, last, ns, ho, hcl, hd, hx⟩ := id pa
      have hTl : T < s.heap.objs.size := Heap.lt_size hT
      have hil : it < s.heap.objs.size := by
        have := Heap.lt_size ho
        rw [hsz] at this
        rcases Nat.lt_succ_iff_lt_or_eq.mp this with z | z
        · exact z
        · rw [z, ht] at ho; cases ho; exact absurd hcl (by simp)
      have new : ObjOk X.prog X.w (upd H s.heap.objs.size (.tup (pickW vs p))) h' s.heap.objs.size (.tup (pickW vs p)) := by
        refine ⟨by unfold pickW; rw [List.length_map]; omega, _, ?_, ⟨_, ht, rfl, _, rfl⟩⟩
        rw [pickW_eq]
        have := vals_pick hv p.length p
        rw [List.take_length] at this
        exact this
      have I1 : Inv X pins σ (upd H s.heap.objs.size (.tup (pickW vs p))) { s with heap := h', toks := s.toks } :=
        I.turnedNew (ch := [it, T]) (fun b ob hb q => hk b ob (fun z => hb (by simp [z])) q) hf (Nat.le_refl _) new
      refine ⟨_, rfl, go_of (s := { s with heap := h' }) (n := "itertools.combinations") ho hcl hd (by decide) ⟨.ref s.heap.objs.size, _, I1, rfl, ⟨_, p, hp, rfl, I.hok.fresh (Nat.le_refl _), rfl⟩, ⟨hne, ⟨c, hk T _ (Ne.symm hne) hT⟩, .inr ⟨i, p, rfl, hl ▸ hp, pa⟩⟩, fun b hb => ?_⟩⟩
      have hb' : b < s.heap.objs.size := by
        have e' : b = it ∨ b = T := by simpa using hb
        rcases e' with z | z
        · rw [z]; exact hil
        · rw [z]; exact hTl
      rw [upd_ne (Nat.ne_of_lt hb')]
      exact (hf b hb).1
    rcases st with ⟨e, pa⟩ | ⟨j, q, e, hq, pa⟩
    · subst e
      have hp0 := hp
      unfold combSt at hp0
      split at hp0
      · cases hp0
      · rename_i hrn
        cases hp0
        rw [if_neg (by omega)] at pa
        exact comb_next0 hne hTT pa (by simp; omega) fun h' ho => key h' ho
    · subst e
      have m1 := combSt_len j q (hl ▸ hq)
      have he : nextComb us.toArray.size q = some p := by
        have := hp
        rw [combSt, hl, hq] at this
        simpa using this
      exact comb_next1 hne hTT pa (by omega) he fun h' ho => key h' ho
  done := by
    intro X hP hw hK hc i pins s σ H E I hf st hg
    subst hP hw hK
    obtain ⟨hne, ⟨c, hT⟩, st⟩ := st
    have hl := hv.length
    have hTT : s.heap.IsTuple T us.toArray := ⟨_, hT, rfl, c, rfl⟩
    have hg' : combSt vs.length r i = none := hg
    rcases st with ⟨e, pa⟩ | ⟨j, q, e, hq, pa⟩
    · subst e
      unfold combSt at hg'
      split at hg'
      · rename_i hrn
        rw [if_pos (by omega)] at pa
        obtain ⟨f0, f1, f2, f3, f4, f5⟩ := hf it (by simp)
        exact comb_ended (I.ok.hd hc) pa fun h' eb => ⟨rfl, I.turned (t' := s.toks) (fun b o hb e => eb b o hb e) f0 f1 f3 f4 f5⟩
      · cases hg'
    · subst e
      have he : nextComb us.toArray.size q = none := by
        rw [combSt, hl, hq] at hg'
        simpa using hg'
      obtain ⟨f0, f1, f2, f3, f4, f5⟩ := hf it (by simp)
      exact comb_end (I.ok.hd hc) hTT pa he fun h' eb => ⟨rfl, I.turned (t' := s.toks) (fun b o hb e => eb b o hb e) f0 f1 f3 f4 f5⟩
  self := fun _ _ _ _ _ st h => by
    obtain ⟨hne, hT, st⟩ := st
    rcases st with ⟨_, pa⟩ | ⟨_, _, _, _, pa⟩ <;> exact wpAny_pyIter_comb pa h
def combGo (n : Nat) : Nat → List Nat → Option (List (List Nat))
  | 0, _ => none
  | f + 1, p => match nextComb n p with
    | none => some [p]
    | some q => (combGo n f q).map (p :: ·)
def combL (n r : Nat) : Option (List (List Nat)) := if r > n then some [] else combGo n 6000 (List.range r)
theorem combGo_st {n r : Nat} : ∀ (f i : Nat) (p : List Nat) (L : List (List Nat)), combSt n r i = some p → combGo n f p = some L → combSt n r (i + L.length) = none ∧ ∀ j ix, L[j]? = some ix → combSt n r (i + j) = some ix
  | 0, _, _, _, _, h => by cases h
  | f + 1, i, p, L, hp, h => by
    unfold combGo at h
    cases e : nextComb n p with
    | none =>
      rw [e] at h; cases h
      refine ⟨by show (combSt n r i).bind _ = none; rw [hp]; exact e, fun j ix hj => ?_⟩
      cases j with
      | zero => simp at hj; rw [← hj]; exact hp
      | succ j => simp at hj
    | some q =>
      rw [e] at h
      obtain ⟨L', h1, rfl⟩ := Option.map_eq_some_iff.mp h
      have hq : combSt n r (i + 1) = some q := by show (combSt n r i).bind _ = some q; rw [hp]; exact e
      obtain ⟨a, b⟩ := combGo_st f (i + 1) q L' hq h1
      refine ⟨by rw [List.length_cons, show i + (L'.length + 1) = i + 1 + L'.length by omega]; exact a, fun j ix hj => ?_⟩
      cases j with
      | zero => simp at hj; rw [← hj]; exact hp
      | succ j => rw [show i + (j + 1) = i + 1 + j by omega]; exact b j ix (by simpa using hj)
theorem walk_comb {vs : List V} {r : Nat} {L : List (List Nat)} (h : combL vs.length r = some L) : Walk (ItComb vs r) L.length (fun _ => True) (YTup fun i => (L[i]?).map (pickW vs)) := by
  have hab : combSt vs.length r L.length = none ∧ ∀ j ix, L[j]? = some ix → combSt vs.length r (0 + j) = some ix := by
    unfold combL at h
    split at h
    · rename_i hrn
      cases h
      exact ⟨by show combSt vs.length r 0 = none; unfold combSt; rw [if_pos hrn], fun j ix e => by simp at e⟩
    · rename_i hrn
      have := combGo_st 6000 0 _ L (by show combSt vs.length r 0 = some (List.range r); unfold combSt; rw [if_neg hrn]) h
      rw [Nat.zero_add] at this
      exact this
  obtain ⟨a, b⟩ := hab
  refine ⟨fun i _ hi _ => ?_, fun _ _ => a, fun i H v H' hi _ y => ?_⟩
  · have h1 := b i L[i] (by simp [hi])
    rw [Nat.zero_add] at h1
    show (combSt vs.length r i).isSome = true
    rw [h1]; rfl
  · obtain ⟨q, p, h1, h2, h3, h4⟩ := y
    have h5 := b i L[i] (by simp [hi])
    rw [Nat.zero_add, h1] at h5
    cases h5
    exact ⟨q, _, by simp [hi], h2, h3, h4⟩
section
variable {G : Gx} {X : Cx} {m : Nat → Mode} {n : Nat} {W : WX} {k : Nat} {a b tg : Expr} {fa fb : ED} {p pos : Pos}
def pickE (ds : List D) (ix : List Nat) : D := .tup (ix.map fun i => ds.getD i .non)
theorem RepL.pickW {F : Fr} {ds : List D} {vs : List V} (r : RepL G F ds vs) (ix : List Nat) : RepL G F (ix.map fun i => ds.getD i .non) (pickW vs ix) := by
  have := r.pick ix.length ix
  rw [List.take_length] at this
  rw [pickW_eq]; exact this
/-- the choices of r of what a value walks over -/
def iComb (fa fb : ED) : ID := fun ρ => (fa ρ).bind fun d ρ1 => (fb ρ1).bind fun e ρ2 => match itemsR d, e with
  | some ds, .int z => if 0 ≤ z ∧ z.toNat ≤ 1000 ∧ ds.length ≤ 1000 then (match combL ds.length z.toNat with
    | some L => .ok (L.map (pickE ds)) ρ2
    | none => .bad) else .bad
  | _, _ => .bad
theorem YTup_okW {F : Fr} {ds : List D} {vs : List V} {L : List (List Nat)} (rp : RepL G F ds vs) : ∀ i H F1 x H', Ext F F1 → F1.In G H → i < (L.map (pickE ds)).length → YTup (fun i => (L[i]?).map (Dn.pickW vs)) i H x H' → ∃ F2 d, (L.map (pickE ds))[i]? = some d ∧ Grow G F1 H F2 H' ∧ Rep G F2 d x := by
  rintro i H F1 x H' hx inn hi ⟨q, xs, h1, rfl, h3, rfl⟩
  obtain ⟨ix, h4, rfl⟩ := Option.map_eq_some_iff.mp h1
  refine ⟨_, pickE ds ix, by simp [h4], Grow.lay (o := .tup (Dn.pickW vs ix)) inn h3, ?_⟩
  rw [pickE, Rep]
  exact ⟨q, _, rfl, SqT.of upd_same, ((RepL.ext hx _ _ rp).ext (Ext.add (inn.free h3).1) _ _).pickW ix⟩
theorem di_comb (hm : G.mg "combinations" = some (.type "itertools.combinations")) (ha : DE G X m W k a fa) (hb : DE G X m W k b fb) (hg : Gl X "combinations" := by rfl) (hs : starEach [a, b] X.env = (false, eval a X.env) :: starEach [b] X.env := by rfl) (hs2 : starEach [b] X.env = (false, eval b X.env) :: starEach [] X.env := by rfl)
    (hpl : (backTo pos (starEach [b] X.env)).any (·.1) = false := by rfl) : DI G X m W k tg (.Call (.Name "combinations" p) [a, b] [] pos) (iComb fa fb) := fun c => ⟨fun pins s σ H R I ⟨F, ρ, fp, st, h⟩ => by
  have hx := (RG.bind (R := RD G) (R' := RI G) st h)
  refine Call_ (ld_glob I hg (c.mg ▸ hm) (PyProof.Rows.callWith_type1 (args_cons (thn ((ha c).run pins s σ H _ I ⟨F, ρ, fp, st, hx⟩) fun v s1 ⟨y, H1, I1, r1, q1⟩ => ?_) hs) hs hpl))
  obtain ⟨F1, ρ1, fp1, d, p1, s1', rd, h1⟩ := q1
  have hx2 := (RG.bind (R := RD G) (R' := RI G) s1' h1)
  refine args_cons (thn ((hb c).run pins s1 σ H1 _ I1 ⟨F1, ρ1, fp1, s1', hx2⟩) fun v2 s2 ⟨y2, H2, I2, r2, q2⟩ => args_nil ?_) hs2
  obtain ⟨F2, ρ2, fp2, e, p2, s2', re, h2⟩ := q2
  split at h2
  · rename_i ds z hds
    split at h2
    · rename_i hz
      split at h2
      · rename_i L hL
        have rd2 := Rep.ext p2.ext _ _ rd
        obtain ⟨b', vs, rfl, rl, hc⟩ := can_of I2 c.K s2'.inn rd2 hds
        cases r1
        have re' : y2 = .int z := by rw [RD, Rep] at re; exact re
        subst re'
        obtain ⟨t, rfl⟩ := r2
        have el := rl.length
        have ez : (z : Int) = ((z.toNat : Nat) : Int) := by omega
        rw [ez]
        have hb10 : 100000 ≤ sizeLine := by decide
        refine call_comb (I2.ok.hd c.calm) hc (by omega) (fun us hu => ?_) fun h' tk us hk hu => ?_
        · have := hu.length
          omega
        · have eu := hu.length
          have I2' : Inv X pins σ H2 { s2 with heap := h', toks := tk } := I2.kept hk
          have sz : (h'.push { cls := .type "tuple", data := .seq us.toArray }).objs.size = h'.objs.size + 1 := Heap.size_push ..
          have hT : ((h'.push { cls := .type "tuple", data := .seq us.toArray }).push { cls := .type "itertools.combinations", data := .fields (combRec (.ref h'.objs.size) us.length z.toNat).toArray }).get? h'.objs.size = some { cls := .type "tuple", data := .seq us.toArray } := Heap.get?_push_of_some _ (Heap.get?_push_size _ rfl)
          have hI : ((h'.push { cls := .type "tuple", data := .seq us.toArray }).push { cls := .type "itertools.combinations", data := .fields (combRec (.ref h'.objs.size) us.length z.toNat).toArray }).get? (h'.objs.size + 1) = some { cls := .type "itertools.combinations", data := .fields (combRec (.ref h'.objs.size) us.length z.toNat).toArray } := by
            have := Heap.get?_push_size (h'.push { cls := .type "tuple", data := .seq us.toArray }) (o := { cls := .type "itertools.combinations", data := .fields (combRec (.ref h'.objs.size) us.length z.toNat).toArray }) rfl
            rw [sz] at this; exact this
          have I3 : Inv X pins σ H2 { s2 with heap := (h'.push { cls := .type "tuple", data := .seq us.toArray }).push { cls := .type "itertools.combinations", data := .fields (combRec (.ref h'.objs.size) us.length z.toNat).toArray }, toks := tk } :=
            I2.kept fun b o e => Heap.get?_push_of_some _ (Heap.get?_push_of_some _ (hk b o e))
          have pa : CombAt ((h'.push { cls := .type "tuple", data := .seq us.toArray }).push { cls := .type "itertools.combinations", data := .fields (combRec (.ref h'.objs.size) us.length z.toNat).toArray }) (h'.objs.size + 1) h'.objs.size (if z.toNat > us.length then 2 else 0) (List.range z.toNat) :=
            ⟨_, _, 0, .none, (List.range z.toNat).map (fun (i : Nat) => rawInt i), hI, rfl, rfl, rfl, mapNat_raw _⟩
          refine wpAny_pyIter_comb pa ⟨h'.objs.size + 1, [h'.objs.size + 1, h'.objs.size], _, ItComb vs z.toNat, H2, rfl, I3, turn_comb (us := us) hu (by omega), ⟨Nat.succ_ne_self _, ⟨0, hT⟩, .inl ⟨rfl, pa⟩⟩, fun b hb => ?_, ?_⟩
          · have hle : h'.objs.size ≤ b := by
              have e' : b = h'.objs.size + 1 ∨ b = h'.objs.size := by simpa using hb
              rcases e' with z | z
              · rw [z]; exact Nat.le_add_right _ _
              · rw [z]; exact Nat.le_refl _
            exact I2'.fpOk hle (I2'.hok.fresh hle)
          · rw [← el] at hL
            exact h2 (ItComb vs z.toNat) F2 H2 fp2 Step.refl s2' ⟨_, _, by rw [List.length_map]; exact walk_comb hL, fun _ _ _ _ => True.intro, YTup_okW rl⟩
      · exact h2.elim
    · exact h2.elim
  · exact h2.elim⟩
end
end Dn

/-! Dn30: enumerate of a list or a tuple; helps for the printed texts; the law's end. -/
namespace Dn
open PySem PySem.Spec PyProof.Rows L2
section
variable {X : Cx} {e : Expr} {ta : TA} {p pos tpos : Pos} {elts : List Expr} {kk : Nat}
def iEnumA (K : PySem.W.Frag) (ta : TA) : TI := fun σ H R => ta σ H fun vs H1 => ∃ a xs, vs = [.ref a] ∧ ((SqL K H1 a xs ∧ R (Ite K a) H1) ∨ (SqT K H1 a xs ∧ R (IteT K a) H1))
theorem pi_enumA (hg : Gl X "enumerate") (hm : X.mg "enumerate" = none) (ha : PA X [e] ta) (hs : starEach [e] X.env = [(false, eval e X.env)] := by rfl) :
    PI X (.Tuple elts kk tpos) (.Call (.Name "enumerate" p) [e] [] pos) (iEnumA X.K ta) := by
  refine ⟨fun pins s σ H R I h => ?_⟩
  refine Call_ (ld_blt I hg hm boot_enumerate (PyProof.Rows.callWith_type1 (thn (ha.run pos pins s σ H _ I h) fun us s1 ⟨vs, H1, I1, r1, q1⟩ => ?_) hs rfl))
  obtain ⟨a, xs, ex, hq⟩ := q1
  subst ex
  have low : ∀ b, b ∈ [s1.heap.objs.size + 1, s1.heap.objs.size] → FpOk X pins H1 b := fun b hb => by
    have e' : b = s1.heap.objs.size + 1 ∨ b = s1.heap.objs.size := by simpa using hb
    have hle : s1.heap.objs.size ≤ b := by
      rcases e' with z | z
      · rw [z]; exact Nat.le_add_right _ _
      · rw [z]; exact Nat.le_refl _
    exact I1.fpOk hle (I1.hok.fresh hle)
  cases r1 with
  | cons r rr =>
    cases rr
    cases r
    rcases hq with ⟨hq, q⟩ | ⟨hq, q⟩
    · obtain ⟨its, rv, p', hz⟩ := I1.list hq
      refine call_enumerate_list p'.isList fun h' he hit hsz hk => wpAny_pyIter_enum he ?_
      have I2 : Inv X pins σ H1 { s1 with heap := h' } := I1.kept (t' := s1.toks) hk
      exact ⟨s1.heap.objs.size + 1, [s1.heap.objs.size + 1, s1.heap.objs.size], _, _, H1, rfl, I2, turn_enum a (s1.heap.objs.size + 1) s1.heap.objs.size, ⟨⟨.none, he⟩, hit, Nat.succ_ne_self _⟩, low, q⟩
    · obtain ⟨its, rv, p', hz⟩ := I1.tuple hq
      have ha : a < s1.heap.objs.size := p'.lt
      refine call_enumerate_tuple (show s1.heap.IsTuple a its.toArray from p') fun h' he hit hsz hk => wpAny_pyIter_enum he ?_
      have I2 : Inv X pins σ H1 { s1 with heap := h' } := I1.kept (t' := s1.toks) hk
      exact ⟨s1.heap.objs.size + 1, [s1.heap.objs.size + 1, s1.heap.objs.size], _, _, H1, rfl, I2, turn_enumT a (s1.heap.objs.size + 1) s1.heap.objs.size, ⟨⟨.none, he⟩, hit, Nat.succ_ne_self _, Nat.ne_of_gt (Nat.lt_succ_of_lt ha), Nat.ne_of_lt ha⟩, low, q⟩
end
section
variable {G : Gx} {X : Cx} {m : Nat → Mode} {n : Nat} {W : WX} {k : Nat} {a b : Expr} {f : AVD} {sh : List (Option Nat)} {p pos tpos : Pos} {elts : List Expr} {kk : Nat}
def iEnA (f : AVD) : ID := fun ρ => (f ρ).bind fun avs ρ1 => match valsA avs with
  | some [.lst ds] => .ok (enumD ds) ρ1
  | some [.scr ns] => .ok (enumD (ns.map .int)) ρ1
  | some [.tup ds] => .ok (enumD ds) ρ1
  | _ => .bad
theorem di_enumA (hm : G.mg "enumerate" = none) (ha : DA G X m W k sh [a] f) (hg : Gl X "enumerate" := by rfl) (hs : starEach [a] X.env = [(false, eval a X.env)] := by rfl) : DI G X m W k (.Tuple elts kk tpos) (.Call (.Name "enumerate" p) [a] [] pos) (iEnA f) := fun c =>
  PImono (pi_enumA hg (c.mg ▸ hm) (ha c) hs) fun σ H R ⟨F, ρ, fp, s, h⟩ => ⟨F, ρ, fp, s, (RG.bind (R := RA G sh) s h).mono fun vs H1 ⟨F1, ρ1, fp1, avs, p1, s1, r1, h1⟩ => by
    rw [c.K]
    split at h1
    · rename_i ds q
      obtain ⟨v, vs', rfl, e1, e2⟩ := vals_rep r1 q
      cases e2
      obtain ⟨b, xs, rfl, e3, e4⟩ := e1
      exact ⟨b, xs, rfl, .inl ⟨SqL.of (s1.inn.fx _ _ e3), h1 _ F1 H1 fp1 Step.refl s1 ⟨_, _, by rw [enumD_length, ← e4.length]; exact walk_enum (K := G.K) (a := b) (xs := xs), fun H F2 x i => SqL.of (i.fx _ _ (x.fx _ _ e3)), enum_ok e4⟩⟩⟩
    · rename_i ns q
      obtain ⟨v, vs', rfl, e1, e2⟩ := vals_rep r1 q
      cases e2
      obtain ⟨b, rfl, e3⟩ := e1
      have e4 : RepL G F1 (ns.map D.int) (ns.map V.int) := RepL.ints
      exact ⟨b, _, rfl, .inl ⟨s1.inn.seqL e3, h1 _ F1 H1 fp1 Step.refl s1 ⟨_, _, by rw [enumD_length, ← e4.length]; exact walk_enum (K := G.K) (a := b) (xs := ns.map V.int), fun H F2 x i => i.seqL (x.fx.seq e3), enum_ok e4⟩⟩⟩
    · rename_i ds q
      obtain ⟨v, vs', rfl, e1, e2⟩ := vals_rep r1 q
      cases e2
      obtain ⟨b, xs, rfl, e3, e4⟩ := e1
      exact ⟨b, xs, rfl, .inr ⟨s1.inn.seqT e3, h1 _ F1 H1 fp1 Step.refl s1 ⟨_, _, by rw [enumD_length, ← e4.length]; exact walk_enumT (K := G.K) (a := b) (xs := xs), fun H F2 x i => i.seqT (SameT x.fx e3), enum_ok e4⟩⟩⟩
    · exact h1.elim⟩
end
/-! ### helps -/
def modesC (ml pml : List Mode) : Bool := pml.isPrefixOf ml && (ml.drop pml.length).all (fun p => !p.isIo) && pml.all (fun p => p == .frz || p.isIo)
theorem modesOk_by {ml pml : List Mode} (h : modesC ml pml = true) : ModesOk (mOf ml) pml := by
  unfold modesC at h
  simp only [Bool.and_eq_true] at h
  obtain ⟨⟨h1, h2⟩, h3⟩ := h
  obtain ⟨t, rfl⟩ := List.isPrefixOf_iff_prefix.mp h1
  rw [List.drop_left] at h2
  refine ⟨fun i p e => ?_, fun i e => ?_, fun p hp => ?_⟩
  · have hi := (List.getElem?_eq_some_iff.mp e).1
    unfold mOf
    rw [List.getD_eq_getElem?_getD, List.getElem?_append_left hi, e]; rfl
  · apply Nat.lt_of_not_le
    intro hle
    unfold mOf at e
    rw [List.getD_eq_getElem?_getD, List.getElem?_append_right hle] at e
    cases q : t[i - pml.length]? with
    | none => rw [q] at e; cases e
    | some p =>
      rw [q] at e
      have := List.all_eq_true.mp h2 p (List.mem_of_getElem? q)
      have e' : p.isIo = true := e
      rw [e'] at this; cases this
  · have := List.all_eq_true.mp h3 p hp
    simp only [Bool.or_eq_true] at this
    rcases this with z | z
    · exact .inl (by simpa using z)
    · exact .inr z
section
variable {G : Gx} {x qual : Str} {st : Stmt} {f : Addr} {fd : FuncData} {ps ks : List Str} {np : Nat} {π : List Nat}
theorem fun_kb {K : PySem.W.Frag} (F : L2.Fun K x qual st f fd)
    (h : ∀ (kV doc pm : Value) (an : Option Addr) (cdv ct : Value) (us : List Value), us.length = np + ks.length → bindArgs (PySem.W.fnOf x qual (defArgs st) (defBody st) (defScope st) .none kV doc pm an cdv ct) ⟨us.take np, ks.zip (us.drop np)⟩ = pure (ps.zip (pick π us))) : KB K fd ps ks np π := by
  obtain ⟨oc, od, kV, doc, pm, an, cdv, ct, osl, rfl, lk, hcd⟩ := F.ex
  exact fun s us _ hl => .of_eq (h kV doc pm an cdv ct us hl)
theorem fun_kbm {K : PySem.W.Frag} (F : L2.Fun K x qual st f fd)
    (h : ∀ (kV doc pm : Value) (an : Option Addr) (cdv ct : Value) (x0 : Value) (us : List Value), us.length = np + ks.length → bindArgs (PySem.W.fnOf x qual (defArgs st) (defBody st) (defScope st) .none kV doc pm an cdv ct) ⟨x0 :: us.take np, ks.zip (us.drop np)⟩ = pure (ps.zip (x0 :: pick π us))) : KBM K fd ps ks np π := by
  obtain ⟨oc, od, kV, doc, pm, an, cdv, ct, osl, rfl, lk, hcd⟩ := F.ex
  exact fun s x us _ hl => .of_eq (h kV doc pm an cdv ct x us hl)
theorem fn_bad {pml : List Mode} {mr : Mode} {k : Nat} (hp : pml.length = ps.length) : FnOk G.P G.w G.K G.mg G.base (L2.CX G.P G.w) k f fd ps (spD G pml mr fun _ => .bad) :=
  ⟨fun vs H Q E h => h.1.trans hp, fun A outer s H args us vs Q E _ _ _ _ h => by obtain ⟨_, _, _, _, _, hf⟩ := h; exact hf.elim⟩
/-- a def at the top -/
def FnAt (G : Gx) (x : Str) (st : Stmt) : Prop := ∃ f fd, G.mg x = some (.ref f) ∧ L2.Fun G.K x x st f fd
/-- a def, its promise -/
structure FnD (G : Gx) (x : Str) (st : Stmt) (ps : List Str) (pml : List Mode) (mr : Mode) (k : Nat) (d : FD) : Prop where
  ex : ∃ f fd, G.mg x = some (.ref f) ∧ L2.Fun G.K x x st f fd ∧ FnOk G.P G.w G.K G.mg G.base (L2.CX G.P G.w) k f fd ps (spD G pml mr d)
  len : pml.length = ps.length
theorem fnd_of {N : List Str} {k : Nat} {mr : Mode} {b : SD} {ml pml : List Mode} (h : FnAt G x st) (S : FnScope N ps (defScope st)) (hp : pml.length = ps.length) (M : modesC ml pml = true)
    (body : ∀ (f : Addr) (cdv : Value) (A : Around) (outer : List PySem.Env) (s : Shared) (H : Hp) (E : XK), DSs G (cxOf (L2.CX G.P G.w) G.P G.w G.K G.mg G.base N x (defScope st) f cdv A outer s H E) (mOf ml) mr.lvl (fun c d _ H => E c d H) k (defBody st) b) :
    FnD G x st ps pml mr (k + 1) (runB N.length pml mr b) := by
  obtain ⟨f, fd, h1, h2⟩ := h
  exact ⟨⟨f, fd, h1, h2, mk_fn h2 S hp (modesOk_by M) (body f)⟩, hp⟩
theorem fnd_bad {k : Nat} {mr : Mode} {pml : List Mode} (h : FnAt G x st) (hp : pml.length = ps.length) : FnD G x st ps pml mr k (fun _ => .bad) := by
  obtain ⟨f, fd, h1, h2⟩ := h
  exact ⟨⟨f, fd, h1, h2, fn_bad hp⟩, hp⟩
theorem FnD.cal {k : Nat} {mr : Mode} {pml : List Mode} {d : FD} (h : FnD G x st ps pml mr k d)
    (hb : ∀ (kV doc pm : Value) (an : Option Addr) (cdv ct : Value) (us : List Value), us.length = ps.length → bindArgs (PySem.W.fnOf x x (defArgs st) (defBody st) (defScope st) .none kV doc pm an cdv ct) ⟨us, []⟩ = pure (ps.zip us)) : Cal G x ps pml mr k d := by
  obtain ⟨f, fd, h1, h2, h3⟩ := h.ex
  exact ⟨⟨f, fd, h1, h2.kp, h2.binds hb, h3⟩, h.len⟩
theorem FnD.calK {k : Nat} {mr : Mode} {pml : List Mode} {d : FD} (h : FnD G x st ps pml mr k d) (np : Nat) (ks : List Str) (π : List Nat)
    (hb : ∀ (kV doc pm : Value) (an : Option Addr) (cdv ct : Value) (us : List Value), us.length = np + ks.length → bindArgs (PySem.W.fnOf x x (defArgs st) (defBody st) (defScope st) .none kV doc pm an cdv ct) ⟨us.take np, ks.zip (us.drop np)⟩ = pure (ps.zip (pick π us))) : CalK G x ps ks np π pml mr k d := by
  obtain ⟨f, fd, h1, h2, h3⟩ := h.ex
  exact ⟨⟨f, fd, h1, h2.kp, fun_kb h2 hb, h3⟩⟩
/-- a class with its __init__ -/
def ClsAt (G : Gx) (cn qual : Str) (st : Stmt) (fl : List Str) : Prop := ∃ C f fd, G.mg cn = some (.ref C) ∧ Mk G.K C f ∧ L2.Fun G.K "__init__" qual st f fd ∧ Cls G.K C ∧ ∀ g ∈ fl, NoAttr G.K C g
theorem ClsAt.flds {cn : Str} {fl : List Str} (h : ClsAt G cn qual st fl) : ClsF G cn fl := ⟨fun C e => by
  obtain ⟨C', f, fd, h1, _, _, h2, h3⟩ := h
  rw [h1] at e
  cases e
  exact ⟨h2, h3⟩⟩
structure MkF (G : Gx) (cn qual : Str) (st : Stmt) (ps : List Str) (pml : List Mode) (k : Nat) (d : FD) : Prop where
  ex : ∃ C f fd, G.mg cn = some (.ref C) ∧ Mk G.K C f ∧ L2.Fun G.K "__init__" qual st f fd ∧ FnOk G.P G.w G.K G.mg G.base (L2.CX G.P G.w) k f fd ps (spD G (.io :: pml) .frz d)
theorem mkf_of {cn : Str} {fl : List Str} {N : List Str} {k : Nat} {b : SD} {ml pml : List Mode} (h : ClsAt G cn qual st fl) (S : FnScope N ps (defScope st)) (hp : (Mode.io :: pml).length = ps.length) (M : modesC ml (.io :: pml) = true)
    (body : ∀ (f : Addr) (cdv : Value) (A : Around) (outer : List PySem.Env) (s : Shared) (H : Hp) (E : XK), DSs G (cxOf (L2.CX G.P G.w) G.P G.w G.K G.mg G.base N qual (defScope st) f cdv A outer s H E) (mOf ml) 0 (fun c d _ H => E c d H) k (defBody st) b) :
    MkF G cn qual st ps pml (k + 1) (runB N.length (.io :: pml) .frz b) := by
  obtain ⟨C, f, fd, h1, h2, h3, _⟩ := h
  exact ⟨C, f, fd, h1, h2, h3, mk_fn h3 S hp (modesOk_by M) (body f)⟩
theorem MkF.mk' {cn : Str} {pml : List Mode} {k : Nat} {d : FD} (h : MkF G cn qual st ps pml k d)
    (hb : ∀ (kV doc pm : Value) (an : Option Addr) (cdv ct : Value) (us : List Value), us.length = ps.length → bindArgs (PySem.W.fnOf "__init__" qual (defArgs st) (defBody st) (defScope st) .none kV doc pm an cdv ct) ⟨us, []⟩ = pure (ps.zip us)) : MkD G cn ps pml k d := by
  obtain ⟨C, f, fd, h1, h2, h3, h4⟩ := h.ex
  exact ⟨C, f, fd, h1, h2, h3.binds hb, h4⟩
theorem MkF.mkK {cn : Str} {pml : List Mode} {k : Nat} {d : FD} (h : MkF G cn qual st ps pml k d) (np : Nat) (ks : List Str) (π : List Nat)
    (hb : ∀ (kV doc pm : Value) (an : Option Addr) (cdv ct : Value) (x0 : Value) (us : List Value), us.length = np + ks.length → bindArgs (PySem.W.fnOf "__init__" qual (defArgs st) (defBody st) (defScope st) .none kV doc pm an cdv ct) ⟨x0 :: us.take np, ks.zip (us.drop np)⟩ = pure (ps.zip (x0 :: pick π us))) : MkDK G cn ps ks np π pml k d := by
  obtain ⟨C, f, fd, h1, h2, h3, h4⟩ := h.ex
  exact ⟨C, f, fd, h1, h2, fun_kbm h3 hb, h4⟩
/-! ### the end -/
/-- what is wanted of a law -/
def spL (K : PySem.W.Frag) : Sp := fun vs H Q _ => ∃ (a : Addr) (ns : List Int), vs = [.ref a] ∧ SqL K H a (ns.map V.int) ∧ ns.length ≤ 63 ∧ ∀ H', Q (.bl true) H'
theorem law_end {k : Nat} {d : FD} {mode : Mode} (h : FnOk G.P G.w G.K G.mg G.base (L2.CX G.P G.w) k f fd ps (spD G [.frz] .frz d)) (hd : ∀ ns : List Int, ns.length ≤ 63 → ∃ r, d [.scr ns] = .ok (.bl true) r) :
    FnOk G.P G.w G.K G.mg G.base (L2.CX G.P G.w) k f fd ps (spL G.K) := h.imp fun vs H Q E ⟨a, ns, hv, hs, hl, hq⟩ => by
  subst hv
  obtain ⟨r, hr⟩ := hd ns hl
  have hF : ∃ F : Fr, F.In G H ∧ SqL G.K F.fx a (ns.map V.int) := by
    refine ⟨⟨fun b => if b = a then H a else none, fun _ => none⟩, ⟨fun b o e => ?_, fun b o e => (nomatch e)⟩, ?_⟩
    · dsimp only at e
      split at e
      · rename_i z; subst z; exact e
      · cases e
    · rcases hs with (hs | ⟨o, hs⟩) | hs
      · exact .inl (.inl (by show (if a = a then H a else none) = _; rw [if_pos rfl]; exact hs))
      · exact .inl (.inr ⟨o, by show (if a = a then H a else none) = _; rw [if_pos rfl]; exact hs⟩)
      · exact .inr hs
  obtain ⟨F, inn, hsF⟩ := hF
  refine ⟨rfl, F, [.scr ns], fun _ => [], ⟨inn, rfl, fun i d e => ?_, fun _ _ => rfl, fun _ _ _ h => (nomatch h), fun _ _ h => (nomatch h)⟩, ?_⟩
  · cases i with
    | zero =>
      simp at e; subst e
      refine ⟨.ref a, rfl, ?_⟩
      show Own G F H 0 _ _ _
      refine ⟨?_, rfl⟩
      rw [Rep]
      exact ⟨a, rfl, hsF⟩
    | succ i => simp at e
  · rw [hr]
    intro v F' H' fp' _ _ rv
    have := rv.rep
    rw [Rep] at this
    subst this
    exact hq H'
end
end Dn

/-! Dn31: a call whose first argument is made for it alone, and changed there. -/
namespace Dn
open PySem PySem.Spec PyProof.Rows L2
def eCallT (d : FD) (fo : ED) (fa : AVD) : ED := fun ρ => (fo ρ).bind fun x ρ1 => (fa ρ1).bind fun avs ρ2 => match valsA avs with
  | none => .bad
  | some ds => match d (x :: ds) with
    | .ok r _ => .ok r ρ2
    | .exc e _ => .exc e ρ2
    | .bad => .bad
section
variable {G : Gx} {m : Nat → Mode} {F F1 F2 F' : Fr} {H H1 H2 H' : Hp} {σ : L2.St} {ρ ρ1 ρ2 : Env} {fp fp1 fp2 fp' : Nat → List Addr}
/-- as RG.bind, the promise at the start -/
theorem RG.bind0 {α β γ δ : Type} {W : WX} {R : RR α β} {R' : RR γ δ} {Q : δ → Hp → Prop} {x : ER α} {k : α → Env → ER γ} (h : RG G m W R' F H σ fp Q (x.bind k)) :
    RG G m W R F H σ fp (fun v H1 => ∃ F1 ρ1 fp1 a, Step G F H fp F1 H1 fp1 ∧ St G m F1 H1 σ ρ1 fp1 ∧ R H fp F1 H1 fp1 σ ρ1 a v ∧ RG G m W R' F H σ fp Q (k a ρ1)) x := by
  cases x with
  | ok a ρ' => exact fun v F' H' fp' p s r => ⟨F', ρ', fp', a, p, s, r, h⟩
  | exc e ρ' => exact h
  | bad => exact h
/-- an owned thing out of the frame stays so -/
theorem kept_out (i2 : F2.In G H2) (st : Step G F1 H1 fp1 F2 H2 fp2) {n : Nat} {d : D} {v : V} {fpv : List Addr} (i1 : F1.In G H1) (o : Own G F1 H1 n d v fpv) (hz : ∀ a ∈ fpv, F1.fx a = none ∧ F1.nt a = none ∧ ∀ i, a ∉ fp1 i) (al : ∀ a ∈ fpv, H1 a ≠ none) :
    Own G F2 H2 n d v fpv ∧ ∀ a ∈ fpv, F2.fx a = none ∧ F2.nt a = none ∧ ∀ i, a ∉ fp2 i := by
  have same : ∀ a ∈ fpv, H2 a = H1 a := fun a ha => by
    cases q : H1 a with
    | none => exact absurd q (al a ha)
    | some u => exact st.frm a u q (hz a ha).2.1 (hz a ha).2.2
  refine ⟨o.keep st.ext same, fun a ha => ⟨?_, ?_, fun i hi => ?_⟩⟩
  · cases q : F2.fx a with
    | none => rfl
    | some u => rcases st.newF a u q with z | z | ⟨j, z⟩; rw [(hz a ha).1] at z; cases z; exact absurd z (al a ha); exact absurd z ((hz a ha).2.2 j)
  · cases q : F2.nt a with
    | none => rfl
    | some u => rcases st.newN a u q with z | z | ⟨j, z⟩; rw [(hz a ha).2.1] at z; cases z; exact absurd z (al a ha); exact absurd z ((hz a ha).2.2 j)
  · rcases st.fpn i a hi with ⟨j, z⟩ | z
    · exact (hz a ha).2.2 j z
    · exact al a ha z
theorem Own.live {n : Nat} {d : D} {v : V} {fpv : List Addr} (i : F.In G H) (o : Own G F H 1 d v fpv) : ∀ a ∈ fpv, H a ≠ none := by
  obtain ⟨a, rfl, h⟩ := o
  cases d with
  | lst ds => obtain ⟨rfl, xs, h1, _⟩ := h; intro b hb; have : b = a := by simpa using hb
              subst this; rw [h1]; simp
  | dK ds => obtain ⟨rfl, xs, h1, _⟩ := h; intro b hb; have : b = a := by simpa using hb
             subst this; rw [h1]; simp
  | dN ds => obtain ⟨rfl, xs, h1, _⟩ := h; intro b hb; have : b = a := by simpa using hb
             subst this; rw [h1]; simp
  | obj cn fs =>
    obtain ⟨C, dx, gs, rfl, h1, h2, _⟩ := h
    intro b hb
    have : b = a ∨ b = dx := by simpa using hb
    rcases this with rfl | rfl
    · rw [h1]; simp
    · rw [h2]; simp
  | _ => exact h.elim
theorem vals_frz {sh : List (Option Nat)} {avs : List AV} {ds : List D} (h : valsA avs = some ds) : avs.map AV.sl = List.replicate avs.length none := by
  induction avs generalizing ds with
  | nil => rfl
  | cons av r ih =>
    cases av with
    | own i => cases h
    | val d =>
      rw [valsA] at h
      obtain ⟨es, e1, _⟩ := Option.map_eq_some_iff.mp h
      show none :: r.map AV.sl = _
      rw [ih e1]; rfl
theorem vals_fill {avs : List AV} {ds : List D} (h : valsA avs = some ds) : fillA ρ avs = some ds := by
  induction avs generalizing ds with
  | nil => exact h
  | cons av r ih =>
    cases av with
    | own i => cases h
    | val d =>
      rw [valsA] at h
      obtain ⟨es, e1, rfl⟩ := Option.map_eq_some_iff.mp h
      show (fillA ρ r).map _ = _
      rw [ih e1]; rfl
end
section
variable {G : Gx} {X : Cx} {m : Nat → Mode} {W : WX} {k k' : Nat} {sh : List (Option Nat)} {pml : List Mode} {mr : Mode} {ps : List Str} {d : FD} {x : Str} {p pos : Pos} {e : Expr} {es : List Expr} {fo : ED} {f : AVD}
theorem do_callT (C : Cal G x ps (.io :: pml) mr k' d) (ho : DO G X m W k 1 e fo) (ha : DA G X m W k sh es f) (hok : okSh m sh pml = true := by rfl) (hk : k' ≤ k := by first | decide | omega) (hg : Gl X x := by rfl) (hdb : (x == ("__debug__" : Str)) = false := by decide)
    (he : starEach (e :: es) X.env = (false, eval e X.env) :: starEach es X.env := by rfl) (hpl : (backTo pos (starEach es X.env)).any (·.1) = false := by rfl) : DO G X m W k mr.lvl (.Call (.Name x p) (e :: es) [] pos) (eCallT d fo f) := fun c => by
  obtain ⟨g, fd, h1, h2, h3, h4⟩ := C.ex
  obtain ⟨cP, cw, cK, cmg, cb, cnd, ccalm, croom, cpo, ctk⟩ := id c
  rw [← cP, ← cw, ← cK, ← cmg, ← cb] at h4
  rw [← cK] at h2 h3
  rw [← cmg] at h1
  refine PEmono (pe_callSD h4 (croom.mono hk) hg h1 h2 h3 .nil (fun σ => passAt ctk σ) (pa_cons (ho c) (ha c) he) hdb he hpl) fun σ H Q h => ?_
  obtain ⟨F, ρ, fp, s, h⟩ := h
  refine ⟨F, ρ, fp, s, (RG.bind0 (R := RV G 1) h).mono fun v H1 ⟨F1, ρ1, fp1, x1, p1, s1, ⟨fpv, ow, nd, hz⟩, h1⟩ => ?_⟩
  have al := ow.live (n := 1) s1.inn
  refine ⟨F1, ρ1, fp1, s1, ?_⟩
  -- the other arguments
  cases qf : f ρ1 with
  | bad => rw [qf] at h1; exact h1.elim
  | exc ex ρ2 =>
    rw [qf] at h1
    intro c' dd F2 H2 fp2 p2 s2 ei
    exact h1 c' dd F2 H2 fp2 (p1.trans p2 s.inn fun i a h => (s1.own i a h).2) s2 ei
  | ok avs ρ2 =>
    rw [qf] at h1
    intro vs F2 H2 fp2 p2 s2 ra
    show spD G (.io :: pml) mr d ((v :: vs) ++ []) H2 Q (WE W σ)
    rw [List.append_nil]
    obtain ⟨ow2, hz2⟩ := kept_out s2.inn p2 s1.inn ow (fun a ha => ⟨(hz a ha).1, (hz a ha).2.1, (hz a ha).2.2.1⟩) al
    have p12 : Step G F H fp F2 H2 fp2 := p1.trans p2 s.inn fun i a h => (s1.own i a h).2
    simp only [bind_ok] at h1
    cases q : valsA avs with
    | none => rw [q] at h1; exact h1.elim
    | some ds =>
      rw [q] at h1
      dsimp only at h1
      obtain ⟨hl, sc⟩ := enter hok s2 ra (vals_fill q)
      have esh : ∀ j, fpC fp2 sh j = [] := fun j => by
        unfold fpC
        have := vals_frz (sh := sh) q
        rw [ra.1] at this
        rw [this]
        by_cases hj : j < avs.length
        · simp [hj]
        · rw [List.getElem?_eq_none (by simpa using hj)]
      have sS := sc.cons (p := .io) (fpv := fpv) ow2 fun a ha => ⟨(hz2 a ha).1, (hz2 a ha).2.1, fun i hi => by rw [esh i] at hi; cases hi⟩
      refine ⟨by simpa using hl, F2, x1 :: ds, _, sS, ?_⟩
      have memS : ∀ a, (∃ i, a ∈ fpCons fpv (fpC fp2 sh) i) → a ∈ fpv := fun a ⟨i, hi⟩ => by
        cases i with
        | zero => exact hi
        | succ i => have := esh i; rw [show fpCons fpv (fpC fp2 sh) (i + 1) = fpC fp2 sh i from rfl, this] at hi; cases hi
      have zb : ∀ a ∈ fpv, (∃ j, a ∈ fp j) ∨ H a = none := fun a ha => (hz a ha).2.2.2
      have back : ∀ {F' : Fr} {H' : Hp} {fp' : Nat → List Addr} {vs' : List V} {ds' : List D}, Step G F2 H2 (fpCons fpv (fpC fp2 sh)) F' H' fp' → St G (mOf (.io :: pml)) F' H' (vs'.map some) (ds'.map some) fp' → St G m F' H' σ ρ2 fp2 ∧ Step G F H fp F' H' fp2 := by
        intro F' H' fp' vs' ds' pp sp
        have same : ∀ i, ∀ a ∈ fp2 i, H' a = H2 a := fun i a hi => by
          cases qh : H2 a with
          | none => exact absurd qh (s2.alloc hi)
          | some u => exact pp.frm a u qh (s2.own i a hi).2 fun j hj => (hz2 a (memS a ⟨j, hj⟩)).2.2 i hi
        refine ⟨⟨sp.inn, s2.len, fun i d' e => ?_, s2.dead, s2.sep, fun i a hi => ⟨?_, ?_⟩⟩, ⟨p12.ext.trans pp.ext, fun a o e => ?_, fun a o e => ?_, p12.fpn, fun a o e1 e2 e3 => ?_, fun a e => p12.live a (pp.live a e)⟩⟩
        · obtain ⟨w, e1, e2⟩ := s2.slot i d' e
          exact ⟨w, e1, e2.keep pp.ext (same i)⟩
        · cases qx : F'.fx a with
          | none => rfl
          | some u =>
            rcases pp.newF a u qx with z | z | z
            · rw [(s2.own i a hi).1] at z; cases z
            · exact absurd z (s2.alloc hi)
            · exact absurd hi ((hz2 a (memS a z)).2.2 i)
        · cases qx : F'.nt a with
          | none => rfl
          | some u =>
            rcases pp.newN a u qx with z | z | z
            · rw [(s2.own i a hi).2] at z; cases z
            · exact absurd z (s2.alloc hi)
            · exact absurd hi ((hz2 a (memS a z)).2.2 i)
        · rcases pp.newF a o e with z | z | z
          · exact p12.newF a o z
          · exact .inr (.inl (p12.live a z))
          · rcases zb a (memS a z) with y | y
            · exact .inr (.inr y)
            · exact .inr (.inl y)
        · rcases pp.newN a o e with z | z | z
          · exact p12.newN a o z
          · exact .inr (.inl (p12.live a z))
          · rcases zb a (memS a z) with y | y
            · exact .inr (.inr y)
            · exact .inr (.inl y)
        · have h2 := p12.frm a o e1 e2 e3
          refine pp.frm a o h2 ?_ fun j hj => ?_
          · cases qx : F2.nt a with
            | none => rfl
            | some u =>
              rcases p12.newN a u qx with z | z | ⟨j, z⟩
              · rw [e2] at z; cases z
              · rw [e1] at z; cases z
              · exact absurd z (e3 j)
          · rcases zb a (memS a ⟨j, hj⟩) with ⟨l, y⟩ | y
            · exact e3 l y
            · rw [e1] at y; cases y
      cases qd : d (x1 :: ds) with
      | bad => rw [qd] at h1; exact h1.elim
      | ok r ds' =>
        rw [qd] at h1
        intro w F' H' fp' pp sp rv
        obtain ⟨b1, b2⟩ := back pp sp
        refine h1 w F' H' fp2 b2 b1 ?_
        obtain ⟨fpw, o, nd', z⟩ := rv
        refine ⟨fpw, o, nd', fun a ha => ?_⟩
        obtain ⟨z1, z2, z3, z4⟩ := z a ha
        refine ⟨z1, z2, fun i hi => ?_, ?_⟩
        · rcases z4 with y | y
          · exact (hz2 a (memS a y)).2.2 i hi
          · exact s2.alloc hi y
        · rcases z4 with y | y
          · exact zb a (memS a y)
          · exact .inr (p12.live a y)
      | exc ex ds' =>
        rw [qd] at h1
        intro c' dd F' H' fp' pp sp ei
        obtain ⟨b1, b2⟩ := back pp sp
        exact h1 c' dd F' H' fp2 b2 b1 ei
end
end Dn

/-! Dn32: from here on an owned name is frozen. -/
namespace Dn
open PySem PySem.Spec PyProof.Rows L2
def SR.wipe (i : Nat) : SR → SR
  | .nx ρ => .nx (ρ.set i none)
  | .rt d ρ => .rt d (ρ.set i none)
  | .bk ρ => .bk (ρ.set i none)
  | .ct ρ => .ct (ρ.set i none)
  | .exc e ρ => .exc e (ρ.set i none)
  | .bad => .bad
def sIce (i : Nat) (g : SD) : SD := fun ρ => (g ρ).wipe i
section
variable {G : Gx} {X : Cx} {m m' : Nat → Mode} {n : Nat} {W : WX} {k : Nat} {rest : List Stmt} {g : SD} {F : Fr} {H : Hp} {σ : L2.St} {ρ : Env} {fp : Nat → List Addr}
theorem Step.freeze (s : St G m F H σ ρ fp) (i : Nat) : Step G F H fp (F.ice H (fp i)) H (fun j => if j = i then [] else fp j) where
  ext := Fr.ice_ext fun a ha => (s.own i a ha).1
  newF := fun a o e => by
    by_cases hb : a ∈ fp i
    · exact .inr (.inr ⟨i, hb⟩)
    · rw [Fr.ice_out hb] at e; exact .inl e
  newN := fun a d e => .inl e
  fpn := fun j a h => by
    by_cases hj : j = i
    · rw [if_pos hj] at h; cases h
    · rw [if_neg hj] at h; exact .inl ⟨j, h⟩
  frm := fun a o h _ _ => h
  live := fun a h => h
theorem St.freeze (s : St G m F H σ ρ fp) (i : Nat) (h1 : ∀ j, j ≠ i → m' j = m j) (h2 : m' i = .frz) : St G m' (F.ice H (fp i)) H σ ρ (fun j => if j = i then [] else fp j) where
  inn := s.inn.ice fun a ha => (s.own i a ha).1
  len := s.len
  slot := fun j d e => by
    obtain ⟨v, e1, e2⟩ := s.slot j d e
    refine ⟨v, e1, ?_⟩
    by_cases hj : j = i
    · subst hj
      rw [if_pos rfl, h2]
      exact ⟨e2.ice (fun _ h => h) fun a ha => (s.own j a ha).1, rfl⟩
    · rw [if_neg hj, h1 j hj]
      exact e2.keep (Fr.ice_ext fun a ha => (s.own i a ha).1) fun b hb => rfl
  dead := fun j h => by
    by_cases hj : j = i
    · rw [if_pos hj]
    · rw [if_neg hj]; exact s.dead j h
  sep := fun j l a e1 e2 => by
    by_cases hj : j = i
    · rw [if_pos hj] at e1; cases e1
    · by_cases hl : l = i
      · rw [if_pos hl] at e2; cases e2
      · rw [if_neg hj] at e1; rw [if_neg hl] at e2; exact s.sep j l a e1 e2
  own := fun j a h => by
    by_cases hj : j = i
    · rw [if_pos hj] at h; cases h
    · rw [if_neg hj] at h
      have hn : a ∉ fp i := fun z => hj (s.sep j i a h z)
      obtain ⟨q1, q2⟩ := s.own j a h
      exact ⟨by rw [Fr.ice_out hn]; exact q1, q2⟩
theorem St.thaw {F : Fr} {H : Hp} {σ : L2.St} {ρ : Env} {fp : Nat → List Addr} (s : St G m' F H σ ρ fp) (i : Nat) (h1 : ∀ j, j ≠ i → m' j = m j) (h2 : m' i = .frz) : St G m F H σ (ρ.set i none) fp := by
  have hi : fp i = [] := by
    by_cases e : ∃ d, ρ[i]? = some (some d)
    · obtain ⟨d, e⟩ := e
      obtain ⟨v, _, o⟩ := s.slot i d e
      rw [h2] at o
      exact o.2
    · exact s.dead i fun d q => e ⟨d, q⟩
  exact {
    inn := s.inn
    len := by rw [List.length_set]; exact s.len
    slot := fun j d e => by
      by_cases hj : j = i
      · subst hj
        by_cases hl : j < ρ.length
        · rw [List.getElem?_set_self hl] at e; cases e
        · rw [List.getElem?_eq_none (by simpa using hl)] at e; cases e
      · rw [List.getElem?_set_ne (Ne.symm hj)] at e
        rw [← h1 j hj]
        exact s.slot j d e
    dead := fun j h => by
      by_cases hj : j = i
      · subst hj; exact hi
      · refine s.dead j fun d q => h d ?_
        rw [List.getElem?_set_ne (Ne.symm hj)]; exact q
    sep := s.sep
    own := s.own }
theorem IoKept.thaw {σ σ' : L2.St} (i : Nat) (h1 : ∀ j, j ≠ i → m' j = m j) (h3 : (m i).isIo = false) (c : IoKept m' σ σ') : IoKept m σ σ' := fun j hj => by
  by_cases e : j = i
  · subst e; rw [h3] at hj; cases hj
  · exact c j (by rw [h1 j e]; exact hj)
theorem dss_ice (i : Nat) (h1 : ∀ j, j ≠ i → m' j = m j) (h2 : m' i = .frz) (h3 : (m i).isIo = false) (h : DSs G X m' n W k rest g) : DSs G X m n W k rest (sIce i g) := fun c =>
  PSsmono (h c) fun D σ H ⟨F, ρ, fp, s, q⟩ => by
    have s1 := s.freeze (m' := m') i h1 h2
    have p1 := Step.freeze s i
    refine ⟨_, ρ, _, s1, ?_⟩
    unfold sIce at q
    cases e : g ρ with
    | nx ρ' => rw [e] at q; exact fun σ' F' H' fp' a b c => q σ' F' H' fp' (p1.comp s s1 a) (b.thaw i h1 h2) (c.thaw i h1 h3)
    | bk ρ' => rw [e] at q; exact fun σ' F' H' fp' a b c => q σ' F' H' fp' (p1.comp s s1 a) (b.thaw i h1 h2) (c.thaw i h1 h3)
    | ct ρ' => rw [e] at q; exact fun σ' F' H' fp' a b c => q σ' F' H' fp' (p1.comp s s1 a) (b.thaw i h1 h2) (c.thaw i h1 h3)
    | rt d ρ' => rw [e] at q; exact fun v σ' F' H' fp' a b c r => q v σ' F' H' fp' (p1.comp s s1 a) (b.thaw i h1 h2) (c.thaw i h1 h3) (Reb.reb p1 (R := RV G n) (σ := σ') (ρ := ρ'.set i none) r)
    | exc ex ρ' => rw [e] at q; exact fun cc dd σ' F' H' fp' a b c r => q cc dd σ' F' H' fp' (p1.comp s s1 a) (b.thaw i h1 h2) (c.thaw i h1 h3) r
    | bad => rw [e] at q; exact q
theorem mOf_ne {ml : List Mode} {i j : Nat} {p : Mode} (h : j ≠ i) : mOf (ml.set i p) j = mOf ml j := by
  unfold mOf
  simp [List.getD, List.getElem?_set_ne (Ne.symm h)]
theorem mOf_frz {ml : List Mode} {i : Nat} : mOf (ml.set i .frz) i = .frz := by
  unfold mOf
  by_cases h : i < ml.length
  · simp [List.getD, h]
  · simp [List.getD, h]
theorem dss_iceL {ml : List Mode} (i : Nat) (h3 : (mOf ml i).isIo = false := by rfl) (h : DSs G X (mOf (ml.set i .frz)) n W k rest g) : DSs G X (mOf ml) n W k rest (sIce i g) :=
  dss_ice i (fun _ hj => mOf_ne hj) mOf_frz h3 h
end
end Dn

/-! Dn33: is True, is False. -/
namespace Dn
open PySem PySem.Spec PyProof.Rows L2
section
variable {G : Gx} {X : Cx} {W : WX} {k : Nat}
theorem op_isB : OpR X (compareOp .Is) (fun x y H Q => ∃ a b, x = .bl a ∧ y = .bl b ∧ Q (.bl (a == b)) H) := by
  intro pins s σ H x y v u Q I rx ry h
  obtain ⟨a, b, rfl, rfl, q⟩ := h
  cases rx; cases ry
  exact is_bool (fin_bl I q rfl)
def dIsB (d e : D) : Option D := match d, e with
  | .bl a, .bl b => some (.bl (a == b))
  | _, _ => none
theorem vs_isB : VS2 G (fun x y H Q => ∃ a b, x = .bl a ∧ y = .bl b ∧ Q (.bl (a == b)) H) dIsB := fun F H x y d1 d2 d Q i r1 r2 e q => by
  cases d1 with
  | bl a =>
    cases d2 with
    | bl b => cases e; cases r1; cases r2; exact ⟨_, _, rfl, rfl, q _ F H (Grow.refl i) (by simp [Rep])⟩
    | _ => cases e
  | _ => cases e
theorem o_isB {X : Cx} (c : Ctx G X W k) : OpR X (compareOp .Is) (fun x y H Q => ∃ a b, x = .bl a ∧ y = .bl b ∧ Q (.bl (a == b)) H) := op_isB
end
end Dn

/-! Pl0: plain data of ints and tuples; loops; the operators on them. -/
namespace Dn
open PySem
/-- a row of ints, a picture, as data -/
abbrev iT (l : List Int) : D := .tup (l.map D.int)
abbrev pT (p : List (List Int)) : D := .tup (p.map iT)
theorem iT_inj {a b : List Int} (h : iT a = iT b) : a = b := by
  have h' : a.map D.int = b.map D.int := by injection h
  exact (List.map_inj_right (fun x y e => by injection e)).mp h'
theorem pT_inj {a b : List (List Int)} (h : pT a = pT b) : a = b := by
  have h' : a.map iT = b.map iT := by injection h
  exact (List.map_inj_right (fun x y e => iT_inj e)).mp h'
abbrev iP (l : List Int) : PyData := .tuple (l.map .int)
abbrev pP (p : List (List Int)) : PyData := .tuple (p.map iP)
theorem toPys_i : ∀ l : List Int, toPys (l.map D.int) = some (l.map .int)
  | [] => rfl
  | x :: l => by rw [List.map_cons, toPys, toPys_i l]; rfl
@[simp] theorem toPy_iT (l : List Int) : toPy (iT l) = some (iP l) := by rw [toPy, toPys_i]; rfl
theorem toPys_p : ∀ l : List (List Int), toPys (l.map iT) = some (l.map iP)
  | [] => rfl
  | x :: l => by rw [List.map_cons, toPys, toPys_p l, toPy_iT]; rfl
@[simp] theorem toPy_pT (l : List (List Int)) : toPy (pT l) = some (pP l) := by rw [toPy, toPys_p]; rfl
theorem lay_i : ∀ l : List Int, PyData.canLayAll0 (l.map .int) = true
  | [] => rfl
  | x :: l => by rw [List.map_cons, PyData.canLayAll0, lay_i l]; rfl
theorem lay_p : ∀ l : List (List Int), PyData.canLayAll0 (l.map iP) = true
  | [] => rfl
  | x :: l => by rw [List.map_cons, PyData.canLayAll0, lay_p l, PyData.canLay0, lay_i]; rfl
theorem dep_i : ∀ l : List Int, PyData.depthAll (l.map .int) = 0
  | [] => rfl
  | x :: l => by rw [List.map_cons, PyData.depthAll, dep_i l]; simp [PyData.depth]
theorem dep_iP (l : List Int) : (iP l).depth ≤ 1 := by rw [PyData.depth, dep_i]; exact Nat.le_refl _
theorem dep_p : ∀ l : List (List Int), PyData.depthAll (l.map iP) ≤ 1
  | [] => by simp [PyData.depthAll]
  | x :: l => by
    rw [List.map_cons, PyData.depthAll]
    have := dep_p l; have := dep_iP x
    exact Nat.max_le.mpr ⟨by assumption, by assumption⟩
theorem dep_pP (l : List (List Int)) : (pP l).depth ≤ 2 := by rw [PyData.depth]; have := dep_p l; omega
theorem shaped_iP (l : List Int) : SeqAt.shaped (iP l) = true := by
  unfold SeqAt.shaped; rw [PyData.canLay0, lay_i]; have := dep_iP l; simp; omega
theorem shaped_pP (l : List (List Int)) : SeqAt.shaped (pP l) = true := by
  unfold SeqAt.shaped; rw [PyData.canLay0, lay_p]; have := dep_pP l; simp; omega
@[simp] theorem toPyS_int (z : Int) : toPyS (.int z) = some (.int z) := rfl
@[simp] theorem toPyS_iT (l : List Int) : toPyS (iT l) = some (iP l) := by unfold toPyS; rw [toPy_iT]; simp [shaped_iP]
@[simp] theorem toPyS_pT (l : List (List Int)) : toPyS (pT l) = some (pP l) := by unfold toPyS; rw [toPy_pT]; simp [shaped_pP]
theorem eqv_i : ∀ a b : List Int, PyData.eqvAll (a.map .int) (b.map .int) = decide (a = b)
  | [], [] => rfl
  | [], _ :: _ => rfl
  | _ :: _, [] => rfl
  | x :: a, y :: b => by
    rw [List.map_cons, List.map_cons, PyData.eqvAll, eqv_i a b, PyData.eqv]
    by_cases h1 : x = y <;> by_cases h2 : a = b <;> simp [h1, h2]
theorem eqv_iP (a b : List Int) : PyData.eqv (iP a) (iP b) = decide (a = b) := by rw [PyData.eqv]; exact eqv_i a b
theorem eqv_p : ∀ a b : List (List Int), PyData.eqvAll (a.map iP) (b.map iP) = decide (a = b)
  | [], [] => rfl
  | [], _ :: _ => rfl
  | _ :: _, [] => rfl
  | x :: a, y :: b => by
    rw [List.map_cons, List.map_cons, PyData.eqvAll, eqv_p a b, eqv_iP]
    by_cases h1 : x = y <;> by_cases h2 : a = b <;> simp [h1, h2]
theorem eqv_pP (a b : List (List Int)) : PyData.eqv (pP a) (pP b) = decide (a = b) := by rw [PyData.eqv]; exact eqv_p a b
@[simp] theorem dEq_int (a b : Int) : dEq (.int a) (.int b) = some (.bl (decide (a = b))) := by
  unfold dEq; simp [PyData.eqv]
  by_cases h : a = b <;> simp [h]
@[simp] theorem dNe_int (a b : Int) : dNe (.int a) (.int b) = some (.bl (!decide (a = b))) := by
  unfold dNe; simp [PyData.eqv]
  by_cases h : a = b <;> simp [h]
@[simp] theorem dEq_iT (a b : List Int) : dEq (iT a) (iT b) = some (.bl (decide (a = b))) := by
  unfold dEq; rw [toPyS_iT, toPyS_iT]; simp only [Option.bind_some, Option.map_some]; rw [eqv_iP]
@[simp] theorem dEq_pT (a b : List (List Int)) : dEq (pT a) (pT b) = some (.bl (decide (a = b))) := by
  unfold dEq; rw [toPyS_pT, toPyS_pT]; simp only [Option.bind_some, Option.map_some]; rw [eqv_pP]
/-- places -/
theorem atI_nat {α : Type} (xs : List α) (i : Nat) : L2.atI xs (i : Int) = xs[i]? := by
  unfold L2.atI L2.ixN
  rw [if_pos (by omega)]
  by_cases h : i < xs.length
  · rw [if_pos (by omega)]; simp
  · rw [if_neg (by omega)]; simp; omega
theorem atI_of {α : Type} {xs : List α} {z : Int} {x : α} (h : xs[z.toNat]? = some x) (hz : 0 ≤ z) : L2.atI xs z = some x := by
  have : z = ((z.toNat : Nat) : Int) := by omega
  rw [this, atI_nat]; exact h
@[simp] theorem dAt_tup (ds : List D) (z : Int) : dAt (.tup ds) (.int z) = L2.atI ds z := rfl
@[simp] theorem dAt_lst (ds : List D) (z : Int) : dAt (.lst ds) (.int z) = L2.atI ds z := rfl
/-- comparing rows -/
theorem alike_i : ∀ a b : List Int, PySem.W.alikeAll (a.map .int) (b.map .int) = true := PySem.W.alike_ints
theorem alike_iP (a b : List Int) : PySem.W.alike (iP a) (iP b) = true := by rw [PySem.W.alike]; exact alike_i a b
theorem alike_p : ∀ a b : List (List Int), PySem.W.alikeAll (a.map iP) (b.map iP) = true
  | [], _ => by simp [PySem.W.alikeAll]
  | _ :: _, [] => by simp [PySem.W.alikeAll]
  | x :: a, y :: b => by rw [List.map_cons, List.map_cons, PySem.W.alikeAll, alike_iP, alike_p a b]; rfl
theorem alike_pP (a b : List (List Int)) : PySem.W.alike (pP a) (pP b) = true := by rw [PySem.W.alike]; exact alike_p a b
/-- the order of rows of ints -/
theorem dataLt_iP (a b : List Int) : PySem.W.dataLt (iP a) (iP b) = decide (a < b) := by
  have := PySem.W.dataLt_ints a b
  unfold PySem.W.rowLt at this
  rw [← this]
  unfold PySem.W.dataLt
  rw [PySem.W.keyToks, PySem.W.keyToks]
@[simp] theorem dLt_iT (a b : List Int) : dLt (iT a) (iT b) = some (.bl (decide (a < b))) := by
  unfold dLt
  rw [toPy_iT, toPy_iT]
  simp only [Option.bind_some]
  rw [if_pos ⟨alike_iP a b, by have := dep_iP a; omega, rfl⟩, dataLt_iP]
@[simp] theorem dAdd_ii (i j : Int) : dAdd (.int i) (.int j) = some (.int (i + j)) := rfl
theorem dAdd_tt (a b : List D) (h : a.length + b.length ≤ sizeLine) : dAdd (.tup a) (.tup b) = some (.tup (a ++ b)) := by rw [dAdd]; exact if_pos h
@[simp] theorem dLt_ii (i j : Int) : dLt (.int i) (.int j) = some (.bl (decide (i < j))) := by
  unfold dLt
  simp only [toPy, Option.bind_some]
  rw [if_pos ⟨by simp [PySem.W.alike], by simp [PyData.depth], rfl⟩]
  rw [PySem.W.dataLt_int]
/-! ### loops -/
theorem sLoop_inv {t : TD} {b : SD} (P : List D → Env → Prop) : ∀ (ds : List D) (ρ : Env), P ds ρ → (∀ d ds ρ, P (d :: ds) ρ → ∃ ρ1 ρ2, t d ρ = some ρ1 ∧ (b ρ1 = .nx ρ2 ∨ b ρ1 = .ct ρ2) ∧ P ds ρ2) → ∃ ρ', sLoop t b ds ρ = .nx ρ' ∧ P [] ρ'
  | [], ρ, h, _ => ⟨ρ, rfl, h⟩
  | d :: ds, ρ, h, st => by
    obtain ⟨ρ1, ρ2, e1, e2, e3⟩ := st d ds ρ h
    obtain ⟨ρ', r1, r2⟩ := sLoop_inv P ds ρ2 e3 st
    refine ⟨ρ', ?_, r2⟩
    rw [sLoop, e1]
    rcases e2 with e2 | e2 <;> (simp only [e2]; exact r1)
/-- by the number of turns -/
theorem sLoop_ix {t : TD} {b : SD} (P : Nat → Env → Prop) (ds : List D) (ρ : Env) (h0 : P 0 ρ) (st : ∀ (j : Nat) d ρ, ds[j]? = some d → P j ρ → ∃ ρ1 ρ2, t d ρ = some ρ1 ∧ (b ρ1 = .nx ρ2 ∨ b ρ1 = .ct ρ2) ∧ P (j + 1) ρ2) : ∃ ρ', sLoop t b ds ρ = .nx ρ' ∧ P ds.length ρ' := by
  have := sLoop_inv (t := t) (b := b) (fun r ρ => ∃ j, r = ds.drop j ∧ j ≤ ds.length ∧ P j ρ) ds ρ ⟨0, by simp, Nat.zero_le _, h0⟩ fun d r ρ ⟨j, e, hj, p⟩ => by
    have hlt : j < ds.length := by
      apply Nat.lt_of_not_le
      intro h
      rw [List.drop_eq_nil_of_le h] at e; cases e
    rw [List.drop_eq_getElem_cons hlt] at e
    injection e with e1 e2
    obtain ⟨ρ1, ρ2, q1, q2, q3⟩ := st j d ρ (by rw [List.getElem?_eq_getElem hlt, e1]) p
    exact ⟨ρ1, ρ2, q1, q2, j + 1, e2, hlt, q3⟩
  obtain ⟨ρ', h1, j, e, hj, p⟩ := this
  have : j = ds.length := by
    have := congrArg List.length e
    simp at this; omega
  subst this
  exact ⟨ρ', h1, p⟩
/-- a loop that may return -/
theorem sLoop_inv2 {t : TD} {b : SD} (P : List D → Env → Prop) (R : SR → Prop) : ∀ (ds : List D) (ρ : Env), P ds ρ → (∀ d ds ρ, P (d :: ds) ρ → ∃ ρ1, t d ρ = some ρ1 ∧ ((∃ ρ2, (b ρ1 = .nx ρ2 ∨ b ρ1 = .ct ρ2) ∧ P ds ρ2) ∨ (∃ x ρ2, b ρ1 = .rt x ρ2 ∧ R (.rt x ρ2)) ∨ ∃ ρ2, b ρ1 = .bk ρ2 ∧ R (.nx ρ2))) → (∀ ρ, P [] ρ → R (.nx ρ)) → R (sLoop t b ds ρ)
  | [], ρ, h, _, he => he ρ h
  | d :: ds, ρ, h, st, he => by
    obtain ⟨ρ1, e1, e2⟩ := st d ds ρ h
    rw [sLoop, e1]
    dsimp only
    rcases e2 with ⟨ρ2, e2 | e2, e3⟩ | ⟨x, ρ2, e2, e3⟩ | ⟨ρ2, e2, e3⟩
    · rw [e2]; exact sLoop_inv2 P R ds ρ2 e3 st he
    · rw [e2]; exact sLoop_inv2 P R ds ρ2 e3 st he
    · rw [e2]; exact e3
    · rw [e2]; exact e3
def SR.goes (P : Env → Prop) : SR → Prop
  | .nx ρ => P ρ
  | .ct ρ => P ρ
  | _ => False
@[simp] theorem goes_nx (P : Env → Prop) (ρ : Env) : (SR.nx ρ).goes P ↔ P ρ := Iff.rfl
@[simp] theorem goes_ct (P : Env → Prop) (ρ : Env) : (SR.ct ρ).goes P ↔ P ρ := Iff.rfl
theorem goes_ex {P : Env → Prop} {x : SR} (h : x.goes P) : ∃ ρ, (x = .nx ρ ∨ x = .ct ρ) ∧ P ρ := by
  cases x with
  | nx ρ => exact ⟨ρ, .inl rfl, h⟩
  | ct ρ => exact ⟨ρ, .inr rfl, h⟩
  | _ => exact h.elim
/-- for name in ..: P by the number of turns -/
theorem sLoop_wp {i : Nat} {b : SD} (P : Nat → Env → Prop) (ds : List D) (ρ : Env) (h0 : P 0 ρ) (st : ∀ (j : Nat) d ρ, ds[j]? = some d → P j ρ → (b (ρ.set i (some d))).goes (P (j + 1))) : ∃ ρ', sLoop (gNm i) b ds ρ = .nx ρ' ∧ P ds.length ρ' :=
  sLoop_ix P ds ρ h0 fun j d ρ hd hp => by
    obtain ⟨ρ2, h1, h2⟩ := goes_ex (st j d ρ hd hp)
    exact ⟨_, ρ2, rfl, h1, h2⟩
/-- a comprehension: acc grows by what the turn gives -/
theorem lcLoop_inv {t : TD} {ifs : BD} {fe : ED} {vs : List Nat} (P : List D → List D → Env → Prop) : ∀ (ds acc : List D) (ρ : Env), acc.length + ds.length < sizeLine → P ds acc ρ → (∀ d ds acc ρ, P (d :: ds) acc ρ → ∃ ρ1 ρ2, t d ρ = some ρ1 ∧
    ((ifs ρ1 = .ok false ρ2 ∧ P ds acc (wipeE ρ2 vs)) ∨ (ifs ρ1 = .ok true ρ2 ∧ ∃ x ρ3, fe ρ2 = .ok x ρ3 ∧ P ds (acc ++ [x]) (wipeE ρ3 vs)))) → ∃ acc' ρ', lcLoop t ifs fe vs ds acc ρ = .ok acc' ρ' ∧ P [] acc' ρ'
  | [], acc, ρ, _, h, _ => ⟨acc, ρ, rfl, h⟩
  | d :: ds, acc, ρ, hl, h, st => by
    have hl' : acc.length + ds.length + 1 < sizeLine := by simpa [Nat.add_assoc] using hl
    obtain ⟨ρ1, ρ2, e1, e2⟩ := st d ds acc ρ h
    rcases e2 with ⟨e2, e3⟩ | ⟨e2, x, ρ3, e3, e4⟩
    · obtain ⟨acc', ρ', r1, r2⟩ := lcLoop_inv P ds acc _ (by omega) e3 st
      refine ⟨acc', ρ', ?_, r2⟩
      rw [lcLoop, e1]
      simp only [e2, nox_ok, bind_ok, Bool.false_eq_true, if_false]
      exact r1
    · obtain ⟨acc', ρ', r1, r2⟩ := lcLoop_inv P ds (acc ++ [x]) _ (by simp; omega) e4 st
      refine ⟨acc', ρ', ?_, r2⟩
      rw [lcLoop, e1]
      simp only [e2, nox_ok, bind_ok, if_true, e3]
      rw [if_pos (by omega)]
      exact r1
/-- the plain one: the i-th item is g of the i-th, the rest of the names stays -/
theorem lcLoop_map {t : TD} {fe : ED} {vs : List Nat} (g : D → D) (ρ0 : Env) : ∀ (ds acc : List D), acc.length + ds.length < sizeLine → (∀ d ∈ ds, ∃ ρ1 ρ3, t d ρ0 = some ρ1 ∧ fe ρ1 = .ok (g d) ρ3 ∧ wipeE ρ3 vs = ρ0) → lcLoop t bYes fe vs ds acc ρ0 = .ok (acc ++ ds.map g) ρ0
  | [], acc, _, _ => by simp [lcLoop]
  | d :: ds, acc, hl, st => by
    have hl' : acc.length + ds.length + 1 < sizeLine := by simpa [Nat.add_assoc] using hl
    obtain ⟨ρ1, ρ3, e1, e2, e3⟩ := st d (by simp)
    rw [lcLoop, e1]
    simp only [bYes, nox_ok, bind_ok, if_true, e2]
    rw [if_pos (by omega), e3, lcLoop_map g ρ0 ds (acc ++ [g d]) (by simp; omega) fun d hd => st d (by simp [hd])]
    simp
/-! ### step by step -/
theorem run_rt {nN : Nat} {pml : List Mode} {mr : Mode} {b : SD} {ds ds' : List D} {ρ0 ρ' : Env} {r : D} (h0 : ds.map some ++ List.replicate (nN - ds.length) none = ρ0) (h : b ρ0 = .rt r ρ') (ho : outs pml ds ρ' = some ds') : runB nN pml mr b ds = .ok r ds' := by
  unfold runB; rw [h0, h]; simp only [ho]
theorem run_nx {nN : Nat} {pml : List Mode} {b : SD} {ds ds' : List D} {ρ0 ρ' : Env} (h0 : ds.map some ++ List.replicate (nN - ds.length) none = ρ0) (h : b ρ0 = .nx ρ') (ho : outs pml ds ρ' = some ds') : runB nN pml .frz b ds = .ok .non ds' := by
  unfold runB; rw [h0, h]; simp only [ho, if_true]
theorem seq_of {f g : SD} {ρ ρ1 : Env} {x : SR} (h1 : f ρ = .nx ρ1) (h2 : g ρ1 = x) : sSeq f g ρ = x := by unfold sSeq; rw [h1]; exact h2
theorem seq_rt' {f g : SD} {ρ ρ1 : Env} {d : D} (h1 : f ρ = .rt d ρ1) : sSeq f g ρ = .rt d ρ1 := by unfold sSeq; rw [h1]; rfl
theorem set_of {fe : ED} {ρ ρ1 : Env} {d : D} (i : Nat) (h : fe ρ = .ok d ρ1) : sSet i fe ρ = .nx (ρ1.set i (some d)) := by unfold sSet; rw [h]; rfl
theorem ret_of {fe : ED} {ρ ρ1 : Env} {d : D} (h : fe ρ = .ok d ρ1) : sRet fe ρ = .rt d ρ1 := by unfold sRet; rw [h]; rfl
theorem for_of {it : ID} {t : TD} {b : SD} {ρ ρ1 : Env} {ds : List D} {x : SR} (h : it ρ = .ok ds ρ1) (h2 : sLoop t b ds ρ1 = x) : sFor it t b ρ = x := by unfold sFor; rw [h]; exact h2
theorem if_of {c : BD} {f g : SD} {ρ ρ1 : Env} {v : Bool} {x : SR} (h : c ρ = .ok v ρ1) (h2 : (if v = true then f ρ1 else g ρ1) = x) : sIf c f g ρ = x := by unfold sIf; rw [h]; exact h2
theorem expr_of {fe : ED} {ρ ρ1 : Env} {d : D} (h : fe ρ = .ok d ρ1) : sExpr fe ρ = .nx ρ1 := by unfold sExpr; rw [h]; rfl
theorem lc_of {it : ID} {t : TD} {ifs : BD} {fe : ED} {vs : List Nat} {ρ ρ1 ρ2 : Env} {ds acc : List D} (h : it ρ = .ok ds ρ1) (h2 : lcLoop t ifs fe vs ds [] (wipeE ρ1 vs) = .ok acc ρ2) : eLc it t ifs fe vs ρ = .ok (.lst acc) (unwipe ρ1 vs ρ2) := by unfold eLc; rw [h, bind_ok, h2]; rfl
theorem iRg1_eq (f : AVD) (ρ : Env) : iRg1 f ρ = (f ρ).bind fun avs ρ1 => match valsA avs with
  | some [.int j] => if -(2 ^ 62) ≤ j ∧ j < 2 ^ 62 then .ok (rngD 0 j.toNat) ρ1 else .bad
  | _ => .bad := by unfold iRg1; rfl
theorem rg1_ok {f : AVD} {ρ ρ1 : Env} {n : Nat} (h : f ρ = .ok [.val (.int n)] ρ1) (hn : n < 1000000) : iRg1 f ρ = .ok (rngD 0 n) ρ1 := by
  rw [iRg1_eq, h, bind_ok]
  have e : valsA [AV.val (.int n)] = some [.int n] := rfl
  rw [e]
  dsimp only
  by_cases c : -(2 ^ 62) ≤ (n : Int) ∧ (n : Int) < 2 ^ 62
  · rw [if_pos c, Int.toNat_natCast]
  · exact absurd ⟨by omega, by omega⟩ c
theorem rngD_get (n j : Nat) : (rngD 0 n)[j]? = if j < n then some (.int j) else none := by
  unfold rngD; by_cases h : j < n <;> simp [h]
theorem app_of {i : Nat} {f : AVD} {ρ ρ1 : Env} {ds ds1 : List D} {d : D} (h0 : ρ[i]?.join = some (.lst ds1)) (h : f ρ = .ok [.val d] ρ1) (h1 : ρ1[i]?.join = some (.lst ds)) (hl : ds.length < sizeLine) : sExpr (eMut i gApp f) ρ = .nx (ρ1.set i (some (.lst (ds ++ [d])))) := by
  unfold sExpr eMut
  rw [h0]
  simp only [isLst, if_true]
  rw [h, bind_ok]
  simp only [h1, valsA, Option.map_some, Option.bind_some, gApp]
  rw [if_pos hl]
  rfl
theorem tup_of {f : ED} {ρ ρ1 : Env} {ds : List D} (h : f ρ = .ok (.lst ds) ρ1) : eQ qTuple (qVal f) ρ = .ok (.tup ds) ρ1 := by
  unfold eQ qVal; rw [h]; rfl
theorem val_of {f : ED} {ρ ρ1 : Env} {d : D} (h : f ρ = .ok d ρ1) : aVal f aNil ρ = .ok [.val d] ρ1 := by
  unfold aVal; rw [h]; rfl
end Dn

/-! Wp: what a denotation leads to, rule by rule (backwards). -/
namespace Dn
open PySem
/-- no step of reckoning -/
theorem nr {α : Sort _} {a b : α} (h : a = b) : a = b := h.trans (Eq.refl b)
/-- what is wanted behind a statement -/
class En where
  nx : Env → Prop
  rt : D → Env → Prop
  exc : Ex → Env → Prop
  bk : Env → Prop
  ct : Env → Prop
def wE {α : Type} (x : ER α) (X : Ex → Env → Prop) (K : α → Env → Prop) : Prop := match x with
  | .ok a ρ => K a ρ
  | .exc e ρ => X e ρ
  | .bad => False
def wS (x : SR) (E : En) : Prop := match x with
  | .nx ρ => E.nx ρ
  | .rt d ρ => E.rt d ρ
  | .bk ρ => E.bk ρ
  | .ct ρ => E.ct ρ
  | .exc e ρ => E.exc e ρ
  | .bad => False
def wO {α : Type} (o : Option α) (K : α → Prop) : Prop := match o with
  | some a => K a
  | none => False
def wV (ρ : Env) (K : Env → Prop) : Prop := K ρ
def wA {α : Type} (ρ : α) (K : α → Prop) : Prop := K ρ
def wB (b : Bool) (P Q : Prop) : Prop := match b with
  | true => P
  | false => Q
def wF (x : FR) (K : D → List D → Prop) (X : Ex → List D → Prop) : Prop := match x with
  | .ok r ds => K r ds
  | .exc e ds => X e ds
  | .bad => False
section
variable {α β : Type} {X : Ex → Env → Prop} {ρ : Env} {E : En} {P Q : Prop}
theorem wO_some (a : α) (K : α → Prop) : wO (some a) K = K a := rfl
theorem wO_none (K : α → Prop) : wO (none : Option α) K = False := rfl
theorem wO_bind (o : Option α) (f : α → Option β) (K : β → Prop) : wO (o.bind f) K = wO o fun a => wO (f a) K := by cases o <;> rfl
theorem wO_map (o : Option α) (f : α → β) (K : β → Prop) : wO (o.map f) K = wO o fun a => K (f a) := by cases o <;> rfl
theorem wO_if (c : Prop) [Decidable c] (a b : Option α) (K : α → Prop) : wO (if c then a else b) K = if c then wO a K else wO b K := by split <;> rfl
theorem wV_cons (a : Option D) (l : Env) (K : Env → Prop) : wV (a :: l) K = K (a :: l) := rfl
theorem wB_true : wB true P Q = P := rfl
theorem wB_false : wB false P Q = Q := rfl
theorem wB_not (b : Bool) : wB (!b) P Q = wB b Q P := by cases b <;> rfl
theorem wB_pos {p : Prop} [Decidable p] (h : p) : wB (decide p) P Q = P := by rw [decide_eq_true h]; rfl
theorem wB_neg {p : Prop} [Decidable p] (h : ¬ p) : wB (decide p) P Q = Q := by rw [decide_eq_false h]; rfl
theorem wB_split {b : Bool} (h1 : b = true → P) (h2 : b = false → Q) : wB b P Q := by cases b; exact h2 rfl; exact h1 rfl
theorem wB_dec {p : Prop} [Decidable p] (h1 : p → P) (h2 : ¬ p → Q) : wB (decide p) P Q := by
  by_cases h : p
  · rw [wB_pos h]; exact h1 h
  · rw [wB_neg h]; exact h2 h
theorem wF_ok (r : D) (ds : List D) (K : D → List D → Prop) (Z : Ex → List D → Prop) : wF (.ok r ds) K Z = K r ds := rfl
theorem wF_exc (r : Ex) (ds : List D) (K : D → List D → Prop) (Z : Ex → List D → Prop) : wF (.exc r ds) K Z = Z r ds := rfl
theorem wF_of {x : FR} {K K' : D → List D → Prop} {Z Z' : Ex → List D → Prop} (h : wF x K Z) (hk : ∀ r ds, K r ds → K' r ds) (hz : ∀ e ds, Z e ds → Z' e ds) : wF x K' Z' := by
  cases x with
  | ok r ds => exact hk _ _ h
  | exc e ds => exact hz _ _ h
  | bad => exact h
theorem wF_ex {x : FR} {K : D → List D → Prop} (h : wF x K fun _ _ => False) : ∃ r ds, x = .ok r ds ∧ K r ds := by
  cases x with
  | ok r ds => exact ⟨r, ds, rfl, h⟩
  | exc e ds => exact h.elim
  | bad => exact h.elim
theorem wF_eq {x : FR} {r : D} {ds : List D} (h : wF x (fun r' ds' => r' = r ∧ ds' = ds) fun _ _ => False) : x = .ok r ds := by
  obtain ⟨_, _, e, rfl, rfl⟩ := wF_ex h; exact e
theorem wE_mono {x : ER α} {K K' : α → Env → Prop} (h : wE x X K) (hk : ∀ a ρ, K a ρ → K' a ρ) : wE x X K' := by
  cases x with
  | ok a ρ => exact hk _ _ h
  | exc e ρ => exact h
  | bad => exact h
theorem wE_of {x : ER α} {K : α → Env → Prop} {a : α} {ρ1 : Env} (h : x = .ok a ρ1) (hk : K a ρ1) : wE x X K := by rw [h]; exact hk
theorem wE_ok (a : α) (K : α → Env → Prop) : wE (.ok a ρ) X K = K a ρ := rfl
theorem wE_bind (x : ER α) (f : α → Env → ER β) (K : β → Env → Prop) : wE (x.bind f) X K = wE x X fun a ρ1 => wE (f a ρ1) X K := by cases x <;> rfl
theorem wE_opt (o : Option α) (K : α → Env → Prop) : wE (opt o ρ) X K = wO o fun a => K a ρ := by cases o <;> rfl
theorem wE_nox (x : ER α) (K : α → Env → Prop) : wE x.nox X K = wE x (fun _ _ => False) K := by cases x <;> rfl
theorem wE_if (c : Prop) [Decidable c] (a b : ER α) (K : α → Env → Prop) : wE (if c then a else b) X K = wB (decide c) (wE a X K) (wE b X K) := by
  by_cases h : c
  · rw [if_pos h, wB_pos h]
  · rw [if_neg h, wB_neg h]
theorem wE_ifb (c : Bool) (a b : ER α) (K : α → Env → Prop) : wE (if c = true then a else b) X K = wB c (wE a X K) (wE b X K) := by cases c <;> rfl
theorem wS_ifb (c : Bool) (a b : SR) : wS (if c = true then a else b) E = wB c (wS a E) (wS b E) := by cases c <;> rfl
/-! ### expressions -/
variable {K : D → Env → Prop} {KB : Bool → Env → Prop} {KA : List AV → Env → Prop} {KL : List D → Env → Prop}
theorem wE_var (i : Nat) : wE (eVar i ρ) X K = wO (ρ[i]?.join) fun d => K d ρ := wE_opt _ _
theorem wE_C (d : D) : wE (eC d ρ) X K = K d ρ := rfl
theorem wE_bin (g : D → D → Option D) (fa fb : ED) : wE (eBin g fa fb ρ) X K = wE (fa ρ) X fun x ρ1 => wE (fb ρ1) X fun y ρ2 => wO (g x y) fun d => K d ρ2 := by
  unfold eBin; simp only [wE_bind, wE_opt]
theorem wE_un (g : D → Option D) (fa : ED) : wE (eUn g fa ρ) X K = wE (fa ρ) X fun x ρ1 => wO (g x) fun d => K d ρ1 := by
  unfold eUn; simp only [wE_bind, wE_opt]
def asB : D → Option Bool
  | .bl b => some b
  | _ => none
theorem asB_bl (b : Bool) : asB (.bl b) = some b := rfl
theorem wE_bOf (f : ED) : wE (bOf f ρ) X KB = wE (f ρ) X fun d ρ1 => wO (asB d) fun b => KB b ρ1 := by
  unfold bOf; rw [wE_bind]; congr 1; funext d ρ1; cases d <;> rfl
theorem wE_chain (g g' : D → D → Option D) (fa fb fc : ED) : wE (eChain g g' fa fb fc ρ) X K = wE (fa ρ) X fun x ρ1 => wE (fb ρ1) X fun y ρ2 => wO (g x y) fun d => wO (asB d) fun b => wB b (wE (fc ρ2) X fun z ρ3 => wO (g' y z) fun d => K d ρ3) (K (.bl false) ρ2) := by
  unfold eChain; simp only [wE_bind]; congr 1; funext x ρ1; congr 1; funext y ρ2
  cases g x y with
  | none => rfl
  | some d => cases d with
    | bl b => cases b <;> simp [wE_bind, wE_opt, wO_some, asB, wB, wE_ok]
    | _ => rfl
theorem wE_bTru (f : ED) : wE (bTru f ρ) X KB = wE (f ρ) X fun d ρ1 => wO (dTru d) fun b => KB b ρ1 := by
  unfold bTru; simp only [wE_bind, wE_opt]
theorem wE_bAnd (fa fb : BD) : wE (bAnd fa fb ρ) X KB = wE (fa ρ) X fun b ρ1 => wB b (wE (fb ρ1) X KB) (KB false ρ1) := by
  unfold bAnd; simp only [wE_bind, wE_ifb, wE_ok]
theorem wE_bOr (fa fb : BD) : wE (bOr fa fb ρ) X KB = wE (fa ρ) X fun b ρ1 => wB b (KB true ρ1) (wE (fb ρ1) X KB) := by
  unfold bOr; simp only [wE_bind, wE_ifb, wE_ok]
theorem wE_bNot (fa : BD) : wE (bNot fa ρ) X KB = wE (fa ρ) X fun b ρ1 => KB (!b) ρ1 := by
  unfold bNot; simp only [wE_bind, wE_ok]
theorem wE_and (fa fb : ED) : wE (eAnd fa fb ρ) X K = wE (fa ρ) X fun d ρ1 => wO (asB d) fun b => wB b (wE (fb ρ1) X K) (K (.bl false) ρ1) := by
  unfold eAnd; rw [wE_bind]; congr 1; funext d ρ1
  cases d with
  | bl b => cases b <;> rfl
  | _ => rfl
theorem wE_or (fa fb : ED) : wE (eOr fa fb ρ) X K = wE (fa ρ) X fun d ρ1 => wO (asB d) fun b => wB b (K (.bl true) ρ1) (wE (fb ρ1) X K) := by
  unfold eOr; rw [wE_bind]; congr 1; funext d ρ1
  cases d with
  | bl b => cases b <;> rfl
  | _ => rfl
theorem wE_not (fa : ED) : wE (eNot fa ρ) X K = wE (fa ρ) X fun d ρ1 => wO (asB d) fun b => K (.bl (!b)) ρ1 := by
  unfold eNot; rw [wE_bind]; congr 1; funext d ρ1; cases d <;> rfl
theorem wE_eIf (fc : BD) (fa fb : ED) : wE (eIf fc fa fb ρ) X K = wE (fc ρ) X fun b ρ1 => wB b (wE (fa ρ1) X K) (wE (fb ρ1) X K) := by
  unfold eIf; simp only [wE_bind, wE_ifb]
theorem wE_move (i : Nat) : wE (eMove i ρ) X K = wO (ρ[i]?.join) fun d => wV (ρ.set i none) (K d) := wE_opt _ _
theorem wE_aNil : wE (aNil ρ) X KA = KA [] ρ := rfl
theorem wE_aVal (f : ED) (r : AVD) : wE (aVal f r ρ) X KA = wE (f ρ) X fun d ρ1 => wE (r ρ1) X fun ds ρ2 => KA (.val d :: ds) ρ2 := by
  unfold aVal; simp only [wE_bind, wE_ok]
theorem wE_aOwn (i : Nat) (r : AVD) : wE (aOwn i r ρ) X KA = wO (ρ[i]?.join) fun _ => wE (r ρ) X fun ds ρ2 => KA (.own i :: ds) ρ2 := by
  unfold aOwn
  cases ρ[i]?.join with
  | none => rfl
  | some d => simp only [Option.isSome_some, if_true, wE_bind, wE_ok, wO_some]
theorem wE_aApp (f g : AVD) : wE (aApp f g ρ) X KA = wE (f ρ) X fun as ρ1 => wE (g ρ1) X fun bs ρ2 => KA (as ++ bs) ρ2 := by
  unfold aApp; simp only [wE_bind, wE_ok]
theorem wE_aPick (π : List Nat) (f : AVD) : wE (aPick π f ρ) X KA = wE (f ρ) X fun as ρ1 => wA (pick π as) fun bs => KA bs ρ1 := by
  unfold aPick; simp only [wE_bind, wE_ok]; rfl
theorem wE_call (f : FD) (as : AVD) : wE (eCall f as ρ) X K = wE (as ρ) X fun avs ρ1 => wO (fillA ρ1 avs) fun ds => wF (f ds) (fun r ds' => wV (putA ρ1 avs ds') (K r)) (fun e ds' => wV (putA ρ1 avs ds') (X e)) := by
  unfold eCall; rw [wE_bind]; congr 1; funext avs ρ1
  cases fillA ρ1 avs with
  | none => rfl
  | some ds => dsimp only; rw [wO_some]; cases f ds <;> rfl
def wM (cn : Str) (x : FR) (K : D → List D → Prop) (Z : Ex → List D → Prop) : Prop := match x with
  | .ok .non (o :: ds') => K o ds'
  | .exc e (_ :: ds') => Z e ds'
  | _ => False
theorem wM_ok (cn : Str) (o : D) (ds : List D) (K : D → List D → Prop) (Z : Ex → List D → Prop) : wM cn (.ok .non (o :: ds)) K Z = K o ds := rfl
theorem wM_exc (cn : Str) (e : Ex) (o : D) (ds : List D) (K : D → List D → Prop) (Z : Ex → List D → Prop) : wM cn (.exc e (o :: ds)) K Z = Z e ds := rfl
theorem wE_make (cn : Str) (f : FD) (as : AVD) : wE (eMake cn f as ρ) X K = wE (as ρ) X fun avs ρ1 => wO (fillA ρ1 avs) fun ds => wM cn (f (.obj cn [] :: ds)) (fun r ds' => wV (putA ρ1 avs ds') (K r)) (fun e ds' => wV (putA ρ1 avs ds') (X e)) := by
  unfold eMake; rw [wE_bind]; congr 1; funext avs ρ1
  cases fillA ρ1 avs with
  | none => rfl
  | some ds =>
    dsimp only; rw [wO_some]
    cases f (.obj cn [] :: ds) with
    | ok r ds' => cases r <;> cases ds' <;> rfl
    | exc e ds' => cases ds' <;> rfl
    | bad => rfl
theorem wE_callT (f : FD) (fo : ED) (as : AVD) : wE (eCallT f fo as ρ) X K = wE (fo ρ) X fun x ρ1 => wE (as ρ1) X fun avs ρ2 => wO (valsA avs) fun ds => wF (f (x :: ds)) (fun r _ => K r ρ2) (fun e _ => X e ρ2) := by
  unfold eCallT; rw [wE_bind]; congr 1; funext x ρ1; rw [wE_bind]; congr 1; funext avs ρ2
  cases valsA avs with
  | none => rfl
  | some ds => dsimp only; rw [wO_some]; cases f (x :: ds) <;> rfl
theorem wE_CB (g : List D → Option D) (f : AVD) : wE (eCB g f ρ) X K = wE (f ρ) X fun avs ρ1 => wO (valsA avs) fun ds => wO (g ds) fun d => K d ρ1 := by
  unfold eCB; simp only [wE_bind, wE_opt, wO_bind]
theorem wE_CBO (g : List D → Option D) (f : AVD) : wE (eCBO g f ρ) X K = wE (f ρ) X fun avs ρ1 => wO (fillA ρ1 avs) fun ds => wO (g ds) fun d => K d ρ1 := by
  unfold eCBO; simp only [wE_bind, wE_opt, wO_bind]
theorem wE_qVal (f : ED) (KQ : SQ → Env → Prop) : wE (qVal f ρ) X KQ = wE (f ρ) X fun d ρ1 => wO (sqD d) fun q => KQ q ρ1 := by
  unfold qVal; simp only [wE_bind, wE_opt]
def lstD : D → Option (List D)
  | .lst ds => some ds
  | _ => none
theorem lstD_lst (ds : List D) : lstD (.lst ds) = some ds := rfl
theorem wE_qOwn (i : Nat) (KQ : SQ → Env → Prop) : wE (qOwn i ρ) X KQ = wO (ρ[i]?.join) fun d => wO (lstD d) fun ds => KQ (.l ds) ρ := by
  unfold qOwn
  cases ρ[i]?.join with
  | none => rfl
  | some d => cases d <;> rfl
theorem wE_Q (g : SQ → Option D) (f : QD) : wE (eQ g f ρ) X K = wE (f ρ) X fun q ρ1 => wO (g q) fun d => K d ρ1 := by
  unfold eQ; simp only [wE_bind, wE_opt]
theorem wE_QO (g : SQ → Option (List D)) (f : QD) : wE (eQO g f ρ) X K = wE (f ρ) X fun q ρ1 => wO (g q) fun ds => K (.lst ds) ρ1 := by
  unfold eQO; simp only [wE_bind, wE_opt, wO_map]
theorem wE_Tup (f : AVD) : wE (eTup f ρ) X K = wE (f ρ) X fun avs ρ1 => wO (valsA avs) fun ds => wB (decide (ds.length ≤ sizeLine)) (K (.tup ds) ρ1) False := by
  unfold eTup; simp only [wE_bind, wE_opt, wO_bind]
  congr 1; funext avs ρ1; congr 1; funext ds
  by_cases h : ds.length ≤ sizeLine
  · rw [if_pos h, wB_pos h]; rfl
  · rw [if_neg h, wB_neg h]; rfl
theorem wE_Lst (f : AVD) : wE (eLst f ρ) X K = wE (f ρ) X fun avs ρ1 => wO (valsA avs) fun ds => wB (decide (ds.length ≤ sizeLine)) (K (.lst ds) ρ1) False := by
  unfold eLst; simp only [wE_bind, wE_opt, wO_bind]
  congr 1; funext avs ρ1; congr 1; funext ds
  by_cases h : ds.length ≤ sizeLine
  · rw [if_pos h, wB_pos h]; rfl
  · rw [if_neg h, wB_neg h]; rfl
def asI : D → Option Int
  | .int i => some i
  | _ => none
theorem asI_int (i : Int) : asI (.int i) = some i := rfl
theorem wE_pNone (KP : Option Int → Env → Prop) : wE (pNone ρ) X KP = KP none ρ := rfl
theorem wE_pSome (f : ED) (KP : Option Int → Env → Prop) : wE (pSome f ρ) X KP = wE (f ρ) X fun d ρ1 => wO (asI d) fun i => KP (some i) ρ1 := by
  unfold pSome; rw [wE_bind]; congr 1; funext d ρ1; cases d <;> rfl
theorem wE_Sl (f : ED) (fl fh : PDn) : wE (eSl f fl fh ρ) X K = wE (f ρ) X fun d ρ1 => wE (fl ρ1) X fun lo ρ2 => wE (fh ρ2) X fun hi ρ3 => wO (dSl d lo hi) fun d => K d ρ3 := by
  unfold eSl; simp only [wE_bind, wE_opt]
theorem wE_Mut (i : Nat) (g : Eff) (f : AVD) : wE (eMut i g f ρ) X K = wO (ρ[i]?.join) fun d0 => wO (lstD d0) fun _ => wE (f ρ) X fun avs ρ1 => wO (ρ1[i]?.join) fun d1 => wO (lstD d1) fun ds => wO (valsA avs) fun es => wO (g ds es) fun z => wV (ρ1.set i (some (.lst z.1))) (K z.2) := by
  unfold eMut
  cases ρ[i]?.join with
  | none => rfl
  | some d0 => cases d0 with
    | lst ds0 =>
      rw [wO_some]
      show wE ((f ρ).bind _) X K = wO (some ds0) _
      rw [wO_some, wE_bind]; congr 1; funext avs ρ1
      cases ρ1[i]?.join with
      | none => rfl
      | some d1 => cases d1 with
        | lst ds =>
          dsimp only
          rw [wO_some, lstD_lst, wO_some, ← wO_bind]
          cases (valsA avs).bind (g ds) with
          | none => rfl
          | some z => rfl
        | _ => rfl
    | _ => rfl
theorem wE_IxO (i : Nat) (fk : ED) : wE (eIxO i fk ρ) X K = wO (ρ[i]?.join) fun d0 => wO (lstD d0) fun _ => wE (fk ρ) X fun k ρ1 => wO (ρ1[i]?.join) fun d1 => wO (lstD d1) fun ds => wO (dAt (.lst ds) k) fun d => K d ρ1 := by
  unfold eIxO
  cases ρ[i]?.join with
  | none => rfl
  | some d0 => cases d0 with
    | lst ds0 =>
      rw [wO_some]
      show wE ((fk ρ).bind _) X K = wO (some ds0) _
      rw [wO_some, wE_bind]; congr 1; funext k ρ1
      cases ρ1[i]?.join with
      | none => rfl
      | some d1 => cases d1 with
        | lst ds => dsimp only; rw [wE_opt]; rfl
        | _ => rfl
    | _ => rfl
def fldC (cn f : Str) : D → Option D
  | .obj c fs => if c = cn then fs.lookup f else none
  | _ => none
theorem fldC_obj (cn f : Str) (fs : List (Str × D)) : fldC cn f (.obj cn fs) = fs.lookup f := by simp [fldC]
theorem wE_Fld (cn f : Str) (fe : ED) : wE (eFld cn f fe ρ) X K = wE (fe ρ) X fun d ρ1 => wO (fldC cn f d) fun d => K d ρ1 := by
  unfold eFld; rw [wE_bind]; congr 1; funext d ρ1
  cases d with
  | obj c fs => unfold fldC; dsimp only; split; exact wE_opt _ _; rfl
  | _ => rfl
theorem wE_FldO (i : Nat) (cn f : Str) : wE (eFldO i cn f ρ) X K = wO (ρ[i]?.join) fun d => wO (fldC cn f d) fun d => K d ρ := by
  unfold eFldO
  cases ρ[i]?.join with
  | none => rfl
  | some d => cases d with
    | obj c fs => rw [wO_some]; unfold fldC; dsimp only; split; exact wE_opt _ _; rfl
    | _ => rfl
theorem wE_ListK (fa : ED) : wE (eListK fa ρ) X K = wE (fa ρ) X fun d ρ1 => wO (keysD d) fun ds => K (.lst ds) ρ1 := by
  unfold eListK; simp only [wE_bind, wE_opt, wO_map]
theorem wE_NewD (kd : DKd) : wE (eNewD kd ρ) X K = K (d0 kd) ρ := rfl
theorem wE_Lc (it : ID) (t : TD) (ifs : BD) (fe : ED) (vs : List Nat) : wE (eLc it t ifs fe vs ρ) X K = wE (it ρ) X fun ds ρ1 => wV (wipeE ρ1 vs) fun ρ2 => wE (lcLoop t ifs fe vs ds [] ρ2) X fun acc ρ3 => wV (unwipe ρ1 vs ρ3) (K (.lst acc)) := by
  unfold eLc; simp only [wE_bind, wE_ok]; rfl
theorem wE_Lc2 (it : ID) (t : TD) (ifs : BD) (it1 : ID) (t1 : TD) (ifs1 : BD) (fe : ED) (vs vs1 : List Nat) : wE (eLc2 it t ifs it1 t1 ifs1 fe vs vs1 ρ) X K = wE (it ρ) X fun ds ρ1 => wV (wipeE ρ1 vs) fun ρ2 => wE (lc2Loop t ifs it1 t1 ifs1 fe vs vs1 ds [] ρ2) X fun acc ρ3 => wV (unwipe ρ1 vs ρ3) (K (.lst acc)) := by
  unfold eLc2; simp only [wE_bind, wE_ok]; rfl
theorem wE_Dc (kd : DKd) (it : ID) (t : TD) (ifs : BD) (fk fv : ED) (vs : List Nat) : wE (eDc kd it t ifs fk fv vs ρ) X K = wE (it ρ) X fun ds ρ1 => wV (wipeE ρ1 vs) fun ρ2 => wE (dcLoop t ifs fk fv vs ds (d0 kd) ρ2) X fun acc ρ3 => wV (unwipe ρ1 vs ρ3) (K acc) := by
  unfold eDc; simp only [wE_bind, wE_ok]; rfl
theorem wE_oVal (f : ED) (KO : AV → Env → Prop) : wE (oVal f ρ) X KO = wE (f ρ) X fun d ρ1 => KO (.val d) ρ1 := by
  unfold oVal; simp only [wE_bind, wE_ok]
theorem wE_oOwn (i : Nat) (KO : AV → Env → Prop) : wE (oOwn i ρ) X KO = wO (ρ[i]?.join) fun _ => KO (.own i) ρ := by
  unfold oOwn
  cases ρ[i]?.join <;> rfl
theorem wE_BinO (g : D → D → Option D) (oa ob : OD) : wE (eBinO g oa ob ρ) X K = wE (oa ρ) X fun x ρ1 => wE (ob ρ1) X fun y ρ2 => wO (avD ρ2 x) fun d => wO (avD ρ2 y) fun e => wO (g d e) fun d => K d ρ2 := by
  unfold eBinO; simp only [wE_bind, wE_opt, wO_bind]
theorem wE_UnO (g : D → Option D) (oa : OD) : wE (eUnO g oa ρ) X K = wE (oa ρ) X fun x ρ1 => wO (avD ρ1 x) fun d => wO (g d) fun d => K d ρ1 := by
  unfold eUnO; simp only [wE_bind, wE_opt, wO_bind]
theorem wE_bTruO (o : OD) : wE (bTruO o ρ) X KB = wE (o ρ) X fun x ρ1 => wO (avD ρ1 x) fun d => wO (dTru d) fun b => KB b ρ1 := by
  unfold bTruO; simp only [wE_bind, wE_opt, wO_bind]
/-! ### what is walked -/
theorem wE_iAny (fa : ED) : wE (iAnyD fa ρ) X KL = wE (fa ρ) X fun d ρ1 => wO (itemsR d) fun ds => KL ds ρ1 := by
  unfold iAnyD; simp only [wE_bind, wE_opt]
theorem wE_iD (fa : ED) : wE (iD fa ρ) X KL = wE (fa ρ) X fun d ρ1 => wO (itemsD d) fun ds => KL ds ρ1 := by
  unfold iD; simp only [wE_bind, wE_opt]
def rgI1 : List D → Option (List D)
  | [.int j] => if j < 1000000 then some (rngD 0 j.toNat) else none
  | _ => none
def rgI2 : List D → Option (List D)
  | [.int i, .int j] => if -1000000 < i ∧ i < 1000000 ∧ -1000000 < j ∧ j < 1000000 then some (rngD i (j - i).toNat) else none
  | _ => none
end
end Dn

/-! Wq: rules for what is walked, statements, loops, defs. -/
namespace Dn
open PySem
section
variable {α β : Type} {X : Ex → Env → Prop} {ρ : Env} {E : En} {P Q : Prop} {K : D → Env → Prop} {KL : List D → Env → Prop}
/-- range -/
def rg1D : List D → Option (List D)
  | [.int j] => if -(2 ^ 62) ≤ j ∧ j < 2 ^ 62 then some (rngD 0 j.toNat) else none
  | _ => none
def rg2D : List D → Option (List D)
  | [.int i, .int j] => if -(2 ^ 62) ≤ i ∧ i < 2 ^ 62 ∧ -(2 ^ 62) ≤ j ∧ j < 2 ^ 62 then some (rngD i (j - i).toNat) else none
  | _ => none
abbrev nD (n : Nat) : D := .int n
abbrev nT (l : List Nat) : D := .tup (l.map nD)
abbrev nL (l : List Nat) : D := .lst (l.map nD)
abbrev pcD (p : List (List Nat)) : D := .tup (p.map nT)
theorem rngD_nat (n : Nat) : rngD 0 n = (List.range n).map nD := by
  unfold rngD; apply List.map_congr_left; intro a _; show D.int (0 + (a : Int)) = _; rw [Int.zero_add]
theorem rg1D_int {j : Int} (h : j < 1000000) (h0 : -1000000 < j) : rg1D [.int j] = some ((List.range j.toNat).map nD) := by
  rw [← rngD_nat]
  unfold rg1D
  by_cases c : -(2 ^ 62) ≤ j ∧ j < 2 ^ 62
  · exact if_pos c
  · exact absurd ⟨by omega, by omega⟩ c
theorem rg1D_nat {n : Nat} (h : n < 1000000) : rg1D [.int (n : Int)] = some ((List.range n).map nD) := by
  rw [rg1D_int (by omega) (by omega), Int.toNat_natCast]
def rangeN (lo hi : Nat) : List Nat := (List.range (hi - lo)).map (lo + ·)
theorem rg2D_nat {i j : Nat} (h : i < 1000000) (h0 : j < 1000000) : rg2D [.int (i : Int), .int (j : Int)] = some ((rangeN i j).map nD) := by
  have e : rngD (i : Int) ((j : Int) - i).toNat = (rangeN i j).map nD := by
    unfold rngD rangeN
    rw [List.map_map]
    have : ((j : Int) - i).toNat = j - i := by omega
    rw [this]
    apply List.map_congr_left
    intro a _
    show D.int ((i : Int) + (a : Int)) = D.int ((i + a : Nat) : Int)
    rw [Int.natCast_add]
  rw [← e]
  unfold rg2D
  by_cases c : -(2 ^ 62) ≤ (i : Int) ∧ (i : Int) < 2 ^ 62 ∧ -(2 ^ 62) ≤ (j : Int) ∧ (j : Int) < 2 ^ 62
  · exact if_pos c
  · exact absurd ⟨by omega, by omega, by omega, by omega⟩ c
theorem wE_iRg1 (f : AVD) : wE (iRg1 f ρ) X KL = wE (f ρ) X fun avs ρ1 => wO (valsA avs) fun ds => wO (rg1D ds) fun r => KL r ρ1 := by
  unfold iRg1; rw [wE_bind]; congr 1; funext avs ρ1
  cases valsA avs with
  | none => rfl
  | some ds =>
    rw [wO_some]
    cases ds with
    | nil => rfl
    | cons d ds =>
      cases d with
      | int j =>
        cases ds with
        | nil =>
          unfold rg1D
          dsimp only
          by_cases c : -(2 ^ 62) ≤ j ∧ j < 2 ^ 62
          · rw [if_pos c, if_pos c, wO_some, wE_ok]
          · rw [if_neg c, if_neg c]; rfl
        | cons _ _ => rfl
      | _ => cases ds <;> rfl
theorem wE_iRg2 (f : AVD) : wE (iRg2 f ρ) X KL = wE (f ρ) X fun avs ρ1 => wO (valsA avs) fun ds => wO (rg2D ds) fun r => KL r ρ1 := by
  unfold iRg2; rw [wE_bind]; congr 1; funext avs ρ1
  cases valsA avs with
  | none => rfl
  | some ds =>
    rw [wO_some]
    rcases ds with _ | ⟨d, _ | ⟨e, _ | ⟨f, r⟩⟩⟩
    · rfl
    · cases d <;> rfl
    · cases d with
      | int i => cases e with
        | int j =>
          unfold rg2D
          dsimp only
          by_cases c : -(2 ^ 62) ≤ i ∧ i < 2 ^ 62 ∧ -(2 ^ 62) ≤ j ∧ j < 2 ^ 62
          · rw [if_pos c, if_pos c, wO_some, wE_ok]
          · rw [if_neg c, if_neg c]; rfl
        | _ => rfl
      | _ => rfl
    · cases d with
      | int i => cases e <;> rfl
      | _ => rfl
def enA : List D → Option (List D)
  | [.lst ds] => some (enumD ds)
  | [.scr ns] => some (enumD (ns.map .int))
  | [.tup ds] => some (enumD ds)
  | _ => none
theorem enA_lst (ds : List D) : enA [.lst ds] = some (enumD ds) := rfl
theorem enA_tup (ds : List D) : enA [.tup ds] = some (enumD ds) := rfl
theorem wE_iEnA (f : AVD) : wE (iEnA f ρ) X KL = wE (f ρ) X fun avs ρ1 => wO (valsA avs) fun ds => wO (enA ds) fun r => KL r ρ1 := by
  unfold iEnA; rw [wE_bind]; congr 1; funext avs ρ1
  cases valsA avs with
  | none => rfl
  | some ds =>
    rw [wO_some]
    rcases ds with _ | ⟨d, _ | ⟨e, r⟩⟩
    · rfl
    · cases d <;> rfl
    · cases d <;> rfl
def zpA : List D → Option (List D)
  | [.lst ds, .lst es] => some (zipD ds es)
  | [.tup ds, .tup es] => some (zipD ds es)
  | _ => none
theorem wE_iZp (f : AVD) : wE (iZp f ρ) X KL = wE (f ρ) X fun avs ρ1 => wO (valsA avs) fun ds => wO (zpA ds) fun r => KL r ρ1 := by
  unfold iZp; rw [wE_bind]; congr 1; funext avs ρ1
  cases valsA avs with
  | none => rfl
  | some ds =>
    rw [wO_some]
    rcases ds with _ | ⟨d, _ | ⟨e, _ | ⟨f, r⟩⟩⟩
    · rfl
    · cases d <;> rfl
    · cases d <;> cases e <;> rfl
    · cases d <;> cases e <;> rfl
def prA (ds : List D) : Option (List D) := (permL ds.length ds.length).bind fun L => if ds.length ≤ 1000 then some (L.map (pickD ds ds.length)) else none
theorem wE_iPerm (f : ED) : wE (iPerm f ρ) X KL = wE (f ρ) X fun d ρ1 => wO (itemsR d) fun ds => wO (prA ds) fun r => KL r ρ1 := by
  unfold iPerm; rw [wE_bind]; congr 1; funext d ρ1
  cases itemsR d with
  | none => rfl
  | some ds =>
    rw [wO_some]; unfold prA
    show wE (match permL ds.length ds.length with
      | some L => if ds.length ≤ 1000 then ER.ok (L.map (pickD ds ds.length)) ρ1 else ER.bad
      | none => ER.bad) X KL = _
    generalize permL ds.length ds.length = z
    cases z with
    | none => rfl
    | some L =>
      rw [Option.bind_some]
      show wE (if ds.length ≤ 1000 then ER.ok (L.map (pickD ds ds.length)) ρ1 else ER.bad) X KL = _
      by_cases h : ds.length ≤ 1000
      · rw [if_pos h, if_pos h]; rfl
      · rw [if_neg h, if_neg h]; rfl
def cbA (ds : List D) (e : D) : Option (List D) := (asI e).bind fun z => if 0 ≤ z ∧ z.toNat ≤ 1000 ∧ ds.length ≤ 1000 then (combL ds.length z.toNat).map fun L => L.map (pickE ds) else none
theorem wE_iComb (f g : ED) : wE (iComb f g ρ) X KL = wE (f ρ) X fun d ρ1 => wE (g ρ1) X fun e ρ2 => wO (itemsR d) fun ds => wO (cbA ds e) fun r => KL r ρ2 := by
  unfold iComb; rw [wE_bind]; congr 1; funext d ρ1; rw [wE_bind]; congr 1; funext e ρ2
  cases itemsR d with
  | none => rfl
  | some ds =>
    rw [wO_some]; unfold cbA
    cases e with
    | int z =>
      dsimp only [asI, Option.bind_some]
      by_cases h : 0 ≤ z ∧ z.toNat ≤ 1000 ∧ ds.length ≤ 1000
      · rw [if_pos h, if_pos h]; cases combL ds.length z.toNat <;> rfl
      · rw [if_neg h, if_neg h]; rfl
    | _ => rfl
/-! ### statements -/
theorem wS_nx : wS (sNx ρ) E = E.nx ρ := rfl
theorem wS_bk : wS (sBk ρ) E = E.bk ρ := rfl
theorem wS_ct : wS (sCt ρ) E = E.ct ρ := rfl
theorem wS_never : wS (sNever ρ) E = False := rfl
theorem wS_seq (f g : SD) : wS (sSeq f g ρ) E = wS (f ρ) { nx := fun ρ1 => wS (g ρ1) E, rt := E.rt, exc := E.exc, bk := E.bk, ct := E.ct } := by
  unfold sSeq; cases f ρ <;> rfl
theorem wS_thn (x : ER α) (k : α → Env → SR) : wS (x.thn k) E = wE x E.exc fun a ρ1 => wS (k a ρ1) E := by cases x <;> rfl
theorem wS_expr (fe : ED) : wS (sExpr fe ρ) E = wE (fe ρ) E.exc fun _ ρ1 => E.nx ρ1 := by unfold sExpr; rw [wS_thn]; rfl
theorem wS_ret (fe : ED) : wS (sRet fe ρ) E = wE (fe ρ) E.exc fun d ρ1 => E.rt d ρ1 := by unfold sRet; rw [wS_thn]; rfl
theorem wS_if (c : BD) (f g : SD) : wS (sIf c f g ρ) E = wE (c ρ) E.exc fun b ρ1 => wB b (wS (f ρ1) E) (wS (g ρ1) E) := by
  unfold sIf; rw [wS_thn]; congr 1; funext b ρ1; exact wS_ifb _ _ _
theorem wS_set (i : Nat) (fe : ED) : wS (sSet i fe ρ) E = wE (fe ρ) E.exc fun d ρ1 => wV (ρ1.set i (some d)) E.nx := by unfold sSet; rw [wS_thn]; rfl
theorem wS_asg (fe : ED) (t : TD) : wS (sAsg fe t ρ) E = wE (fe ρ) E.exc fun d ρ1 => wO (t d ρ1) fun ρ2 => wV ρ2 E.nx := by
  unfold sAsg; rw [wS_thn]; congr 1; funext d ρ1; cases t d ρ1 <;> rfl
theorem wS_for (it : ID) (t : TD) (b : SD) : wS (sFor it t b ρ) E = wE (it ρ) E.exc fun ds ρ1 => wS (sLoop t b ds ρ1) E := by unfold sFor; rw [wS_thn]
theorem wS_put (i : Nat) (fe fk : ED) : wS (sPut i fe fk ρ) E = wE (fe ρ) E.exc fun d ρ1 => wO (ρ1[i]?.join) fun d0 => wO (lstD d0) fun _ => wE (fk ρ1) E.exc fun k ρ2 => wO (ρ2[i]?.join) fun d1 => wO (lstD d1) fun ds => wO (asI k) fun z => wO (L2.ixN ds.length z) fun j => wV (ρ2.set i (some (.lst (ds.set j d)))) E.nx := by
  unfold sPut; rw [wS_thn]; congr 1; funext d ρ1
  cases ρ1[i]?.join with
  | none => rfl
  | some d0 => cases d0 with
    | lst ds0 =>
      rw [wO_some]
      show wS ((fk ρ1).thn _) E = wO (some ds0) _
      rw [wO_some, wS_thn]; congr 1; funext k ρ2
      cases ρ2[i]?.join with
      | none => rfl
      | some d1 => cases d1 with
        | lst ds => cases k with
          | int z => dsimp only; rw [wO_some, lstD_lst, wO_some, asI_int, wO_some]; cases L2.ixN ds.length z <;> rfl
          | _ => rfl
        | _ => cases k <;> rfl
    | _ => rfl
def putC (cn f : Str) (d : D) : D → Option D
  | .obj c fs => if c = cn ∧ fs.length < 1000 then some (.obj c (putFD f d fs)) else none
  | _ => none
theorem putC_obj {cn f : Str} {d : D} {fs : List (Str × D)} (h : fs.length < 1000) : putC cn f d (.obj cn fs) = some (.obj cn (putFD f d fs)) := by unfold putC; exact if_pos ⟨rfl, h⟩
theorem wS_fldPut (i : Nat) (cn f : Str) (fe : ED) : wS (sFldPut i cn f fe ρ) E = wE (fe ρ) E.exc fun d ρ1 => wO (ρ1[i]?.join) fun o => wO (putC cn f d o) fun o' => wV (ρ1.set i (some o')) E.nx := by
  unfold sFldPut; rw [wS_thn]; congr 1; funext d ρ1
  cases ρ1[i]?.join with
  | none => rfl
  | some o => cases o with
    | obj c fs => rw [wO_some]; unfold putC; dsimp only; split <;> rfl
    | _ => rfl
def dctD : D → Option D
  | .dK a => some (.dK a)
  | .dN a => some (.dN a)
  | _ => none
theorem wS_putD (i : Nat) (fe fk : ED) : wS (sPutD i fe fk ρ) E = wE (fe ρ) E.exc fun d ρ1 => wO (ρ1[i]?.join) fun o => wO (dctD o) fun _ => wE (fk ρ1) E.exc fun k ρ2 => wO (ρ2[i]?.join) fun o => wO (dPutD o k d) fun o' => wV (ρ2.set i (some o')) E.nx := by
  unfold sPutD; rw [wS_thn]; congr 1; funext d ρ1
  have key : ∀ d1, wS ((fk ρ1).thn fun kd ρ2 => match (ρ2[i]?.join).bind fun acc => dPutD acc kd d with
    | some acc' => .nx (ρ2.set i (some acc'))
    | none => .bad) E = wO (some d1) fun (_ : D) => wE (fk ρ1) E.exc fun k ρ2 => wO (ρ2[i]?.join) fun o => wO (dPutD o k d) fun o' => wV (ρ2.set i (some o')) E.nx := fun d1 => by
    rw [wO_some, wS_thn]; congr 1; funext k ρ2
    cases ρ2[i]?.join with
    | none => rfl
    | some o => rw [wO_some, Option.bind_some]; cases dPutD o k d <;> rfl
  cases ρ1[i]?.join with
  | none => rfl
  | some o => cases o with
    | dK a => exact key (.dK a)
    | dN a => exact key (.dN a)
    | _ => rfl
/-! ### a def -/
theorem wF_run (nN : Nat) (pml : List Mode) (mr : Mode) (b : SD) (ds : List D) (KF : D → List D → Prop) (ZF : Ex → List D → Prop) : wF (runB nN pml mr b ds) KF ZF = wV (ds.map some ++ List.replicate (nN - ds.length) none) fun ρ => wS (b ρ)
    { nx := fun ρ1 => wB (decide (mr = .frz)) (wO (outs pml ds ρ1) fun ds' => KF .non ds') False, rt := fun r ρ1 => wO (outs pml ds ρ1) fun ds' => KF r ds', exc := fun e ρ1 => wO (outs pml ds ρ1) fun ds' => ZF e ds', bk := fun _ => False, ct := fun _ => False } := by
  unfold runB wV
  dsimp only
  generalize b (ds.map some ++ List.replicate (nN - ds.length) none) = x
  cases x with
  | nx ρ1 =>
    dsimp only [wS]
    by_cases h : mr = .frz
    · rw [if_pos h, wB_pos h]; cases outs pml ds ρ1 <;> rfl
    · rw [if_neg h, wB_neg h]; rfl
  | rt r ρ1 => dsimp only [wS]; cases outs pml ds ρ1 <;> rfl
  | exc r ρ1 => dsimp only [wS]; cases outs pml ds ρ1 <;> rfl
  | _ => rfl
/-! ### loops -/
/-- by what has been walked -/
theorem wS_loop {t : TD} {b : SD} {enc : α → D} {xs : List α} (I : List α → Env → Prop) (h0 : I [] ρ)
    (hs : ∀ pre x post ρ, xs = pre ++ x :: post → I pre ρ → wO (t (enc x) ρ) fun ρ1 => wV ρ1 fun ρ1 => wS (b ρ1) { nx := I (pre ++ [x]), rt := E.rt, exc := E.exc, bk := E.nx, ct := I (pre ++ [x]) })
    (he : ∀ ρ, I xs ρ → E.nx ρ) : wS (sLoop t b (xs.map enc) ρ) E := by
  have key : ∀ (post pre : List α) (ρ : Env), xs = pre ++ post → I pre ρ → wS (sLoop t b (post.map enc) ρ) E := by
    intro post
    induction post with
    | nil => intro pre ρ e h; rw [List.append_nil] at e; subst e; exact he _ h
    | cons x post ih =>
      intro pre ρ e h
      have := hs pre x post ρ e h
      rw [List.map_cons, sLoop]
      cases ht : t (enc x) ρ with
      | none => rw [ht] at this; exact this.elim
      | some ρ1 =>
        rw [ht] at this
        have this : wS (b ρ1) _ := this
        dsimp only
        cases hb : b ρ1 with
        | nx ρ2 => rw [hb] at this; exact ih (pre ++ [x]) ρ2 (by rw [e]; simp) this
        | ct ρ2 => rw [hb] at this; exact ih (pre ++ [x]) ρ2 (by rw [e]; simp) this
        | bk ρ2 => rw [hb] at this; exact this
        | rt d ρ2 => rw [hb] at this; exact this
        | exc d ρ2 => rw [hb] at this; exact this
        | bad => rw [hb] at this; exact this
  exact key xs [] ρ rfl h0
/-- over range(n) -/
theorem wS_range {t : TD} {b : SD} {n : Nat} (I : Nat → Env → Prop) (h0 : I 0 ρ)
    (hs : ∀ j ρ, j < n → I j ρ → wO (t (nD j) ρ) fun ρ1 => wV ρ1 fun ρ1 => wS (b ρ1) { nx := I (j + 1), rt := E.rt, exc := E.exc, bk := E.nx, ct := I (j + 1) })
    (he : ∀ ρ, I n ρ → E.nx ρ) : wS (sLoop t b ((List.range n).map nD) ρ) E := by
  refine wS_loop (enc := nD) (xs := List.range n) (fun pre ρ => I pre.length ρ) h0 ?_ (by intro ρ h; rw [List.length_range] at h; exact he ρ h)
  intro pre x post ρ e h
  have hl : pre.length < n := by have := congrArg List.length e; simp at this; omega
  have hx : x = pre.length := by
    have h1 : (List.range n)[pre.length]? = some x := by rw [e]; simp
    rw [List.getElem?_range hl] at h1
    injection h1 with h1; exact h1.symm
  subst hx
  have := hs pre.length ρ hl h
  simp only [List.length_append, List.length_cons, List.length_nil] at *
  exact this
/-- a fold -/
theorem wS_fold {S : Type} {t : TD} {b : SD} {enc : α → D} {xs : List α} (f : S → α → S) (s0 : S) (R : S → Env → Prop) (h0 : R s0 ρ)
    (hs : ∀ pre x post ρ, xs = pre ++ x :: post → R (pre.foldl f s0) ρ → wO (t (enc x) ρ) fun ρ1 => wV ρ1 fun ρ1 => wS (b ρ1) { nx := R (f (pre.foldl f s0) x), rt := E.rt, exc := E.exc, bk := E.nx, ct := R (f (pre.foldl f s0) x) })
    (he : ∀ ρ, R (xs.foldl f s0) ρ → E.nx ρ) : wS (sLoop t b (xs.map enc) ρ) E := by
  refine wS_loop (fun pre ρ => R (pre.foldl f s0) ρ) h0 ?_ he
  intro pre x post ρ e h
  simp only [List.foldl_append, List.foldl_cons, List.foldl_nil]
  exact hs pre x post ρ e h
/-! ### comprehensions -/
theorem wE_lc {t : TD} {ifs : BD} {fe : ED} {vs : List Nat} {enc : α → D} {xs : List α} {acc0 : List D} (I : List α → List D → Env → Prop) (hl : acc0.length + xs.length < 1000000) (h0 : I [] acc0 ρ)
    (hs : ∀ pre x post acc ρ, xs = pre ++ x :: post → I pre acc ρ → wO (t (enc x) ρ) fun ρ1 => wV ρ1 fun ρ1 => wE (ifs ρ1) (fun _ _ => False) fun b ρ2 => wB b (wE (fe ρ2) (fun _ _ => False) fun d ρ3 => wV (wipeE ρ3 vs) fun ρ4 => I (pre ++ [x]) (acc ++ [d]) ρ4) (wV (wipeE ρ2 vs) fun ρ4 => I (pre ++ [x]) acc ρ4))
    {KL : List D → Env → Prop} (he : ∀ acc ρ, I xs acc ρ → KL acc ρ) : wE (lcLoop t ifs fe vs (xs.map enc) acc0 ρ) X KL := by
  have hz : 1000000 ≤ sizeLine := by decide
  have key : ∀ (post pre : List α) (acc : List D) (ρ : Env), xs = pre ++ post → acc.length + post.length < 1000000 → I pre acc ρ → wE (lcLoop t ifs fe vs (post.map enc) acc ρ) X KL := by
    intro post
    induction post with
    | nil => intro pre acc ρ e _ h; rw [List.append_nil] at e; subst e; exact he _ _ h
    | cons x post ih =>
      intro pre acc ρ e hl h
      have hl' : acc.length + post.length + 1 < 1000000 := by simpa [Nat.add_assoc] using hl
      have := hs pre x post acc ρ e h
      rw [List.map_cons, lcLoop]
      cases ht : t (enc x) ρ with
      | none => rw [ht] at this; exact this.elim
      | some ρ1 =>
        rw [ht] at this
        have this : wE (ifs ρ1) _ _ := this
        dsimp only
        rw [wE_bind, wE_nox]
        refine wE_mono this ?_
        intro b ρ2 hb
        cases b with
        | true =>
          rw [if_pos rfl, wE_bind, wE_nox]
          refine wE_mono (show wE (fe ρ2) _ _ from hb) ?_
          intro d ρ3 hd
          rw [if_pos (by omega)]
          exact ih (pre ++ [x]) (acc ++ [d]) _ (by rw [e]; simp) (by simp; omega) hd
        | false =>
          rw [if_neg (by simp)]
          exact ih (pre ++ [x]) acc _ (by rw [e]; simp) (by omega) hb
  exact key xs [] acc0 ρ rfl hl h0
/-- nothing but values -/
theorem wE_lcm {t : TD} {fe : ED} {vs : List Nat} {enc : α → D} {xs : List α} (g : α → D) {KL : List D → Env → Prop} (hl : xs.length < 1000000)
    (hs : ∀ x ∈ xs, wO (t (enc x) ρ) fun ρ1 => wV ρ1 fun ρ1 => wE (fe ρ1) (fun _ _ => False) fun d ρ3 => wV (wipeE ρ3 vs) fun ρ4 => d = g x ∧ ρ4 = ρ) (he : KL (xs.map g) ρ) : wE (lcLoop t bYes fe vs (xs.map enc) [] ρ) X KL := by
  refine wE_lc (fun pre acc ρ' => acc = pre.map g ∧ ρ' = ρ) (by simpa using hl) ⟨rfl, rfl⟩ ?_ (by rintro acc ρ' ⟨rfl, rfl⟩; exact he)
  rintro pre x post acc ρ' e ⟨rfl, rfl⟩
  have := hs x (by rw [e]; simp)
  cases ht : t (enc x) ρ' with
  | none => rw [ht] at this; exact this
  | some ρ1 =>
    rw [ht] at this
    refine wE_mono (show wE (fe ρ1) _ _ from this) ?_
    rintro d ρ3 ⟨rfl, h⟩
    exact ⟨by simp, h⟩
/-- values of those that pass -/
theorem wE_lcf {t : TD} {ifs : BD} {fe : ED} {vs : List Nat} {enc : α → D} {xs : List α} (c : α → Bool) (g : α → D) {KL : List D → Env → Prop} (hl : xs.length < 1000000)
    (hs : ∀ x ∈ xs, wO (t (enc x) ρ) fun ρ1 => wV ρ1 fun ρ1 => wE (ifs ρ1) (fun _ _ => False) fun b ρ2 => b = c x ∧ wB b (wE (fe ρ2) (fun _ _ => False) fun d ρ3 => wV (wipeE ρ3 vs) fun ρ4 => d = g x ∧ ρ4 = ρ) (wV (wipeE ρ2 vs) fun ρ4 => ρ4 = ρ)) (he : KL ((xs.filter c).map g) ρ) : wE (lcLoop t ifs fe vs (xs.map enc) [] ρ) X KL := by
  refine wE_lc (fun pre acc ρ' => acc = (pre.filter c).map g ∧ ρ' = ρ) (by simpa using hl) ⟨rfl, rfl⟩ ?_ (by rintro acc ρ' ⟨rfl, rfl⟩; exact he)
  rintro pre x post acc ρ' e ⟨rfl, rfl⟩
  have := hs x (by rw [e]; simp)
  cases ht : t (enc x) ρ' with
  | none => rw [ht] at this; exact this
  | some ρ1 =>
    rw [ht] at this
    refine wE_mono (show wE (ifs ρ1) _ _ from this) ?_
    rintro b ρ2 ⟨rfl, h⟩
    cases hc : c x with
    | true =>
      rw [hc] at h
      refine wE_mono (show wE (fe ρ2) _ _ from h) ?_
      rintro d ρ3 ⟨rfl, h⟩
      exact ⟨by simp [hc], h⟩
    | false =>
      rw [hc] at h
      exact ⟨by simp [hc], h⟩
end
end Dn

/-! Wv: printed by mkwv.py: the rules, the continuation as an instance argument. -/
namespace Dn
open PySem
class HE (α : Type) where
  x : Ex → Env → Prop
  k : α → Env → Prop
class HK (β : Type) where
  k : β
class HB where
  p : Prop
  q : Prop
class HF where
  k : D → List D → Prop
  x : Ex → List D → Prop
def vE {α : Type} (x : ER α) [h : HE α] : Prop := wE x h.x h.k
def vO {α : Type} (o : Option α) [h : HK (α → Prop)] : Prop := wO o h.k
def vV (ρ : Env) [h : HK (Env → Prop)] : Prop := wV ρ h.k
def vA {α : Type} (a : α) [h : HK (α → Prop)] : Prop := wA a h.k
def vB (b : Bool) [h : HB] : Prop := wB b h.p h.q
def vF (x : FR) [h : HF] : Prop := wF x h.k h.x
def vM (cn : Str) (x : FR) [h : HF] : Prop := wM cn x h.k h.x
def vS (x : SR) [h : En] : Prop := wS x h
section
variable {α β : Type} {X : Ex → Env → Prop} {ρ : Env} {E : En} {P Q : Prop} {K : D → Env → Prop} {KB : Bool → Env → Prop} {KA : List AV → Env → Prop} {KL : List D → Env → Prop}
theorem vO_some (a : α) (K : α → Prop) : vO (some a) (h := ⟨K⟩) = K a := nr (wO_some a K)
theorem vO_none (K : α → Prop) : vO (none : Option α) (h := ⟨K⟩) = False := nr (wO_none K)
theorem vO_bind (o : Option α) (f : α → Option β) (K : β → Prop) : vO (o.bind f) (h := ⟨K⟩) = vO o (h := ⟨fun a => vO (f a) (h := ⟨K⟩)⟩) := nr (wO_bind o f K)
theorem vO_map (o : Option α) (f : α → β) (K : β → Prop) : vO (o.map f) (h := ⟨K⟩) = vO o (h := ⟨fun a => K (f a)⟩) := nr (wO_map o f K)
theorem vO_if (c : Prop) [Decidable c] (a b : Option α) (K : α → Prop) : vO (if c then a else b) (h := ⟨K⟩) = if c then vO a (h := ⟨K⟩) else vO b (h := ⟨K⟩) := nr (wO_if c a b K)
theorem vV_cons (a : Option D) (l : Env) (K : Env → Prop) : vV (a :: l) (h := ⟨K⟩) = K (a :: l) := nr (wV_cons a l K)
theorem vB_true : vB true (h := ⟨P, Q⟩) = P := nr (wB_true )
theorem vB_false : vB false (h := ⟨P, Q⟩) = Q := nr (wB_false )
theorem vB_not (b : Bool) : vB (!b) (h := ⟨P, Q⟩) = vB b (h := ⟨Q, P⟩) := nr (wB_not b)
theorem vB_pos {p : Prop} [Decidable p] (h : p) : vB (decide p) (h := ⟨P, Q⟩) = P := nr (wB_pos h)
theorem vB_neg {p : Prop} [Decidable p] (h : ¬ p) : vB (decide p) (h := ⟨P, Q⟩) = Q := nr (wB_neg h)
theorem vB_split {b : Bool} (h1 : b = true → P) (h2 : b = false → Q) : vB b (h := ⟨P, Q⟩) := wB_split h1 h2
theorem vB_dec {p : Prop} [Decidable p] (h1 : p → P) (h2 : ¬ p → Q) : vB (decide p) (h := ⟨P, Q⟩) := wB_dec h1 h2
theorem vF_ok (r : D) (ds : List D) (K : D → List D → Prop) (Z : Ex → List D → Prop) : vF (.ok r ds) (h := ⟨K, Z⟩) = K r ds := nr (wF_ok r ds K Z)
theorem vF_exc (r : Ex) (ds : List D) (K : D → List D → Prop) (Z : Ex → List D → Prop) : vF (.exc r ds) (h := ⟨K, Z⟩) = Z r ds := nr (wF_exc r ds K Z)
theorem vF_eq {x : FR} {r : D} {ds : List D} (h : vF x (h := ⟨fun r' ds' => r' = r ∧ ds' = ds, fun _ _ => False⟩)) : x = .ok r ds := wF_eq h
theorem vE_ok (a : α) (K : α → Env → Prop) : vE (.ok a ρ) (h := ⟨X, K⟩) = K a ρ := nr (wE_ok a K)
theorem vE_bind (x : ER α) (f : α → Env → ER β) (K : β → Env → Prop) : vE (x.bind f) (h := ⟨X, K⟩) = vE x (h := ⟨X, fun a ρ1 => vE (f a ρ1) (h := ⟨X, K⟩)⟩) := nr (wE_bind x f K)
theorem vE_opt (o : Option α) (K : α → Env → Prop) : vE (opt o ρ) (h := ⟨X, K⟩) = vO o (h := ⟨fun a => K a ρ⟩) := nr (wE_opt o K)
theorem vE_nox (x : ER α) (K : α → Env → Prop) : vE x.nox (h := ⟨X, K⟩) = vE x (h := ⟨fun _ _ => False, K⟩) := nr (wE_nox x K)
theorem vE_if (c : Prop) [Decidable c] (a b : ER α) (K : α → Env → Prop) : vE (if c then a else b) (h := ⟨X, K⟩) = vB (decide c) (h := ⟨vE a (h := ⟨X, K⟩), vE b (h := ⟨X, K⟩)⟩) := nr (wE_if c a b K)
theorem vE_ifb (c : Bool) (a b : ER α) (K : α → Env → Prop) : vE (if c = true then a else b) (h := ⟨X, K⟩) = vB c (h := ⟨vE a (h := ⟨X, K⟩), vE b (h := ⟨X, K⟩)⟩) := nr (wE_ifb c a b K)
theorem vS_ifb (c : Bool) (a b : SR) : vS (if c = true then a else b) (h := E) = vB c (h := ⟨vS a (h := E), vS b (h := E)⟩) := nr (wS_ifb c a b)
theorem vE_var (i : Nat) : vE (eVar i ρ) (h := ⟨X, K⟩) = vO (ρ[i]?.join) (h := ⟨fun d => K d ρ⟩) := nr (wE_var i)
theorem vE_C (d : D) : vE (eC d ρ) (h := ⟨X, K⟩) = K d ρ := nr (wE_C d)
theorem vE_bin (g : D → D → Option D) (fa fb : ED) : vE (eBin g fa fb ρ) (h := ⟨X, K⟩) = vE (fa ρ) (h := ⟨X, fun x ρ1 => vE (fb ρ1) (h := ⟨X, fun y ρ2 => vO (g x y) (h := ⟨fun d => K d ρ2⟩)⟩)⟩) := nr (wE_bin g fa fb)
theorem vE_un (g : D → Option D) (fa : ED) : vE (eUn g fa ρ) (h := ⟨X, K⟩) = vE (fa ρ) (h := ⟨X, fun x ρ1 => vO (g x) (h := ⟨fun d => K d ρ1⟩)⟩) := nr (wE_un g fa)
theorem vE_bOf (f : ED) : vE (bOf f ρ) (h := ⟨X, KB⟩) = vE (f ρ) (h := ⟨X, fun d ρ1 => vO (asB d) (h := ⟨fun b => KB b ρ1⟩)⟩) := nr (wE_bOf f)
theorem vE_chain (g g' : D → D → Option D) (fa fb fc : ED) : vE (eChain g g' fa fb fc ρ) (h := ⟨X, K⟩) = vE (fa ρ) (h := ⟨X, fun x ρ1 => vE (fb ρ1) (h := ⟨X, fun y ρ2 => vO (g x y) (h := ⟨fun d => vO (asB d) (h := ⟨fun b => vB b (h := ⟨vE (fc ρ2) (h := ⟨X, fun z ρ3 => vO (g' y z) (h := ⟨fun d => K d ρ3⟩)⟩), K (.bl false) ρ2⟩)⟩)⟩)⟩)⟩) := nr (wE_chain g g' fa fb fc)
theorem vE_bTru (f : ED) : vE (bTru f ρ) (h := ⟨X, KB⟩) = vE (f ρ) (h := ⟨X, fun d ρ1 => vO (dTru d) (h := ⟨fun b => KB b ρ1⟩)⟩) := nr (wE_bTru f)
theorem vE_bAnd (fa fb : BD) : vE (bAnd fa fb ρ) (h := ⟨X, KB⟩) = vE (fa ρ) (h := ⟨X, fun b ρ1 => vB b (h := ⟨vE (fb ρ1) (h := ⟨X, KB⟩), KB false ρ1⟩)⟩) := nr (wE_bAnd fa fb)
theorem vE_bOr (fa fb : BD) : vE (bOr fa fb ρ) (h := ⟨X, KB⟩) = vE (fa ρ) (h := ⟨X, fun b ρ1 => vB b (h := ⟨KB true ρ1, vE (fb ρ1) (h := ⟨X, KB⟩)⟩)⟩) := nr (wE_bOr fa fb)
theorem vE_bNot (fa : BD) : vE (bNot fa ρ) (h := ⟨X, KB⟩) = vE (fa ρ) (h := ⟨X, fun b ρ1 => KB (!b) ρ1⟩) := nr (wE_bNot fa)
theorem vE_and (fa fb : ED) : vE (eAnd fa fb ρ) (h := ⟨X, K⟩) = vE (fa ρ) (h := ⟨X, fun d ρ1 => vO (asB d) (h := ⟨fun b => vB b (h := ⟨vE (fb ρ1) (h := ⟨X, K⟩), K (.bl false) ρ1⟩)⟩)⟩) := nr (wE_and fa fb)
theorem vE_or (fa fb : ED) : vE (eOr fa fb ρ) (h := ⟨X, K⟩) = vE (fa ρ) (h := ⟨X, fun d ρ1 => vO (asB d) (h := ⟨fun b => vB b (h := ⟨K (.bl true) ρ1, vE (fb ρ1) (h := ⟨X, K⟩)⟩)⟩)⟩) := nr (wE_or fa fb)
theorem vE_not (fa : ED) : vE (eNot fa ρ) (h := ⟨X, K⟩) = vE (fa ρ) (h := ⟨X, fun d ρ1 => vO (asB d) (h := ⟨fun b => K (.bl (!b)) ρ1⟩)⟩) := nr (wE_not fa)
theorem vE_eIf (fc : BD) (fa fb : ED) : vE (eIf fc fa fb ρ) (h := ⟨X, K⟩) = vE (fc ρ) (h := ⟨X, fun b ρ1 => vB b (h := ⟨vE (fa ρ1) (h := ⟨X, K⟩), vE (fb ρ1) (h := ⟨X, K⟩)⟩)⟩) := nr (wE_eIf fc fa fb)
theorem vE_move (i : Nat) : vE (eMove i ρ) (h := ⟨X, K⟩) = vO (ρ[i]?.join) (h := ⟨fun d => vV (ρ.set i none) (h := ⟨K d⟩)⟩) := nr (wE_move i)
theorem vE_aNil : vE (aNil ρ) (h := ⟨X, KA⟩) = KA [] ρ := nr (wE_aNil )
theorem vE_aVal (f : ED) (r : AVD) : vE (aVal f r ρ) (h := ⟨X, KA⟩) = vE (f ρ) (h := ⟨X, fun d ρ1 => vE (r ρ1) (h := ⟨X, fun ds ρ2 => KA (.val d :: ds) ρ2⟩)⟩) := nr (wE_aVal f r)
theorem vE_aOwn (i : Nat) (r : AVD) : vE (aOwn i r ρ) (h := ⟨X, KA⟩) = vO (ρ[i]?.join) (h := ⟨fun _ => vE (r ρ) (h := ⟨X, fun ds ρ2 => KA (.own i :: ds) ρ2⟩)⟩) := nr (wE_aOwn i r)
theorem vE_aApp (f g : AVD) : vE (aApp f g ρ) (h := ⟨X, KA⟩) = vE (f ρ) (h := ⟨X, fun as ρ1 => vE (g ρ1) (h := ⟨X, fun bs ρ2 => KA (as ++ bs) ρ2⟩)⟩) := nr (wE_aApp f g)
theorem vE_aPick (π : List Nat) (f : AVD) : vE (aPick π f ρ) (h := ⟨X, KA⟩) = vE (f ρ) (h := ⟨X, fun as ρ1 => vA (pick π as) (h := ⟨fun bs => KA bs ρ1⟩)⟩) := nr (wE_aPick π f)
theorem vE_call (f : FD) (as : AVD) : vE (eCall f as ρ) (h := ⟨X, K⟩) = vE (as ρ) (h := ⟨X, fun avs ρ1 => vO (fillA ρ1 avs) (h := ⟨fun ds => vF (f ds) (h := ⟨fun r ds' => vV (putA ρ1 avs ds') (h := ⟨K r⟩), fun e ds' => vV (putA ρ1 avs ds') (h := ⟨X e⟩)⟩)⟩)⟩) := nr (wE_call f as)
theorem vM_ok (cn : Str) (o : D) (ds : List D) (K : D → List D → Prop) (Z : Ex → List D → Prop) : vM cn (.ok .non (o :: ds)) (h := ⟨K, Z⟩) = K o ds := nr (wM_ok cn o ds K Z)
theorem vM_exc (cn : Str) (e : Ex) (o : D) (ds : List D) (K : D → List D → Prop) (Z : Ex → List D → Prop) : vM cn (.exc e (o :: ds)) (h := ⟨K, Z⟩) = Z e ds := nr (wM_exc cn e o ds K Z)
theorem vE_make (cn : Str) (f : FD) (as : AVD) : vE (eMake cn f as ρ) (h := ⟨X, K⟩) = vE (as ρ) (h := ⟨X, fun avs ρ1 => vO (fillA ρ1 avs) (h := ⟨fun ds => vM cn (f (.obj cn [] :: ds)) (h := ⟨fun r ds' => vV (putA ρ1 avs ds') (h := ⟨K r⟩), fun e ds' => vV (putA ρ1 avs ds') (h := ⟨X e⟩)⟩)⟩)⟩) := nr (wE_make cn f as)
theorem vE_callT (f : FD) (fo : ED) (as : AVD) : vE (eCallT f fo as ρ) (h := ⟨X, K⟩) = vE (fo ρ) (h := ⟨X, fun x ρ1 => vE (as ρ1) (h := ⟨X, fun avs ρ2 => vO (valsA avs) (h := ⟨fun ds => vF (f (x :: ds)) (h := ⟨fun r _ => K r ρ2, fun e _ => X e ρ2⟩)⟩)⟩)⟩) := nr (wE_callT f fo as)
theorem vE_CB (g : List D → Option D) (f : AVD) : vE (eCB g f ρ) (h := ⟨X, K⟩) = vE (f ρ) (h := ⟨X, fun avs ρ1 => vO (valsA avs) (h := ⟨fun ds => vO (g ds) (h := ⟨fun d => K d ρ1⟩)⟩)⟩) := nr (wE_CB g f)
theorem vE_CBO (g : List D → Option D) (f : AVD) : vE (eCBO g f ρ) (h := ⟨X, K⟩) = vE (f ρ) (h := ⟨X, fun avs ρ1 => vO (fillA ρ1 avs) (h := ⟨fun ds => vO (g ds) (h := ⟨fun d => K d ρ1⟩)⟩)⟩) := nr (wE_CBO g f)
theorem vE_qVal (f : ED) (KQ : SQ → Env → Prop) : vE (qVal f ρ) (h := ⟨X, KQ⟩) = vE (f ρ) (h := ⟨X, fun d ρ1 => vO (sqD d) (h := ⟨fun q => KQ q ρ1⟩)⟩) := nr (wE_qVal f KQ)
theorem vE_qOwn (i : Nat) (KQ : SQ → Env → Prop) : vE (qOwn i ρ) (h := ⟨X, KQ⟩) = vO (ρ[i]?.join) (h := ⟨fun d => vO (lstD d) (h := ⟨fun ds => KQ (.l ds) ρ⟩)⟩) := nr (wE_qOwn i KQ)
theorem vE_Q (g : SQ → Option D) (f : QD) : vE (eQ g f ρ) (h := ⟨X, K⟩) = vE (f ρ) (h := ⟨X, fun q ρ1 => vO (g q) (h := ⟨fun d => K d ρ1⟩)⟩) := nr (wE_Q g f)
theorem vE_QO (g : SQ → Option (List D)) (f : QD) : vE (eQO g f ρ) (h := ⟨X, K⟩) = vE (f ρ) (h := ⟨X, fun q ρ1 => vO (g q) (h := ⟨fun ds => K (.lst ds) ρ1⟩)⟩) := nr (wE_QO g f)
theorem vE_Tup (f : AVD) : vE (eTup f ρ) (h := ⟨X, K⟩) = vE (f ρ) (h := ⟨X, fun avs ρ1 => vO (valsA avs) (h := ⟨fun ds => vB (decide (ds.length ≤ sizeLine)) (h := ⟨K (.tup ds) ρ1, False⟩)⟩)⟩) := nr (wE_Tup f)
theorem vE_Lst (f : AVD) : vE (eLst f ρ) (h := ⟨X, K⟩) = vE (f ρ) (h := ⟨X, fun avs ρ1 => vO (valsA avs) (h := ⟨fun ds => vB (decide (ds.length ≤ sizeLine)) (h := ⟨K (.lst ds) ρ1, False⟩)⟩)⟩) := nr (wE_Lst f)
theorem vE_pNone (KP : Option Int → Env → Prop) : vE (pNone ρ) (h := ⟨X, KP⟩) = KP none ρ := nr (wE_pNone KP)
theorem vE_pSome (f : ED) (KP : Option Int → Env → Prop) : vE (pSome f ρ) (h := ⟨X, KP⟩) = vE (f ρ) (h := ⟨X, fun d ρ1 => vO (asI d) (h := ⟨fun i => KP (some i) ρ1⟩)⟩) := nr (wE_pSome f KP)
theorem vE_Sl (f : ED) (fl fh : PDn) : vE (eSl f fl fh ρ) (h := ⟨X, K⟩) = vE (f ρ) (h := ⟨X, fun d ρ1 => vE (fl ρ1) (h := ⟨X, fun lo ρ2 => vE (fh ρ2) (h := ⟨X, fun hi ρ3 => vO (dSl d lo hi) (h := ⟨fun d => K d ρ3⟩)⟩)⟩)⟩) := nr (wE_Sl f fl fh)
theorem vE_Mut (i : Nat) (g : Eff) (f : AVD) : vE (eMut i g f ρ) (h := ⟨X, K⟩) = vO (ρ[i]?.join) (h := ⟨fun d0 => vO (lstD d0) (h := ⟨fun _ => vE (f ρ) (h := ⟨X, fun avs ρ1 => vO (ρ1[i]?.join) (h := ⟨fun d1 => vO (lstD d1) (h := ⟨fun ds => vO (valsA avs) (h := ⟨fun es => vO (g ds es) (h := ⟨fun z => vV (ρ1.set i (some (.lst z.1))) (h := ⟨K z.2⟩)⟩)⟩)⟩)⟩)⟩)⟩)⟩) := nr (wE_Mut i g f)
theorem vE_IxO (i : Nat) (fk : ED) : vE (eIxO i fk ρ) (h := ⟨X, K⟩) = vO (ρ[i]?.join) (h := ⟨fun d0 => vO (lstD d0) (h := ⟨fun _ => vE (fk ρ) (h := ⟨X, fun k ρ1 => vO (ρ1[i]?.join) (h := ⟨fun d1 => vO (lstD d1) (h := ⟨fun ds => vO (dAt (.lst ds) k) (h := ⟨fun d => K d ρ1⟩)⟩)⟩)⟩)⟩)⟩) := nr (wE_IxO i fk)
theorem vE_Fld (cn f : Str) (fe : ED) : vE (eFld cn f fe ρ) (h := ⟨X, K⟩) = vE (fe ρ) (h := ⟨X, fun d ρ1 => vO (fldC cn f d) (h := ⟨fun d => K d ρ1⟩)⟩) := nr (wE_Fld cn f fe)
theorem vE_FldO (i : Nat) (cn f : Str) : vE (eFldO i cn f ρ) (h := ⟨X, K⟩) = vO (ρ[i]?.join) (h := ⟨fun d => vO (fldC cn f d) (h := ⟨fun d => K d ρ⟩)⟩) := nr (wE_FldO i cn f)
theorem vE_ListK (fa : ED) : vE (eListK fa ρ) (h := ⟨X, K⟩) = vE (fa ρ) (h := ⟨X, fun d ρ1 => vO (keysD d) (h := ⟨fun ds => K (.lst ds) ρ1⟩)⟩) := nr (wE_ListK fa)
theorem vE_NewD (kd : DKd) : vE (eNewD kd ρ) (h := ⟨X, K⟩) = K (d0 kd) ρ := nr (wE_NewD kd)
theorem vE_Lc (it : ID) (t : TD) (ifs : BD) (fe : ED) (vs : List Nat) : vE (eLc it t ifs fe vs ρ) (h := ⟨X, K⟩) = vE (it ρ) (h := ⟨X, fun ds ρ1 => vV (wipeE ρ1 vs) (h := ⟨fun ρ2 => vE (lcLoop t ifs fe vs ds [] ρ2) (h := ⟨X, fun acc ρ3 => vV (unwipe ρ1 vs ρ3) (h := ⟨K (.lst acc)⟩)⟩)⟩)⟩) := nr (wE_Lc it t ifs fe vs)
theorem vE_Lc2 (it : ID) (t : TD) (ifs : BD) (it1 : ID) (t1 : TD) (ifs1 : BD) (fe : ED) (vs vs1 : List Nat) : vE (eLc2 it t ifs it1 t1 ifs1 fe vs vs1 ρ) (h := ⟨X, K⟩) = vE (it ρ) (h := ⟨X, fun ds ρ1 => vV (wipeE ρ1 vs) (h := ⟨fun ρ2 => vE (lc2Loop t ifs it1 t1 ifs1 fe vs vs1 ds [] ρ2) (h := ⟨X, fun acc ρ3 => vV (unwipe ρ1 vs ρ3) (h := ⟨K (.lst acc)⟩)⟩)⟩)⟩) := nr (wE_Lc2 it t ifs it1 t1 ifs1 fe vs vs1)
theorem vE_Dc (kd : DKd) (it : ID) (t : TD) (ifs : BD) (fk fv : ED) (vs : List Nat) : vE (eDc kd it t ifs fk fv vs ρ) (h := ⟨X, K⟩) = vE (it ρ) (h := ⟨X, fun ds ρ1 => vV (wipeE ρ1 vs) (h := ⟨fun ρ2 => vE (dcLoop t ifs fk fv vs ds (d0 kd) ρ2) (h := ⟨X, fun acc ρ3 => vV (unwipe ρ1 vs ρ3) (h := ⟨K acc⟩)⟩)⟩)⟩) := nr (wE_Dc kd it t ifs fk fv vs)
theorem vE_oVal (f : ED) (KO : AV → Env → Prop) : vE (oVal f ρ) (h := ⟨X, KO⟩) = vE (f ρ) (h := ⟨X, fun d ρ1 => KO (.val d) ρ1⟩) := nr (wE_oVal f KO)
theorem vE_oOwn (i : Nat) (KO : AV → Env → Prop) : vE (oOwn i ρ) (h := ⟨X, KO⟩) = vO (ρ[i]?.join) (h := ⟨fun _ => KO (.own i) ρ⟩) := nr (wE_oOwn i KO)
theorem vE_BinO (g : D → D → Option D) (oa ob : OD) : vE (eBinO g oa ob ρ) (h := ⟨X, K⟩) = vE (oa ρ) (h := ⟨X, fun x ρ1 => vE (ob ρ1) (h := ⟨X, fun y ρ2 => vO (avD ρ2 x) (h := ⟨fun d => vO (avD ρ2 y) (h := ⟨fun e => vO (g d e) (h := ⟨fun d => K d ρ2⟩)⟩)⟩)⟩)⟩) := nr (wE_BinO g oa ob)
theorem vE_UnO (g : D → Option D) (oa : OD) : vE (eUnO g oa ρ) (h := ⟨X, K⟩) = vE (oa ρ) (h := ⟨X, fun x ρ1 => vO (avD ρ1 x) (h := ⟨fun d => vO (g d) (h := ⟨fun d => K d ρ1⟩)⟩)⟩) := nr (wE_UnO g oa)
theorem vE_bTruO (o : OD) : vE (bTruO o ρ) (h := ⟨X, KB⟩) = vE (o ρ) (h := ⟨X, fun x ρ1 => vO (avD ρ1 x) (h := ⟨fun d => vO (dTru d) (h := ⟨fun b => KB b ρ1⟩)⟩)⟩) := nr (wE_bTruO o)
theorem vE_iAny (fa : ED) : vE (iAnyD fa ρ) (h := ⟨X, KL⟩) = vE (fa ρ) (h := ⟨X, fun d ρ1 => vO (itemsR d) (h := ⟨fun ds => KL ds ρ1⟩)⟩) := nr (wE_iAny fa)
theorem vE_iD (fa : ED) : vE (iD fa ρ) (h := ⟨X, KL⟩) = vE (fa ρ) (h := ⟨X, fun d ρ1 => vO (itemsD d) (h := ⟨fun ds => KL ds ρ1⟩)⟩) := nr (wE_iD fa)
theorem vE_iRg1 (f : AVD) : vE (iRg1 f ρ) (h := ⟨X, KL⟩) = vE (f ρ) (h := ⟨X, fun avs ρ1 => vO (valsA avs) (h := ⟨fun ds => vO (rg1D ds) (h := ⟨fun r => KL r ρ1⟩)⟩)⟩) := nr (wE_iRg1 f)
theorem vE_iRg2 (f : AVD) : vE (iRg2 f ρ) (h := ⟨X, KL⟩) = vE (f ρ) (h := ⟨X, fun avs ρ1 => vO (valsA avs) (h := ⟨fun ds => vO (rg2D ds) (h := ⟨fun r => KL r ρ1⟩)⟩)⟩) := nr (wE_iRg2 f)
theorem vE_iEnA (f : AVD) : vE (iEnA f ρ) (h := ⟨X, KL⟩) = vE (f ρ) (h := ⟨X, fun avs ρ1 => vO (valsA avs) (h := ⟨fun ds => vO (enA ds) (h := ⟨fun r => KL r ρ1⟩)⟩)⟩) := nr (wE_iEnA f)
theorem vE_iZp (f : AVD) : vE (iZp f ρ) (h := ⟨X, KL⟩) = vE (f ρ) (h := ⟨X, fun avs ρ1 => vO (valsA avs) (h := ⟨fun ds => vO (zpA ds) (h := ⟨fun r => KL r ρ1⟩)⟩)⟩) := nr (wE_iZp f)
theorem vE_iPerm (f : ED) : vE (iPerm f ρ) (h := ⟨X, KL⟩) = vE (f ρ) (h := ⟨X, fun d ρ1 => vO (itemsR d) (h := ⟨fun ds => vO (prA ds) (h := ⟨fun r => KL r ρ1⟩)⟩)⟩) := nr (wE_iPerm f)
theorem vE_iComb (f g : ED) : vE (iComb f g ρ) (h := ⟨X, KL⟩) = vE (f ρ) (h := ⟨X, fun d ρ1 => vE (g ρ1) (h := ⟨X, fun e ρ2 => vO (itemsR d) (h := ⟨fun ds => vO (cbA ds e) (h := ⟨fun r => KL r ρ2⟩)⟩)⟩)⟩) := nr (wE_iComb f g)
theorem vS_nx : vS (sNx ρ) (h := E) = E.nx ρ := nr (wS_nx )
theorem vS_bk : vS (sBk ρ) (h := E) = E.bk ρ := nr (wS_bk )
theorem vS_ct : vS (sCt ρ) (h := E) = E.ct ρ := nr (wS_ct )
theorem vS_never : vS (sNever ρ) (h := E) = False := nr (wS_never )
theorem vS_thn (x : ER α) (k : α → Env → SR) : vS (x.thn k) (h := E) = vE x (h := ⟨E.exc, fun a ρ1 => vS (k a ρ1) (h := E)⟩) := nr (wS_thn x k)
theorem vS_expr (fe : ED) : vS (sExpr fe ρ) (h := E) = vE (fe ρ) (h := ⟨E.exc, fun _ ρ1 => E.nx ρ1⟩) := nr (wS_expr fe)
theorem vS_ret (fe : ED) : vS (sRet fe ρ) (h := E) = vE (fe ρ) (h := ⟨E.exc, fun d ρ1 => E.rt d ρ1⟩) := nr (wS_ret fe)
theorem vS_if (c : BD) (f g : SD) : vS (sIf c f g ρ) (h := E) = vE (c ρ) (h := ⟨E.exc, fun b ρ1 => vB b (h := ⟨vS (f ρ1) (h := E), vS (g ρ1) (h := E)⟩)⟩) := nr (wS_if c f g)
theorem vS_set (i : Nat) (fe : ED) : vS (sSet i fe ρ) (h := E) = vE (fe ρ) (h := ⟨E.exc, fun d ρ1 => vV (ρ1.set i (some d)) (h := ⟨E.nx⟩)⟩) := nr (wS_set i fe)
theorem vS_asg (fe : ED) (t : TD) : vS (sAsg fe t ρ) (h := E) = vE (fe ρ) (h := ⟨E.exc, fun d ρ1 => vO (t d ρ1) (h := ⟨fun ρ2 => vV ρ2 (h := ⟨E.nx⟩)⟩)⟩) := nr (wS_asg fe t)
theorem vS_for (it : ID) (t : TD) (b : SD) : vS (sFor it t b ρ) (h := E) = vE (it ρ) (h := ⟨E.exc, fun ds ρ1 => vS (sLoop t b ds ρ1) (h := E)⟩) := nr (wS_for it t b)
theorem vS_put (i : Nat) (fe fk : ED) : vS (sPut i fe fk ρ) (h := E) = vE (fe ρ) (h := ⟨E.exc, fun d ρ1 => vO (ρ1[i]?.join) (h := ⟨fun d0 => vO (lstD d0) (h := ⟨fun _ => vE (fk ρ1) (h := ⟨E.exc, fun k ρ2 => vO (ρ2[i]?.join) (h := ⟨fun d1 => vO (lstD d1) (h := ⟨fun ds => vO (asI k) (h := ⟨fun z => vO (L2.ixN ds.length z) (h := ⟨fun j => vV (ρ2.set i (some (.lst (ds.set j d)))) (h := ⟨E.nx⟩)⟩)⟩)⟩)⟩)⟩)⟩)⟩)⟩) := nr (wS_put i fe fk)
theorem vS_fldPut (i : Nat) (cn f : Str) (fe : ED) : vS (sFldPut i cn f fe ρ) (h := E) = vE (fe ρ) (h := ⟨E.exc, fun d ρ1 => vO (ρ1[i]?.join) (h := ⟨fun o => vO (putC cn f d o) (h := ⟨fun o' => vV (ρ1.set i (some o')) (h := ⟨E.nx⟩)⟩)⟩)⟩) := nr (wS_fldPut i cn f fe)
theorem vS_putD (i : Nat) (fe fk : ED) : vS (sPutD i fe fk ρ) (h := E) = vE (fe ρ) (h := ⟨E.exc, fun d ρ1 => vO (ρ1[i]?.join) (h := ⟨fun o => vO (dctD o) (h := ⟨fun _ => vE (fk ρ1) (h := ⟨E.exc, fun k ρ2 => vO (ρ2[i]?.join) (h := ⟨fun o => vO (dPutD o k d) (h := ⟨fun o' => vV (ρ2.set i (some o')) (h := ⟨E.nx⟩)⟩)⟩)⟩)⟩)⟩)⟩) := nr (wS_putD i fe fk)
end
end Dn

/-! Wz: the rest of the rules, the continuation as an instance argument. -/
namespace Dn
open PySem
section
variable {α β : Type} {X : Ex → Env → Prop} {ρ : Env} {E : En} {P Q : Prop} {K : D → Env → Prop} {KL : List D → Env → Prop}
theorem vS_seq (f g : SD) : vS (sSeq f g ρ) (h := E) = vS (f ρ) (h := ⟨fun ρ1 => vS (g ρ1) (h := E), E.rt, E.exc, E.bk, E.ct⟩) := nr (wS_seq f g)
theorem vF_run (nN : Nat) (pml : List Mode) (mr : Mode) (b : SD) (ds : List D) (KF : D → List D → Prop) (ZF : Ex → List D → Prop) : vF (runB nN pml mr b ds) (h := ⟨KF, ZF⟩) = vV (ds.map some ++ List.replicate (nN - ds.length) none) (h := ⟨fun ρ => vS (b ρ)
    (h := ⟨fun ρ1 => vB (decide (mr = .frz)) (h := ⟨vO (outs pml ds ρ1) (h := ⟨fun ds' => KF .non ds'⟩), False⟩), fun r ρ1 => vO (outs pml ds ρ1) (h := ⟨fun ds' => KF r ds'⟩), fun e ρ1 => vO (outs pml ds ρ1) (h := ⟨fun ds' => ZF e ds'⟩), fun _ => False, fun _ => False⟩)⟩) := nr (wF_run nN pml mr b ds KF ZF)
theorem vF_ex {x : FR} {K : D → List D → Prop} (h : vF x (h := ⟨K, fun _ _ => False⟩)) : ∃ r ds, x = .ok r ds ∧ K r ds := wF_ex h
theorem vF_of {x : FR} {K K' : D → List D → Prop} {Z Z' : Ex → List D → Prop} (h : vF x (h := ⟨K, Z⟩)) (hk : ∀ r ds, K r ds → K' r ds) (hz : ∀ e ds, Z e ds → Z' e ds) : vF x (h := ⟨K', Z'⟩) := wF_of h hk hz
/-- with no exception -/
theorem vF_use {x : FR} {K K' : D → List D → Prop} {Z' : Ex → List D → Prop} (h : vF x (h := ⟨K, fun _ _ => False⟩)) (hk : ∀ r ds, K r ds → K' r ds) : vF x (h := ⟨K', Z'⟩) := wF_of h hk fun _ _ h => h.elim
theorem vF_okI {x : FR} {K' : D → List D → Prop} {Z' : Ex → List D → Prop} {r : D} {ds : List D} (h : x = .ok r ds) (hk : K' r ds) : vF x (h := ⟨K', Z'⟩) := by rw [h]; exact hk
theorem vE_mono {x : ER α} {K K' : α → Env → Prop} (h : vE x (h := ⟨X, K⟩)) (hk : ∀ a ρ, K a ρ → K' a ρ) : vE x (h := ⟨X, K'⟩) := wE_mono h hk
theorem vE_of {x : ER α} {K : α → Env → Prop} {a : α} {ρ1 : Env} (h : x = .ok a ρ1) (hk : K a ρ1) : vE x (h := ⟨X, K⟩) := wE_of h hk
theorem vO_ex {o : Option α} {K : α → Prop} {a : α} (h : o = some a) (hk : K a) : vO o (h := ⟨K⟩) := by rw [h]; exact hk
/-- split at a test -/
theorem vB_if {p : Prop} [Decidable p] {P Q : Prop} (h1 : p → P) (h2 : ¬ p → Q) : vB (decide p) (h := ⟨P, Q⟩) := vB_dec h1 h2
theorem vS_loop {t : TD} {b : SD} {enc : α → D} {xs : List α} (I : List α → Env → Prop) (h0 : I [] ρ)
    (hs : ∀ pre x post ρ, xs = pre ++ x :: post → I pre ρ → vO (t (enc x) ρ) (h := ⟨fun ρ1 => vV ρ1 (h := ⟨fun ρ1 => vS (b ρ1) (h := ⟨I (pre ++ [x]), E.rt, E.exc, E.nx, I (pre ++ [x])⟩)⟩)⟩))
    (he : ∀ ρ, I xs ρ → E.nx ρ) : vS (sLoop t b (xs.map enc) ρ) (h := E) := wS_loop I h0 hs he
theorem vS_range {t : TD} {b : SD} {n : Nat} (I : Nat → Env → Prop) (h0 : I 0 ρ)
    (hs : ∀ j ρ, j < n → I j ρ → vO (t (nD j) ρ) (h := ⟨fun ρ1 => vV ρ1 (h := ⟨fun ρ1 => vS (b ρ1) (h := ⟨I (j + 1), E.rt, E.exc, E.nx, I (j + 1)⟩)⟩)⟩))
    (he : ∀ ρ, I n ρ → E.nx ρ) : vS (sLoop t b ((List.range n).map nD) ρ) (h := E) := wS_range I h0 hs he
theorem vS_fold {S : Type} {t : TD} {b : SD} {enc : α → D} {xs : List α} (f : S → α → S) (s0 : S) (R : S → Env → Prop) (h0 : R s0 ρ)
    (hs : ∀ pre x post ρ, xs = pre ++ x :: post → R (pre.foldl f s0) ρ → vO (t (enc x) ρ) (h := ⟨fun ρ1 => vV ρ1 (h := ⟨fun ρ1 => vS (b ρ1) (h := ⟨R (f (pre.foldl f s0) x), E.rt, E.exc, E.nx, R (f (pre.foldl f s0) x)⟩)⟩)⟩))
    (he : ∀ ρ, R (xs.foldl f s0) ρ → E.nx ρ) : vS (sLoop t b (xs.map enc) ρ) (h := E) := wS_fold f s0 R h0 hs he
/-- a loop in which a turn does nothing, or returns -/
theorem vS_all {t : TD} {b : SD} {enc : α → D} {xs : List α} (I : Env → Prop) (h0 : I ρ)
    (hs : ∀ x ρ, x ∈ xs → I ρ → vO (t (enc x) ρ) (h := ⟨fun ρ1 => vV ρ1 (h := ⟨fun ρ1 => vS (b ρ1) (h := ⟨I, E.rt, E.exc, E.nx, I⟩)⟩)⟩))
    (he : ∀ ρ, I ρ → E.nx ρ) : vS (sLoop t b (xs.map enc) ρ) (h := E) := wS_loop (fun _ => I) h0 (fun pre x post ρ e h => hs x ρ (by rw [e]; simp) h) he
theorem vE_lc {t : TD} {ifs : BD} {fe : ED} {vs : List Nat} {enc : α → D} {xs : List α} {acc0 : List D} (I : List α → List D → Env → Prop) (hl : acc0.length + xs.length < 1000000) (h0 : I [] acc0 ρ)
    (hs : ∀ pre x post acc ρ, xs = pre ++ x :: post → I pre acc ρ → vO (t (enc x) ρ) (h := ⟨fun ρ1 => vV ρ1 (h := ⟨fun ρ1 => vE (ifs ρ1) (h := ⟨fun _ _ => False, fun b ρ2 => vB b (h := ⟨vE (fe ρ2) (h := ⟨fun _ _ => False, fun d ρ3 => vV (wipeE ρ3 vs) (h := ⟨fun ρ4 => I (pre ++ [x]) (acc ++ [d]) ρ4⟩)⟩), vV (wipeE ρ2 vs) (h := ⟨fun ρ4 => I (pre ++ [x]) acc ρ4⟩)⟩)⟩)⟩)⟩))
    {KL : List D → Env → Prop} (he : ∀ acc ρ, I xs acc ρ → KL acc ρ) : vE (lcLoop t ifs fe vs (xs.map enc) acc0 ρ) (h := ⟨X, KL⟩) := wE_lc I hl h0 hs he
theorem bYes_v (K : Bool → Env → Prop) : vE (bYes ρ) (h := ⟨X, K⟩) = K true ρ := nr rfl
/-- draws: the j-th item over range(n), the names change -/
theorem vE_lcr {t : TD} {fe : ED} {vs : List Nat} {n : Nat} (I : Nat → List D → Env → Prop) (hl : n < 1000000) (h0 : I 0 [] ρ)
    (hs : ∀ j acc ρ, j < n → I j acc ρ → vO (t (nD j) ρ) (h := ⟨fun ρ1 => vV ρ1 (h := ⟨fun ρ1 => vE (fe ρ1) (h := ⟨fun _ _ => False, fun d ρ3 => vV (wipeE ρ3 vs) (h := ⟨fun ρ4 => I (j + 1) (acc ++ [d]) ρ4⟩)⟩)⟩)⟩))
    {KL : List D → Env → Prop} (he : ∀ acc ρ, I n acc ρ → KL acc ρ) : vE (lcLoop t bYes fe vs ((List.range n).map nD) [] ρ) (h := ⟨X, KL⟩) := by
  refine vE_lc (enc := nD) (xs := List.range n) (fun pre acc ρ => I pre.length acc ρ) (by simpa using hl) h0 ?_ (by intro acc ρ h; rw [List.length_range] at h; exact he acc ρ h)
  intro pre x post acc ρ e h
  have hl : pre.length < n := by have := congrArg List.length e; simp at this; omega
  have hx : x = pre.length := by
    have h1 : (List.range n)[pre.length]? = some x := by rw [e]; simp
    rw [List.getElem?_range hl] at h1
    injection h1 with h1; exact h1.symm
  subst hx
  have := hs pre.length acc ρ hl h
  have e2 : (pre ++ [pre.length]).length = pre.length + 1 := by simp
  rw [e2]
  exact this
theorem vE_lcm {t : TD} {fe : ED} {vs : List Nat} {enc : α → D} {xs : List α} (g : α → D) {KL : List D → Env → Prop} (hl : xs.length < 1000000)
    (hs : ∀ x ∈ xs, vO (t (enc x) ρ) (h := ⟨fun ρ1 => vV ρ1 (h := ⟨fun ρ1 => vE (fe ρ1) (h := ⟨fun _ _ => False, fun d ρ3 => vV (wipeE ρ3 vs) (h := ⟨fun ρ4 => d = g x ∧ ρ4 = ρ⟩)⟩)⟩)⟩)) (he : KL (xs.map g) ρ) : vE (lcLoop t bYes fe vs (xs.map enc) [] ρ) (h := ⟨X, KL⟩) := wE_lcm g hl hs he
theorem vE_lcf {t : TD} {ifs : BD} {fe : ED} {vs : List Nat} {enc : α → D} {xs : List α} (c : α → Bool) (g : α → D) {KL : List D → Env → Prop} (hl : xs.length < 1000000)
    (hs : ∀ x ∈ xs, vO (t (enc x) ρ) (h := ⟨fun ρ1 => vV ρ1 (h := ⟨fun ρ1 => vE (ifs ρ1) (h := ⟨fun _ _ => False, fun b ρ2 => b = c x ∧ vB b (h := ⟨vE (fe ρ2) (h := ⟨fun _ _ => False, fun d ρ3 => vV (wipeE ρ3 vs) (h := ⟨fun ρ4 => d = g x ∧ ρ4 = ρ⟩)⟩), vV (wipeE ρ2 vs) (h := ⟨fun ρ4 => ρ4 = ρ⟩)⟩)⟩)⟩)⟩)) (he : KL ((xs.filter c).map g) ρ) : vE (lcLoop t ifs fe vs (xs.map enc) [] ρ) (h := ⟨X, KL⟩) := wE_lcf c g hl hs he
/-- the same, behind what has been kept -/
theorem vE_lcfA {t : TD} {ifs : BD} {fe : ED} {vs : List Nat} {enc : α → D} {xs : List α} {acc0 : List D} (c : α → Bool) (g : α → D) {KL : List D → Env → Prop} (hl : acc0.length + xs.length < 1000000)
    (hs : ∀ x ∈ xs, vO (t (enc x) ρ) (h := ⟨fun ρ1 => vV ρ1 (h := ⟨fun ρ1 => vE (ifs ρ1) (h := ⟨fun _ _ => False, fun b ρ2 => b = c x ∧ vB b (h := ⟨vE (fe ρ2) (h := ⟨fun _ _ => False, fun d ρ3 => vV (wipeE ρ3 vs) (h := ⟨fun ρ4 => d = g x ∧ ρ4 = ρ⟩)⟩), vV (wipeE ρ2 vs) (h := ⟨fun ρ4 => ρ4 = ρ⟩)⟩)⟩)⟩)⟩)) (he : KL (acc0 ++ (xs.filter c).map g) ρ) : vE (lcLoop t ifs fe vs (xs.map enc) acc0 ρ) (h := ⟨X, KL⟩) := by
  refine wE_lc (fun pre acc ρ' => acc = acc0 ++ (pre.filter c).map g ∧ ρ' = ρ) hl ⟨by simp, rfl⟩ ?_ (by rintro acc ρ' ⟨rfl, rfl⟩; exact he)
  rintro pre x post acc ρ' e ⟨rfl, rfl⟩
  have := hs x (by rw [e]; simp)
  cases ht : t (enc x) ρ' with
  | none => rw [ht] at this; exact this
  | some ρ1 =>
    rw [ht] at this
    refine wE_mono (show wE (ifs ρ1) _ _ from this) ?_
    rintro b ρ2 ⟨rfl, h⟩
    cases hc : c x with
    | true =>
      rw [hc] at h
      refine wE_mono (show wE (fe ρ2) _ _ from h) ?_
      rintro d ρ3 ⟨rfl, h⟩
      exact ⟨by simp [hc], h⟩
    | false =>
      rw [hc] at h
      exact ⟨by simp [hc], h⟩
/-- two clauses -/
theorem vE_lc2 {t t1 : TD} {ifs ifs1 : BD} {it1 : ID} {fe : ED} {vs vs1 : List Nat} {enc : α → D} {xs : List α} {acc0 : List D} (I : List α → List D → Env → Prop) (h0 : I [] acc0 ρ)
    (hs : ∀ pre x post acc ρ, xs = pre ++ x :: post → I pre acc ρ → vO (t (enc x) ρ) (h := ⟨fun ρ1 => vV ρ1 (h := ⟨fun ρ1 => vE (ifs ρ1) (h := ⟨fun _ _ => False, fun b ρ2 => vB b (h := ⟨vE (it1 ρ2) (h := ⟨fun _ _ => False, fun es ρ3 => vV (wipeE ρ3 vs1) (h := ⟨fun ρ4 => vE (lcLoop t1 ifs1 fe vs1 es acc ρ4) (h := ⟨fun _ _ => False, fun acc' ρ5 => vV (wipeE ρ5 vs) (h := ⟨fun ρ6 => I (pre ++ [x]) acc' ρ6⟩)⟩)⟩)⟩), vV (wipeE ρ2 vs) (h := ⟨fun ρ4 => I (pre ++ [x]) acc ρ4⟩)⟩)⟩)⟩)⟩))
    {KL : List D → Env → Prop} (he : ∀ acc ρ, I xs acc ρ → KL acc ρ) : vE (lc2Loop t ifs it1 t1 ifs1 fe vs vs1 (xs.map enc) acc0 ρ) (h := ⟨X, KL⟩) := by
  have key : ∀ (post pre : List α) (acc : List D) (ρ : Env), xs = pre ++ post → I pre acc ρ → wE (lc2Loop t ifs it1 t1 ifs1 fe vs vs1 (post.map enc) acc ρ) X KL := by
    intro post
    induction post with
    | nil => intro pre acc ρ e h; rw [List.append_nil] at e; subst e; exact he _ _ h
    | cons x post ih =>
      intro pre acc ρ e h
      have := hs pre x post acc ρ e h
      rw [List.map_cons, lc2Loop]
      cases ht : t (enc x) ρ with
      | none => rw [ht] at this; exact this.elim
      | some ρ1 =>
        rw [ht] at this
        have this : wE (ifs ρ1) _ _ := this
        dsimp only
        rw [wE_bind, wE_nox]
        refine wE_mono this ?_
        intro b ρ2 hb
        cases b with
        | true =>
          rw [if_pos rfl, wE_bind, wE_nox]
          refine wE_mono (show wE (it1 ρ2) _ _ from hb) ?_
          intro es ρ3 hd
          rw [wE_bind]
          have hd : wE (lcLoop t1 ifs1 fe vs1 es acc (wipeE ρ3 vs1)) _ _ := hd
          cases hq : lcLoop t1 ifs1 fe vs1 es acc (wipeE ρ3 vs1) with
          | ok acc' ρ5 => rw [hq] at hd; exact ih (pre ++ [x]) acc' _ (by rw [e]; simp) hd
          | exc _ _ => rw [hq] at hd; exact hd.elim
          | bad => rw [hq] at hd; exact hd.elim
        | false =>
          rw [if_neg (by simp)]
          exact ih (pre ++ [x]) acc _ (by rw [e]; simp) hb
  exact key xs [] acc0 ρ rfl h0
/-- a dict's comprehension -/
theorem vE_dc {t : TD} {ifs : BD} {fk fv : ED} {vs : List Nat} {enc : α → D} {xs : List α} {acc0 : D} (I : List α → D → Env → Prop) (h0 : I [] acc0 ρ)
    (hs : ∀ pre x post acc ρ, xs = pre ++ x :: post → I pre acc ρ → vO (t (enc x) ρ) (h := ⟨fun ρ1 => vV ρ1 (h := ⟨fun ρ1 => vE (ifs ρ1) (h := ⟨fun _ _ => False, fun b ρ2 => vB b (h := ⟨vE (fk ρ2) (h := ⟨fun _ _ => False, fun k ρ3 => vE (fv ρ3) (h := ⟨fun _ _ => False, fun y ρ4 => vO (dPutD acc k y) (h := ⟨fun acc' => vV (wipeE ρ4 vs) (h := ⟨fun ρ5 => I (pre ++ [x]) acc' ρ5⟩)⟩)⟩)⟩), vV (wipeE ρ2 vs) (h := ⟨fun ρ4 => I (pre ++ [x]) acc ρ4⟩)⟩)⟩)⟩)⟩))
    {KL : D → Env → Prop} (he : ∀ acc ρ, I xs acc ρ → KL acc ρ) : vE (dcLoop t ifs fk fv vs (xs.map enc) acc0 ρ) (h := ⟨X, KL⟩) := by
  have key : ∀ (post pre : List α) (acc : D) (ρ : Env), xs = pre ++ post → I pre acc ρ → wE (dcLoop t ifs fk fv vs (post.map enc) acc ρ) X KL := by
    intro post
    induction post with
    | nil => intro pre acc ρ e h; rw [List.append_nil] at e; subst e; exact he _ _ h
    | cons x post ih =>
      intro pre acc ρ e h
      have := hs pre x post acc ρ e h
      rw [List.map_cons, dcLoop]
      cases ht : t (enc x) ρ with
      | none => rw [ht] at this; exact this.elim
      | some ρ1 =>
        rw [ht] at this
        have this : wE (ifs ρ1) _ _ := this
        dsimp only
        rw [wE_bind, wE_nox]
        refine wE_mono this ?_
        intro b ρ2 hb
        cases b with
        | true =>
          rw [if_pos rfl, wE_bind, wE_nox]
          refine wE_mono (show wE (fk ρ2) _ _ from hb) ?_
          intro k ρ3 hk
          rw [wE_bind, wE_nox]
          refine wE_mono (show wE (fv ρ3) _ _ from hk) ?_
          intro y ρ4 hy
          have hy : wO (dPutD acc k y) _ := hy
          cases hq : dPutD acc k y with
          | none => rw [hq] at hy; exact hy.elim
          | some acc' => rw [hq] at hy; exact ih (pre ++ [x]) acc' _ (by rw [e]; simp) hy
        | false =>
          rw [if_neg (by simp)]
          exact ih (pre ++ [x]) acc _ (by rw [e]; simp) hb
  exact key xs [] acc0 ρ rfl h0
theorem vS_ice (i : Nat) (g : SD) : vS (sIce i g ρ) (h := E) = vS (g ρ) (h := ⟨fun ρ1 => vV (ρ1.set i none) (h := ⟨E.nx⟩), fun d ρ1 => vV (ρ1.set i none) (h := ⟨E.rt d⟩), fun e ρ1 => vV (ρ1.set i none) (h := ⟨E.exc e⟩), fun ρ1 => vV (ρ1.set i none) (h := ⟨E.bk⟩), fun ρ1 => vV (ρ1.set i none) (h := ⟨E.ct⟩)⟩) := by
  unfold sIce; cases g ρ <;> rfl
/-- a loop that searches: a turn goes on, or returns what f says -/
theorem vS_find {t : TD} {b : SD} {enc : α → D} {xs : List α} (f : α → Option D) (I : Env → Prop) (h0 : I ρ)
    (hs : ∀ x ∈ xs, ∀ ρ, I ρ → vO (t (enc x) ρ) (h := ⟨fun ρ1 => vV ρ1 (h := ⟨fun ρ1 => vS (b ρ1) (h := ⟨fun ρ => f x = none ∧ I ρ, fun d ρ => f x = some d ∧ I ρ, fun _ _ => False, fun _ => False, fun ρ => f x = none ∧ I ρ⟩)⟩)⟩))
    (hn : ∀ ρ, xs.findSome? f = none → I ρ → E.nx ρ) (hr : ∀ d ρ, xs.findSome? f = some d → I ρ → E.rt d ρ) : vS (sLoop t b (xs.map enc) ρ) (h := E) := by
  show wS _ E
  revert hn hr
  induction xs generalizing ρ with
  | nil => intro hn _; exact hn ρ rfl h0
  | cons x xs ih =>
    intro hn hr
    have := hs x (by simp) ρ h0
    rw [List.map_cons, sLoop]
    cases ht : t (enc x) ρ with
    | none => rw [ht] at this; exact this.elim
    | some ρ1 =>
      rw [ht] at this
      have this : wS (b ρ1) _ := this
      dsimp only
      have next : ∀ ρ2, f x = none ∧ I ρ2 → wS (sLoop t b (xs.map enc) ρ2) E := fun ρ2 ⟨h1, h2⟩ => by
        refine ih h2 (fun y hy => hs y (by simp [hy])) (fun ρ e => hn ρ ?_) (fun d ρ e => hr d ρ ?_)
        · rw [List.findSome?_cons, h1]; exact e
        · rw [List.findSome?_cons, h1]; exact e
      cases hb : b ρ1 with
      | nx ρ2 => rw [hb] at this; exact next ρ2 this
      | ct ρ2 => rw [hb] at this; exact next ρ2 this
      | rt d ρ2 =>
        rw [hb] at this
        obtain ⟨h1, h2⟩ := this
        exact hr d ρ2 (by rw [List.findSome?_cons, h1]) h2
      | bk ρ2 => rw [hb] at this; exact this.elim
      | exc d ρ2 => rw [hb] at this; exact this.elim
      | bad => rw [hb] at this; exact this.elim
/-- over a lent list -/
theorem vS_forIo (i : Nat) (t : TD) (b : SD) : vS (sForIo i t b ρ) (h := E) = vO (ρ[i]?.join) (h := ⟨fun d => vO (lstD d) (h := ⟨fun ds => vS (sLoopIo i ds.length t b ds.length ρ) (h := E)⟩)⟩) := by
  unfold sForIo
  cases ρ[i]?.join with
  | none => rfl
  | some d => cases d <;> rfl
theorem vS_loopIo {i m r : Nat} {t : TD} {b : SD} {enc : α → D} {xs : List α} (I : List α → Env → Prop) (hm : m = xs.length) (hr : r = xs.length) (hI : ∀ pre ρ, I pre ρ → ρ[i]?.join = some (.lst (xs.map enc))) (h0 : I [] ρ)
    (hs : ∀ pre x post ρ, xs = pre ++ x :: post → I pre ρ → vO (t (enc x) ρ) (h := ⟨fun ρ1 => vV ρ1 (h := ⟨fun ρ1 => vS (b ρ1) (h := ⟨I (pre ++ [x]), E.rt, E.exc, E.nx, I (pre ++ [x])⟩)⟩)⟩))
    (he : ∀ ρ, I xs ρ → E.nx ρ) : vS (sLoopIo i m t b r ρ) (h := E) := by
  subst hm hr
  have key : ∀ (post pre : List α) (ρ : Env), xs = pre ++ post → I pre ρ → wS (sLoopIo i xs.length t b post.length ρ) E := by
    intro post
    induction post with
    | nil =>
      intro pre ρ e h
      rw [List.append_nil] at e; subst e
      have hi := hI _ _ h
      rw [List.length_nil, sLoopIo, hi]
      simp only [List.length_map, if_true]
      exact he _ h
    | cons x post ih =>
      intro pre ρ e h
      have hi := hI _ _ h
      have := hs pre x post ρ e h
      have hx : (xs.map enc)[xs.length - (post.length + 1)]? = some (enc x) := by
        have hl : xs.length - (post.length + 1) = pre.length := by rw [e]; simp
        rw [hl, List.getElem?_map, e]; simp
      rw [List.length_cons, sLoopIo, hi]
      simp only [List.length_map, if_true, hx]
      cases ht : t (enc x) ρ with
      | none => rw [ht] at this; exact this.elim
      | some ρ1 =>
        rw [ht] at this
        have this : wS (b ρ1) _ := this
        dsimp only
        cases hb : b ρ1 with
        | nx ρ2 => rw [hb] at this; exact ih (pre ++ [x]) ρ2 (by rw [e]; simp) this
        | ct ρ2 => rw [hb] at this; exact ih (pre ++ [x]) ρ2 (by rw [e]; simp) this
        | bk ρ2 => rw [hb] at this; exact this
        | rt d ρ2 => rw [hb] at this; exact this
        | exc d ρ2 => rw [hb] at this; exact this
        | bad => rw [hb] at this; exact this
  exact key xs [] ρ rfl h0
end
end Dn

/-! Wd: rules on typed data. -/
namespace Dn
open PySem
/-! ### casts -/
theorem cAdd (a b : Nat) : (a : Int) + (b : Int) = ((a + b : Nat) : Int) := (Int.natCast_add a b).symm
theorem cMul (a b : Nat) : (a : Int) * (b : Int) = ((a * b : Nat) : Int) := (Int.natCast_mul a b).symm
theorem cAdd1 (a : Nat) : (a : Int) + 1 = ((a + 1 : Nat) : Int) := nr rfl
theorem cAdd2 (a : Nat) : (a : Int) + 2 = ((a + 2 : Nat) : Int) := nr rfl
theorem cAdd3 (a : Nat) : (a : Int) + 3 = ((a + 3 : Nat) : Int) := nr rfl
theorem c1Add (a : Nat) : 1 + (a : Int) = ((1 + a : Nat) : Int) := by omega
theorem c2Add (a : Nat) : 2 + (a : Int) = ((2 + a : Nat) : Int) := by omega
theorem c3Add (a : Nat) : 3 + (a : Int) = ((3 + a : Nat) : Int) := by omega
theorem cSub {a b : Nat} (h : b ≤ a) : (a : Int) - (b : Int) = ((a - b : Nat) : Int) := by omega
theorem cSub1 {a : Nat} (h : 1 ≤ a) : (a : Int) - 1 = ((a - 1 : Nat) : Int) := by omega
theorem cMod (a b : Nat) : (a : Int) % (b : Int) = ((a % b : Nat) : Int) := nr rfl
theorem cDiv (a b : Nat) : (a : Int) / (b : Int) = ((a / b : Nat) : Int) := nr rfl
theorem cMod2l (a : Nat) : (a : Int) % 2 = ((a % 2 : Nat) : Int) := nr rfl
theorem cDiv2l (a : Nat) : (a : Int) / 2 = ((a / 2 : Nat) : Int) := nr rfl
theorem cMul2l (a : Nat) : 2 * (a : Int) = ((2 * a : Nat) : Int) := by omega
theorem cMul2r (a : Nat) : (a : Int) * 2 = ((a * 2 : Nat) : Int) := by omega
theorem cMod3l (a : Nat) : (a : Int) % 3 = ((a % 3 : Nat) : Int) := nr rfl
theorem cDiv3l (a : Nat) : (a : Int) / 3 = ((a / 3 : Nat) : Int) := nr rfl
theorem cMul3l (a : Nat) : 3 * (a : Int) = ((3 * a : Nat) : Int) := by omega
theorem cMul3r (a : Nat) : (a : Int) * 3 = ((a * 3 : Nat) : Int) := by omega
theorem cMod4l (a : Nat) : (a : Int) % 4 = ((a % 4 : Nat) : Int) := nr rfl
theorem cDiv4l (a : Nat) : (a : Int) / 4 = ((a / 4 : Nat) : Int) := nr rfl
theorem cMul4l (a : Nat) : 4 * (a : Int) = ((4 * a : Nat) : Int) := by omega
theorem cMul4r (a : Nat) : (a : Int) * 4 = ((a * 4 : Nat) : Int) := by omega
theorem cMod5l (a : Nat) : (a : Int) % 5 = ((a % 5 : Nat) : Int) := nr rfl
theorem cDiv5l (a : Nat) : (a : Int) / 5 = ((a / 5 : Nat) : Int) := nr rfl
theorem cMul5l (a : Nat) : 5 * (a : Int) = ((5 * a : Nat) : Int) := by omega
theorem cMul5r (a : Nat) : (a : Int) * 5 = ((a * 5 : Nat) : Int) := by omega
theorem cMod6l (a : Nat) : (a : Int) % 6 = ((a % 6 : Nat) : Int) := nr rfl
theorem cDiv6l (a : Nat) : (a : Int) / 6 = ((a / 6 : Nat) : Int) := nr rfl
theorem cMul6l (a : Nat) : 6 * (a : Int) = ((6 * a : Nat) : Int) := by omega
theorem cMul6r (a : Nat) : (a : Int) * 6 = ((a * 6 : Nat) : Int) := by omega
/-! ### sizes -/
theorem zL {n : Nat} (h : n ≤ 1000000) : n ≤ sizeLine := Nat.le_trans h (by decide)
theorem zS {n : Nat} (h : n < 1000000) : n < sizeLine := Nat.lt_of_lt_of_le h (by decide)
theorem if_zL {α : Type} {n : Nat} {a b : α} (h : n ≤ 1000000) : (if n ≤ sizeLine then a else b) = a := if_pos (zL h)
theorem if_zS {α : Type} {n : Nat} {a b : α} (h : n < 1000000) : (if n < sizeLine then a else b) = a := if_pos (zS h)
theorem vB_zL {n : Nat} {P Q : Prop} (h : n ≤ 1000000) : vB (decide (n ≤ sizeLine)) (h := ⟨P, Q⟩) = P := vB_pos (zL h)
/-! ### tests -/
theorem dTru_bl (b : Bool) : dTru (.bl b) = some b := nr rfl
theorem dTru_int (i : Int) : dTru (.int i) = some (decide (i ≠ 0)) := by
  show some (i != 0) = _
  congr 1
  by_cases h : i = 0 <;> simp [h]
theorem dTru_tup (ds : List D) : dTru (.tup ds) = some (decide (ds ≠ [])) := by cases ds <;> rfl
theorem dTru_lst (ds : List D) : dTru (.lst ds) = some (decide (ds ≠ [])) := by cases ds <;> rfl
theorem dTru_non : dTru .non = some false := nr rfl
theorem isNon_non : isNon .non = true := nr rfl
theorem isNon_tup (ds : List D) : isNon (.tup ds) = false := nr rfl
theorem isNon_int (i : Int) : isNon (.int i) = false := nr rfl
theorem isNon_lst (ds : List D) : isNon (.lst ds) = false := nr rfl
theorem dIs_non (d : D) : dIs d .non = some (.bl (isNon d)) := nr rfl
theorem dIsNot_non (d : D) : dIsNot d .non = some (.bl (!isNon d)) := nr rfl
theorem dEq_ii (a b : Int) : dEq (.int a) (.int b) = some (.bl (decide (a = b))) := dEq_int a b
theorem dNe_ii (a b : Int) : dNe (.int a) (.int b) = some (.bl (decide (a ≠ b))) := by rw [dNe_int]; simp
theorem mapN (l : List Nat) : l.map nD = (l.map fun (n : Nat) => (n : Int)).map D.int := by rw [List.map_map]; rfl
theorem nT_iT (l : List Nat) : nT l = iT (l.map fun (n : Nat) => (n : Int)) := by unfold nT iT; rw [mapN]
theorem castInj {a b : List Nat} : (a.map fun (n : Nat) => (n : Int)) = (b.map fun (n : Nat) => (n : Int)) ↔ a = b := List.map_inj_right fun x y e => by omega
theorem pcD_pT (p : List (List Nat)) : pcD p = pT (p.map fun l => l.map fun (n : Nat) => (n : Int)) := by
  unfold pcD pT; rw [List.map_map]; congr 1; apply List.map_congr_left; intro l _; exact nT_iT l
theorem castInj2 {a b : List (List Nat)} : (a.map fun l => l.map fun (n : Nat) => (n : Int)) = (b.map fun l => l.map fun (n : Nat) => (n : Int)) ↔ a = b := List.map_inj_right fun x y e => castInj.mp e
theorem nT_inj {a b : List Nat} : nT a = nT b ↔ a = b := by
  constructor
  · intro h; rw [nT_iT, nT_iT] at h; exact castInj.mp (iT_inj h)
  · rintro rfl; rfl
theorem dEq_nT (a b : List Nat) : dEq (nT a) (nT b) = some (.bl (decide (a = b))) := by
  rw [nT_iT, nT_iT, dEq_iT]; congr 2; exact decide_eq_decide.mpr castInj
theorem dEq_pc (a b : List (List Nat)) : dEq (pcD a) (pcD b) = some (.bl (decide (a = b))) := by
  rw [pcD_pT, pcD_pT, dEq_pT]; congr 2; exact decide_eq_decide.mpr castInj2
theorem lt_cast : ∀ a b : List Nat, ((a.map fun (n : Nat) => (n : Int)) < (b.map fun (n : Nat) => (n : Int))) ↔ a < b
  | [], [] => by simp
  | [], _ :: _ => by simp
  | _ :: _, [] => by simp
  | x :: a, y :: b => by
    rw [List.map_cons, List.map_cons, List.cons_lt_cons_iff, List.cons_lt_cons_iff, lt_cast a b]
    have h1 : ((x : Int) < y) ↔ x < y := by omega
    have h2 : ((x : Int) = y) ↔ x = y := by omega
    rw [h1, h2]
theorem dLt_nT (a b : List Nat) : dLt (nT a) (nT b) = some (.bl (decide (a < b))) := by
  rw [nT_iT, nT_iT, dLt_iT]; congr 2; exact decide_eq_decide.mpr (lt_cast a b)
theorem dIn_n (x : Nat) (o : List Nat) : dInD false (nD x) (nT o) = some (.bl (decide (x ∈ o))) := by
  have e : ∀ l : List Nat, (((l.map fun (n : Nat) => (n : Int)).map PyData.int).any fun z => PyData.eqv z (.int x)) = decide (x ∈ l) := by
    intro l
    induction l with
    | nil => rfl
    | cons a l ih =>
      have e1 : PyData.eqv (.int (a : Int)) (.int (x : Int)) = decide (x = a) := by
        have h0 := eqv_i [(a : Int)] [(x : Int)]
        simp [PyData.eqvAll] at h0
        rw [h0]
        by_cases h : x = a
        · simp [h]
        · simp [h]; omega
      simp only [List.map_cons, List.any_cons, e1, ih, List.mem_cons]
      by_cases h1 : x = a <;> by_cases h2 : x ∈ l <;> simp [h1, h2]
  unfold dInD
  rw [toPyS_int, nT_iT, toPyS_iT]
  simp only [Option.bind_some, iP]
  rw [e]; rfl
theorem dInNot_of {x y : D} {b : Bool} (h : dInD false x y = some (.bl b)) : dInD true x y = some (.bl (!b)) := by
  unfold dInD at h ⊢
  cases hx : toPyS x with
  | none => rw [hx] at h; cases h
  | some d => cases hy : toPyS y with
    | none => rw [hx, hy] at h; cases h
    | some e =>
      rw [hx, hy] at h
      simp only [Option.bind_some] at h ⊢
      cases e <;> simp_all
theorem dNotIn_n (x : Nat) (o : List Nat) : dInD true (nD x) (nT o) = some (.bl (decide (x ∉ o))) := by rw [dInNot_of (dIn_n x o)]; simp
theorem dIn_p (x : List Nat) (o : List (List Nat)) : dInD false (nT x) (pcD o) = some (.bl (decide (x ∈ o))) := by
  have e : ∀ l : List (List Nat), (((l.map fun r => r.map fun (n : Nat) => (n : Int)).map iP).any fun z => PyData.eqv z (iP (x.map fun (n : Nat) => (n : Int)))) = decide (x ∈ l) := by
    intro l
    induction l with
    | nil => rfl
    | cons a l ih =>
      simp only [List.map_cons, List.any_cons, ih, List.mem_cons]
      have e2 : PyData.eqv (iP (a.map fun (n : Nat) => (n : Int))) (iP (x.map fun (n : Nat) => (n : Int))) = decide (a = x) := by
        rw [eqv_iP]; exact decide_eq_decide.mpr castInj
      rw [e2]
      by_cases h1 : x = a
      · simp [h1]
      · by_cases h2 : x ∈ l <;> simp [h1, h2, show ¬ a = x from fun e => h1 e.symm]
  unfold dInD
  rw [nT_iT, toPyS_iT, pcD_pT, toPyS_pT]
  simp only [Option.bind_some, pP]
  rw [e]; rfl
theorem dNotIn_p (x : List Nat) (o : List (List Nat)) : dInD true (nT x) (pcD o) = some (.bl (decide (x ∉ o))) := by rw [dInNot_of (dIn_p x o)]; simp
/-! ### items -/
theorem dAt_t (ds : List D) (i : Nat) : dAt (.tup ds) (.int i) = ds[i]? := atI_nat ds i
theorem dAt_l (ds : List D) (i : Nat) : dAt (.lst ds) (.int i) = ds[i]? := atI_nat ds i
theorem getM {α : Type} (f : α → D) (l : List α) (i : Nat) : (l.map f)[i]? = (l[i]?).map f := List.getElem?_map
theorem get_n {l : List Nat} {i : Nat} (h : i < l.length) : (l.map nD)[i]? = some (nD (l.getD i 0)) := by rw [List.getElem?_map]; simp [h, List.getD]
theorem get_r {l : List (List Nat)} {i : Nat} (h : i < l.length) : (l.map nT)[i]? = some (nT (l.getD i [])) := by rw [List.getElem?_map]; simp [h, List.getD]
theorem dAt_n {l : List Nat} {i : Nat} (h : i < l.length) : dAt (nT l) (nD i) = some (nD (l.getD i 0)) := by rw [dAt_t, get_n h]
theorem dAt_nl {l : List Nat} {i : Nat} (h : i < l.length) : dAt (nL l) (nD i) = some (nD (l.getD i 0)) := by rw [dAt_l, get_n h]
theorem dAt_p {l : List (List Nat)} {i : Nat} (h : i < l.length) : dAt (pcD l) (nD i) = some (nT (l.getD i [])) := by rw [dAt_t, get_r h]
theorem dAt_pl {l : List (List Nat)} {i : Nat} (h : i < l.length) : dAt (.lst (l.map nT)) (nD i) = some (nT (l.getD i [])) := by rw [dAt_l, get_r h]
theorem atI0 {α : Type} (x : α) (l : List α) : L2.atI (x :: l) 0 = some x := by have := atI_nat (x :: l) 0; simpa using this
theorem atI1 {α : Type} (x y : α) (l : List α) : L2.atI (x :: y :: l) 1 = some y := by have := atI_nat (x :: y :: l) 1; simpa using this
theorem atI2 {α : Type} (x y z : α) (l : List α) : L2.atI (x :: y :: z :: l) 2 = some z := by have := atI_nat (x :: y :: z :: l) 2; simpa using this
theorem dAt_ii (x : D) (ds : List D) : dAt (.lst (x :: ds)) (.int 0) = some x := atI0 x ds
theorem dAt_l1 (x y : D) (ds : List D) : dAt (.lst (x :: y :: ds)) (.int 1) = some y := atI1 x y ds
theorem dAt_l2 (x y z : D) (ds : List D) : dAt (.lst (x :: y :: z :: ds)) (.int 2) = some z := atI2 x y z ds
theorem dAt_t0 (x : D) (ds : List D) : dAt (.tup (x :: ds)) (.int 0) = some x := atI0 x ds
theorem dAt_t1 (x y : D) (ds : List D) : dAt (.tup (x :: y :: ds)) (.int 1) = some y := atI1 x y ds
theorem dAt_t2 (x y z : D) (ds : List D) : dAt (.tup (x :: y :: z :: ds)) (.int 2) = some z := atI2 x y z ds
theorem ixN_nat {n i : Nat} (h : i < n) : L2.ixN n (i : Int) = some i := by unfold L2.ixN; rw [if_pos (by omega), if_pos (by omega)]; simp
theorem ixN_0 {n : Nat} (h : 0 < n) : L2.ixN n 0 = some 0 := ixN_nat h
theorem ixN_1 {n : Nat} (h : 1 < n) : L2.ixN n 1 = some 1 := ixN_nat h
/-! ### operators -/
theorem dSub_ii (i j : Int) : dSub (.int i) (.int j) = some (.int (i - j)) := nr rfl
theorem dMulS {i j : Int} (h : -(2 ^ 64) < j) (h1 : j < 2 ^ 64) : dMul (.int i) (.int j) = some (.int (i * j)) := if_pos (.inr ⟨h, h1⟩)
theorem dMulL {i j : Int} (h : -(2 ^ 64) < i) (h1 : i < 2 ^ 64) : dMul (.int i) (.int j) = some (.int (i * j)) := if_pos (.inl ⟨h, h1⟩)
theorem dFdiv_ii {i j : Int} (h : 0 < j) (h1 : j < 1073741824) : dFdiv (.int i) (.int j) = some (.int (i / j)) := if_pos ⟨h, h1⟩
theorem dMod_ii {i j : Int} (h : 0 < j) : dMod (.int i) (.int j) = some (.int (i % j)) := if_pos h
theorem dPow_10 {j : Int} (h : 0 ≤ j) (h1 : j ≤ 1000) : dPow (.int 10) (.int j) = some (.int (10 ^ j.toNat)) := if_pos ⟨h, by omega, by decide⟩
theorem dGt_ii (i j : Int) : dGt (.int i) (.int j) = some (.bl (decide (j < i))) := nr rfl
theorem dGe_ii (i j : Int) : dGe (.int i) (.int j) = some (.bl (decide (j ≤ i))) := nr rfl
theorem dLe_ii (i j : Int) : dLe (.int i) (.int j) = some (.bl (decide (i ≤ j))) := nr rfl
theorem dLtI_ii (i j : Int) : dLtI (.int i) (.int j) = some (.bl (decide (i < j))) := nr rfl
theorem dLen_tup (ds : List D) : dLen (.tup ds) = some (.int ds.length) := nr rfl
theorem dLen_lst (ds : List D) : dLen (.lst ds) = some (.int ds.length) := nr rfl
theorem dLen_scr (ds : List Int) : dLen (.scr ds) = some (.int ds.length) := nr rfl
theorem dInt_int (i : Int) : dInt (.int i) = some (.int i) := nr rfl
theorem dInt_bl (b : Bool) : dInt (.bl b) = some (.int (if b then 1 else 0)) := nr rfl
theorem dAdd_t {a b : List D} (h : a.length + b.length ≤ 1000000) : dAdd (.tup a) (.tup b) = some (.tup (a ++ b)) := dAdd_tt a b (zL h)
theorem dAdd_l {a b : List D} (h : a.length + b.length ≤ 1000000) : dAdd (.lst a) (.lst b) = some (.lst (a ++ b)) := by rw [dAdd]; exact if_pos (zL h)
theorem dAdd_i (i j : Int) : dAdd (.int i) (.int j) = some (.int (i + j)) := nr rfl
theorem dMax2_n (i j : Nat) : dMax2 (.int i) (.int j) = some (.int ((max i j : Nat) : Int)) := by
  show some (D.int (if (j : Int) > i then j else i)) = _
  congr 2; split <;> omega
theorem dMin2_n (i j : Nat) : dMin2 (.int i) (.int j) = some (.int ((min i j : Nat) : Int)) := by
  show some (D.int (if (j : Int) < i then j else i)) = _
  congr 2; split <;> omega
theorem dMax2_0n (j : Nat) : dMax2 (.int 0) (.int j) = some (.int ((max 0 j : Nat) : Int)) := dMax2_n 0 j
theorem dMin2_0n (j : Nat) : dMin2 (.int 0) (.int j) = some (.int ((min 0 j : Nat) : Int)) := dMin2_n 0 j
theorem dMax2_n0 (j : Nat) : dMax2 (.int j) (.int 0) = some (.int ((max j 0 : Nat) : Int)) := dMax2_n j 0
theorem dMin2_n0 (j : Nat) : dMin2 (.int j) (.int 0) = some (.int ((min j 0 : Nat) : Int)) := dMin2_n j 0
theorem dMax2_1n (j : Nat) : dMax2 (.int 1) (.int j) = some (.int ((max 1 j : Nat) : Int)) := dMax2_n 1 j
theorem dMin2_1n (j : Nat) : dMin2 (.int 1) (.int j) = some (.int ((min 1 j : Nat) : Int)) := dMin2_n 1 j
theorem dMax2_n1 (j : Nat) : dMax2 (.int j) (.int 1) = some (.int ((max j 1 : Nat) : Int)) := dMax2_n j 1
theorem dMin2_n1 (j : Nat) : dMin2 (.int j) (.int 1) = some (.int ((min j 1 : Nat) : Int)) := dMin2_n j 1
theorem dMax2_2n (j : Nat) : dMax2 (.int 2) (.int j) = some (.int ((max 2 j : Nat) : Int)) := dMax2_n 2 j
theorem dMin2_2n (j : Nat) : dMin2 (.int 2) (.int j) = some (.int ((min 2 j : Nat) : Int)) := dMin2_n 2 j
theorem dMax2_n2 (j : Nat) : dMax2 (.int j) (.int 2) = some (.int ((max j 2 : Nat) : Int)) := dMax2_n j 2
theorem dMin2_n2 (j : Nat) : dMin2 (.int j) (.int 2) = some (.int ((min j 2 : Nat) : Int)) := dMin2_n j 2
theorem dMax2_3n (j : Nat) : dMax2 (.int 3) (.int j) = some (.int ((max 3 j : Nat) : Int)) := dMax2_n 3 j
theorem dMin2_3n (j : Nat) : dMin2 (.int 3) (.int j) = some (.int ((min 3 j : Nat) : Int)) := dMin2_n 3 j
theorem dMax2_n3 (j : Nat) : dMax2 (.int j) (.int 3) = some (.int ((max j 3 : Nat) : Int)) := dMax2_n j 3
theorem dMin2_n3 (j : Nat) : dMin2 (.int j) (.int 3) = some (.int ((min j 3 : Nat) : Int)) := dMin2_n j 3
theorem dMax2_4n (j : Nat) : dMax2 (.int 4) (.int j) = some (.int ((max 4 j : Nat) : Int)) := dMax2_n 4 j
theorem dMin2_4n (j : Nat) : dMin2 (.int 4) (.int j) = some (.int ((min 4 j : Nat) : Int)) := dMin2_n 4 j
theorem dMax2_n4 (j : Nat) : dMax2 (.int j) (.int 4) = some (.int ((max j 4 : Nat) : Int)) := dMax2_n j 4
theorem dMin2_n4 (j : Nat) : dMin2 (.int j) (.int 4) = some (.int ((min j 4 : Nat) : Int)) := dMin2_n j 4
theorem dMax2_5n (j : Nat) : dMax2 (.int 5) (.int j) = some (.int ((max 5 j : Nat) : Int)) := dMax2_n 5 j
theorem dMin2_5n (j : Nat) : dMin2 (.int 5) (.int j) = some (.int ((min 5 j : Nat) : Int)) := dMin2_n 5 j
theorem dMax2_n5 (j : Nat) : dMax2 (.int j) (.int 5) = some (.int ((max j 5 : Nat) : Int)) := dMax2_n j 5
theorem dMin2_n5 (j : Nat) : dMin2 (.int j) (.int 5) = some (.int ((min j 5 : Nat) : Int)) := dMin2_n j 5
theorem dMax2_6n (j : Nat) : dMax2 (.int 6) (.int j) = some (.int ((max 6 j : Nat) : Int)) := dMax2_n 6 j
theorem dMin2_6n (j : Nat) : dMin2 (.int 6) (.int j) = some (.int ((min 6 j : Nat) : Int)) := dMin2_n 6 j
theorem dMax2_n6 (j : Nat) : dMax2 (.int j) (.int 6) = some (.int ((max j 6 : Nat) : Int)) := dMax2_n j 6
theorem dMin2_n6 (j : Nat) : dMin2 (.int j) (.int 6) = some (.int ((min j 6 : Nat) : Int)) := dMin2_n j 6
theorem appN (l : List Nat) (x : Nat) : l.map nD ++ [D.int (x : Int)] = (l ++ [x]).map nD := by simp
theorem appT (l : List (List Nat)) (x : List Nat) : l.map nT ++ [D.tup (x.map nD)] = (l ++ [x]).map nT := by simp
theorem mTake {α β : Type} (f : α → β) (l : List α) (k : Nat) : (l.map f).take k = (l.take k).map f := List.map_take.symm
theorem mDrop {α β : Type} (f : α → β) (l : List α) (k : Nat) : (l.map f).drop k = (l.drop k).map f := List.map_drop.symm
theorem mApp {α β : Type} (f : α → β) (l l' : List α) : l.map f ++ l'.map f = (l ++ l').map f := List.map_append.symm
theorem filterT {α : Type} (l : List α) : l.filter (fun _ => true) = l := List.filter_eq_self.mpr fun _ _ => rfl
theorem gApp_1 {ds : List D} {d : D} (h : ds.length < 1000000) : gApp ds [d] = some (ds ++ [d], .non) := if_pos (zS h)
theorem gExt_1 {ds es : List D} (h : ds.length + es.length ≤ 1000000) : gExt ds [.lst es] = some (ds ++ es, .non) := if_pos (zL h)
theorem gIns_1 {ds : List D} {d : D} {i : Nat} (h : ds.length < 1000000) (h1 : i < 1000000) : gIns ds [.int i, d] = some (ds.take i ++ [d] ++ ds.drop i, .non) := by
  show (if ds.length < sizeLine ∧ 0 ≤ (i : Int) ∧ (i : Int) < 2 ^ 63 then _ else none) = _
  rw [if_pos ⟨zS h, by omega, by omega⟩, Int.toNat_natCast]
/-! ### isinstance -/
theorem isi_int_int (i : Int) : dIsi "int" (.int i) = some (.bl true) := nr rfl
theorem isi_int_bl (i : Bool) : dIsi "int" (.bl i) = some (.bl true) := nr rfl
theorem isi_int_str (i : Str) : dIsi "int" (.str i) = some (.bl false) := nr rfl
theorem isi_int_tup (i : List D) : dIsi "int" (.tup i) = some (.bl false) := nr rfl
theorem isi_int_lst (i : List D) : dIsi "int" (.lst i) = some (.bl false) := nr rfl
theorem isi_int_non : dIsi "int" .non = some (.bl false) := nr rfl
theorem isi_bool_int (i : Int) : dIsi "bool" (.int i) = some (.bl false) := nr rfl
theorem isi_bool_bl (i : Bool) : dIsi "bool" (.bl i) = some (.bl true) := nr rfl
theorem isi_bool_str (i : Str) : dIsi "bool" (.str i) = some (.bl false) := nr rfl
theorem isi_bool_tup (i : List D) : dIsi "bool" (.tup i) = some (.bl false) := nr rfl
theorem isi_bool_lst (i : List D) : dIsi "bool" (.lst i) = some (.bl false) := nr rfl
theorem isi_bool_non : dIsi "bool" .non = some (.bl false) := nr rfl
theorem isi_str_int (i : Int) : dIsi "str" (.int i) = some (.bl false) := nr rfl
theorem isi_str_bl (i : Bool) : dIsi "str" (.bl i) = some (.bl false) := nr rfl
theorem isi_str_str (i : Str) : dIsi "str" (.str i) = some (.bl true) := nr rfl
theorem isi_str_tup (i : List D) : dIsi "str" (.tup i) = some (.bl false) := nr rfl
theorem isi_str_lst (i : List D) : dIsi "str" (.lst i) = some (.bl false) := nr rfl
theorem isi_str_non : dIsi "str" .non = some (.bl false) := nr rfl
theorem isi_tup_int (i : Int) : dIsi "tuple" (.int i) = some (.bl false) := nr rfl
theorem isi_tup_bl (i : Bool) : dIsi "tuple" (.bl i) = some (.bl false) := nr rfl
theorem isi_tup_str (i : Str) : dIsi "tuple" (.str i) = some (.bl false) := nr rfl
theorem isi_tup_tup (i : List D) : dIsi "tuple" (.tup i) = some (.bl true) := nr rfl
theorem isi_tup_lst (i : List D) : dIsi "tuple" (.lst i) = some (.bl false) := nr rfl
theorem isi_tup_non : dIsi "tuple" .non = some (.bl false) := nr rfl
theorem isi_lst_int (i : Int) : dIsi "list" (.int i) = some (.bl false) := nr rfl
theorem isi_lst_bl (i : Bool) : dIsi "list" (.bl i) = some (.bl false) := nr rfl
theorem isi_lst_str (i : Str) : dIsi "list" (.str i) = some (.bl false) := nr rfl
theorem isi_lst_tup (i : List D) : dIsi "list" (.tup i) = some (.bl false) := nr rfl
theorem isi_lst_lst (i : List D) : dIsi "list" (.lst i) = some (.bl true) := nr rfl
theorem isi_lst_non : dIsi "list" .non = some (.bl false) := nr rfl
theorem isi2_tup (i : List D) : dIsi2 "list" "tuple" (.tup i) = some (.bl true) := nr rfl
theorem isi2_lst (i : List D) : dIsi2 "list" "tuple" (.lst i) = some (.bl true) := nr rfl
theorem isi2_int (i : Int) : dIsi2 "list" "tuple" (.int i) = some (.bl false) := nr rfl
theorem isi2_bl (i : Bool) : dIsi2 "list" "tuple" (.bl i) = some (.bl false) := nr rfl
theorem isi2_str (i : Str) : dIsi2 "list" "tuple" (.str i) = some (.bl false) := nr rfl
theorem isi2_non : dIsi2 "list" "tuple" .non = some (.bl false) := nr rfl
/-! ### what is walked -/
theorem items_tup (ds : List D) : itemsR (.tup ds) = some ds := nr rfl
theorem items_lst (ds : List D) : itemsR (.lst ds) = some ds := nr rfl
theorem items_rng {n : Nat} (h : n ≤ 1000) : itemsR (.rng 0 n) = some ((List.range n).map nD) := by
  have e : ((n : Int) - 0).toNat = n := by omega
  rw [← rngD_nat]
  unfold itemsR
  dsimp only
  rw [e]
  exact if_pos ⟨by omega, by omega, by omega, by omega, h⟩
theorem enum_map {α : Type} (f : α → D) (l : List α) : enumD (l.map f) = l.zipIdx.map fun p => D.tup [nD p.2, f p.1] := by
  unfold enumD
  rw [List.mapIdx_eq_zipIdx_map, List.zipIdx_map, List.map_map]
  rfl
theorem gNm_eq (i : Nat) (d : D) (ρ : Env) : gNm i d ρ = some (ρ.set i (some d)) := nr rfl
theorem gTp_tup {n : Nat} {ts : TDs} {ds : List D} {ρ : Env} (h : ds.length = n) : gTp n ts (.tup ds) ρ = ts ds ρ := if_pos h
theorem gsNil_nil (ρ : Env) : gsNil [] ρ = some ρ := nr rfl
theorem gsCons_cons (t : TD) (ts : TDs) (d : D) (ds : List D) (ρ : Env) : gsCons t ts (d :: ds) ρ = (t d ρ).bind fun ρ1 => ts ds ρ1 := nr rfl
theorem wipe_nil (ρ : Env) : wipeE ρ [] = ρ := nr rfl
theorem wipe_cons (ρ : Env) (v : Nat) (vs : List Nat) : wipeE ρ (v :: vs) = (wipeE ρ vs).set v none := nr rfl
theorem unwipe_nil (ρ1 ρ : Env) : unwipe ρ1 [] ρ = ρ := nr rfl
theorem unwipe_cons (ρ1 ρ : Env) (v : Nat) (vs : List Nat) : unwipe ρ1 (v :: vs) ρ = (unwipe ρ1 vs ρ).set v (ρ1[v]?.join) := nr rfl
theorem bYes_eq {X : Ex → Env → Prop} {ρ : Env} (K : Bool → Env → Prop) : vE (bYes ρ) (h := ⟨X, K⟩) = K true ρ := nr rfl
theorem fill_nil (ρ : Env) : fillA ρ [] = some [] := nr rfl
theorem fill_val (ρ : Env) (d : D) (r : List AV) : fillA ρ (.val d :: r) = (fillA ρ r).map fun ds => d :: ds := nr rfl
theorem fill_own (ρ : Env) (i : Nat) (r : List AV) : fillA ρ (.own i :: r) = (ρ[i]?.join).bind fun d => (fillA ρ r).map fun ds => d :: ds := nr rfl
theorem put_nil (ρ : Env) (ds : List D) : putA ρ [] ds = ρ := nr rfl
theorem put_val (ρ : Env) (d e : D) (r : List AV) (ds : List D) : putA ρ (.val d :: r) (e :: ds) = putA ρ r ds := nr rfl
theorem put_own (ρ : Env) (i : Nat) (e : D) (r : List AV) (ds : List D) : putA ρ (.own i :: r) (e :: ds) = (putA ρ r ds).set i (some e) := nr rfl
theorem vals_nil : valsA [] = some [] := nr rfl
theorem vals_val (d : D) (r : List AV) : valsA (.val d :: r) = (valsA r).map fun ds => d :: ds := nr rfl
theorem avD_val (ρ : Env) (d : D) : avD ρ (.val d) = some d := nr rfl
theorem avD_own (ρ : Env) (i : Nat) : avD ρ (.own i) = ρ[i]?.join := nr rfl
theorem on1_1 (f : D → Option D) (d : D) : on1 f [d] = f d := nr rfl
theorem on2_2 (f : D → D → Option D) (d e : D) : on2 f [d, e] = f d e := nr rfl
theorem qTuple_l (ds : List D) : qTuple (.l ds) = some (.tup ds) := nr rfl
theorem qTuple_t (ds : List D) : qTuple (.t ds) = some (.tup ds) := nr rfl
theorem qList_l (ds : List D) : qList (.l ds) = some ds := nr rfl
theorem qList_t (ds : List D) : qList (.t ds) = some ds := nr rfl
theorem sqD_tup (ds : List D) : sqD (.tup ds) = some (.t ds) := nr rfl
theorem sqD_lst (ds : List D) : sqD (.lst ds) = some (.l ds) := nr rfl
theorem sqD_scr (ds : List Int) : sqD (.scr ds) = some (.l (ds.map .int)) := nr rfl
theorem outs_nil (ρ : Env) : outs [] [] ρ = some [] := nr rfl
theorem outs_frz (ps : List Mode) (d : D) (ds : List D) (o : Option D) (ρ : Env) : outs (.frz :: ps) (d :: ds) (o :: ρ) = (outs ps ds ρ).map fun r => d :: r := nr rfl
theorem outs_own (ps : List Mode) (d : D) (ds : List D) (o : Option D) (ρ : Env) : outs (.own :: ps) (d :: ds) (o :: ρ) = (outs ps ds ρ).map fun r => d :: r := nr rfl
theorem outs_io (ps : List Mode) (d : D) (ds : List D) (o : Option D) (ρ : Env) : outs (.io :: ps) (d :: ds) (o :: ρ) = o.bind fun d' => (outs ps ds ρ).map fun r => d' :: r := nr rfl
theorem dctD_n (a : List (D × D)) : dctD (.dN a) = some (.dN a) := nr rfl
theorem dctD_k (a : List (L2.Key × D)) : dctD (.dK a) = some (.dK a) := nr rfl
theorem d0_n : d0 .n = .dN [] := nr rfl
theorem d0_k : d0 .k = .dK [] := nr rfl
theorem putFD_nil (f : Str) (d : D) : putFD f d [] = [(f, d)] := nr rfl
theorem putFD_eq (f : Str) (d x : D) (r : List (Str × D)) : putFD f d ((f, x) :: r) = (f, d) :: r := if_pos rfl
theorem putFD_ne {f g : Str} (h : g ≠ f) (d x : D) (r : List (Str × D)) : putFD f d ((g, x) :: r) = (g, x) :: putFD f d r := if_neg h
theorem lk_eq (f : Str) (x : D) (r : List (Str × D)) : List.lookup f ((f, x) :: r) = some x := by simp [List.lookup]
theorem lk_ne {f g : Str} (h : f ≠ g) (x : D) (r : List (Str × D)) : List.lookup f ((g, x) :: r) = List.lookup f r := by
  rw [List.lookup_cons]
  have : (f == g) = false := by simpa using h
  rw [this]
theorem pick_nil {α : Type} (l : List α) : pick [] l = [] := nr rfl
theorem pick_cons {α : Type} (i : Nat) (π : List Nat) (l : List α) : pick (i :: π) l = ((l[i]?).map fun a => a :: pick π l).getD (pick π l) := by
  unfold pick; rw [List.filterMap_cons]; cases l[i]? <;> rfl
theorem vA_cons {α : Type} (x : α) (l : List α) (K : List α → Prop) : vA (x :: l) (h := ⟨K⟩) = K (x :: l) := nr rfl
theorem vA_nil {α : Type} (K : List α → Prop) : vA ([] : List α) (h := ⟨K⟩) = K [] := nr rfl
theorem dRange1_n (i : Int) : dRange1 (.int i) = some (.rng 0 i) := nr rfl
theorem cut_to {α : Type} {l : List α} {i : Nat} (h : i ≤ l.length) : cutL l none (some (i : Int)) = l.take i := by
  unfold cutL HT.sIx
  have e : ¬ ((i : Int) < 0) := by omega
  simp [e]
  try omega
theorem cut_from {α : Type} {l : List α} {i : Nat} (h : i ≤ l.length) : cutL l (some (i : Int)) none = l.drop i := by
  unfold cutL HT.sIx
  have e : ¬ ((i : Int) < 0) := by omega
  simp [e]
  rw [Nat.min_eq_left h]
  try (apply List.take_of_length_le; simp)
theorem dSl_tup (ds : List D) (lo hi : Option Int) : dSl (.tup ds) lo hi = some (.tup (cutL ds lo hi)) := nr rfl
theorem dSl_lst (ds : List D) (lo hi : Option Int) : dSl (.lst ds) lo hi = some (.lst (cutL ds lo hi)) := nr rfl
end Dn

/-! M2: pictures as keys of a dict, in order. -/
namespace Dn
open PySem
/-! ### dicts -/
abbrev kvD {α : Type} (enc : α → D) (L : List (α × D)) : D := .dN (L.map fun p => (enc p.1, p.2))
/-- what may be a key -/
structure KeyEnc {α : Type} (enc : α → D) (key : α → NestedKey) : Prop where
  kn : ∀ a, keyN (enc a) = some (key a)
  to : ∀ a, toKey (enc a) = some (key a)
  inj : ∀ a b, key a = key b → a = b
def aPut {α : Type} [DecidableEq α] (L : List (α × D)) (a : α) (d : D) : List (α × D) := if (L.any fun p => decide (p.1 = a)) = true then L.map (fun p => if p.1 = a then (p.1, d) else p) else L ++ [(a, d)]
def aGet {α : Type} [DecidableEq α] (L : List (α × D)) (a : α) : Option D := (L.find? fun p => decide (p.1 = a)).map (·.2)
section
variable {α : Type} [DecidableEq α] {enc : α → D} {key : α → NestedKey}
theorem KeyEnc.iff (h : KeyEnc enc key) (a b : α) : toKey (enc a) = some (key b) ↔ a = b := by
  rw [h.to]
  constructor
  · intro e; injection e with e; exact h.inj _ _ e
  · rintro rfl; rfl
theorem KeyEnc.put (h : KeyEnc enc key) (L : List (α × D)) (a : α) (d : D) : putND (L.map fun p => (enc p.1, p.2)) (enc a) (key a) d = (aPut L a d).map fun p => (enc p.1, p.2) := by
  unfold putND aPut
  have e : ((L.map fun p => (enc p.1, p.2)).any fun p => decide (toKey p.1 = some (key a))) = L.any fun p => decide (p.1 = a) := by
    rw [List.any_map]
    congr 1; funext p
    exact decide_eq_decide.mpr (h.iff p.1 a)
  rw [e]
  split
  · rw [List.map_map, List.map_map]
    apply List.map_congr_left
    intro p _
    show (if toKey (enc p.1) = some (key a) then (enc p.1, d) else (enc p.1, p.2)) = _
    by_cases q : p.1 = a
    · rw [if_pos ((h.iff _ _).mpr q)]; simp [q]
    · rw [if_neg (fun z => q ((h.iff _ _).mp z))]; simp [q]
  · simp
theorem KeyEnc.dPut (h : KeyEnc enc key) (L : List (α × D)) (a : α) (d : D) (hl : L.length < 1000000) : dPutD (kvD enc L) (enc a) d = some (kvD enc (aPut L a d)) := by
  unfold dPutD kvD
  dsimp only
  rw [h.kn, Option.bind_some, if_pos (zS (by simpa using hl)), h.put]
theorem KeyEnc.get (h : KeyEnc enc key) (L : List (α × D)) (a : α) : getND (L.map fun p => (enc p.1, p.2)) (key a) = aGet L a := by
  unfold getND aGet
  rw [List.find?_map, Option.map_map]
  congr 1
  congr 1; funext p
  exact decide_eq_decide.mpr (h.iff p.1 a)
theorem KeyEnc.dIn (h : KeyEnc enc key) (L : List (α × D)) (a : α) : dInN false (enc a) (kvD enc L) = some (.bl (aGet L a).isSome) := by
  unfold dInN kvD
  dsimp only
  rw [h.kn, Option.map_some, h.get]; rfl
theorem KeyEnc.dNotIn (h : KeyEnc enc key) (L : List (α × D)) (a : α) : dInN true (enc a) (kvD enc L) = some (.bl (!(aGet L a).isSome)) := by
  unfold dInN kvD
  dsimp only
  rw [h.kn, Option.map_some, h.get]; rfl
theorem aPut_len (L : List (α × D)) (a : α) (d : D) : (aPut L a d).length ≤ L.length + 1 := by
  unfold aPut; split <;> simp
/-- keys alone, all True -/
def sPutK (L : List α) (a : α) : List α := if a ∈ L then L else L ++ [a]
abbrev tL (L : List α) : List (α × D) := L.map fun a => (a, D.bl true)
theorem aPut_t (L : List α) (a : α) : aPut (tL L) a (.bl true) = tL (sPutK L a) := by
  unfold aPut sPutK
  have e : ((tL L).any fun p => decide (p.1 = a)) = decide (a ∈ L) := by
    unfold tL; rw [List.any_map]
    induction L with
    | nil => rfl
    | cons b L ih => rw [List.any_cons, ih]; simp [Function.comp, eq_comm (a := a)]
  rw [e]
  by_cases h : a ∈ L
  · rw [if_pos (by simpa using h), if_pos h]
    unfold tL; rw [List.map_map]
    apply List.map_congr_left
    intro b _
    show (if b = a then (b, D.bl true) else (b, D.bl true)) = _
    split <;> rfl
  · rw [if_neg (by simpa using h), if_neg h]; simp [tL]
theorem aGet_t (L : List α) (a : α) : (aGet (tL L) a).isSome = decide (a ∈ L) := by
  unfold aGet tL
  rw [Option.isSome_map, List.find?_map, Option.isSome_map]
  induction L with
  | nil => rfl
  | cons b L ih =>
    rw [List.find?_cons]
    by_cases h : b = a
    · simp [Function.comp, h]
    · simp only [Function.comp, h, decide_false] at ih ⊢
      rw [ih]; simp [show ¬ a = b from fun e => h e.symm]
theorem mem_sPutK {L : List α} {a b : α} : b ∈ sPutK L a ↔ b ∈ L ∨ b = a := by
  unfold sPutK; split
  · constructor
    · exact .inl
    · rintro (h | rfl) <;> assumption
  · simp
theorem nodup_sPutK {L : List α} {a : α} (h : L.Nodup) : (sPutK L a).Nodup := by
  unfold sPutK; split
  · exact h
  · rename_i hn
    rw [List.nodup_append]
    refine ⟨h, by simp, ?_⟩
    intro x hx y hy e
    simp at hy; subst hy; subst e; exact hn hx
theorem sPutK_len (L : List α) (a : α) : (sPutK L a).length ≤ L.length + 1 := by
  unfold sPutK; split <;> simp
end
/-- rows, pictures as keys -/
def nKey (l : List Nat) : NestedKey := .tup (l.map fun (n : Nat) => .num n)
def pKey (p : List (List Nat)) : NestedKey := .tup (p.map nKey)
theorem toKeys_n : ∀ l : List Nat, toKeys (l.map nD) = some (l.map fun (n : Nat) => NestedKey.num n)
  | [] => rfl
  | x :: l => by rw [List.map_cons, toKeys, toKeys_n l]; rfl
theorem toKey_n (l : List Nat) : toKey (nT l) = some (nKey l) := by rw [toKey, toKeys_n]; rfl
theorem toKeys_p : ∀ l : List (List Nat), toKeys (l.map nT) = some (l.map nKey)
  | [] => rfl
  | x :: l => by rw [List.map_cons, toKeys, toKeys_p l, toKey_n]; rfl
theorem toKey_p (l : List (List Nat)) : toKey (pcD l) = some (pKey l) := by rw [toKey, toKeys_p]; rfl
theorem dpt_n : ∀ l : List Nat, NestedKey.depthAll (l.map fun (n : Nat) => NestedKey.num n) = 0
  | [] => rfl
  | x :: l => by rw [List.map_cons, NestedKey.depthAll, dpt_n l]; simp [NestedKey.depth]
theorem dpt_nK (l : List Nat) : (nKey l).depth ≤ 1 := by unfold nKey; rw [NestedKey.depth, dpt_n]; exact Nat.le_refl _
theorem dpt_p : ∀ l : List (List Nat), NestedKey.depthAll (l.map nKey) ≤ 1
  | [] => by simp [NestedKey.depthAll]
  | x :: l => by
    rw [List.map_cons, NestedKey.depthAll]
    exact Nat.max_le.mpr ⟨dpt_nK x, dpt_p l⟩
theorem dpt_pK (l : List (List Nat)) : (pKey l).depth ≤ 2 := by unfold pKey; rw [NestedKey.depth]; have := dpt_p l; omega
theorem nKey_inj (a b : List Nat) (h : nKey a = nKey b) : a = b := by
  unfold nKey at h
  injection h with h
  exact (List.map_inj_right (fun x y e => by injection e with e; omega)).mp h
theorem pKey_inj (a b : List (List Nat)) (h : pKey a = pKey b) : a = b := by
  unfold pKey at h
  injection h with h
  exact (List.map_inj_right nKey_inj).mp h
theorem keyN_t {ds : List D} {k : NestedKey} (h : toKey (.tup ds) = some k) (hd : k.depth ≤ 8) : keyN (.tup ds) = some k := by
  unfold keyN
  dsimp only
  rw [h, Option.bind_some, if_pos hd]
theorem kE_n : KeyEnc nT nKey := ⟨fun a => keyN_t (toKey_n a) (by have := dpt_nK a; omega), toKey_n, nKey_inj⟩
theorem kE_p : KeyEnc pcD pKey := ⟨fun a => keyN_t (toKey_p a) (by have := dpt_pK a; omega), toKey_p, pKey_inj⟩
/-! ### order -/
theorem rowLt_p : ∀ a b : List (List Int), PySem.W.rowLt (a.map iP) (b.map iP) = decide (a < b)
  | [], [] => by
    have e : PySem.W.rowLt [] [] = false := PySem.W.dataLt_ints [] []
    simp [e]
  | [], y :: b => by
    have e : PySem.W.rowLt [] (iP y :: b.map iP) = true := by
      unfold PySem.W.rowLt
      rw [PySem.W.toks_all_cons]
      simp only [PySem.W.keyToksAll]
      rw [PyProof.Rows.lex_diff (O := PyProof.Rows.itemOrd) (by simp)]
      rfl
    simpa using e
  | x :: a, [] => by
    have e : PySem.W.rowLt (iP x :: a.map iP) [] = false := by
      unfold PySem.W.rowLt
      rw [PySem.W.toks_all_cons]
      simp only [PySem.W.keyToksAll]
      rw [PyProof.Rows.lex_diff (O := PyProof.Rows.itemOrd) (by simp)]
      rfl
    simpa using e
  | x :: a, y :: b => by
    have e : PySem.W.rowLt (iP x :: a.map iP) (iP y :: b.map iP) = if x = y then PySem.W.rowLt (a.map iP) (b.map iP) else decide (x < y) := by
      unfold PySem.W.rowLt
      rw [PySem.W.dataLt_cons (alike_iP x y), dataLt_iP, eqv_iP]
      by_cases h : x = y <;> simp [h]
    show PySem.W.rowLt (iP x :: a.map iP) (iP y :: b.map iP) = _
    rw [e]
    by_cases h : x = y
    · rw [if_pos h, rowLt_p a b]
      simp [h, List.cons_lt_cons_iff]
    · rw [if_neg h]
      simp [h, List.cons_lt_cons_iff]
theorem dataLt_pP (a b : List (List Int)) : PySem.W.dataLt (pP a) (pP b) = decide (a < b) := by
  have := rowLt_p a b
  unfold PySem.W.rowLt at this
  rw [← this]
  unfold PySem.W.dataLt
  rw [PySem.W.keyToks, PySem.W.keyToks]
theorem lt_cast2 : ∀ a b : List (List Nat), ((a.map fun l => l.map fun (n : Nat) => (n : Int)) < (b.map fun l => l.map fun (n : Nat) => (n : Int))) ↔ a < b
  | [], [] => by simp
  | [], _ :: _ => by simp
  | _ :: _, [] => by simp
  | x :: a, y :: b => by
    rw [List.map_cons, List.map_cons, List.cons_lt_cons_iff, List.cons_lt_cons_iff, lt_cast2 a b, lt_cast, castInj]
theorem dLt_pc (a b : List (List Nat)) : dLt (pcD a) (pcD b) = some (.bl (decide (a < b))) := by
  rw [pcD_pT, pcD_pT]
  unfold dLt
  rw [toPy_pT, toPy_pT]
  simp only [Option.bind_some]
  rw [if_pos ⟨alike_pP _ _, by have := dep_pP (a.map fun l => l.map fun (n : Nat) => (n : Int)); omega, rfl⟩, dataLt_pP]
  congr 2; exact decide_eq_decide.mpr (lt_cast2 a b)
/-- by the number of points, then as tuples -/
def szLe (a b : List (List Nat)) : Bool := decide (a.length < b.length ∨ (a.length = b.length ∧ a ≤ b))
def ctP (p : List (List Nat)) : PyData := pP (p.map fun l => l.map fun (n : Nat) => (n : Int))
theorem toPy_pc (p : List (List Nat)) : toPy (pcD p) = some (ctP p) := by rw [pcD_pT, toPy_pT]; rfl
theorem encD_pc (p : List (List Nat)) : encD (pcD p) = ctP p := by unfold encD; rw [toPy_pc]; rfl
theorem keyD_pc (p : List (List Nat)) : keyD (pcD p) = .tuple [.int p.length, ctP p] := by
  show PyData.tuple [.int ((p.map nT).length : Nat), encD (pcD p)] = _
  rw [encD_pc, List.length_map]
theorem alike_key (a b : List (List Nat)) : PySem.W.alike (keyD (pcD a)) (keyD (pcD b)) = true := by
  rw [keyD_pc, keyD_pc]
  unfold ctP
  rw [PySem.W.alike, PySem.W.alikeAll, PySem.W.alikeAll, alike_pP]
  simp [PySem.W.alike, PySem.W.alikeAll]
theorem dataLe_key (a b : List (List Nat)) : PySem.W.dataLe false keyD (pcD a) (pcD b) = szLe a b := by
  show (!PySem.W.dataLt (keyD (pcD b)) (keyD (pcD a))) = _
  rw [keyD_pc, keyD_pc]
  unfold ctP
  rw [PySem.W.dataLt_pair (by simp [PySem.W.alike]) (alike_pP _ _), PySem.W.dataLt_int]
  rw [eqv_pP, dataLt_pP]
  unfold szLe
  have e0 : PyData.eqv (.int (b.length : Int)) (.int (a.length : Int)) = decide (b.length = a.length) := by
    simp [PyData.eqv]; by_cases h : b.length = a.length
    · simp [h]
    · simp [h]; omega
  rw [e0]
  by_cases h : b.length = a.length
  · simp only [h, decide_true, if_true]
    by_cases h2 : b = a
    · subst h2; simp [List.le_refl]
    · have h3 : ¬ ((b.map fun l => l.map fun (n : Nat) => (n : Int)) = (a.map fun l => l.map fun (n : Nat) => (n : Int))) := fun e => h2 (castInj2.mp e)
      rw [decide_eq_false h3, decide_eq_decide.mpr (lt_cast2 b a)]
      simp only [Bool.false_eq_true, if_false, Nat.lt_irrefl, false_or, true_and]
      by_cases h4 : b < a
      · rw [decide_eq_true h4, decide_eq_false (List.not_le.mpr h4)]; rfl
      · rw [decide_eq_false h4, decide_eq_true (List.not_lt.mp h4)]; rfl
  · rw [decide_eq_false h]
    simp only [Bool.false_eq_true, if_false]
    by_cases h2 : b.length < a.length
    · have : ¬ (a.length < b.length ∨ (a.length = b.length ∧ a ≤ b)) := by rintro (h | ⟨h, _⟩) <;> omega
      rw [decide_eq_false this]; simp; omega
    · have : a.length < b.length ∨ (a.length = b.length ∧ a ≤ b) := .inl (by omega)
      rw [decide_eq_true this]; simp; omega
theorem sortKD_pc (L : List (List (List Nat))) : sortKD (L.map pcD) = (L.mergeSort szLe).map pcD := by
  unfold sortKD
  rw [List.map_mergeSort (s := PySem.W.dataLe false keyD)]
  intro a _ b _
  rw [dataLe_key]
mutual
theorem noL_n : ∀ l : List Int, noLs (l.map .int) = true
  | [] => rfl
  | x :: l => by rw [List.map_cons, noLs, noL_n l, noL]; rfl
end
theorem noL_p : ∀ l : List (List Int), noLs (l.map iP) = true
  | [] => rfl
  | x :: l => by rw [List.map_cons, noLs, noL_p l, noL, noL_n]; rfl
theorem okSortK_pc (L : List (List (List Nat))) (h : ∀ p ∈ L, p.length ≤ 100000) : okSortK (L.map pcD) = true := by
  unfold okSortK
  simp only [Bool.and_eq_true, List.all_eq_true, List.mem_map]
  refine ⟨⟨?_, ?_⟩, ?_⟩
  · rintro d ⟨p, hp, rfl⟩
    rw [toPy_pc, keyD_pc, encD_pc]
    have h1 : noL (ctP p) = true := by unfold ctP; rw [noL]; exact noL_p _
    have h2 : (PyData.tuple [.int (p.length : Nat), ctP p]).depth ≤ 32 := by
      have := dep_pP (p.map fun l => l.map fun (n : Nat) => (n : Int))
      have e : (ctP p).depth ≤ 2 := this
      simp only [PyData.depth, PyData.depthAll]
      omega
    rw [h1]
    simp [tupNE, h2]
  · rintro d ⟨p, hp, rfl⟩ e ⟨q, hq, rfl⟩
    exact alike_key p q
  · rintro d ⟨p, hp, rfl⟩
    simpa using h p hp
theorem qSortK_pc {L : List (List (List Nat))} (h : ∀ p ∈ L, p.length ≤ 100000) (hl : L.length ≤ 100000) : qSortK (.l (L.map pcD)) = some ((L.mergeSort szLe).map pcD) := by
  unfold qSortK
  rw [if_pos ⟨okSortK_pc L h, zL (by simp [SQ.ds]; omega)⟩]
  simp only [SQ.ds]
  rw [sortKD_pc]
theorem keysD_kv {α : Type} {enc : α → D} {L : List α} (hl : L.length ≤ 100000) : keysD (kvD enc (tL L)) = some (L.map enc) := by
  unfold keysD kvD tL
  dsimp only
  rw [if_pos (by simpa using hl), List.map_map, List.map_map]
  rfl
end Dn

local macro_rules | `(tactic| k_search [$ts,*]) => do
    let ls ← ts.getElems.mapM fun t => `(Lean.Parser.Tactic.simpLemma| $t:term)
    `(tactic| simp (disch := first | assumption | omega | ((simp only [List.length_map, List.length_append, List.length_cons, List.length_nil, List.length_range, List.length_zipIdx, List.length_take, List.length_drop, List.length_set]) <;> omega) | decide) only [Dn.vO_some, Dn.vO_none, ↓Dn.vO_bind, ↓Dn.vO_map, Dn.vV_cons, Dn.vB_true, Dn.vB_false, ↓Dn.vB_not, Dn.vB_pos, Dn.vB_neg, Dn.vF_ok, Dn.vF_exc, ↓Dn.vE_ok, ↓Dn.vE_var, ↓Dn.vE_C, ↓Dn.vE_bin, ↓Dn.vE_un, ↓Dn.vE_bOf, ↓Dn.vE_chain, ↓Dn.vE_bTru, ↓Dn.vE_bAnd, ↓Dn.vE_bOr, ↓Dn.vE_bNot, ↓Dn.vE_and, ↓Dn.vE_or, ↓Dn.vE_not, ↓Dn.vE_eIf, ↓Dn.vE_move, ↓Dn.vE_aNil, ↓Dn.vE_aVal, ↓Dn.vE_aOwn, ↓Dn.vE_aApp, ↓Dn.vE_aPick, ↓Dn.vE_call, Dn.vM_ok, Dn.vM_exc, ↓Dn.vE_make, ↓Dn.vE_callT, ↓Dn.vE_CB, ↓Dn.vE_CBO, ↓Dn.vE_qVal, ↓Dn.vE_qOwn, ↓Dn.vE_Q, ↓Dn.vE_QO, ↓Dn.vE_Tup, ↓Dn.vE_Lst, ↓Dn.vE_pNone, ↓Dn.vE_pSome, ↓Dn.vE_Sl, ↓Dn.vE_Mut, ↓Dn.vE_IxO, ↓Dn.vE_Fld, ↓Dn.vE_FldO, ↓Dn.vE_ListK, ↓Dn.vE_NewD, ↓Dn.vE_Lc, ↓Dn.vE_Lc2, ↓Dn.vE_Dc, ↓Dn.vE_oVal, ↓Dn.vE_oOwn, ↓Dn.vE_BinO, ↓Dn.vE_UnO, ↓Dn.vE_bTruO, ↓Dn.vE_iAny, ↓Dn.vE_iD, ↓Dn.vE_iRg1, ↓Dn.vE_iRg2, ↓Dn.vE_iEnA, ↓Dn.vE_iZp, ↓Dn.vE_iPerm, ↓Dn.vE_iComb, ↓Dn.vS_nx, ↓Dn.vS_bk, ↓Dn.vS_ct, ↓Dn.vS_never, ↓Dn.vS_expr, ↓Dn.vS_ret, ↓Dn.vS_if, ↓Dn.vS_set, ↓Dn.vS_asg, ↓Dn.vS_for, ↓Dn.vS_put, ↓Dn.vS_fldPut, ↓Dn.vS_putD, ↓Dn.vS_seq, ↓Dn.vF_run, ↓Dn.vS_ice, ↓Dn.vS_forIo, Dn.cAdd, Dn.cMul, Dn.cAdd1, Dn.cAdd2, Dn.cAdd3, Dn.c1Add, Dn.c2Add, Dn.c3Add, Dn.cSub, Dn.cSub1, Dn.cMod, Dn.cDiv, Dn.cMod2l, Dn.cDiv2l, Dn.cMul2l, Dn.cMul2r, Dn.cMod3l, Dn.cDiv3l, Dn.cMul3l, Dn.cMul3r, Dn.cMod4l, Dn.cDiv4l, Dn.cMul4l, Dn.cMul4r, Dn.cMod5l, Dn.cDiv5l, Dn.cMul5l, Dn.cMul5r, Dn.cMod6l, Dn.cDiv6l, Dn.cMul6l, Dn.cMul6r, Dn.if_zL, Dn.if_zS, Dn.vB_zL, Dn.dTru_bl, Dn.dTru_tup, Dn.dTru_lst, Dn.dTru_non, Dn.isNon_non, Dn.isNon_tup, Dn.isNon_int, Dn.isNon_lst, Dn.dIs_non, Dn.dIsNot_non, Dn.dEq_ii, Dn.dNe_ii, Dn.dEq_nT, Dn.dEq_pc, Dn.dLt_nT, Dn.dIn_n, Dn.dNotIn_n, Dn.dIn_p, Dn.dNotIn_p, Dn.dAt_n, Dn.dAt_nl, Dn.dAt_p, Dn.dAt_pl, Dn.dAt_ii, Dn.dAt_l1, Dn.dAt_l2, Dn.dAt_t0, Dn.dAt_t1, Dn.dAt_t2, Dn.ixN_nat, Dn.ixN_0, Dn.ixN_1, Dn.dSub_ii, Dn.dFdiv_ii, Dn.dMod_ii, Dn.dPow_10, Dn.dGt_ii, Dn.dGe_ii, Dn.dLe_ii, Dn.dLtI_ii, Dn.dLen_tup, Dn.dLen_lst, Dn.dLen_scr, Dn.dInt_int, Dn.dInt_bl, Dn.dAdd_t, Dn.dAdd_l, Dn.dMax2_n, Dn.dMin2_n, Dn.dMax2_0n, Dn.dMin2_0n, Dn.dMax2_n0, Dn.dMin2_n0, Dn.dMax2_1n, Dn.dMin2_1n, Dn.dMax2_n1, Dn.dMin2_n1, Dn.dMax2_2n, Dn.dMin2_2n, Dn.dMax2_n2, Dn.dMin2_n2, Dn.dMax2_3n, Dn.dMin2_3n, Dn.dMax2_n3, Dn.dMin2_n3, Dn.dMax2_4n, Dn.dMin2_4n, Dn.dMax2_n4, Dn.dMin2_n4, Dn.dMax2_5n, Dn.dMin2_5n, Dn.dMax2_n5, Dn.dMin2_n5, Dn.dMax2_6n, Dn.dMin2_6n, Dn.dMax2_n6, Dn.dMin2_n6, Dn.appN, Dn.appT, Dn.mTake, Dn.mDrop, Dn.mApp, Dn.filterT, Dn.gApp_1, Dn.gExt_1, Dn.gIns_1, Dn.isi_int_int, Dn.isi_int_bl, Dn.isi_int_str, Dn.isi_int_tup, Dn.isi_int_lst, Dn.isi_int_non, Dn.isi_bool_int, Dn.isi_bool_bl, Dn.isi_bool_str, Dn.isi_bool_tup, Dn.isi_bool_lst, Dn.isi_bool_non, Dn.isi_str_int, Dn.isi_str_bl, Dn.isi_str_str, Dn.isi_str_tup, Dn.isi_str_lst, Dn.isi_str_non, Dn.isi_tup_int, Dn.isi_tup_bl, Dn.isi_tup_str, Dn.isi_tup_tup, Dn.isi_tup_lst, Dn.isi_tup_non, Dn.isi_lst_int, Dn.isi_lst_bl, Dn.isi_lst_str, Dn.isi_lst_tup, Dn.isi_lst_lst, Dn.isi_lst_non, Dn.isi2_tup, Dn.isi2_lst, Dn.isi2_int, Dn.isi2_bl, Dn.isi2_str, Dn.isi2_non, Dn.items_tup, Dn.items_lst, Dn.items_rng, Dn.enum_map, Dn.gNm_eq, Dn.gTp_tup, Dn.gsNil_nil, Dn.gsCons_cons, Dn.wipe_nil, Dn.wipe_cons, Dn.unwipe_nil, Dn.unwipe_cons, ↓Dn.bYes_eq, Dn.fill_nil, Dn.fill_val, Dn.fill_own, Dn.put_nil, Dn.put_val, Dn.put_own, Dn.vals_nil, Dn.vals_val, Dn.avD_val, Dn.avD_own, Dn.on1_1, Dn.on2_2, Dn.qTuple_l, Dn.qTuple_t, Dn.qList_l, Dn.qList_t, Dn.sqD_tup, Dn.sqD_lst, Dn.sqD_scr, Dn.outs_nil, Dn.outs_frz, Dn.outs_own, Dn.outs_io, Dn.dctD_n, Dn.dctD_k, Dn.d0_n, Dn.d0_k, Dn.putFD_nil, Dn.putFD_eq, Dn.putFD_ne, Dn.lk_eq, Dn.lk_ne, Dn.pick_nil, Dn.pick_cons, Dn.vA_cons, Dn.vA_nil, Dn.dRange1_n, Dn.cut_to, Dn.cut_from, Dn.dSl_tup, Dn.dSl_lst, Dn.dLt_ii, Dn.rg1D_nat, Dn.rg1D_int, Dn.rg2D_nat, Dn.enA_lst, Dn.enA_tup, Dn.asB_bl, Dn.asI_int, Dn.lstD_lst, Dn.fldC_obj, Dn.putC_obj, Dn.dAdd_i, Dn.dMulL, Dn.dMulS, List.getElem?_cons_succ, List.getElem?_cons_zero, Option.join_some, List.set_cons_succ, List.set_cons_zero, Option.map_some, Option.getD_some, Option.getD_none, Option.bind_some, Option.map_none, Option.bind_none, List.length_map, List.length_cons, List.length_nil, List.length_append, List.length_range, List.map_cons, List.map_nil, List.cons_append, List.nil_append, List.replicate_succ, List.replicate_zero, Nat.reduceAdd, Nat.reduceSub, Nat.reduceLeDiff, Nat.reduceLT, Nat.sub_self, Nat.add_zero, Nat.zero_add, Int.reduceAdd, Int.reduceSub, Int.reduceMul, Int.reducePow, Int.reduceMod, Int.reduceDiv, Int.reduceLT, Int.reduceLE, Int.reduceNeg, Int.reduceToNat, Int.toNat_natCast, reduceCtorEq, decide_true, decide_false, Bool.not_true, Bool.not_false, eq_self, ne_eq, not_true_eq_false, not_false_eq_true, and_true, true_and, and_self, if_true, if_false, reduceIte, Dn.Mode.isIo, Bool.false_eq_true, List.tail_cons, $ls,*])

namespace Dn.L
open PySem PySem.Spec PyProof.Rows L2 Dn
def top (i : Nat) : Stmt := PySem.Challenge.pw_patchworlds_k09_lets_and_barred_places.main.body.getD i (.Pass ⟨0, 0, 0, 0⟩)
abbrev s__law_source : Stmt := top 33
abbrev s__law_draw : Stmt := top 34
abbrev s__law_turn : Stmt := top 35
abbrev s__law_picture : Stmt := top 36
abbrev s__law_orders : Stmt := top 37
abbrev s__law_flat : Stmt := top 40
abbrev s__law_tie : Stmt := top 38
abbrev s__law_piece : Stmt := top 39
abbrev s__law_barred : Stmt := top 41
abbrev s_is_sequence : Stmt := top 8
abbrev s_is_number : Stmt := top 6
abbrev s_is_below : Stmt := top 7
abbrev s_check_turn : Stmt := top 12
abbrev s_is_row : Stmt := top 9
abbrev s_is_shape : Stmt := top 10
abbrev s_check_bars : Stmt := top 29
abbrev s_tie_in : Stmt := top 14
abbrev s_least_shape : Stmt := top 18
abbrev s_flat : Stmt := top 17
abbrev s_row_to : Stmt := top 15
abbrev s_cut : Stmt := top 16
abbrev s_barred_orders : Stmt := top 30
abbrev s_Table : Stmt := inClass (top 31) 0
abbrev s__law_meets : Stmt := top 42
abbrev s__law_drawn_row : Stmt := top 43
abbrev s__law_drawn_let : Stmt := top 44
abbrev s__law_changed : Stmt := top 49
abbrev s__law_order : Stmt := top 45
abbrev s__law_first_barred : Stmt := top 46
abbrev s_check_picture : Stmt := top 11
abbrev s_tie_fits : Stmt := top 22
abbrev s_row_fits : Stmt := top 23
abbrev s_is_let : Stmt := top 24
abbrev s_lets : Stmt := top 26
abbrev s__law_equal : Stmt := top 47
abbrev s_is_barred : Stmt := top 21
abbrev s_first_barred : Stmt := top 25
abbrev s_barred_places : Stmt := top 27
abbrev s__law_ask : Stmt := top 48
abbrev s_law : Stmt := top 50
abbrev s_by_size : Stmt := top 19
/-! ### what the defs compute -/
noncomputable def b__law_source : SD :=
    (sSeq (sSet 2 (eBin dAdd (eBin dMul (eC (.int 7919)) (eVar 1)) (eC (.int 1))))
    (sSeq (sIf (bOf (eBin dLt (eVar 1) (eCB (on1 dLen) (aVal (eVar 0) aNil)))) (sSet 2 (eCB (on1 dInt) (aVal (eBin dAt (eVar 0) (eVar 1)) aNil))) sNx)
    (sSeq (sIf (bOf (eBin dGe (eVar 2) (eBin dPow (eC (.int 10)) (eC (.int 18))))) (sRet (eLst (aVal (eBin dSub (eVar 2) (eBin dPow (eC (.int 10)) (eC (.int 18)))) (aVal (eC (.int 1)) (aVal (eVar 1) aNil))))) sNx)
    (sRet (eLst (aVal (eBin dMod (eVar 2) (eC (.int 2147483629))) (aVal (eC (.int 0)) (aVal (eVar 1) aNil))))))))
@[irreducible] noncomputable def d__law_source : FD := runB 3 [.frz, .frz] .own b__law_source
noncomputable def b__law_draw : SD :=
    (sSeq (sIf (bAnd (bOf (eBin dEq (eIxO 0 (eC (.int 1))) (eC (.int 1)))) (bOf (eBin dGt (eIxO 0 (eC (.int 0))) (eC (.int 0))))) (sSeq (sSet 2 (eBin dMod (eCB (on1 dInt) (aVal (eIxO 0 (eC (.int 0))) aNil)) (eVar 1)))
    (sSeq (sPut 0 (eBin dFdiv (eCB (on1 dInt) (aVal (eIxO 0 (eC (.int 0))) aNil)) (eVar 1)) (eC (.int 0)))
    (sRet (eVar 2)))) sNx)
    (sSeq (sPut 0 (eC (.int 0)) (eC (.int 1)))
    (sSeq (sSet 3 (eBin dMod (eCB (on1 dInt) (aVal (eBin dAdd (eBin dMul (eIxO 0 (eC (.int 0))) (eC (.int 48271))) (eC (.int 12345))) aNil)) (eC (.int 2147483647))))
    (sSeq (sSet 3 (eBin dMod (eCB (on1 dInt) (aVal (eBin dAdd (eBin dAdd (eBin dMul (eVar 3) (eC (.int 16807))) (eBin dMul (eC (.int 977)) (eIxO 0 (eC (.int 2))))) (eC (.int 1))) aNil)) (eC (.int 2147483629))))
    (sSeq (sPut 0 (eVar 3) (eC (.int 0)))
    (sRet (eBin dMod (eBin dFdiv (eVar 3) (eC (.int 131))) (eVar 1))))))))
@[irreducible] noncomputable def d__law_draw : FD := runB 4 [.io, .frz] .frz b__law_draw
noncomputable def b__law_turn : SD :=
    (sSeq (sSet 2 (eLc (iRg1 (aVal (eVar 1) aNil)) (gNm 3) bYes (eVar 3) [3]))
    (sSeq (sFor (iRg1 (aVal (eVar 1) aNil)) (gNm 3) (sSeq (sSet 4 (eCall d__law_draw (aOwn 0 (aVal (eVar 1) aNil))))
    (sIf (bAnd (bOf (eBin dEq (eIxO 2 (eVar 3)) (eVar 3))) (bOf (eBin dEq (eIxO 2 (eVar 4)) (eVar 4)))) (sSeq (sPut 2 (eVar 4) (eVar 3))
    (sPut 2 (eVar 3) (eVar 4))) sNx)))
    (sRet (eQ qTuple (qOwn 2)))))
@[irreducible] noncomputable def d__law_turn : FD := runB 5 [.io, .frz] .frz b__law_turn
noncomputable def b__law_picture : SD :=
    (sSeq (sSet 3 (eLst aNil))
    (sSeq (sFor (iRg1 (aVal (eVar 1) aNil)) (gNm 4) (sExpr (eMut 3 gApp (aVal (eQ qTuple (qVal (eLc (iRg1 (aVal (eVar 4) aNil)) (gNm 5) bYes (eCall d__law_draw (aOwn 0 (aVal (eVar 2) aNil))) [5]))) aNil))))
    (sRet (eQ qTuple (qOwn 3)))))
@[irreducible] noncomputable def d__law_picture : FD := runB 6 [.io, .frz, .frz] .frz b__law_picture
noncomputable def b__law_orders : SD :=
    (sSeq (sSet 1 (eLst (aVal (eTup aNil) aNil)))
    (sSeq (sFor (iRg1 (aVal (eVar 0) aNil)) (gNm 2) (sSeq (sSet 3 (eLst aNil))
    (sSeq (sFor (iAnyD (eVar 1)) (gNm 4) (sFor (iRg1 (aVal (eVar 0) aNil)) (gNm 5) (sIf (bOf (eBin (dInD true) (eVar 5) (eVar 4))) (sExpr (eMut 3 gApp (aVal (eBin dAdd (eVar 4) (eTup (aVal (eVar 5) aNil))) aNil))) sNx)))
    (sSet 1 (eMove 3)))))
    (sRet (eVar 1))))
@[irreducible] noncomputable def d__law_orders : FD := runB 6 [.frz] .frz b__law_orders
noncomputable def b__law_flat : SD :=
    (sSeq (sSet 1 (eTup aNil))
    (sSeq (sFor (iAnyD (eVar 0)) (gNm 2) (sSet 1 (eBin dAdd (eVar 1) (eVar 2))))
    (sRet (eVar 1))))
@[irreducible] noncomputable def d__law_flat : FD := runB 3 [.frz] .frz b__law_flat
noncomputable def b__law_tie : SD :=
    (sSeq (sIf (bOf (eBin dLt (eVar 2) (eVar 3))) (sRet (eBin dAt (eBin dAt (eVar 1) (eVar 3)) (eVar 2))) sNx)
    (sRet (eBin dAt (eVar 0) (eBin dAt (eBin dAt (eVar 1) (eVar 2)) (eVar 3)))))
@[irreducible] noncomputable def d__law_tie : FD := runB 4 [.frz, .frz, .frz, .frz] .frz b__law_tie
noncomputable def b__law_piece : SD :=
    (sSeq (sSet 3 (eLst aNil))
    (sSeq (sFor (iRg1 (aVal (eCB (on1 dLen) (aVal (eVar 2) aNil)) aNil)) (gNm 4) (sExpr (eMut 3 gApp (aVal (eQ qTuple (qVal (eLc (iRg1 (aVal (eVar 4) aNil)) (gNm 5) bYes (eCall d__law_tie (aVal (eVar 0) (aVal (eVar 1) (aVal (eBin dAt (eVar 2) (eVar 5)) (aVal (eBin dAt (eVar 2) (eVar 4)) aNil))))) [5]))) aNil))))
    (sRet (eQ qTuple (qOwn 3)))))
@[irreducible] noncomputable def d__law_piece : FD := runB 6 [.frz, .frz, .frz] .frz b__law_piece
noncomputable def b__law_barred : SD :=
    (sSeq (sSet 2 (eNewD .n))
    (sSeq (sFor (iAnyD (eVar 1)) (gNm 3) (sFor (iAnyD (eCall d__law_orders (aVal (eCB (on1 dLen) (aVal (eVar 3) aNil)) aNil))) (gNm 4) (sPutD 2 (eC (.bl true)) (eCall d__law_flat (aVal (eCall d__law_piece (aVal (eVar 0) (aVal (eVar 3) (aVal (eVar 4) aNil)))) aNil)))))
    (sRet (eMove 2))))
@[irreducible] noncomputable def d__law_barred : FD := runB 5 [.frz, .frz] .frz b__law_barred
noncomputable def b_is_sequence : SD :=
    (sRet (eUn (dIsi2 "list" "tuple") (eVar 0)))
@[irreducible] noncomputable def d_is_sequence : FD := runB 1 [.frz] .frz b_is_sequence
noncomputable def b_is_number : SD :=
    (sRet (eAnd (eUn (dIsi "int") (eVar 0)) (eAnd (eNot (eUn (dIsi "bool") (eVar 0))) (eBin dGe (eVar 0) (eC (.int 0))))))
@[irreducible] noncomputable def d_is_number : FD := runB 1 [.frz] .frz b_is_number
noncomputable def b_is_below : SD :=
    (sRet (eAnd (eCall d_is_number (aVal (eVar 0) aNil)) (eBin dLt (eVar 0) (eVar 1))))
@[irreducible] noncomputable def d_is_below : FD := runB 2 [.frz, .frz] .frz b_is_below
noncomputable def b_check_turn : SD :=
    (sSeq (sIf (bOr (bNot (bTru (eCall d_is_sequence (aVal (eVar 0) aNil)))) (bNot (bTru (eVar 0)))) sNever sNx)
    (sSeq (sFor (iEnA (aVal (eVar 0) aNil)) (gTp 2 (gsCons (gNm 1) (gsCons (gNm 2) gsNil))) (sIf (bNot (bTru (eCall d_is_below (aVal (eVar 2) (aVal (eCB (on1 dLen) (aVal (eVar 0) aNil)) aNil))))) sNever sNx))
    (sFor (iEnA (aVal (eVar 0) aNil)) (gTp 2 (gsCons (gNm 1) (gsCons (gNm 2) gsNil))) (sIf (bOf (eBin dNe (eBin dAt (eVar 0) (eVar 2)) (eVar 1))) sNever sNx))))
@[irreducible] noncomputable def d_check_turn : FD := runB 3 [.frz] .frz b_check_turn
noncomputable def b_is_row : SD :=
    (sSeq (sIf (bOr (bNot (bTru (eUn (dIsi "tuple") (eVar 0)))) (bOf (eBin dNe (eCB (on1 dLen) (aVal (eVar 0) aNil)) (eVar 1)))) (sRet (eC (.bl false))) sNx)
    (sSeq (sFor (iAnyD (eVar 0)) (gNm 3) (sIf (bNot (bTru (eCall d_is_below (aVal (eVar 3) (aVal (eVar 2) aNil))))) (sRet (eC (.bl false))) sNx))
    (sRet (eC (.bl true)))))
@[irreducible] noncomputable def d_is_row : FD := runB 4 [.frz, .frz, .frz] .frz b_is_row
noncomputable def b_is_shape : SD :=
    (sSeq (sIf (bNot (bTru (eUn (dIsi "tuple") (eVar 0)))) (sRet (eC (.bl false))) sNx)
    (sSeq (sFor (iEnA (aVal (eVar 0) aNil)) (gTp 2 (gsCons (gNm 2) (gsCons (gNm 3) gsNil))) (sIf (bNot (bTru (eCall d_is_row (aVal (eVar 3) (aVal (eVar 2) (aVal (eVar 1) aNil)))))) (sRet (eC (.bl false))) sNx))
    (sRet (eC (.bl true)))))
@[irreducible] noncomputable def d_is_shape : FD := runB 4 [.frz, .frz] .frz b_is_shape
noncomputable def b_check_bars : SD :=
    (sSeq (sIf (bNot (bTru (eCall d_is_sequence (aVal (eVar 0) aNil)))) sNever sNx)
    (sFor (iEnA (aVal (eVar 0) aNil)) (gTp 2 (gsCons (gNm 2) (gsCons (gNm 3) gsNil))) (sIf (bOr (bNot (bTru (eCall d_is_shape (aVal (eVar 3) (aVal (eVar 1) aNil))))) (bOf (eBin (dInD true) (eCB (on1 dLen) (aVal (eVar 3) aNil)) (eTup (aVal (eC (.int 3)) (aVal (eC (.int 4)) aNil)))))) sNever sNx)))
@[irreducible] noncomputable def d_check_bars : FD := runB 4 [.frz, .frz] .frz b_check_bars
noncomputable def b_tie_in : SD :=
    (sSeq (sIf (bOf (eBin dLt (eVar 2) (eVar 3))) (sRet (eBin dAt (eBin dAt (eVar 1) (eVar 3)) (eVar 2))) sNx)
    (sRet (eBin dAt (eVar 0) (eBin dAt (eBin dAt (eVar 1) (eVar 2)) (eVar 3)))))
@[irreducible] noncomputable def d_tie_in : FD := runB 4 [.frz, .frz, .frz, .frz] .frz b_tie_in
noncomputable def b_least_shape : SD :=
    (sSeq (sSet 2 (eCB (on1 dRange1) (aVal (eCB (on1 dLen) (aVal (eVar 1) aNil)) aNil)))
    (sSeq (sSet 3 (eLc (iAnyD (eVar 2)) (gNm 12) bYes (eLc (iAnyD (eVar 2)) (gNm 13) bYes (eIf (bOf (eBin dEq (eVar 13) (eVar 12))) (eC .non) (eCall d_tie_in (aVal (eVar 0) (aVal (eVar 1) (aVal (eVar 13) (aVal (eVar 12) aNil)))))) [13]) [12]))
    (sSeq (sSet 4 (eLst (aVal (eTup aNil) aNil)))
    (sSeq (sSet 5 (eLst aNil))
    (sSeq (sFor (iAnyD (eVar 2)) (gNm 6) (sSeq (sSet 7 (eC .non))
    (sSeq (sSet 8 (eLst aNil))
    (sSeq (sFor (iAnyD (eVar 4)) (gNm 9) (sFor (iAnyD (eVar 2)) (gNm 10) (sIf (bOf (eBin (dInD true) (eVar 10) (eVar 9))) (sSeq (sSet 11 (eQ qTuple (qVal (eLc (iAnyD (eVar 9)) (gNm 14) bYes (eBin dAt (eBin dAt (eVar 3) (eVar 10)) (eVar 14)) [14]))))
    (sSeq (sIf (bOr (bOf (eBin dIs (eVar 7) (eC .non))) (bOf (eBin dLt (eVar 11) (eVar 7)))) (sSeq (sSet 7 (eVar 11))
    (sSet 8 (eLst aNil))) sNx)
    (sIf (bOf (eBin dEq (eVar 11) (eVar 7))) (sExpr (eMut 8 gApp (aVal (eBin dAdd (eVar 9) (eTup (aVal (eVar 10) aNil))) aNil))) sNx))) sNx)))
    (sSeq (sSet 4 (eMove 8))
    (sExpr (eMut 5 gApp (aVal (eVar 7) aNil))))))))
    (sRet (eQ qTuple (qOwn 5))))))))
@[irreducible] noncomputable def d_least_shape : FD := runB 15 [.frz, .frz] .frz b_least_shape
noncomputable def b_flat : SD :=
    (sRet (eQ qTuple (qVal (eLc2 (iAnyD (eVar 0)) (gNm 1) bYes (iAnyD (eVar 1)) (gNm 2) bYes (eVar 2) [1, 2] [2]))))
@[irreducible] noncomputable def d_flat : FD := runB 3 [.frz] .frz b_flat
noncomputable def b_row_to : SD :=
    (sRet (eQ qTuple (qVal (eLc (iAnyD (eVar 2)) (gNm 4) bYes (eCall d_tie_in (aVal (eVar 0) (aVal (eVar 1) (aVal (eVar 4) (aVal (eVar 3) aNil))))) [4]))))
@[irreducible] noncomputable def d_row_to : FD := runB 5 [.frz, .frz, .frz, .frz] .frz b_row_to
noncomputable def b_cut : SD :=
    (sRet (eQ qTuple (qVal (eLc (iEnA (aVal (eVar 2) aNil)) (gTp 2 (gsCons (gNm 3) (gsCons (gNm 4) gsNil))) bYes (eCall d_row_to (aVal (eVar 0) (aVal (eVar 1) (aVal (eSl (eVar 2) pNone (pSome (eVar 3))) (aVal (eVar 4) aNil))))) [3, 4]))))
@[irreducible] noncomputable def d_cut : FD := runB 5 [.frz, .frz, .frz] .frz b_cut
noncomputable def b_barred_orders : SD :=
    (sSeq (sSet 2 (eNewD .n))
    (sSeq (sFor (iAnyD (eVar 1)) (gNm 3) (sFor (iPerm (eCB (on1 dRange1) (aVal (eCB (on1 dLen) (aVal (eVar 3) aNil)) aNil))) (gNm 4) (sPutD 2 (eC (.bl true)) (eCall d_flat (aVal (eCall d_cut (aVal (eVar 0) (aVal (eVar 3) (aVal (eVar 4) aNil)))) aNil)))))
    (sRet (eMove 2))))
@[irreducible] noncomputable def d_barred_orders : FD := runB 5 [.frz, .frz] .frz b_barred_orders
noncomputable def b_Table : SD :=
    (sSeq (sExpr (eCall d_check_turn (aVal (eVar 1) aNil)))
    (sSeq (sExpr (eCall d_check_bars (aVal (eVar 2) (aVal (eCB (on1 dLen) (aVal (eVar 1) aNil)) aNil))))
    (sSeq (sFldPut 0 "Table" "turn" (eQ qTuple (qVal (eVar 1))))
    (sSeq (sFldPut 0 "Table" "ties" (eCB (on1 dLen) (aVal (eFldO 0 "Table" "turn") aNil)))
    (sSeq (sSet 3 (eDc .n (iAnyD (eVar 2)) (gNm 4) bYes (eCall d_least_shape (aVal (eFldO 0 "Table" "turn") (aVal (eVar 4) aNil))) (eC (.bl true)) [4]))
    (sSeq (sFldPut 0 "Table" "bars" (eQ qTuple (qVal (eQO qSortK (qVal (eListK (eVar 3)))))))
    (sSeq (sFldPut 0 "Table" "widest" (eC (.int 3)))
    (sSeq (sFor (iAnyD (eFldO 0 "Table" "bars")) (gNm 4) (sFldPut 0 "Table" "widest" (eCB (on2 dMax2) (aVal (eFldO 0 "Table" "widest") (aVal (eCB (on1 dLen) (aVal (eVar 4) aNil)) aNil)))))
    (sSeq (sFldPut 0 "Table" "barred" (eCall d_barred_orders (aVal (eFldO 0 "Table" "turn") (aVal (eFldO 0 "Table" "bars") aNil))))
    (sFldPut 0 "Table" "notes" (eNewD .n)))))))))))
@[irreducible] noncomputable def d_Table : FD := runB 5 [.io, .frz, .frz] .frz b_Table
noncomputable def b__law_meets : SD :=
    (sSeq (sSet 3 (eBin dSub (eCB (on1 dLen) (aVal (eVar 2) aNil)) (eC (.int 1))))
    (sSeq (sFor (iRg1 (aVal (eVar 3) aNil)) (gNm 4) (sSeq (sIf (bOf (eBin (dInN false) (eTup (aVal (eBin dAt (eBin dAt (eVar 1) (eVar 3)) (eVar 4)) (aVal (eBin dAt (eVar 2) (eVar 4)) (aVal (eBin dAt (eVar 2) (eVar 3)) aNil)))) (eVar 0))) (sRet (eC (.bl false))) sNx)
    (sFor (iRg1 (aVal (eVar 4) aNil)) (gNm 5) (sIf (bOf (eBin (dInN false) (eTup (aVal (eBin dAt (eBin dAt (eVar 1) (eVar 4)) (eVar 5)) (aVal (eBin dAt (eBin dAt (eVar 1) (eVar 3)) (eVar 5)) (aVal (eBin dAt (eBin dAt (eVar 1) (eVar 3)) (eVar 4)) (aVal (eBin dAt (eVar 2) (eVar 5)) (aVal (eBin dAt (eVar 2) (eVar 4)) (aVal (eBin dAt (eVar 2) (eVar 3)) aNil))))))) (eVar 0))) (sRet (eC (.bl false))) sNx))))
    (sRet (eC (.bl true)))))
@[irreducible] noncomputable def d__law_meets : FD := runB 6 [.frz, .frz, .frz] .frz b__law_meets
noncomputable def b__law_drawn_row : SD :=
    (sSeq (sSet 4 (eTup aNil))
    (sSeq (sFor (iRg1 (aVal (eCB (on1 dLen) (aVal (eVar 2) aNil)) aNil)) (gNm 5) (sSeq (sSet 6 (eLc (iRg1 (aVal (eVar 3) aNil)) (gNm 7) (bTru (eCall d__law_meets (aVal (eVar 1) (aVal (eVar 2) (aVal (eBin dAdd (eVar 4) (eTup (aVal (eVar 7) aNil))) aNil))))) (eVar 7) [7]))
    (sSeq (sIf (bOf (eBin dEq (eCB (on1 dLen) (aVal (eVar 6) aNil)) (eC (.int 0)))) (sRet (eC .non)) sNx)
    (sSet 4 (eBin dAdd (eVar 4) (eTup (aVal (eBin dAt (eVar 6) (eCall d__law_draw (aOwn 0 (aVal (eCB (on1 dLen) (aVal (eVar 6) aNil)) aNil)))) aNil)))))))
    (sRet (eVar 4))))
@[irreducible] noncomputable def d__law_drawn_row : FD := runB 8 [.io, .frz, .frz, .frz] .frz b__law_drawn_row
noncomputable def b__law_drawn_let : SD :=
    (sSeq (sSet 4 (eTup aNil))
    (sSeq (sFor (iRg1 (aVal (eVar 3) aNil)) (gNm 5) (sSeq (sSet 6 (eCall d__law_drawn_row (aOwn 0 (aVal (eVar 1) (aVal (eVar 4) (aVal (eVar 2) aNil))))))
    (sIf (bOf (eBin dIsNot (eVar 6) (eC .non))) (sSet 4 (eBin dAdd (eVar 4) (eTup (aVal (eVar 6) aNil)))) sNx)))
    (sRet (eVar 4))))
@[irreducible] noncomputable def d__law_drawn_let : FD := runB 7 [.io, .frz, .frz, .frz] .frz b__law_drawn_let
noncomputable def b__law_changed : SD :=
    (sSeq (sIf (bOf (eBin dLtI (eCB (on1 dLen) (aVal (eVar 1) aNil)) (eC (.int 2)))) (sRet (eVar 1)) sNx)
    (sSeq (sSet 3 (eBin dAdd (eC (.int 1)) (eCall d__law_draw (aOwn 0 (aVal (eBin dSub (eCB (on1 dLen) (aVal (eVar 1) aNil)) (eC (.int 1))) aNil)))))
    (sSeq (sSet 4 (eCall d__law_draw (aOwn 0 (aVal (eVar 3) aNil))))
    (sSeq (sSet 5 (eBin dAt (eVar 1) (eVar 3)))
    (sRet (eBin dAdd (eBin dAdd (eSl (eVar 1) pNone (pSome (eVar 3))) (eTup (aVal (eBin dAdd (eBin dAdd (eSl (eVar 5) pNone (pSome (eVar 4))) (eTup (aVal (eCall d__law_draw (aOwn 0 (aVal (eVar 2) aNil))) aNil))) (eSl (eVar 5) (pSome (eBin dAdd (eVar 4) (eC (.int 1)))) pNone)) aNil))) (eSl (eVar 1) (pSome (eBin dAdd (eVar 3) (eC (.int 1)))) pNone)))))))
@[irreducible] noncomputable def d__law_changed : FD := runB 6 [.io, .frz, .frz] .frz b__law_changed
noncomputable def b__law_order : SD :=
    (sSeq (sSet 2 (eLst aNil))
    (sSeq (sFor (iRg1 (aVal (eVar 1) aNil)) (gNm 3) (sExpr (eMut 2 gIns (aVal (eCall d__law_draw (aOwn 0 (aVal (eBin dAdd (eVar 3) (eC (.int 1))) aNil))) (aVal (eVar 3) aNil)))))
    (sRet (eQ qTuple (qOwn 2)))))
@[irreducible] noncomputable def d__law_order : FD := runB 4 [.io, .frz] .frz b__law_order
noncomputable def b__law_first_barred : SD :=
    (sSeq (sSet 2 (eCB (on1 dLen) (aVal (eVar 1) aNil)))
    (sSeq (sFor (iRg1 (aVal (eVar 2) aNil)) (gNm 3) (sFor (iRg2 (aVal (eBin dAdd (eVar 3) (eC (.int 1))) (aVal (eVar 2) aNil))) (gNm 4) (sFor (iRg2 (aVal (eBin dAdd (eVar 4) (eC (.int 1))) (aVal (eVar 2) aNil))) (gNm 5) (sIf (bOf (eBin (dInN false) (eTup (aVal (eBin dAt (eBin dAt (eVar 1) (eVar 4)) (eVar 3)) (aVal (eBin dAt (eBin dAt (eVar 1) (eVar 5)) (eVar 3)) (aVal (eBin dAt (eBin dAt (eVar 1) (eVar 5)) (eVar 4)) aNil)))) (eVar 0))) (sRet (eTup (aVal (eVar 3) (aVal (eVar 4) (aVal (eVar 5) aNil))))) sNx))))
    (sSeq (sFor (iRg1 (aVal (eVar 2) aNil)) (gNm 6) (sFor (iRg2 (aVal (eBin dAdd (eVar 6) (eC (.int 1))) (aVal (eVar 2) aNil))) (gNm 3) (sFor (iRg2 (aVal (eBin dAdd (eVar 3) (eC (.int 1))) (aVal (eVar 2) aNil))) (gNm 4) (sSeq (sSet 7 (eTup (aVal (eBin dAt (eBin dAt (eVar 1) (eVar 3)) (eVar 6)) (aVal (eBin dAt (eBin dAt (eVar 1) (eVar 4)) (eVar 6)) (aVal (eBin dAt (eBin dAt (eVar 1) (eVar 4)) (eVar 3)) aNil)))))
    (sFor (iRg2 (aVal (eBin dAdd (eVar 4) (eC (.int 1))) (aVal (eVar 2) aNil))) (gNm 5) (sIf (bOf (eBin (dInN false) (eBin dAdd (eVar 7) (eTup (aVal (eBin dAt (eBin dAt (eVar 1) (eVar 5)) (eVar 6)) (aVal (eBin dAt (eBin dAt (eVar 1) (eVar 5)) (eVar 3)) (aVal (eBin dAt (eBin dAt (eVar 1) (eVar 5)) (eVar 4)) aNil))))) (eVar 0))) (sRet (eTup (aVal (eVar 6) (aVal (eVar 3) (aVal (eVar 4) (aVal (eVar 5) aNil)))))) sNx))))))
    (sRet (eC .non)))))
@[irreducible] noncomputable def d__law_first_barred : FD := runB 8 [.frz, .frz] .frz b__law_first_barred
noncomputable def b_check_picture : SD :=
    (sIf (bNot (bTru (eCall d_is_shape (aVal (eVar 1) (aVal (eFld "Table" "ties" (eVar 0)) aNil))))) sNever sNx)
@[irreducible] noncomputable def d_check_picture : FD := runB 2 [.frz, .frz] .frz b_check_picture
noncomputable def b_tie_fits : SD :=
    (sSeq (sSet 4 (eCB (on1 dLen) (aVal (eVar 2) aNil)))
    (sSeq (sSet 5 (eBin dAt (eVar 1) (eVar 4)))
    (sSeq (sSet 6 (eFld "Table" "barred" (eVar 0)))
    (sSeq (sFor (iRg1 (aVal (eVar 4) aNil)) (gNm 7) (sIf (bOf (eBin (dInN false) (eTup (aVal (eBin dAt (eVar 5) (eVar 7)) (aVal (eBin dAt (eVar 2) (eVar 7)) (aVal (eVar 3) aNil)))) (eVar 6))) (sRet (eC (.bl false))) sNx))
    (sSeq (sIf (bOf (eBin dEq (eFld "Table" "widest" (eVar 0)) (eC (.int 4)))) (sFor (iRg1 (aVal (eVar 4) aNil)) (gNm 8) (sFor (iRg1 (aVal (eVar 8) aNil)) (gNm 7) (sIf (bOf (eBin (dInN false) (eTup (aVal (eBin dAt (eBin dAt (eVar 1) (eVar 8)) (eVar 7)) (aVal (eBin dAt (eVar 5) (eVar 7)) (aVal (eBin dAt (eVar 5) (eVar 8)) (aVal (eBin dAt (eVar 2) (eVar 7)) (aVal (eBin dAt (eVar 2) (eVar 8)) (aVal (eVar 3) aNil))))))) (eVar 6))) (sRet (eC (.bl false))) sNx))) sNx)
    (sRet (eC (.bl true))))))))
@[irreducible] noncomputable def d_tie_fits : FD := runB 9 [.frz, .frz, .frz, .frz] .frz b_tie_fits
noncomputable def b_row_fits : SD :=
    (sSeq (sFor (iEnA (aVal (eVar 2) aNil)) (gTp 2 (gsCons (gNm 3) (gsCons (gNm 4) gsNil))) (sIf (bNot (bTru (eCall d_tie_fits (aVal (eVar 0) (aVal (eVar 1) (aVal (eSl (eVar 2) pNone (pSome (eVar 3))) (aVal (eVar 4) aNil))))))) (sRet (eC (.bl false))) sNx))
    (sRet (eC (.bl true))))
@[irreducible] noncomputable def d_row_fits : FD := runB 5 [.frz, .frz, .frz] .frz b_row_fits
noncomputable def b_is_let : SD :=
    (sSeq (sFor (iAnyD (eVar 1)) (gNm 2) (sIf (bNot (bTru (eCall d_row_fits (aVal (eVar 0) (aVal (eVar 1) (aVal (eVar 2) aNil)))))) (sRet (eC (.bl false))) sNx))
    (sRet (eC (.bl true))))
@[irreducible] noncomputable def d_is_let : FD := runB 3 [.frz, .frz] .frz b_is_let
noncomputable def b_lets : SD :=
    (sSeq (sExpr (eCall d_check_picture (aVal (eVar 0) (aVal (eVar 1) aNil))))
    (sRet (eCall d_is_let (aVal (eVar 0) (aVal (eVar 1) aNil)))))
@[irreducible] noncomputable def d_lets : FD := runB 2 [.frz, .frz] .frz b_lets
noncomputable def b__law_equal (dself : FD) : SD :=
    (sSeq (sIf (bOf (eBin dIs (eVar 1) (eC .non))) (sRet (eBin dIs (eVar 0) (eC .non))) sNx)
    (sSeq (sIf (bTru (eUn (dIsi "bool") (eVar 1))) (sRet (eAnd (eUn (dIsi "bool") (eVar 0)) (eBin dEq (eVar 0) (eVar 1)))) sNx)
    (sSeq (sIf (bTru (eUn (dIsi "int") (eVar 1))) (sRet (eAnd (eUn (dIsi "int") (eVar 0)) (eAnd (eNot (eUn (dIsi "bool") (eVar 0))) (eBin dEq (eVar 0) (eVar 1))))) sNx)
    (sSeq (sIf (bTru (eUn (dIsi "str") (eVar 1))) (sRet (eAnd (eUn (dIsi "str") (eVar 0)) (eBin dEq (eVar 0) (eVar 1)))) sNx)
    (sSeq (sIf (bOr (bNot (bTru (eUn (dIsi "tuple") (eVar 0)))) (bOf (eBin dNe (eCB (on1 dLen) (aVal (eVar 0) aNil)) (eCB (on1 dLen) (aVal (eVar 1) aNil))))) (sRet (eC (.bl false))) sNx)
    (sSeq (sFor (iRg1 (aVal (eCB (on1 dLen) (aVal (eVar 1) aNil)) aNil)) (gNm 2) (sIf (bNot (bTru (eCall dself (aVal (eBin dAt (eVar 0) (eVar 2)) (aVal (eBin dAt (eVar 1) (eVar 2)) aNil))))) (sRet (eC (.bl false))) sNx))
    (sRet (eC (.bl true)))))))))
noncomputable def dr__law_equal : Nat → FD
  | 0 => fun _ => .bad
  | n + 1 => runB 3 [.frz, .frz] .frz (b__law_equal (dr__law_equal n))
@[irreducible] noncomputable def d__law_equal (n : Nat) : FD := dr__law_equal n
theorem d__law_equal_zero : d__law_equal 0 = fun _ => .bad := by unfold d__law_equal; rfl
theorem d__law_equal_succ (n : Nat) : d__law_equal (n + 1) = runB 3 [.frz, .frz] .frz (b__law_equal (d__law_equal n)) := by unfold d__law_equal; rfl
noncomputable def b_is_barred : SD :=
    (sRet (eBin (dInN false) (eCall d_flat (aVal (eVar 1) aNil)) (eFld "Table" "barred" (eVar 0))))
@[irreducible] noncomputable def d_is_barred : FD := runB 2 [.frz, .frz] .frz b_is_barred
noncomputable def b_first_barred : SD :=
    (sSeq (sFor (iRg2 (aVal (eC (.int 3)) (aVal (eBin dAdd (eFld "Table" "widest" (eVar 0)) (eC (.int 1))) aNil))) (gNm 2) (sFor (iComb (eCB (on1 dRange1) (aVal (eCB (on1 dLen) (aVal (eVar 1) aNil)) aNil)) (eVar 2)) (gNm 3) (sIf (bTru (eCall d_is_barred (aVal (eVar 0) (aVal (eCall d_cut (aVal (eFld "Table" "turn" (eVar 0)) (aVal (eVar 1) (aVal (eVar 3) aNil)))) aNil)))) (sRet (eVar 3)) sNx)))
    (sRet (eC .non)))
@[irreducible] noncomputable def d_first_barred : FD := runB 4 [.frz, .frz] .frz b_first_barred
noncomputable def b_barred_places : SD :=
    (sSeq (sExpr (eCall d_check_picture (aVal (eVar 0) (aVal (eVar 1) aNil))))
    (sRet (eCall d_first_barred (aVal (eVar 0) (aVal (eVar 1) aNil)))))
@[irreducible] noncomputable def d_barred_places : FD := runB 2 [.frz, .frz] .frz b_barred_places
noncomputable def b__law_ask : SD :=
    (sSeq (sSet 3 (eCall d__law_first_barred (aVal (eVar 1) (aVal (eVar 2) aNil))))
    (sSeq (sSet 4 (eCall d_lets (aVal (eVar 0) (aVal (eVar 2) aNil))))
    (sSeq (sIf (bOr (bNot (bTru (eUn (dIsi "bool") (eVar 4)))) (bOf (eBin dNe (eVar 4) (eBin dIs (eVar 3) (eC .non))))) (sRet (eC (.bl false))) sNx)
    (sRet (eCall (d__law_equal 12) (aVal (eCall d_barred_places (aVal (eVar 0) (aVal (eVar 2) aNil))) (aVal (eVar 3) aNil)))))))
@[irreducible] noncomputable def d__law_ask : FD := runB 5 [.frz, .frz, .frz] .frz b__law_ask
noncomputable def b_law : SD :=
    (sSeq (sSet 1 (eCall d__law_source (aVal (eVar 0) (aVal (eC (.int 0)) aNil))))
    (sSeq (sSet 2 (eBin dAdd (eC (.int 1)) (eCall d__law_draw (aOwn 1 (aVal (eC (.int 4)) aNil)))))
    (sSeq (sSet 3 (eCall d__law_turn (aOwn 1 (aVal (eVar 2) aNil))))
    (sSeq (sSet 4 (eLc (iRg1 (aVal (eCall d__law_draw (aOwn 1 (aVal (eC (.int 6)) aNil))) aNil)) (gNm 13) bYes (eCall d__law_picture (aOwn 1 (aVal (eC (.int 3)) (aVal (eVar 2) aNil)))) [13]))
    (sSeq (sIf (bOf (eBin dLe (eVar 2) (eC (.int 2)))) (sExpr (eMut 4 gExt (aVal (eLc (iRg1 (aVal (eCall d__law_draw (aOwn 1 (aVal (eC (.int 5)) aNil))) aNil)) (gNm 13) bYes (eCall d__law_picture (aOwn 1 (aVal (eC (.int 4)) (aVal (eVar 2) aNil)))) [13]) aNil))) sNx)
    (sIce 4 (sSeq (sSet 5 (eCall d__law_barred (aVal (eVar 3) (aVal (eVar 4) aNil))))
    (sSeq (sSet 6 (eMake "Table" d_Table (aVal (eVar 3) (aVal (eVar 4) aNil))))
    (sSeq (sSet 7 (eCall d__law_source (aVal (eVar 0) (aVal (eC (.int 1)) aNil))))
    (sSeq (sSet 8 (eCall d__law_drawn_let (aOwn 7 (aVal (eVar 5) (aVal (eVar 2) (aVal (eCall d__law_draw (aOwn 7 (aVal (eC (.int 13)) aNil))) aNil))))))
    (sSeq (sSet 9 (eLst (aVal (eVar 8) (aVal (eCall d__law_changed (aOwn 7 (aVal (eVar 8) (aVal (eVar 2) aNil)))) aNil))))
    (sSeq (sSet 10 (eCall d__law_source (aVal (eVar 0) (aVal (eC (.int 2)) aNil))))
    (sSeq (sExpr (eMut 9 gApp (aVal (eCall d__law_picture (aOwn 10 (aVal (eCall d__law_draw (aOwn 10 (aVal (eC (.int 13)) aNil))) (aVal (eVar 2) aNil)))) aNil)))
    (sSeq (sExpr (eMut 9 gExt (aVal (eLc (iAnyD (eVar 4)) (gNm 14) bYes (eCall d__law_piece (aVal (eVar 3) (aVal (eVar 14) (aVal (eCall d__law_order (aOwn 10 (aVal (eCB (on1 dLen) (aVal (eVar 14) aNil)) aNil))) aNil)))) [14]) aNil)))
    (sSeq (sFor (iAnyD (eMove 9)) (gNm 11) (sIf (bNot (bTru (eCall d__law_ask (aVal (eVar 6) (aVal (eVar 5) (aVal (eVar 11) aNil)))))) (sRet (eC (.bl false))) sNx))
    (sSeq (sSet 12 (eBin dIs (eCall d__law_first_barred (aVal (eVar 5) (aVal (eVar 8) aNil))) (eC .non)))
    (sRet (eAnd (eBin dIsB (eCall d_lets (aPick [1, 0] (aVal (eVar 8) (aVal (eVar 6) aNil)))) (eC (.bl true))) (eAnd (eVar 12) (eBin dIs (eCall d_barred_places (aPick [1, 0] (aVal (eVar 8) (aVal (eVar 6) aNil)))) (eC .non)))))))))))))))))))))
@[irreducible] noncomputable def d_law : FD := runB 15 [.frz] .frz b_law
/-! ### the text -/
structure Txt (G : Gx) : Prop where
  b_bool : G.mg "bool" = none
  b_enumerate : G.mg "enumerate" = none
  b_int : G.mg "int" = none
  b_isinstance : G.mg "isinstance" = none
  b_len : G.mg "len" = none
  b_list : G.mg "list" = none
  b_max : G.mg "max" = none
  b_range : G.mg "range" = none
  b_sorted : G.mg "sorted" = none
  b_str : G.mg "str" = none
  b_tuple : G.mg "tuple" = none
  f__law_source : FnAt G "_law_source" s__law_source
  f__law_draw : FnAt G "_law_draw" s__law_draw
  f__law_turn : FnAt G "_law_turn" s__law_turn
  f__law_picture : FnAt G "_law_picture" s__law_picture
  f__law_orders : FnAt G "_law_orders" s__law_orders
  f__law_flat : FnAt G "_law_flat" s__law_flat
  f__law_tie : FnAt G "_law_tie" s__law_tie
  f__law_piece : FnAt G "_law_piece" s__law_piece
  f__law_barred : FnAt G "_law_barred" s__law_barred
  f_is_sequence : FnAt G "is_sequence" s_is_sequence
  f_is_number : FnAt G "is_number" s_is_number
  f_is_below : FnAt G "is_below" s_is_below
  f_check_turn : FnAt G "check_turn" s_check_turn
  f_is_row : FnAt G "is_row" s_is_row
  f_is_shape : FnAt G "is_shape" s_is_shape
  f_check_bars : FnAt G "check_bars" s_check_bars
  f_tie_in : FnAt G "tie_in" s_tie_in
  f_least_shape : FnAt G "least_shape" s_least_shape
  f_flat : FnAt G "flat" s_flat
  f_row_to : FnAt G "row_to" s_row_to
  f_cut : FnAt G "cut" s_cut
  f_barred_orders : FnAt G "barred_orders" s_barred_orders
  c_Table : ClsAt G "Table" "Table.__init__" s_Table ["turn", "ties", "bars", "widest", "barred", "notes"]
  f__law_meets : FnAt G "_law_meets" s__law_meets
  f__law_drawn_row : FnAt G "_law_drawn_row" s__law_drawn_row
  f__law_drawn_let : FnAt G "_law_drawn_let" s__law_drawn_let
  f__law_changed : FnAt G "_law_changed" s__law_changed
  f__law_order : FnAt G "_law_order" s__law_order
  f__law_first_barred : FnAt G "_law_first_barred" s__law_first_barred
  f_check_picture : FnAt G "check_picture" s_check_picture
  f_tie_fits : FnAt G "tie_fits" s_tie_fits
  f_row_fits : FnAt G "row_fits" s_row_fits
  f_is_let : FnAt G "is_let" s_is_let
  f_lets : FnAt G "lets" s_lets
  f__law_equal : FnAt G "_law_equal" s__law_equal
  f_is_barred : FnAt G "is_barred" s_is_barred
  f_first_barred : FnAt G "first_barred" s_first_barred
  f_barred_places : FnAt G "barred_places" s_barred_places
  f__law_ask : FnAt G "_law_ask" s__law_ask
  f_law : FnAt G "law" s_law
  i_combinations : G.mg "combinations" = some (.type "itertools.combinations")
  i_permutations : G.mg "permutations" = some (.type "itertools.permutations")
  key_by_size : ∃ f, G.mg "by_size" = some (.ref f) ∧ KeyF G.K G.mg f
/-! ### the walk -/
theorem sc__law_source : FnScope ["script", "k", "cell"] ["script", "k"] (defScope s__law_source) := ⟨rfl, rfl, rfl, by decide +kernel, rfl, by decide +kernel, by decide +kernel⟩
theorem fnd__law_source {G : Gx} (T : Txt G) : FnD G "_law_source" s__law_source ["script", "k"] [.frz, .frz] .own 1 d__law_source := by
  skip
  unfold d__law_source
  exact fnd_of (ml := [.frz, .frz, .frz]) T.f__law_source sc__law_source rfl (by decide) fun f cdv A outer s H E => (dss_cons (ds_set 2 (de_op (fun c => o_add c) vs_add (de_op (fun c => o_mul c) vs_mul de_int (de_var 1)) de_int))
    (dss_cons (ds_if (dt_cmp (fun c => o_lt c) vs_lt (de_var 1) (de_callB (fun c => c_len c) vc_len T.b_len (by rfl) (da_val (de_var 0) da_nil))) (dss_one (ds_set 2 (de_callTy (fun c => c_int c) vc_int T.b_int (by rfl) (da_val (de_ix (de_var 0) (de_var 1)) da_nil)))) dss_nil)
    (dss_cons (ds_if (dt_cmp (fun c => o_ge c) vs_ge (de_var 2) (de_op (fun c => o_pow c) vs_pow de_int de_int)) (dss_one (ds_retO (do_lst (da_val (de_op (fun c => o_sub c) vs_sub (de_var 2) (de_op (fun c => o_pow c) vs_pow de_int de_int)) (da_val de_int (da_val (de_var 1) da_nil)))))) dss_nil)
    (dss_one (ds_retO (do_lst (da_val (de_op (fun c => o_mod c) vs_mod (de_var 2) de_int) (da_val de_int (da_val (de_var 1) da_nil)))))))))
theorem sc__law_draw : FnScope ["source", "many", "number", "state"] ["source", "many"] (defScope s__law_draw) := ⟨rfl, rfl, rfl, by decide +kernel, rfl, by decide +kernel, by decide +kernel⟩
theorem fnd__law_draw {G : Gx} (T : Txt G) : FnD G "_law_draw" s__law_draw ["source", "many"] [.io, .frz] .frz 1 d__law_draw := by
  skip
  unfold d__law_draw
  exact fnd_of (ml := [.io, .frz, .frz, .frz]) T.f__law_draw sc__law_draw rfl (by decide) fun f cdv A outer s H E => (dss_cons (ds_if (dt_w (dw_and (dt_cmp (fun c => o_eq c) vs_eq (de_ixO 0 de_int) de_int) (dw_and1 (dt_cmp (fun c => o_gt c) vs_gt (de_ixO 0 de_int) de_int)))) (dss_cons (ds_set 2 (de_op (fun c => o_mod c) vs_mod (de_callTy (fun c => c_int c) vc_int T.b_int (by rfl) (da_val (de_ixO 0 de_int) da_nil)) (de_var 1)))
    (dss_cons (ds_put 0 (de_op (fun c => o_fdiv c) vs_fdiv (de_callTy (fun c => c_int c) vc_int T.b_int (by rfl) (da_val (de_ixO 0 de_int) da_nil)) (de_var 1)) de_int)
    (dss_one (ds_ret (de_var 2))))) dss_nil)
    (dss_cons (ds_put 0 de_int de_int)
    (dss_cons (ds_set 3 (de_op (fun c => o_mod c) vs_mod (de_callTy (fun c => c_int c) vc_int T.b_int (by rfl) (da_val (de_op (fun c => o_add c) vs_add (de_op (fun c => o_mul c) vs_mul (de_ixO 0 de_int) de_int) de_int) da_nil)) de_int))
    (dss_cons (ds_set 3 (de_op (fun c => o_mod c) vs_mod (de_callTy (fun c => c_int c) vc_int T.b_int (by rfl) (da_val (de_op (fun c => o_add c) vs_add (de_op (fun c => o_add c) vs_add (de_op (fun c => o_mul c) vs_mul (de_var 3) de_int) (de_op (fun c => o_mul c) vs_mul de_int (de_ixO 0 de_int))) de_int) da_nil)) de_int))
    (dss_cons (ds_put 0 (de_var 3) de_int)
    (dss_one (ds_ret (de_op (fun c => o_mod c) vs_mod (de_op (fun c => o_fdiv c) vs_fdiv (de_var 3) de_int) (de_var 1)))))))))
theorem sc__law_turn : FnScope ["source", "ties", "turn", "t", "other"] ["source", "ties"] (defScope s__law_turn) := ⟨rfl, rfl, rfl, by decide +kernel, rfl, by decide +kernel, by decide +kernel⟩
theorem fnd__law_turn {G : Gx} (T : Txt G) : FnD G "_law_turn" s__law_turn ["source", "ties"] [.io, .frz] .frz 2 d__law_turn := by
  have h__law_draw := (fnd__law_draw T).cal fun _ _ _ _ _ _ us hl => match us, hl with | [_, _], _ => rfl
  unfold d__law_turn
  exact fnd_of (ml := [.io, .frz, .own, .frz, .frz]) T.f__law_turn sc__law_turn rfl (by decide) fun f cdv A outer s H E => (dss_cons (ds_setLc 2 (di_range1 T.b_range (da_val (de_var 1) da_nil)) (blkOk_by (own := [("t", 3)]) (by rfl)) (fun _ _ _ _ _ => (dg_name 3)) (fun _ _ _ _ _ => dif_nil) (fun _ _ _ _ _ => (de_var 3)))
    (dss_cons (ds_for (di_range1 T.b_range (da_val (de_var 1) da_nil)) (dg_name 3) (dss_cons (ds_set 4 (de_ice (do_call h__law_draw (da_own 0 (da_val (de_var 1) da_nil)))))
    (dss_one (ds_if (dt_w (dw_and (dt_cmp (fun c => o_eq c) vs_eq (de_ixO 2 (de_var 3)) (de_var 3)) (dw_and1 (dt_cmp (fun c => o_eq c) vs_eq (de_ixO 2 (de_var 4)) (de_var 4))))) (dss_cons (ds_put 2 (de_var 4) (de_var 3))
    (dss_one (ds_put 2 (de_var 3) (de_var 4)))) dss_nil))))
    (dss_one (ds_ret (de_seqTy (fun c => c_tuple c) vq_tuple T.b_tuple (by rfl) (dq_own 2))))))
theorem sc__law_picture : FnScope ["source", "points", "ties", "rows", "j", "i"] ["source", "points", "ties"] (defScope s__law_picture) := ⟨rfl, rfl, rfl, by decide +kernel, rfl, by decide +kernel, by decide +kernel⟩
theorem fnd__law_picture {G : Gx} (T : Txt G) : FnD G "_law_picture" s__law_picture ["source", "points", "ties"] [.io, .frz, .frz] .frz 2 d__law_picture := by
  have h__law_draw := (fnd__law_draw T).cal fun _ _ _ _ _ _ us hl => match us, hl with | [_, _], _ => rfl
  unfold d__law_picture
  exact fnd_of (ml := [.io, .frz, .frz, .own, .frz, .frz]) T.f__law_picture sc__law_picture rfl (by decide) fun f cdv A outer s H E => (dss_cons (ds_setO 3 (do_lst da_nil))
    (dss_cons (ds_for (di_range1 T.b_range (da_val (de_var 1) da_nil)) (dg_name 4) (dss_one (ds_expr (de_mut 3 vm_append PySem.F.slot_list_append PySem.F.type_list_append (fun _ => mt_append) (da_val (de_seqTy (fun c => c_tuple c) vq_tuple T.b_tuple (by rfl) (dq_val (de_ice (do_lc (di_range1 T.b_range (da_val (de_var 4) da_nil)) (blkOk_by (own := [("i", 5)]) (by rfl)) (fun _ _ _ _ _ => (dg_name 5)) (fun _ _ _ _ _ => dif_nil) (fun _ _ _ _ _ => (de_ice (do_call h__law_draw (da_own 0 (da_val (de_var 2) da_nil))))))))) da_nil)))))
    (dss_one (ds_ret (de_seqTy (fun c => c_tuple c) vq_tuple T.b_tuple (by rfl) (dq_own 3))))))
theorem sc__law_orders : FnScope ["many", "orders", "k", "longer", "order", "x"] ["many"] (defScope s__law_orders) := ⟨rfl, rfl, rfl, by decide +kernel, rfl, by decide +kernel, by decide +kernel⟩
theorem fnd__law_orders {G : Gx} (T : Txt G) : FnD G "_law_orders" s__law_orders ["many"] [.frz] .frz 1 d__law_orders := by
  skip
  unfold d__law_orders
  exact fnd_of (ml := [.frz, .frz, .frz, .own, .frz, .frz]) T.f__law_orders sc__law_orders rfl (by decide) fun f cdv A outer s H E => (dss_cons (ds_set 1 (de_ice (do_lst (da_val (de_tup da_nil) da_nil))))
    (dss_cons (ds_for (di_range1 T.b_range (da_val (de_var 0) da_nil)) (dg_name 2) (dss_cons (ds_setO 3 (do_lst da_nil))
    (dss_cons (ds_for (di_any (de_var 1)) (dg_name 4) (dss_one (ds_for (di_range1 T.b_range (da_val (de_var 0) da_nil)) (dg_name 5) (dss_one (ds_if (dt_cmp (fun c => o_notinD c) vs_inDD (de_var 5) (de_var 4)) (dss_one (ds_expr (de_mut 3 vm_append PySem.F.slot_list_append PySem.F.type_list_append (fun _ => mt_append) (da_val (de_op (fun c => o_add c) vs_add (de_var 4) (de_tup (da_val (de_var 5) da_nil))) da_nil)))) dss_nil)))))
    (dss_one (ds_set 1 (de_ice (do_move (n := 1) 3)))))))
    (dss_one (ds_ret (de_var 1)))))
theorem sc__law_flat : FnScope ["picture", "flat_v", "row"] ["picture"] (defScope s__law_flat) := ⟨rfl, rfl, rfl, by decide +kernel, rfl, by decide +kernel, by decide +kernel⟩
theorem fnd__law_flat {G : Gx} (T : Txt G) : FnD G "_law_flat" s__law_flat ["picture"] [.frz] .frz 1 d__law_flat := by
  skip
  unfold d__law_flat
  exact fnd_of (ml := [.frz, .frz, .frz]) T.f__law_flat sc__law_flat rfl (by decide) fun f cdv A outer s H E => (dss_cons (ds_set 1 (de_tup da_nil))
    (dss_cons (ds_for (di_any (de_var 0)) (dg_name 2) (dss_one (ds_set 1 (de_op (fun c => o_add c) vs_add (de_var 1) (de_var 2)))))
    (dss_one (ds_ret (de_var 1)))))
theorem sc__law_tie : FnScope ["turn", "picture", "i", "j"] ["turn", "picture", "i", "j"] (defScope s__law_tie) := ⟨rfl, rfl, rfl, by decide +kernel, rfl, by decide +kernel, by decide +kernel⟩
theorem fnd__law_tie {G : Gx} (T : Txt G) : FnD G "_law_tie" s__law_tie ["turn", "picture", "i", "j"] [.frz, .frz, .frz, .frz] .frz 1 d__law_tie := by
  skip
  unfold d__law_tie
  exact fnd_of (ml := [.frz, .frz, .frz, .frz]) T.f__law_tie sc__law_tie rfl (by decide) fun f cdv A outer s H E => (dss_cons (ds_if (dt_cmp (fun c => o_lt c) vs_lt (de_var 2) (de_var 3)) (dss_one (ds_ret (de_ix (de_ix (de_var 1) (de_var 3)) (de_var 2)))) dss_nil)
    (dss_one (ds_ret (de_ix (de_var 0) (de_ix (de_ix (de_var 1) (de_var 2)) (de_var 3))))))
theorem sc__law_piece : FnScope ["turn", "picture", "places", "rows", "k", "i"] ["turn", "picture", "places"] (defScope s__law_piece) := ⟨rfl, rfl, rfl, by decide +kernel, rfl, by decide +kernel, by decide +kernel⟩
theorem fnd__law_piece {G : Gx} (T : Txt G) : FnD G "_law_piece" s__law_piece ["turn", "picture", "places"] [.frz, .frz, .frz] .frz 2 d__law_piece := by
  have h__law_tie := (fnd__law_tie T).cal fun _ _ _ _ _ _ us hl => match us, hl with | [_, _, _, _], _ => rfl
  unfold d__law_piece
  exact fnd_of (ml := [.frz, .frz, .frz, .own, .frz, .frz]) T.f__law_piece sc__law_piece rfl (by decide) fun f cdv A outer s H E => (dss_cons (ds_setO 3 (do_lst da_nil))
    (dss_cons (ds_for (di_range1 T.b_range (da_val (de_callB (fun c => c_len c) vc_len T.b_len (by rfl) (da_val (de_var 2) da_nil)) da_nil)) (dg_name 4) (dss_one (ds_expr (de_mut 3 vm_append PySem.F.slot_list_append PySem.F.type_list_append (fun _ => mt_append) (da_val (de_seqTy (fun c => c_tuple c) vq_tuple T.b_tuple (by rfl) (dq_val (de_ice (do_lc (di_range1 T.b_range (da_val (de_var 4) da_nil)) (blkOk_by (own := [("i", 5)]) (by rfl)) (fun _ _ _ _ _ => (dg_name 5)) (fun _ _ _ _ _ => dif_nil) (fun _ _ _ _ _ => (de_ice (do_call h__law_tie (da_val (de_var 0) (da_val (de_var 1) (da_val (de_ix (de_var 2) (de_var 5)) (da_val (de_ix (de_var 2) (de_var 4)) da_nil))))))))))) da_nil)))))
    (dss_one (ds_ret (de_seqTy (fun c => c_tuple c) vq_tuple T.b_tuple (by rfl) (dq_own 3))))))
theorem sc__law_barred : FnScope ["turn", "bars", "barred", "bar", "order"] ["turn", "bars"] (defScope s__law_barred) := ⟨rfl, rfl, rfl, by decide +kernel, rfl, by decide +kernel, by decide +kernel⟩
theorem fnd__law_barred {G : Gx} (T : Txt G) : FnD G "_law_barred" s__law_barred ["turn", "bars"] [.frz, .frz] .frz 3 d__law_barred := by
  have h__law_flat := (fnd__law_flat T).cal fun _ _ _ _ _ _ us hl => match us, hl with | [_], _ => rfl
  have h__law_orders := (fnd__law_orders T).cal fun _ _ _ _ _ _ us hl => match us, hl with | [_], _ => rfl
  have h__law_piece := (fnd__law_piece T).cal fun _ _ _ _ _ _ us hl => match us, hl with | [_, _, _], _ => rfl
  unfold d__law_barred
  exact fnd_of (ml := [.frz, .frz, .own, .frz, .frz]) T.f__law_barred sc__law_barred rfl (by decide) fun f cdv A outer s H E => (dss_cons (ds_setO 2 (do_newD .n))
    (dss_cons (ds_for (di_any (de_var 1)) (dg_name 3) (dss_one (ds_for (di_any (de_ice (do_call h__law_orders (da_val (de_callB (fun c => c_len c) vc_len T.b_len (by rfl) (da_val (de_var 3) da_nil)) da_nil)))) (dg_name 4) (dss_one (ds_putD 2 de_bl (de_ice (do_call h__law_flat (da_val (de_ice (do_call h__law_piece (da_val (de_var 0) (da_val (de_var 3) (da_val (de_var 4) da_nil))))) da_nil))))))))
    (dss_one (ds_ret (de_ice (do_move (n := 1) 2))))))
theorem sc_is_sequence : FnScope ["value"] ["value"] (defScope s_is_sequence) := ⟨rfl, rfl, rfl, by decide +kernel, rfl, by decide +kernel, by decide +kernel⟩
theorem fnd_is_sequence {G : Gx} (T : Txt G) : FnD G "is_sequence" s_is_sequence ["value"] [.frz] .frz 1 d_is_sequence := by
  skip
  unfold d_is_sequence
  exact fnd_of (ml := [.frz]) T.f_is_sequence sc_is_sequence rfl (by decide) fun f cdv A outer s H E => (dss_one (ds_ret (de_isi2 (de_var 0) T.b_isinstance T.b_list (by rfl) T.b_tuple (by rfl))))
theorem sc_is_number : FnScope ["value"] ["value"] (defScope s_is_number) := ⟨rfl, rfl, rfl, by decide +kernel, rfl, by decide +kernel, by decide +kernel⟩
theorem fnd_is_number {G : Gx} (T : Txt G) : FnD G "is_number" s_is_number ["value"] [.frz] .frz 1 d_is_number := by
  skip
  unfold d_is_number
  exact fnd_of (ml := [.frz]) T.f_is_number sc_is_number rfl (by decide) fun f cdv A outer s H E => (dss_one (ds_ret (de_and (de_isi (de_var 0) T.b_isinstance T.b_int (by rfl)) (de_and (de_not (de_isi (de_var 0) T.b_isinstance T.b_bool (by rfl))) (de_one (de_cmp (fun c => o_ge c) vs_ge (de_var 0) de_int))))))
theorem sc_is_below : FnScope ["value", "limit"] ["value", "limit"] (defScope s_is_below) := ⟨rfl, rfl, rfl, by decide +kernel, rfl, by decide +kernel, by decide +kernel⟩
theorem fnd_is_below {G : Gx} (T : Txt G) : FnD G "is_below" s_is_below ["value", "limit"] [.frz, .frz] .frz 2 d_is_below := by
  have h_is_number := (fnd_is_number T).cal fun _ _ _ _ _ _ us hl => match us, hl with | [_], _ => rfl
  unfold d_is_below
  exact fnd_of (ml := [.frz, .frz]) T.f_is_below sc_is_below rfl (by decide) fun f cdv A outer s H E => (dss_one (ds_ret (de_and (de_ice (do_call h_is_number (da_val (de_var 0) da_nil))) (de_one (de_cmp (fun c => o_lt c) vs_lt (de_var 0) (de_var 1))))))
theorem sc_check_turn : FnScope ["turn", "tie", "back"] ["turn"] (defScope s_check_turn) := ⟨rfl, rfl, rfl, by decide +kernel, rfl, by decide +kernel, by decide +kernel⟩
theorem fnd_check_turn {G : Gx} (T : Txt G) : FnD G "check_turn" s_check_turn ["turn"] [.frz] .frz 3 d_check_turn := by
  have h_is_below := (fnd_is_below T).cal fun _ _ _ _ _ _ us hl => match us, hl with | [_, _], _ => rfl
  have h_is_sequence := (fnd_is_sequence T).cal fun _ _ _ _ _ _ us hl => match us, hl with | [_], _ => rfl
  unfold d_check_turn
  exact fnd_of (ml := [.frz, .frz, .frz]) T.f_check_turn sc_check_turn rfl (by decide) fun f cdv A outer s H E => (dss_cons (ds_if (dt_w (dw_or (dt_not (dt_tru (de_ice (do_call h_is_sequence (da_val (de_var 0) da_nil))))) (dw_or1 (dt_not (dt_tru (de_var 0)))))) (dss_one ds_never) dss_nil)
    (dss_cons (ds_for (di_enumA T.b_enumerate (da_val (de_var 0) da_nil)) (dg_tup (dgs_cons (dg_name 1) (dgs_cons (dg_name 2) dgs_nil))) (dss_one (ds_if (dt_not (dt_tru (de_ice (do_call h_is_below (da_val (de_var 2) (da_val (de_callB (fun c => c_len c) vc_len T.b_len (by rfl) (da_val (de_var 0) da_nil)) da_nil)))))) (dss_one ds_never) dss_nil)))
    (dss_one (ds_for (di_enumA T.b_enumerate (da_val (de_var 0) da_nil)) (dg_tup (dgs_cons (dg_name 1) (dgs_cons (dg_name 2) dgs_nil))) (dss_one (ds_if (dt_cmp (fun c => o_ne c) vs_ne (de_ix (de_var 0) (de_var 2)) (de_var 1)) (dss_one ds_never) dss_nil))))))
theorem sc_is_row : FnScope ["value", "points", "ties", "tie"] ["value", "points", "ties"] (defScope s_is_row) := ⟨rfl, rfl, rfl, by decide +kernel, rfl, by decide +kernel, by decide +kernel⟩
theorem fnd_is_row {G : Gx} (T : Txt G) : FnD G "is_row" s_is_row ["value", "points", "ties"] [.frz, .frz, .frz] .frz 3 d_is_row := by
  have h_is_below := (fnd_is_below T).cal fun _ _ _ _ _ _ us hl => match us, hl with | [_, _], _ => rfl
  unfold d_is_row
  exact fnd_of (ml := [.frz, .frz, .frz, .frz]) T.f_is_row sc_is_row rfl (by decide) fun f cdv A outer s H E => (dss_cons (ds_if (dt_w (dw_or (dt_not (dt_tru (de_isi (de_var 0) T.b_isinstance T.b_tuple (by rfl)))) (dw_or1 (dt_cmp (fun c => o_ne c) vs_ne (de_callB (fun c => c_len c) vc_len T.b_len (by rfl) (da_val (de_var 0) da_nil)) (de_var 1))))) (dss_one (ds_ret de_bl)) dss_nil)
    (dss_cons (ds_for (di_any (de_var 0)) (dg_name 3) (dss_one (ds_if (dt_not (dt_tru (de_ice (do_call h_is_below (da_val (de_var 3) (da_val (de_var 2) da_nil)))))) (dss_one (ds_ret de_bl)) dss_nil)))
    (dss_one (ds_ret de_bl))))
theorem sc_is_shape : FnScope ["value", "ties", "at", "row"] ["value", "ties"] (defScope s_is_shape) := ⟨rfl, rfl, rfl, by decide +kernel, rfl, by decide +kernel, by decide +kernel⟩
theorem fnd_is_shape {G : Gx} (T : Txt G) : FnD G "is_shape" s_is_shape ["value", "ties"] [.frz, .frz] .frz 4 d_is_shape := by
  have h_is_row := (fnd_is_row T).cal fun _ _ _ _ _ _ us hl => match us, hl with | [_, _, _], _ => rfl
  unfold d_is_shape
  exact fnd_of (ml := [.frz, .frz, .frz, .frz]) T.f_is_shape sc_is_shape rfl (by decide) fun f cdv A outer s H E => (dss_cons (ds_if (dt_not (dt_tru (de_isi (de_var 0) T.b_isinstance T.b_tuple (by rfl)))) (dss_one (ds_ret de_bl)) dss_nil)
    (dss_cons (ds_for (di_enumA T.b_enumerate (da_val (de_var 0) da_nil)) (dg_tup (dgs_cons (dg_name 2) (dgs_cons (dg_name 3) dgs_nil))) (dss_one (ds_if (dt_not (dt_tru (de_ice (do_call h_is_row (da_val (de_var 3) (da_val (de_var 2) (da_val (de_var 1) da_nil))))))) (dss_one (ds_ret de_bl)) dss_nil)))
    (dss_one (ds_ret de_bl))))
theorem sc_check_bars : FnScope ["bars", "ties", "at", "bar"] ["bars", "ties"] (defScope s_check_bars) := ⟨rfl, rfl, rfl, by decide +kernel, rfl, by decide +kernel, by decide +kernel⟩
theorem fnd_check_bars {G : Gx} (T : Txt G) : FnD G "check_bars" s_check_bars ["bars", "ties"] [.frz, .frz] .frz 5 d_check_bars := by
  have h_is_sequence := (fnd_is_sequence T).cal fun _ _ _ _ _ _ us hl => match us, hl with | [_], _ => rfl
  have h_is_shape := (fnd_is_shape T).cal fun _ _ _ _ _ _ us hl => match us, hl with | [_, _], _ => rfl
  unfold d_check_bars
  exact fnd_of (ml := [.frz, .frz, .frz, .frz]) T.f_check_bars sc_check_bars rfl (by decide) fun f cdv A outer s H E => (dss_cons (ds_if (dt_not (dt_tru (de_ice (do_call h_is_sequence (da_val (de_var 0) da_nil))))) (dss_one ds_never) dss_nil)
    (dss_one (ds_for (di_enumA T.b_enumerate (da_val (de_var 0) da_nil)) (dg_tup (dgs_cons (dg_name 2) (dgs_cons (dg_name 3) dgs_nil))) (dss_one (ds_if (dt_w (dw_or (dt_not (dt_tru (de_ice (do_call h_is_shape (da_val (de_var 3) (da_val (de_var 1) da_nil)))))) (dw_or1 (dt_cmp (fun c => o_notinD c) vs_inDD (de_callB (fun c => c_len c) vc_len T.b_len (by rfl) (da_val (de_var 3) da_nil)) (de_tup (da_val de_int (da_val de_int da_nil))))))) (dss_one ds_never) dss_nil)))))
theorem sc_tie_in : FnScope ["turn", "picture", "start", "end"] ["turn", "picture", "start", "end"] (defScope s_tie_in) := ⟨rfl, rfl, rfl, by decide +kernel, rfl, by decide +kernel, by decide +kernel⟩
theorem fnd_tie_in {G : Gx} (T : Txt G) : FnD G "tie_in" s_tie_in ["turn", "picture", "start", "end"] [.frz, .frz, .frz, .frz] .frz 1 d_tie_in := by
  skip
  unfold d_tie_in
  exact fnd_of (ml := [.frz, .frz, .frz, .frz]) T.f_tie_in sc_tie_in rfl (by decide) fun f cdv A outer s H E => (dss_cons (ds_if (dt_cmp (fun c => o_lt c) vs_lt (de_var 2) (de_var 3)) (dss_one (ds_ret (de_ix (de_ix (de_var 1) (de_var 3)) (de_var 2)))) dss_nil)
    (dss_one (ds_ret (de_ix (de_var 0) (de_ix (de_ix (de_var 1) (de_var 2)) (de_var 3))))))
theorem sc_least_shape : FnScope ["turn", "picture", "points", "full", "starts", "rows", "_", "best", "kept", "places", "point", "row", "b", "a", "place"] ["turn", "picture"] (defScope s_least_shape) := ⟨rfl, rfl, rfl, by decide +kernel, rfl, by decide +kernel, by decide +kernel⟩
theorem fnd_least_shape {G : Gx} (T : Txt G) : FnD G "least_shape" s_least_shape ["turn", "picture"] [.frz, .frz] .frz 2 d_least_shape := by
  have h_tie_in := (fnd_tie_in T).cal fun _ _ _ _ _ _ us hl => match us, hl with | [_, _, _, _], _ => rfl
  unfold d_least_shape
  exact fnd_of (ml := [.frz, .frz, .frz, .frz, .frz, .own, .frz, .frz, .own, .frz, .frz, .frz, .frz, .frz, .frz]) T.f_least_shape sc_least_shape rfl (by decide) fun f cdv A outer s H E => (dss_cons (ds_set 2 (de_callTy (fun c => c_range1 c) vc_range1 T.b_range (by rfl) (da_val (de_callB (fun c => c_len c) vc_len T.b_len (by rfl) (da_val (de_var 1) da_nil)) da_nil)))
    (dss_cons (ds_set 3 (de_ice (do_lc (di_any (de_var 2)) (blkOk_by (own := [("b", 12)]) (by rfl)) (fun _ _ _ _ _ => (dg_name 12)) (fun _ _ _ _ _ => dif_nil) (fun _ _ _ _ _ => (de_ice (do_lc (di_any (de_var 2)) (blkOk_by (own := [("a", 13)]) (by rfl)) (fun _ _ _ _ _ => (dg_name 13)) (fun _ _ _ _ _ => dif_nil) (fun _ _ _ _ _ => (de_if (dt_cmp (fun c => o_eq c) vs_eq (de_var 13) (de_var 12)) de_non (de_ice (do_call h_tie_in (da_val (de_var 0) (da_val (de_var 1) (da_val (de_var 13) (da_val (de_var 12) da_nil))))))))))))))
    (dss_cons (ds_set 4 (de_ice (do_lst (da_val (de_tup da_nil) da_nil))))
    (dss_cons (ds_setO 5 (do_lst da_nil))
    (dss_cons (ds_for (di_any (de_var 2)) (dg_name 6) (dss_cons (ds_set 7 de_non)
    (dss_cons (ds_setO 8 (do_lst da_nil))
    (dss_cons (ds_for (di_any (de_var 4)) (dg_name 9) (dss_one (ds_for (di_any (de_var 2)) (dg_name 10) (dss_one (ds_if (dt_cmp (fun c => o_notinD c) vs_inDD (de_var 10) (de_var 9)) (dss_cons (ds_set 11 (de_seqTy (fun c => c_tuple c) vq_tuple T.b_tuple (by rfl) (dq_val (de_ice (do_lc (di_any (de_var 9)) (blkOk_by (own := [("place", 14)]) (by rfl)) (fun _ _ _ _ _ => (dg_name 14)) (fun _ _ _ _ _ => dif_nil) (fun _ _ _ _ _ => (de_ix (de_ix (de_var 3) (de_var 10)) (de_var 14))))))))
    (dss_cons (ds_if (dt_w (dw_or (dt_cmp (fun c => o_is c) vs_is (de_var 7) de_non) (dw_or1 (dt_cmp (fun c => o_lt c) vs_lt (de_var 11) (de_var 7))))) (dss_cons (ds_set 7 (de_var 11))
    (dss_one (ds_setO 8 (do_lst da_nil)))) dss_nil)
    (dss_one (ds_if (dt_cmp (fun c => o_eq c) vs_eq (de_var 11) (de_var 7)) (dss_one (ds_expr (de_mut 8 vm_append PySem.F.slot_list_append PySem.F.type_list_append (fun _ => mt_append) (da_val (de_op (fun c => o_add c) vs_add (de_var 9) (de_tup (da_val (de_var 10) da_nil))) da_nil)))) dss_nil)))) dss_nil)))))
    (dss_cons (ds_set 4 (de_ice (do_move (n := 1) 8)))
    (dss_one (ds_expr (de_mut 5 vm_append PySem.F.slot_list_append PySem.F.type_list_append (fun _ => mt_append) (da_val (de_var 7) da_nil)))))))))
    (dss_one (ds_ret (de_seqTy (fun c => c_tuple c) vq_tuple T.b_tuple (by rfl) (dq_own 5)))))))))
theorem sc_flat : FnScope ["picture", "row", "tie"] ["picture"] (defScope s_flat) := ⟨rfl, rfl, rfl, by decide +kernel, rfl, by decide +kernel, by decide +kernel⟩
theorem fnd_flat {G : Gx} (T : Txt G) : FnD G "flat" s_flat ["picture"] [.frz] .frz 1 d_flat := by
  skip
  unfold d_flat
  exact fnd_of (ml := [.frz, .frz, .frz]) T.f_flat sc_flat rfl (by decide) fun f cdv A outer s H E => (dss_one (ds_ret (de_seqTy (fun c => c_tuple c) vq_tuple T.b_tuple (by rfl) (dq_val (de_ice (do_lc2 [2] (di_any (de_var 0)) (blkOk_by (own := [("row", 1), ("tie", 2)]) (by rfl)) (fun _ _ _ _ _ => (dg_name 1)) (fun _ _ _ _ _ => dif_nil) (fun _ _ _ _ _ => (di_any (de_var 1))) (fun _ _ _ _ _ => (dg_name 2)) (fun _ _ _ _ _ => dif_nil) (fun _ _ _ _ _ => (de_var 2))))))))
theorem sc_row_to : FnScope ["turn", "picture", "places", "point", "place"] ["turn", "picture", "places", "point"] (defScope s_row_to) := ⟨rfl, rfl, rfl, by decide +kernel, rfl, by decide +kernel, by decide +kernel⟩
theorem fnd_row_to {G : Gx} (T : Txt G) : FnD G "row_to" s_row_to ["turn", "picture", "places", "point"] [.frz, .frz, .frz, .frz] .frz 2 d_row_to := by
  have h_tie_in := (fnd_tie_in T).cal fun _ _ _ _ _ _ us hl => match us, hl with | [_, _, _, _], _ => rfl
  unfold d_row_to
  exact fnd_of (ml := [.frz, .frz, .frz, .frz, .frz]) T.f_row_to sc_row_to rfl (by decide) fun f cdv A outer s H E => (dss_one (ds_ret (de_seqTy (fun c => c_tuple c) vq_tuple T.b_tuple (by rfl) (dq_val (de_ice (do_lc (di_any (de_var 2)) (blkOk_by (own := [("place", 4)]) (by rfl)) (fun _ _ _ _ _ => (dg_name 4)) (fun _ _ _ _ _ => dif_nil) (fun _ _ _ _ _ => (de_ice (do_call h_tie_in (da_val (de_var 0) (da_val (de_var 1) (da_val (de_var 4) (da_val (de_var 3) da_nil)))))))))))))
theorem sc_cut : FnScope ["turn", "picture", "places", "at", "point"] ["turn", "picture", "places"] (defScope s_cut) := ⟨rfl, rfl, rfl, by decide +kernel, rfl, by decide +kernel, by decide +kernel⟩
theorem fnd_cut {G : Gx} (T : Txt G) : FnD G "cut" s_cut ["turn", "picture", "places"] [.frz, .frz, .frz] .frz 3 d_cut := by
  have h_row_to := (fnd_row_to T).cal fun _ _ _ _ _ _ us hl => match us, hl with | [_, _, _, _], _ => rfl
  unfold d_cut
  exact fnd_of (ml := [.frz, .frz, .frz, .frz, .frz]) T.f_cut sc_cut rfl (by decide) fun f cdv A outer s H E => (dss_one (ds_ret (de_seqTy (fun c => c_tuple c) vq_tuple T.b_tuple (by rfl) (dq_val (de_ice (do_lc (di_enumA T.b_enumerate (da_val (de_var 2) da_nil)) (blkOk_by (own := [("at", 3), ("point", 4)]) (by rfl)) (fun _ _ _ _ _ => (dg_tup (dgs_cons (dg_name 3) (dgs_cons (dg_name 4) dgs_nil)))) (fun _ _ _ _ _ => dif_nil) (fun _ _ _ _ _ => (de_ice (do_call h_row_to (da_val (de_var 0) (da_val (de_var 1) (da_val (de_slice (de_var 2) dp_none (dp_some (de_var 3))) (da_val (de_var 4) da_nil)))))))))))))
theorem sc_barred_orders : FnScope ["turn", "bars", "found", "bar", "places"] ["turn", "bars"] (defScope s_barred_orders) := ⟨rfl, rfl, rfl, by decide +kernel, rfl, by decide +kernel, by decide +kernel⟩
theorem fnd_barred_orders {G : Gx} (T : Txt G) : FnD G "barred_orders" s_barred_orders ["turn", "bars"] [.frz, .frz] .frz 4 d_barred_orders := by
  have h_cut := (fnd_cut T).cal fun _ _ _ _ _ _ us hl => match us, hl with | [_, _, _], _ => rfl
  have h_flat := (fnd_flat T).cal fun _ _ _ _ _ _ us hl => match us, hl with | [_], _ => rfl
  unfold d_barred_orders
  exact fnd_of (ml := [.frz, .frz, .own, .frz, .frz]) T.f_barred_orders sc_barred_orders rfl (by decide) fun f cdv A outer s H E => (dss_cons (ds_setO 2 (do_newD .n))
    (dss_cons (ds_for (di_any (de_var 1)) (dg_name 3) (dss_one (ds_for (di_perm T.i_permutations (de_callTy (fun c => c_range1 c) vc_range1 T.b_range (by rfl) (da_val (de_callB (fun c => c_len c) vc_len T.b_len (by rfl) (da_val (de_var 3) da_nil)) da_nil))) (dg_name 4) (dss_one (ds_putD 2 de_bl (de_ice (do_call h_flat (da_val (de_ice (do_call h_cut (da_val (de_var 0) (da_val (de_var 3) (da_val (de_var 4) da_nil))))) da_nil))))))))
    (dss_one (ds_ret (de_ice (do_move (n := 1) 2))))))
theorem sc_Table : FnScope ["self", "turn", "bars", "shapes", "bar"] ["self", "turn", "bars"] (defScope s_Table) := ⟨rfl, rfl, rfl, by decide +kernel, rfl, by decide +kernel, by decide +kernel⟩
theorem fnd_Table {G : Gx} (T : Txt G) : MkF G "Table" "Table.__init__" s_Table ["self", "turn", "bars"] [.frz, .frz] 6 d_Table := by
  obtain ⟨f_by_size, kg_by_size, kf_by_size⟩ := T.key_by_size
  have h_barred_orders := (fnd_barred_orders T).cal fun _ _ _ _ _ _ us hl => match us, hl with | [_, _], _ => rfl
  have h_check_bars := (fnd_check_bars T).cal fun _ _ _ _ _ _ us hl => match us, hl with | [_, _], _ => rfl
  have h_check_turn := (fnd_check_turn T).cal fun _ _ _ _ _ _ us hl => match us, hl with | [_], _ => rfl
  have h_least_shape := (fnd_least_shape T).cal fun _ _ _ _ _ _ us hl => match us, hl with | [_, _], _ => rfl
  unfold d_Table
  exact mkf_of (ml := [.io, .frz, .frz, .frz, .frz]) T.c_Table sc_Table rfl (by decide) fun f cdv A outer s H E => (dss_cons (ds_expr (de_ice (do_call h_check_turn (da_val (de_var 1) da_nil))))
    (dss_cons (ds_expr (de_ice (do_call h_check_bars (da_val (de_var 2) (da_val (de_callB (fun c => c_len c) vc_len T.b_len (by rfl) (da_val (de_var 1) da_nil)) da_nil)))))
    (dss_cons (ds_fldPut 0 T.c_Table.flds (de_seqTy (fun c => c_tuple c) vq_tuple T.b_tuple (by rfl) (dq_val (de_var 1))))
    (dss_cons (ds_fldPut 0 T.c_Table.flds (de_callB (fun c => c_len c) vc_len T.b_len (by rfl) (da_val (de_fldO 0 T.c_Table.flds) da_nil)))
    (dss_cons (ds_setDc .n 3 (di_any (de_var 2)) (blkOk_by (own := [("bar", 4)]) (by rfl)) (fun _ _ _ _ _ => (dg_name 4)) (fun _ _ _ _ _ => dif_nil) (fun _ _ _ _ _ => (de_ice (do_call h_least_shape (da_val (de_fldO 0 T.c_Table.flds) (da_val (de_var 4) da_nil))))) (fun _ _ _ _ _ => de_bl))
    (dss_cons (ds_fldPut 0 T.c_Table.flds (de_seqTy (fun c => c_tuple c) vq_tuple T.b_tuple (by rfl) (dq_val (de_ice (do_sortK kf_by_size kg_by_size T.b_sorted (dq_val (de_ice (do_listK T.b_list (de_var 3)))))))))
    (dss_cons (ds_fldPut 0 T.c_Table.flds de_int)
    (dss_cons (ds_for (di_any (de_fldO 0 T.c_Table.flds)) (dg_name 4) (dss_one (ds_fldPut 0 T.c_Table.flds (de_callB (fun c => c_max2 c) vc_max2 T.b_max (by rfl) (da_val (de_fldO 0 T.c_Table.flds) (da_val (de_callB (fun c => c_len c) vc_len T.b_len (by rfl) (da_val (de_var 4) da_nil)) da_nil))))))
    (dss_cons (ds_fldPut 0 T.c_Table.flds (de_ice (do_call h_barred_orders (da_val (de_fldO 0 T.c_Table.flds) (da_val (de_fldO 0 T.c_Table.flds) da_nil)))))
    (dss_one (ds_fldPut 0 T.c_Table.flds (de_ice (do_newD .n)))))))))))))
theorem sc__law_meets : FnScope ["barred", "picture", "row", "k", "i", "h"] ["barred", "picture", "row"] (defScope s__law_meets) := ⟨rfl, rfl, rfl, by decide +kernel, rfl, by decide +kernel, by decide +kernel⟩
theorem fnd__law_meets {G : Gx} (T : Txt G) : FnD G "_law_meets" s__law_meets ["barred", "picture", "row"] [.frz, .frz, .frz] .frz 1 d__law_meets := by
  skip
  unfold d__law_meets
  exact fnd_of (ml := [.frz, .frz, .frz, .frz, .frz, .frz]) T.f__law_meets sc__law_meets rfl (by decide) fun f cdv A outer s H E => (dss_cons (ds_set 3 (de_op (fun c => o_sub c) vs_sub (de_callB (fun c => c_len c) vc_len T.b_len (by rfl) (da_val (de_var 2) da_nil)) de_int))
    (dss_cons (ds_for (di_range1 T.b_range (da_val (de_var 3) da_nil)) (dg_name 4) (dss_cons (ds_if (dt_cmp (fun c => o_inN c) vs_inN (de_tup (da_val (de_ix (de_ix (de_var 1) (de_var 3)) (de_var 4)) (da_val (de_ix (de_var 2) (de_var 4)) (da_val (de_ix (de_var 2) (de_var 3)) da_nil)))) (de_var 0)) (dss_one (ds_ret de_bl)) dss_nil)
    (dss_one (ds_for (di_range1 T.b_range (da_val (de_var 4) da_nil)) (dg_name 5) (dss_one (ds_if (dt_cmp (fun c => o_inN c) vs_inN (de_tup (da_val (de_ix (de_ix (de_var 1) (de_var 4)) (de_var 5)) (da_val (de_ix (de_ix (de_var 1) (de_var 3)) (de_var 5)) (da_val (de_ix (de_ix (de_var 1) (de_var 3)) (de_var 4)) (da_val (de_ix (de_var 2) (de_var 5)) (da_val (de_ix (de_var 2) (de_var 4)) (da_val (de_ix (de_var 2) (de_var 3)) da_nil))))))) (de_var 0)) (dss_one (ds_ret de_bl)) dss_nil))))))
    (dss_one (ds_ret de_bl))))
theorem sc__law_drawn_row : FnScope ["source", "barred", "picture", "ties", "row", "k", "free", "tie"] ["source", "barred", "picture", "ties"] (defScope s__law_drawn_row) := ⟨rfl, rfl, rfl, by decide +kernel, rfl, by decide +kernel, by decide +kernel⟩
theorem fnd__law_drawn_row {G : Gx} (T : Txt G) : FnD G "_law_drawn_row" s__law_drawn_row ["source", "barred", "picture", "ties"] [.io, .frz, .frz, .frz] .frz 2 d__law_drawn_row := by
  have h__law_draw := (fnd__law_draw T).cal fun _ _ _ _ _ _ us hl => match us, hl with | [_, _], _ => rfl
  have h__law_meets := (fnd__law_meets T).cal fun _ _ _ _ _ _ us hl => match us, hl with | [_, _, _], _ => rfl
  unfold d__law_drawn_row
  exact fnd_of (ml := [.io, .frz, .frz, .frz, .frz, .frz, .frz, .frz]) T.f__law_drawn_row sc__law_drawn_row rfl (by decide) fun f cdv A outer s H E => (dss_cons (ds_set 4 (de_tup da_nil))
    (dss_cons (ds_for (di_range1 T.b_range (da_val (de_callB (fun c => c_len c) vc_len T.b_len (by rfl) (da_val (de_var 2) da_nil)) da_nil)) (dg_name 5) (dss_cons (ds_setLcF 6 (di_range1 T.b_range (da_val (de_var 3) da_nil)) (blkOk_by (own := [("tie", 7)]) (by rfl)) (fun _ _ _ _ _ => (dg_name 7)) (fun _ _ _ _ _ => (dif_one (dt_tru (de_ice (do_call h__law_meets (da_val (de_var 1) (da_val (de_var 2) (da_val (de_op (fun c => o_add c) vs_add (de_var 4) (de_tup (da_val (de_var 7) da_nil))) da_nil)))))))) (fun _ _ _ _ _ => (de_var 7)))
    (dss_cons (ds_if (dt_cmp (fun c => o_eq c) vs_eq (de_callB (fun c => c_len c) vc_len T.b_len (by rfl) (da_val (de_var 6) da_nil)) de_int) (dss_one (ds_ret de_non)) dss_nil)
    (dss_one (ds_set 4 (de_op (fun c => o_add c) vs_add (de_var 4) (de_tup (da_val (de_ix (de_var 6) (de_ice (do_call h__law_draw (da_own 0 (da_val (de_callB (fun c => c_len c) vc_len T.b_len (by rfl) (da_val (de_var 6) da_nil)) da_nil))))) da_nil))))))))
    (dss_one (ds_ret (de_var 4)))))
theorem sc__law_drawn_let : FnScope ["source", "barred", "ties", "points", "picture", "k", "row"] ["source", "barred", "ties", "points"] (defScope s__law_drawn_let) := ⟨rfl, rfl, rfl, by decide +kernel, rfl, by decide +kernel, by decide +kernel⟩
theorem fnd__law_drawn_let {G : Gx} (T : Txt G) : FnD G "_law_drawn_let" s__law_drawn_let ["source", "barred", "ties", "points"] [.io, .frz, .frz, .frz] .frz 3 d__law_drawn_let := by
  have h__law_drawn_row := (fnd__law_drawn_row T).cal fun _ _ _ _ _ _ us hl => match us, hl with | [_, _, _, _], _ => rfl
  unfold d__law_drawn_let
  exact fnd_of (ml := [.io, .frz, .frz, .frz, .frz, .frz, .frz]) T.f__law_drawn_let sc__law_drawn_let rfl (by decide) fun f cdv A outer s H E => (dss_cons (ds_set 4 (de_tup da_nil))
    (dss_cons (ds_for (di_range1 T.b_range (da_val (de_var 3) da_nil)) (dg_name 5) (dss_cons (ds_set 6 (de_ice (do_call h__law_drawn_row (da_own 0 (da_val (de_var 1) (da_val (de_var 4) (da_val (de_var 2) da_nil)))))))
    (dss_one (ds_if (dt_cmp (fun c => o_isnot c) vs_isnot (de_var 6) de_non) (dss_one (ds_set 4 (de_op (fun c => o_add c) vs_add (de_var 4) (de_tup (da_val (de_var 6) da_nil))))) dss_nil))))
    (dss_one (ds_ret (de_var 4)))))
theorem sc__law_changed : FnScope ["source", "picture", "ties", "at", "place", "row"] ["source", "picture", "ties"] (defScope s__law_changed) := ⟨rfl, rfl, rfl, by decide +kernel, rfl, by decide +kernel, by decide +kernel⟩
theorem fnd__law_changed {G : Gx} (T : Txt G) : FnD G "_law_changed" s__law_changed ["source", "picture", "ties"] [.io, .frz, .frz] .frz 2 d__law_changed := by
  have h__law_draw := (fnd__law_draw T).cal fun _ _ _ _ _ _ us hl => match us, hl with | [_, _], _ => rfl
  unfold d__law_changed
  exact fnd_of (ml := [.io, .frz, .frz, .frz, .frz, .frz]) T.f__law_changed sc__law_changed rfl (by decide) fun f cdv A outer s H E => (dss_cons (ds_if (dt_cmp (fun c => o_ltI c) vs_ltI (de_callB (fun c => c_len c) vc_len T.b_len (by rfl) (da_val (de_var 1) da_nil)) de_int) (dss_one (ds_ret (de_var 1))) dss_nil)
    (dss_cons (ds_set 3 (de_op (fun c => o_add c) vs_add de_int (de_ice (do_call h__law_draw (da_own 0 (da_val (de_op (fun c => o_sub c) vs_sub (de_callB (fun c => c_len c) vc_len T.b_len (by rfl) (da_val (de_var 1) da_nil)) de_int) da_nil))))))
    (dss_cons (ds_set 4 (de_ice (do_call h__law_draw (da_own 0 (da_val (de_var 3) da_nil)))))
    (dss_cons (ds_set 5 (de_ix (de_var 1) (de_var 3)))
    (dss_one (ds_ret (de_op (fun c => o_add c) vs_add (de_op (fun c => o_add c) vs_add (de_slice (de_var 1) dp_none (dp_some (de_var 3))) (de_tup (da_val (de_op (fun c => o_add c) vs_add (de_op (fun c => o_add c) vs_add (de_slice (de_var 5) dp_none (dp_some (de_var 4))) (de_tup (da_val (de_ice (do_call h__law_draw (da_own 0 (da_val (de_var 2) da_nil)))) da_nil))) (de_slice (de_var 5) (dp_some (de_op (fun c => o_add c) vs_add (de_var 4) de_int)) dp_none)) da_nil))) (de_slice (de_var 1) (dp_some (de_op (fun c => o_add c) vs_add (de_var 3) de_int)) dp_none))))))))
theorem sc__law_order : FnScope ["source", "many", "order", "k"] ["source", "many"] (defScope s__law_order) := ⟨rfl, rfl, rfl, by decide +kernel, rfl, by decide +kernel, by decide +kernel⟩
theorem fnd__law_order {G : Gx} (T : Txt G) : FnD G "_law_order" s__law_order ["source", "many"] [.io, .frz] .frz 2 d__law_order := by
  have h__law_draw := (fnd__law_draw T).cal fun _ _ _ _ _ _ us hl => match us, hl with | [_, _], _ => rfl
  unfold d__law_order
  exact fnd_of (ml := [.io, .frz, .own, .frz]) T.f__law_order sc__law_order rfl (by decide) fun f cdv A outer s H E => (dss_cons (ds_setO 2 (do_lst da_nil))
    (dss_cons (ds_for (di_range1 T.b_range (da_val (de_var 1) da_nil)) (dg_name 3) (dss_one (ds_expr (de_mut 2 vm_insert PySem.F.slot_list_insert PySem.F.type_list_insert (fun _ => mt_insert) (da_val (de_ice (do_call h__law_draw (da_own 0 (da_val (de_op (fun c => o_add c) vs_add (de_var 3) de_int) da_nil)))) (da_val (de_var 3) da_nil))))))
    (dss_one (ds_ret (de_seqTy (fun c => c_tuple c) vq_tuple T.b_tuple (by rfl) (dq_own 2))))))
theorem sc__law_first_barred : FnScope ["barred", "picture", "size", "i", "j", "k", "h", "base"] ["barred", "picture"] (defScope s__law_first_barred) := ⟨rfl, rfl, rfl, by decide +kernel, rfl, by decide +kernel, by decide +kernel⟩
theorem fnd__law_first_barred {G : Gx} (T : Txt G) : FnD G "_law_first_barred" s__law_first_barred ["barred", "picture"] [.frz, .frz] .frz 1 d__law_first_barred := by
  skip
  unfold d__law_first_barred
  exact fnd_of (ml := [.frz, .frz, .frz, .frz, .frz, .frz, .frz, .frz]) T.f__law_first_barred sc__law_first_barred rfl (by decide) fun f cdv A outer s H E => (dss_cons (ds_set 2 (de_callB (fun c => c_len c) vc_len T.b_len (by rfl) (da_val (de_var 1) da_nil)))
    (dss_cons (ds_for (di_range1 T.b_range (da_val (de_var 2) da_nil)) (dg_name 3) (dss_one (ds_for (di_range2 T.b_range (da_val (de_op (fun c => o_add c) vs_add (de_var 3) de_int) (da_val (de_var 2) da_nil))) (dg_name 4) (dss_one (ds_for (di_range2 T.b_range (da_val (de_op (fun c => o_add c) vs_add (de_var 4) de_int) (da_val (de_var 2) da_nil))) (dg_name 5) (dss_one (ds_if (dt_cmp (fun c => o_inN c) vs_inN (de_tup (da_val (de_ix (de_ix (de_var 1) (de_var 4)) (de_var 3)) (da_val (de_ix (de_ix (de_var 1) (de_var 5)) (de_var 3)) (da_val (de_ix (de_ix (de_var 1) (de_var 5)) (de_var 4)) da_nil)))) (de_var 0)) (dss_one (ds_ret (de_tup (da_val (de_var 3) (da_val (de_var 4) (da_val (de_var 5) da_nil)))))) dss_nil)))))))
    (dss_cons (ds_for (di_range1 T.b_range (da_val (de_var 2) da_nil)) (dg_name 6) (dss_one (ds_for (di_range2 T.b_range (da_val (de_op (fun c => o_add c) vs_add (de_var 6) de_int) (da_val (de_var 2) da_nil))) (dg_name 3) (dss_one (ds_for (di_range2 T.b_range (da_val (de_op (fun c => o_add c) vs_add (de_var 3) de_int) (da_val (de_var 2) da_nil))) (dg_name 4) (dss_cons (ds_set 7 (de_tup (da_val (de_ix (de_ix (de_var 1) (de_var 3)) (de_var 6)) (da_val (de_ix (de_ix (de_var 1) (de_var 4)) (de_var 6)) (da_val (de_ix (de_ix (de_var 1) (de_var 4)) (de_var 3)) da_nil)))))
    (dss_one (ds_for (di_range2 T.b_range (da_val (de_op (fun c => o_add c) vs_add (de_var 4) de_int) (da_val (de_var 2) da_nil))) (dg_name 5) (dss_one (ds_if (dt_cmp (fun c => o_inN c) vs_inN (de_op (fun c => o_add c) vs_add (de_var 7) (de_tup (da_val (de_ix (de_ix (de_var 1) (de_var 5)) (de_var 6)) (da_val (de_ix (de_ix (de_var 1) (de_var 5)) (de_var 3)) (da_val (de_ix (de_ix (de_var 1) (de_var 5)) (de_var 4)) da_nil))))) (de_var 0)) (dss_one (ds_ret (de_tup (da_val (de_var 6) (da_val (de_var 3) (da_val (de_var 4) (da_val (de_var 5) da_nil))))))) dss_nil))))))))))
    (dss_one (ds_ret de_non)))))
theorem sc_check_picture : FnScope ["table", "picture"] ["table", "picture"] (defScope s_check_picture) := ⟨rfl, rfl, rfl, by decide +kernel, rfl, by decide +kernel, by decide +kernel⟩
theorem fnd_check_picture {G : Gx} (T : Txt G) : FnD G "check_picture" s_check_picture ["table", "picture"] [.frz, .frz] .frz 5 d_check_picture := by
  have h_is_shape := (fnd_is_shape T).cal fun _ _ _ _ _ _ us hl => match us, hl with | [_, _], _ => rfl
  unfold d_check_picture
  exact fnd_of (ml := [.frz, .frz]) T.f_check_picture sc_check_picture rfl (by decide) fun f cdv A outer s H E => (dss_one (ds_if (dt_not (dt_tru (de_ice (do_call h_is_shape (da_val (de_var 1) (da_val (de_fld T.c_Table.flds (de_var 0)) da_nil)))))) (dss_one ds_never) dss_nil))
theorem sc_tie_fits : FnScope ["table", "picture", "row", "tie", "at", "last", "barred", "i", "j"] ["table", "picture", "row", "tie"] (defScope s_tie_fits) := ⟨rfl, rfl, rfl, by decide +kernel, rfl, by decide +kernel, by decide +kernel⟩
theorem fnd_tie_fits {G : Gx} (T : Txt G) : FnD G "tie_fits" s_tie_fits ["table", "picture", "row", "tie"] [.frz, .frz, .frz, .frz] .frz 1 d_tie_fits := by
  skip
  unfold d_tie_fits
  exact fnd_of (ml := [.frz, .frz, .frz, .frz, .frz, .frz, .frz, .frz, .frz]) T.f_tie_fits sc_tie_fits rfl (by decide) fun f cdv A outer s H E => (dss_cons (ds_set 4 (de_callB (fun c => c_len c) vc_len T.b_len (by rfl) (da_val (de_var 2) da_nil)))
    (dss_cons (ds_set 5 (de_ix (de_var 1) (de_var 4)))
    (dss_cons (ds_set 6 (de_fld T.c_Table.flds (de_var 0)))
    (dss_cons (ds_for (di_range1 T.b_range (da_val (de_var 4) da_nil)) (dg_name 7) (dss_one (ds_if (dt_cmp (fun c => o_inN c) vs_inN (de_tup (da_val (de_ix (de_var 5) (de_var 7)) (da_val (de_ix (de_var 2) (de_var 7)) (da_val (de_var 3) da_nil)))) (de_var 6)) (dss_one (ds_ret de_bl)) dss_nil)))
    (dss_cons (ds_if (dt_cmp (fun c => o_eq c) vs_eq (de_fld T.c_Table.flds (de_var 0)) de_int) (dss_one (ds_for (di_range1 T.b_range (da_val (de_var 4) da_nil)) (dg_name 8) (dss_one (ds_for (di_range1 T.b_range (da_val (de_var 8) da_nil)) (dg_name 7) (dss_one (ds_if (dt_cmp (fun c => o_inN c) vs_inN (de_tup (da_val (de_ix (de_ix (de_var 1) (de_var 8)) (de_var 7)) (da_val (de_ix (de_var 5) (de_var 7)) (da_val (de_ix (de_var 5) (de_var 8)) (da_val (de_ix (de_var 2) (de_var 7)) (da_val (de_ix (de_var 2) (de_var 8)) (da_val (de_var 3) da_nil))))))) (de_var 6)) (dss_one (ds_ret de_bl)) dss_nil)))))) dss_nil)
    (dss_one (ds_ret de_bl)))))))
theorem sc_row_fits : FnScope ["table", "picture", "row", "at", "tie"] ["table", "picture", "row"] (defScope s_row_fits) := ⟨rfl, rfl, rfl, by decide +kernel, rfl, by decide +kernel, by decide +kernel⟩
theorem fnd_row_fits {G : Gx} (T : Txt G) : FnD G "row_fits" s_row_fits ["table", "picture", "row"] [.frz, .frz, .frz] .frz 2 d_row_fits := by
  have h_tie_fits := (fnd_tie_fits T).cal fun _ _ _ _ _ _ us hl => match us, hl with | [_, _, _, _], _ => rfl
  unfold d_row_fits
  exact fnd_of (ml := [.frz, .frz, .frz, .frz, .frz]) T.f_row_fits sc_row_fits rfl (by decide) fun f cdv A outer s H E => (dss_cons (ds_for (di_enumA T.b_enumerate (da_val (de_var 2) da_nil)) (dg_tup (dgs_cons (dg_name 3) (dgs_cons (dg_name 4) dgs_nil))) (dss_one (ds_if (dt_not (dt_tru (de_ice (do_call h_tie_fits (da_val (de_var 0) (da_val (de_var 1) (da_val (de_slice (de_var 2) dp_none (dp_some (de_var 3))) (da_val (de_var 4) da_nil)))))))) (dss_one (ds_ret de_bl)) dss_nil)))
    (dss_one (ds_ret de_bl)))
theorem sc_is_let : FnScope ["table", "picture", "row"] ["table", "picture"] (defScope s_is_let) := ⟨rfl, rfl, rfl, by decide +kernel, rfl, by decide +kernel, by decide +kernel⟩
theorem fnd_is_let {G : Gx} (T : Txt G) : FnD G "is_let" s_is_let ["table", "picture"] [.frz, .frz] .frz 3 d_is_let := by
  have h_row_fits := (fnd_row_fits T).cal fun _ _ _ _ _ _ us hl => match us, hl with | [_, _, _], _ => rfl
  unfold d_is_let
  exact fnd_of (ml := [.frz, .frz, .frz]) T.f_is_let sc_is_let rfl (by decide) fun f cdv A outer s H E => (dss_cons (ds_for (di_any (de_var 1)) (dg_name 2) (dss_one (ds_if (dt_not (dt_tru (de_ice (do_call h_row_fits (da_val (de_var 0) (da_val (de_var 1) (da_val (de_var 2) da_nil))))))) (dss_one (ds_ret de_bl)) dss_nil)))
    (dss_one (ds_ret de_bl)))
theorem sc_lets : FnScope ["table", "picture"] ["table", "picture"] (defScope s_lets) := ⟨rfl, rfl, rfl, by decide +kernel, rfl, by decide +kernel, by decide +kernel⟩
theorem fnd_lets {G : Gx} (T : Txt G) : FnD G "lets" s_lets ["table", "picture"] [.frz, .frz] .frz 6 d_lets := by
  have h_check_picture := (fnd_check_picture T).cal fun _ _ _ _ _ _ us hl => match us, hl with | [_, _], _ => rfl
  have h_is_let := (fnd_is_let T).cal fun _ _ _ _ _ _ us hl => match us, hl with | [_, _], _ => rfl
  unfold d_lets
  exact fnd_of (ml := [.frz, .frz]) T.f_lets sc_lets rfl (by decide) fun f cdv A outer s H E => (dss_cons (ds_expr (de_ice (do_call h_check_picture (da_val (de_var 0) (da_val (de_var 1) da_nil)))))
    (dss_one (ds_ret (de_ice (do_call h_is_let (da_val (de_var 0) (da_val (de_var 1) da_nil)))))))
theorem sc__law_equal : FnScope ["actual", "expected", "k"] ["actual", "expected"] (defScope s__law_equal) := ⟨rfl, rfl, rfl, by decide +kernel, rfl, by decide +kernel, by decide +kernel⟩
theorem fnd__law_equal {G : Gx} (T : Txt G) : ∀ n : Nat, FnD G "_law_equal" s__law_equal ["actual", "expected"] [.frz, .frz] .frz (1 + n) (d__law_equal n)
  | 0 => by rw [d__law_equal_zero]; exact fnd_bad T.f__law_equal rfl
  | n + 1 => by
    have h__law_equal := (fnd__law_equal T n).cal fun _ _ _ _ _ _ us hl => match us, hl with | [_, _], _ => rfl
    rw [d__law_equal_succ]
    exact fnd_of (ml := [.frz, .frz, .frz]) (k := 1 + n) T.f__law_equal sc__law_equal rfl (by decide) fun f cdv A outer s H E => (dss_cons (ds_if (dt_cmp (fun c => o_is c) vs_is (de_var 1) de_non) (dss_one (ds_ret (de_cmp (fun c => o_is c) vs_is (de_var 0) de_non))) dss_nil)
    (dss_cons (ds_if (dt_tru (de_isi (de_var 1) T.b_isinstance T.b_bool (by rfl))) (dss_one (ds_ret (de_and (de_isi (de_var 0) T.b_isinstance T.b_bool (by rfl)) (de_one (de_cmp (fun c => o_eq c) vs_eq (de_var 0) (de_var 1)))))) dss_nil)
    (dss_cons (ds_if (dt_tru (de_isi (de_var 1) T.b_isinstance T.b_int (by rfl))) (dss_one (ds_ret (de_and (de_isi (de_var 0) T.b_isinstance T.b_int (by rfl)) (de_and (de_not (de_isi (de_var 0) T.b_isinstance T.b_bool (by rfl))) (de_one (de_cmp (fun c => o_eq c) vs_eq (de_var 0) (de_var 1))))))) dss_nil)
    (dss_cons (ds_if (dt_tru (de_isi (de_var 1) T.b_isinstance T.b_str (by rfl))) (dss_one (ds_ret (de_and (de_isi (de_var 0) T.b_isinstance T.b_str (by rfl)) (de_one (de_cmp (fun c => o_eq c) vs_eq (de_var 0) (de_var 1)))))) dss_nil)
    (dss_cons (ds_if (dt_w (dw_or (dt_not (dt_tru (de_isi (de_var 0) T.b_isinstance T.b_tuple (by rfl)))) (dw_or1 (dt_cmp (fun c => o_ne c) vs_ne (de_callB (fun c => c_len c) vc_len T.b_len (by rfl) (da_val (de_var 0) da_nil)) (de_callB (fun c => c_len c) vc_len T.b_len (by rfl) (da_val (de_var 1) da_nil)))))) (dss_one (ds_ret de_bl)) dss_nil)
    (dss_cons (ds_for (di_range1 T.b_range (da_val (de_callB (fun c => c_len c) vc_len T.b_len (by rfl) (da_val (de_var 1) da_nil)) da_nil)) (dg_name 2) (dss_one (ds_if (dt_not (dt_tru (de_ice (do_call h__law_equal (da_val (de_ix (de_var 0) (de_var 2)) (da_val (de_ix (de_var 1) (de_var 2)) da_nil)))))) (dss_one (ds_ret de_bl)) dss_nil)))
    (dss_one (ds_ret de_bl))))))))
theorem sc_is_barred : FnScope ["table", "shape"] ["table", "shape"] (defScope s_is_barred) := ⟨rfl, rfl, rfl, by decide +kernel, rfl, by decide +kernel, by decide +kernel⟩
theorem fnd_is_barred {G : Gx} (T : Txt G) : FnD G "is_barred" s_is_barred ["table", "shape"] [.frz, .frz] .frz 2 d_is_barred := by
  have h_flat := (fnd_flat T).cal fun _ _ _ _ _ _ us hl => match us, hl with | [_], _ => rfl
  unfold d_is_barred
  exact fnd_of (ml := [.frz, .frz]) T.f_is_barred sc_is_barred rfl (by decide) fun f cdv A outer s H E => (dss_one (ds_ret (de_cmp (fun c => o_inN c) vs_inN (de_ice (do_call h_flat (da_val (de_var 1) da_nil))) (de_fld T.c_Table.flds (de_var 0)))))
theorem sc_first_barred : FnScope ["table", "picture", "size", "places"] ["table", "picture"] (defScope s_first_barred) := ⟨rfl, rfl, rfl, by decide +kernel, rfl, by decide +kernel, by decide +kernel⟩
theorem fnd_first_barred {G : Gx} (T : Txt G) : FnD G "first_barred" s_first_barred ["table", "picture"] [.frz, .frz] .frz 4 d_first_barred := by
  have h_cut := (fnd_cut T).cal fun _ _ _ _ _ _ us hl => match us, hl with | [_, _, _], _ => rfl
  have h_is_barred := (fnd_is_barred T).cal fun _ _ _ _ _ _ us hl => match us, hl with | [_, _], _ => rfl
  unfold d_first_barred
  exact fnd_of (ml := [.frz, .frz, .frz, .frz]) T.f_first_barred sc_first_barred rfl (by decide) fun f cdv A outer s H E => (dss_cons (ds_for (di_range2 T.b_range (da_val de_int (da_val (de_op (fun c => o_add c) vs_add (de_fld T.c_Table.flds (de_var 0)) de_int) da_nil))) (dg_name 2) (dss_one (ds_for (di_comb T.i_combinations (de_callTy (fun c => c_range1 c) vc_range1 T.b_range (by rfl) (da_val (de_callB (fun c => c_len c) vc_len T.b_len (by rfl) (da_val (de_var 1) da_nil)) da_nil)) (de_var 2)) (dg_name 3) (dss_one (ds_if (dt_tru (de_ice (do_call h_is_barred (da_val (de_var 0) (da_val (de_ice (do_call h_cut (da_val (de_fld T.c_Table.flds (de_var 0)) (da_val (de_var 1) (da_val (de_var 3) da_nil))))) da_nil))))) (dss_one (ds_ret (de_var 3))) dss_nil)))))
    (dss_one (ds_ret de_non)))
theorem sc_barred_places : FnScope ["table", "picture"] ["table", "picture"] (defScope s_barred_places) := ⟨rfl, rfl, rfl, by decide +kernel, rfl, by decide +kernel, by decide +kernel⟩
theorem fnd_barred_places {G : Gx} (T : Txt G) : FnD G "barred_places" s_barred_places ["table", "picture"] [.frz, .frz] .frz 6 d_barred_places := by
  have h_check_picture := (fnd_check_picture T).cal fun _ _ _ _ _ _ us hl => match us, hl with | [_, _], _ => rfl
  have h_first_barred := (fnd_first_barred T).cal fun _ _ _ _ _ _ us hl => match us, hl with | [_, _], _ => rfl
  unfold d_barred_places
  exact fnd_of (ml := [.frz, .frz]) T.f_barred_places sc_barred_places rfl (by decide) fun f cdv A outer s H E => (dss_cons (ds_expr (de_ice (do_call h_check_picture (da_val (de_var 0) (da_val (de_var 1) da_nil)))))
    (dss_one (ds_ret (de_ice (do_call h_first_barred (da_val (de_var 0) (da_val (de_var 1) da_nil)))))))
theorem sc__law_ask : FnScope ["board", "barred", "picture", "due", "told"] ["board", "barred", "picture"] (defScope s__law_ask) := ⟨rfl, rfl, rfl, by decide +kernel, rfl, by decide +kernel, by decide +kernel⟩
theorem fnd__law_ask {G : Gx} (T : Txt G) : FnD G "_law_ask" s__law_ask ["board", "barred", "picture"] [.frz, .frz, .frz] .frz 14 d__law_ask := by
  have h__law_equal := (fnd__law_equal T 12).cal fun _ _ _ _ _ _ us hl => match us, hl with | [_, _], _ => rfl
  have h__law_first_barred := (fnd__law_first_barred T).cal fun _ _ _ _ _ _ us hl => match us, hl with | [_, _], _ => rfl
  have h_barred_places := (fnd_barred_places T).cal fun _ _ _ _ _ _ us hl => match us, hl with | [_, _], _ => rfl
  have h_lets := (fnd_lets T).cal fun _ _ _ _ _ _ us hl => match us, hl with | [_, _], _ => rfl
  unfold d__law_ask
  exact fnd_of (ml := [.frz, .frz, .frz, .frz, .frz]) T.f__law_ask sc__law_ask rfl (by decide) fun f cdv A outer s H E => (dss_cons (ds_set 3 (de_ice (do_call h__law_first_barred (da_val (de_var 1) (da_val (de_var 2) da_nil)))))
    (dss_cons (ds_set 4 (de_ice (do_call h_lets (da_val (de_var 0) (da_val (de_var 2) da_nil)))))
    (dss_cons (ds_if (dt_w (dw_or (dt_not (dt_tru (de_isi (de_var 4) T.b_isinstance T.b_bool (by rfl)))) (dw_or1 (dt_cmp (fun c => o_ne c) vs_ne (de_var 4) (de_cmp (fun c => o_is c) vs_is (de_var 3) de_non))))) (dss_one (ds_ret de_bl)) dss_nil)
    (dss_one (ds_ret (de_ice (do_call h__law_equal (da_val (de_ice (do_call h_barred_places (da_val (de_var 0) (da_val (de_var 2) da_nil)))) (da_val (de_var 3) da_nil)))))))))
theorem sc_law : FnScope ["script", "source", "ties", "turn", "bars", "barred", "board", "more", "grown", "pictures", "third", "picture", "first", "k", "bar"] ["script"] (defScope s_law) := ⟨rfl, rfl, rfl, by decide +kernel, rfl, by decide +kernel, by decide +kernel⟩
theorem fnd_law {G : Gx} (T : Txt G) : FnD G "law" s_law ["script"] [.frz] .frz 15 d_law := by
  have h_barred_places_kw_0_picture_table := (fnd_barred_places T).calK 0 ["picture", "table"] [1, 0] fun _ _ _ _ _ _ us hl => match us, hl with | [_, _], _ => rfl
  have h_lets_kw_0_picture_table := (fnd_lets T).calK 0 ["picture", "table"] [1, 0] fun _ _ _ _ _ _ us hl => match us, hl with | [_, _], _ => rfl
  have h_Table := (fnd_Table T).mk' fun _ _ _ _ _ _ us hl => match us, hl with | [_, _, _], _ => rfl
  have h__law_ask := (fnd__law_ask T).cal fun _ _ _ _ _ _ us hl => match us, hl with | [_, _, _], _ => rfl
  have h__law_barred := (fnd__law_barred T).cal fun _ _ _ _ _ _ us hl => match us, hl with | [_, _], _ => rfl
  have h__law_changed := (fnd__law_changed T).cal fun _ _ _ _ _ _ us hl => match us, hl with | [_, _, _], _ => rfl
  have h__law_draw := (fnd__law_draw T).cal fun _ _ _ _ _ _ us hl => match us, hl with | [_, _], _ => rfl
  have h__law_drawn_let := (fnd__law_drawn_let T).cal fun _ _ _ _ _ _ us hl => match us, hl with | [_, _, _, _], _ => rfl
  have h__law_first_barred := (fnd__law_first_barred T).cal fun _ _ _ _ _ _ us hl => match us, hl with | [_, _], _ => rfl
  have h__law_order := (fnd__law_order T).cal fun _ _ _ _ _ _ us hl => match us, hl with | [_, _], _ => rfl
  have h__law_picture := (fnd__law_picture T).cal fun _ _ _ _ _ _ us hl => match us, hl with | [_, _, _], _ => rfl
  have h__law_piece := (fnd__law_piece T).cal fun _ _ _ _ _ _ us hl => match us, hl with | [_, _, _], _ => rfl
  have h__law_source := (fnd__law_source T).cal fun _ _ _ _ _ _ us hl => match us, hl with | [_, _], _ => rfl
  have h__law_turn := (fnd__law_turn T).cal fun _ _ _ _ _ _ us hl => match us, hl with | [_, _], _ => rfl
  unfold d_law
  exact fnd_of (ml := [.frz, .own, .frz, .frz, .own, .frz, .frz, .own, .frz, .own, .own, .frz, .frz, .frz, .frz]) T.f_law sc_law rfl (by decide) fun f cdv A outer s H E => (dss_cons (ds_setO 1 (do_call h__law_source (da_val (de_var 0) (da_val de_int da_nil))))
    (dss_cons (ds_set 2 (de_op (fun c => o_add c) vs_add de_int (de_ice (do_call h__law_draw (da_own 1 (da_val de_int da_nil))))))
    (dss_cons (ds_set 3 (de_ice (do_call h__law_turn (da_own 1 (da_val (de_var 2) da_nil)))))
    (dss_cons (ds_setLc 4 (di_range1 T.b_range (da_val (de_ice (do_call h__law_draw (da_own 1 (da_val de_int da_nil)))) da_nil)) (blkOk_by (own := [("k", 13)]) (by rfl)) (fun _ _ _ _ _ => (dg_name 13)) (fun _ _ _ _ _ => dif_nil) (fun _ _ _ _ _ => (de_ice (do_call h__law_picture (da_own 1 (da_val de_int (da_val (de_var 2) da_nil)))))))
    (dss_cons (ds_if (dt_cmp (fun c => o_le c) vs_le (de_var 2) de_int) (dss_one (ds_expr (de_mut 4 vm_extend PySem.F.slot_list_extend PySem.F.type_list_extend (fun _ => mt_extend) (da_val (de_ice (do_lc (di_range1 T.b_range (da_val (de_ice (do_call h__law_draw (da_own 1 (da_val de_int da_nil)))) da_nil)) (blkOk_by (own := [("k", 13)]) (by rfl)) (fun _ _ _ _ _ => (dg_name 13)) (fun _ _ _ _ _ => dif_nil) (fun _ _ _ _ _ => (de_ice (do_call h__law_picture (da_own 1 (da_val de_int (da_val (de_var 2) da_nil)))))))) da_nil)))) dss_nil)
    (dss_iceL 4 rfl (dss_cons (ds_set 5 (de_ice (do_call h__law_barred (da_val (de_var 3) (da_val (de_var 4) da_nil)))))
    (dss_cons (ds_set 6 (de_ice (do_make h_Table (da_val (de_var 3) (da_val (de_var 4) da_nil)))))
    (dss_cons (ds_setO 7 (do_call h__law_source (da_val (de_var 0) (da_val de_int da_nil))))
    (dss_cons (ds_set 8 (de_ice (do_call h__law_drawn_let (da_own 7 (da_val (de_var 5) (da_val (de_var 2) (da_val (de_ice (do_call h__law_draw (da_own 7 (da_val de_int da_nil)))) da_nil)))))))
    (dss_cons (ds_setO 9 (do_lst (da_val (de_var 8) (da_val (de_ice (do_call h__law_changed (da_own 7 (da_val (de_var 8) (da_val (de_var 2) da_nil))))) da_nil))))
    (dss_cons (ds_setO 10 (do_call h__law_source (da_val (de_var 0) (da_val de_int da_nil))))
    (dss_cons (ds_expr (de_mut 9 vm_append PySem.F.slot_list_append PySem.F.type_list_append (fun _ => mt_append) (da_val (de_ice (do_call h__law_picture (da_own 10 (da_val (de_ice (do_call h__law_draw (da_own 10 (da_val de_int da_nil)))) (da_val (de_var 2) da_nil))))) da_nil)))
    (dss_cons (ds_expr (de_mut 9 vm_extend PySem.F.slot_list_extend PySem.F.type_list_extend (fun _ => mt_extend) (da_val (de_ice (do_lc (di_any (de_var 4)) (blkOk_by (own := [("bar", 14)]) (by rfl)) (fun _ _ _ _ _ => (dg_name 14)) (fun _ _ _ _ _ => dif_nil) (fun _ _ _ _ _ => (de_ice (do_call h__law_piece (da_val (de_var 3) (da_val (de_var 14) (da_val (de_ice (do_call h__law_order (da_own 10 (da_val (de_callB (fun c => c_len c) vc_len T.b_len (by rfl) (da_val (de_var 14) da_nil)) da_nil)))) da_nil)))))))) da_nil)))
    (dss_cons (ds_for (di_any (de_ice (do_move (n := 1) 9))) (dg_name 11) (dss_one (ds_if (dt_not (dt_tru (de_ice (do_call h__law_ask (da_val (de_var 6) (da_val (de_var 5) (da_val (de_var 11) da_nil))))))) (dss_one (ds_ret de_bl)) dss_nil)))
    (dss_cons (ds_set 12 (de_cmp (fun c => o_is c) vs_is (de_ice (do_call h__law_first_barred (da_val (de_var 5) (da_val (de_var 8) da_nil)))) de_non))
    (dss_one (ds_ret (de_and (de_cmp (fun c => o_isB c) vs_isB (de_ice (do_callK0 (h_lets_kw_0_picture_table) (dk_val (de_var 8) (dk_val (de_var 6) dk_nil)))) de_bl) (de_and (de_var 12) (de_one (de_cmp (fun c => o_is c) vs_is (de_ice (do_callK0 (h_barred_places_kw_0_picture_table) (dk_val (de_var 8) (dk_val (de_var 6) dk_nil)))) de_non))))))))))))))))))))))
end Dn.L

namespace Dn.L
open PySem Dn
/-- a source of numbers -/
structure Src where
  a : Int
  b : Int
  c : Int
@[irreducible] def src (s : Src) : D := .lst [.int s.a, .int s.b, .int s.c]
@[irreducible] def drSt (s : Src) : Int := ((s.a * 48271 + 12345) % 2147483647 * 16807 + 977 * s.c + 1) % 2147483629
@[irreducible] def drI (s : Src) (m : Int) : Int := if s.b = 1 ∧ 0 < s.a then s.a % m else drSt s / 131 % m
@[irreducible] def drN (s : Src) (m : Int) : Nat := (drI s m).toNat
@[irreducible] def drS (s : Src) (m : Int) : Src := if s.b = 1 ∧ 0 < s.a then ⟨s.a / m, s.b, s.c⟩ else ⟨drSt s, 0, s.c⟩
theorem drI_rng {s : Src} {m : Int} (h : 0 < m) : 0 ≤ drI s m ∧ drI s m < m := by
  unfold drI; split
  · exact ⟨Int.emod_nonneg _ (by omega), Int.emod_lt_of_pos _ h⟩
  · exact ⟨Int.emod_nonneg _ (by omega), Int.emod_lt_of_pos _ h⟩
theorem drN_lt {s : Src} {m : Int} (h : 0 < m) : (drN s m : Int) < m := by have := drI_rng (s := s) h; unfold drN; omega
theorem draw_ok {s : Src} {m : Int} (h : 0 < m) (h1 : m < 1000000) : d__law_draw [src s, .int m] = .ok (.int (drN s m)) [src (drS s m), .int m] := by
  have e : ((drN s m : Nat) : Int) = drI s m := by have := drI_rng (s := s) h; unfold drN; omega
  rw [e]
  unfold d__law_draw b__law_draw src drI drS
  by_cases hb : s.b = 1
  · by_cases ha : 0 < s.a
    · simp only [hb, ha, and_self, if_true]
      apply vF_eq
      k_search []
    · simp only [hb, ha, and_false, if_false]
      apply vF_eq
      k_search [drSt]
  · simp only [hb, false_and, if_false]
    apply vF_eq
    k_search [drSt]
end Dn.L

namespace Dn.L
open PySem Dn
theorem source_ok (ns : List Int) (k : Nat) (hk : k < 1000) : ∃ s, d__law_source [.scr ns, .int k] = .ok (src s) [.scr ns, .int k] := by
  unfold d__law_source b__law_source
  by_cases hl : k < ns.length
  · have e : dAt (.scr ns) (.int k) = some (.int ns[k]) := by
      show (L2.atI ns (k : Int)).map D.int = _
      rw [atI_nat]; simp [hl]
    by_cases hc : 1000000000000000000 ≤ ns[k]
    · refine ⟨⟨ns[k] - 1000000000000000000, 1, k⟩, ?_⟩
      apply vF_eq
      unfold src
      k_search [e]
    · refine ⟨⟨ns[k] % 2147483629, 0, k⟩, ?_⟩
      apply vF_eq
      unfold src
      k_search [e]
  · refine ⟨⟨(7919 * k + 1) % 2147483629, 0, k⟩, ?_⟩
    apply vF_eq
    unfold src
    k_search []
end Dn.L

namespace Dn.L
open PySem Dn
def isTurn (t : List Nat) (n : Nat) : Prop := t.length = n ∧ ∀ i < n, t.getD i 0 < n ∧ t.getD (t.getD i 0) 0 = i
theorem getD_set (t : List Nat) (i j v : Nat) (h : i < t.length) : (t.set i v).getD j 0 = if j = i then v else t.getD j 0 := by
  by_cases e : j = i
  · subst e; simp [List.getD, h]
  · rw [if_neg e]; simp [List.getD, List.getElem?_set_ne (Ne.symm e)]
theorem isTurn_swap {t : List Nat} {n i j : Nat} (h : isTurn t n) (hi : i < n) (hj : j < n) (ei : t.getD i 0 = i) (ej : t.getD j 0 = j) : isTurn ((t.set i j).set j i) n := by
  obtain ⟨hl, h⟩ := h
  refine ⟨by simp [hl], fun k hk => ?_⟩
  have g : ∀ k, ((t.set i j).set j i).getD k 0 = if k = j then i else if k = i then j else t.getD k 0 := fun k => by
    rw [getD_set _ _ _ _ (by simp [hl, hj]), getD_set _ _ _ _ (by rw [hl]; exact hi)]
  obtain ⟨h1, h2⟩ := h k hk
  by_cases k1 : k = j
  · subst k1
    rw [g k, if_pos rfl, g i]
    refine ⟨hi, ?_⟩
    by_cases e : i = k
    · rw [if_pos e]; exact e
    · rw [if_neg e, if_pos rfl]
  · by_cases k2 : k = i
    · subst k2
      rw [g k, if_neg k1, if_pos rfl, g j, if_pos rfl]
      exact ⟨hj, rfl⟩
    · rw [g k, if_neg k1, if_neg k2, g]
      refine ⟨h1, ?_⟩
      rw [if_neg, if_neg, h2]
      · intro e; rw [e, ei] at h2; exact k2 h2.symm
      · intro e; rw [e, ej] at h2; exact k1 h2.symm
theorem turn_ok (s : Src) (n : Nat) (h1 : 0 < n) (h2 : n < 100) : ∃ s' t, d__law_turn [src s, .int n] = .ok (nT t) [src s', .int n] ∧ isTurn t n := by
  suffices h : vF (d__law_turn [src s, .int n]) (h := ⟨fun r ds => ∃ s' t, r = nT t ∧ ds = [src s', .int n] ∧ isTurn t n, fun _ _ => False⟩) by
    obtain ⟨_, _, e, s', t, rfl, rfl, ht⟩ := vF_ex h
    exact ⟨s', t, e, ht⟩
  unfold d__law_turn b__law_turn
  k_search []
  refine vE_lcm (enc := nD) (xs := List.range n) nD (by simp; omega) ?_ ?_
  · intro x hx
    k_search []
  k_search []
  refine vS_range (fun j ρ => ∃ s' t x y, ρ = [some (src s'), some (.int n), some (nL t), x, y] ∧ isTurn t n) ?_ ?_ ?_
  · exact ⟨s, List.range n, none, none, rfl, by simp, fun i hi => by simp [hi]⟩
  · rintro j ρ hj ⟨s, t, x, y, rfl, ht⟩
    obtain ⟨tl, tt⟩ := id ht
    have hd := drN_lt (s := s) (m := n) (by omega)
    k_search [draw_ok (s := s) (m := n) (by omega) (by omega), ixN_nat]
    refine vB_if (fun h3 => ?_) (fun h3 => ?_)
    · k_search []
      refine vB_if (fun h4 => ?_) (fun h4 => ?_)
      · k_search [List.length_set]
        exact ⟨drS s n, (t.set j (drN s n)).set (drN s n) j, some (nD j), some (nD (drN s n)), by simp [List.map_set], isTurn_swap ht (by omega) (by omega) (by omega) (by omega)⟩
      · k_search []
        exact ⟨_, t, _, _, rfl, ht⟩
    · k_search []
      exact ⟨_, t, _, _, rfl, ht⟩
  · rintro ρ ⟨s, t, x, y, rfl, ht⟩
    k_search []
    exact ⟨s, t, rfl, rfl, ht⟩
/-- rows, pictures over n ties -/
def isRow (r : List Nat) (k n : Nat) : Prop := r.length = k ∧ ∀ x ∈ r, x < n
def isPic (p : List (List Nat)) (k n : Nat) : Prop := p.length = k ∧ ∀ j < k, isRow (p.getD j []) j n
theorem isRow_app {r : List Nat} {k n x : Nat} (h : isRow r k n) (hx : x < n) : isRow (r ++ [x]) (k + 1) n := by
  refine ⟨by simp [h.1], fun y hy => ?_⟩
  rcases List.mem_append.mp hy with hy | hy
  · exact h.2 y hy
  · simp at hy; subst hy; exact hx
theorem isPic_app {p : List (List Nat)} {k n : Nat} {r : List Nat} (h : isPic p k n) (hr : isRow r k n) : isPic (p ++ [r]) (k + 1) n := by
  refine ⟨by simp [h.1], fun j hj => ?_⟩
  by_cases e : j = k
  · subst e
    have : (p ++ [r]).getD j [] = r := by simp [List.getD, ← h.1]
    rw [this]; exact hr
  · have : (p ++ [r]).getD j [] = p.getD j [] := by
      have hl := h.1
      simp [List.getD, List.getElem?_append_left (show j < p.length by omega)]
    rw [this]; exact h.2 j (by omega)
theorem picture_ok (s : Src) (k n : Nat) (hk : k < 1000) (h1 : 0 < n) (h2 : n < 100) : ∃ s' p, d__law_picture [src s, .int k, .int n] = .ok (pcD p) [src s', .int k, .int n] ∧ isPic p k n := by
  suffices h : vF (d__law_picture [src s, .int k, .int n]) (h := ⟨fun r ds => ∃ s' p, r = pcD p ∧ ds = [src s', .int k, .int n] ∧ isPic p k n, fun _ _ => False⟩) by
    obtain ⟨_, _, e, s', t, rfl, rfl, ht⟩ := vF_ex h
    exact ⟨s', t, e, ht⟩
  unfold d__law_picture b__law_picture
  k_search []
  refine vS_range (fun j ρ => ∃ s' p x, ρ = [some (src s'), some (.int k), some (.int n), some (.lst (p.map nT)), x, none] ∧ isPic p j n) ⟨s, [], none, rfl, rfl, by simp⟩ ?_ ?_
  · rintro j ρ hj ⟨s, p, x, rfl, hp⟩
    have hp1 := hp.1
    k_search []
    refine vE_lcr (fun i acc ρ => ∃ s' r, acc = r.map nD ∧ isRow r i n ∧ ρ = [some (src s'), some (.int k), some (.int n), some (.lst (p.map nT)), some (.int j), none]) (by omega) ⟨s, [], rfl, ⟨rfl, by simp⟩, rfl⟩ ?_ ?_
    · rintro i acc ρ hi ⟨s, r, rfl, hr, rfl⟩
      k_search [draw_ok (s := s) (m := n) (by omega) (by omega)]
      have hd := drN_lt (s := s) (m := n) (by omega)
      exact ⟨_, r ++ [drN s n], rfl, isRow_app hr (by omega), rfl⟩
    · rintro acc ρ ⟨s, r, rfl, hr, rfl⟩
      k_search []
      exact ⟨_, p ++ [r], _, rfl, isPic_app hp hr⟩
  · rintro ρ ⟨s, p, x, rfl, hp⟩
    k_search []
    exact ⟨s, p, rfl, rfl, hp⟩
end Dn.L

/-! P4: ties, rows, pieces. -/
namespace Dn.L
open PySem Dn
def tieF (t : List Nat) (p : List (List Nat)) (i j : Nat) : Nat := if i < j then (p.getD j []).getD i 0 else t.getD ((p.getD i []).getD j 0) 0
def rowF (t : List Nat) (p : List (List Nat)) (o : List Nat) (x : Nat) : List Nat := o.map fun i => tieF t p i x
def pieceF (t : List Nat) (p : List (List Nat)) (o : List Nat) : List (List Nat) := (List.range o.length).map fun k => rowF t p (o.take k) (o.getD k 0)
theorem getD_mem {α : Type} {l : List α} {i : Nat} {d : α} (h : i < l.length) : l.getD i d ∈ l := by simp [List.getD, h]
theorem isPic.row {p : List (List Nat)} {k n j : Nat} (h : isPic p k n) (hj : j < k) : (p.getD j []).length = j := (h.2 j hj).1
theorem isPic.at {p : List (List Nat)} {k n i j : Nat} (h : isPic p k n) (hj : j < k) (hi : i < j) : (p.getD j []).getD i 0 < n := by
  have hr := h.2 j hj
  exact hr.2 _ (getD_mem (by rw [hr.1]; exact hi))
theorem tieF_lt {t : List Nat} {p : List (List Nat)} {k n i j : Nat} (ht : isTurn t n) (hp : isPic p k n) (hi : i < k) (hj : j < k) (hn : i ≠ j) : tieF t p i j < n := by
  unfold tieF
  by_cases h : i < j
  · rw [if_pos h]; exact hp.at hj h
  · rw [if_neg h]; exact (ht.2 _ (hp.at hi (by omega))).1
theorem tieF_turn {t : List Nat} {p : List (List Nat)} {k n i j : Nat} (ht : isTurn t n) (hp : isPic p k n) (hi : i < k) (hj : j < k) (hn : i ≠ j) : tieF t p j i = t.getD (tieF t p i j) 0 := by
  unfold tieF
  by_cases h : i < j
  · rw [if_pos h, if_neg (by omega)]
  · rw [if_neg h, if_pos (by omega), (ht.2 _ (hp.at hi (show j < i by omega))).2]
theorem tie_in_ok {t : List Nat} {p : List (List Nat)} {k n i j : Nat} (ht : isTurn t n) (hp : isPic p k n) (hi : i < k) (hj : j < k) (hn : i ≠ j) : d_tie_in [nT t, pcD p, nD i, nD j] = .ok (nD (tieF t p i j)) [nT t, pcD p, nD i, nD j] := by
  apply vF_eq
  unfold d_tie_in b_tie_in tieF
  have h1 := hp.1
  have h2 := ht.1
  have h3 := hp.row hi
  have h4 := hp.row hj
  by_cases h : i < j
  · have h5 := hp.at hj h
    rw [if_pos h]
    k_search []
  · have h5 := hp.at hi (show j < i by omega)
    rw [if_neg h]
    k_search []
theorem law_tie_ok {t : List Nat} {p : List (List Nat)} {k n i j : Nat} (ht : isTurn t n) (hp : isPic p k n) (hi : i < k) (hj : j < k) (hn : i ≠ j) : d__law_tie [nT t, pcD p, nD i, nD j] = .ok (nD (tieF t p i j)) [nT t, pcD p, nD i, nD j] := by
  apply vF_eq
  unfold d__law_tie b__law_tie tieF
  have h1 := hp.1
  have h2 := ht.1
  have h3 := hp.row hi
  have h4 := hp.row hj
  by_cases h : i < j
  · have h5 := hp.at hj h
    rw [if_pos h]
    k_search []
  · have h5 := hp.at hi (show j < i by omega)
    rw [if_neg h]
    k_search []
theorem row_to_ok {t : List Nat} {p : List (List Nat)} {k n x : Nat} {o : List Nat} (ht : isTurn t n) (hp : isPic p k n) (ho : ∀ i ∈ o, i < k) (hx : x < k) (hn : x ∉ o) (hl : o.length < 100000) : d_row_to [nT t, pcD p, nT o, nD x] = .ok (nT (rowF t p o x)) [nT t, pcD p, nT o, nD x] := by
  apply vF_eq
  unfold d_row_to b_row_to rowF
  k_search []
  refine vE_lcm (enc := nD) (xs := o) (fun i => nD (tieF t p i x)) (by omega) ?_ ?_
  · intro i hi
    have h1 := ho i hi
    have h2 : i ≠ x := fun e => hn (e ▸ hi)
    k_search [tie_in_ok ht hp h1 hx h2]
  · k_search [List.map_map]
    simp
end Dn.L

/-! P5: pieces. -/
namespace Dn.L
open PySem Dn
/-- an order of k of n points -/
def isOrd (o : List Nat) (k n : Nat) : Prop := o.length = k ∧ o.Nodup ∧ ∀ i ∈ o, i < n
theorem take_mem {α : Type} {l : List α} {k : Nat} {x : α} (h : x ∈ l.take k) : x ∈ l := List.mem_of_mem_take h
theorem nodup_at {o : List Nat} {k : Nat} (h : o.Nodup) (hk : k < o.length) : o.getD k 0 ∉ o.take k := by
  have e : o.getD k 0 = o[k] := by simp [List.getD, hk]
  rw [e]
  intro hm
  obtain ⟨i, hi, he⟩ := List.getElem_of_mem hm
  rw [List.getElem_take] at he
  have hi' : i < k := by simp at hi; omega
  have := (List.getElem_inj h).mp he
  omega
theorem zip_map (l : List Nat) : (l.zipIdx.map fun p => D.tup [nD p.2, nD p.1]) = (List.range l.length).map fun k => D.tup [nD k, nD (l.getD k 0)] := by
  apply List.ext_getElem
  · simp
  · intro i h1 h2
    simp at h1
    simp [List.getD, h1]
theorem flat_ok (p : List (List Nat)) (h : p.flatten.length < 100000) : d_flat [pcD p] = .ok (nT p.flatten) [pcD p] := by
  apply vF_eq
  unfold d_flat b_flat
  k_search []
  refine vE_lc2 (enc := nT) (xs := p) (fun pre acc ρ => acc = (pre.flatten).map nD ∧ ρ = [some (pcD p), none, none]) ⟨rfl, rfl⟩ ?_ ?_
  · rintro pre r post acc ρ e ⟨rfl, rfl⟩
    have hl : pre.flatten.length + r.length < 100000 := by
      rw [e] at h; simp at h ⊢; omega
    k_search []
    refine vE_lcfA (enc := nD) (xs := r) (fun _ => true) nD (by rw [List.length_map]; omega) ?_ ?_
    · intro x hx
      k_search []
    · k_search [List.flatten_append, List.flatten_cons, List.flatten_nil, List.append_nil]
  · rintro acc ρ ⟨rfl, rfl⟩
    k_search []
theorem cut_ok {t : List Nat} {p : List (List Nat)} {k n m : Nat} {o : List Nat} (ht : isTurn t n) (hp : isPic p k n) (ho : isOrd o m k) (hl : m < 100000) : d_cut [nT t, pcD p, nT o] = .ok (pcD (pieceF t p o)) [nT t, pcD p, nT o] := by
  apply vF_eq
  unfold d_cut b_cut pieceF
  have hm := ho.1
  k_search []
  rw [zip_map]
  refine vE_lcm (xs := List.range o.length) (fun k => nT (rowF t p (o.take k) (o.getD k 0))) (by simp; omega) ?_ ?_
  · intro j hj
    have hj : j < o.length := by simpa using hj

    k_search []
    k_search [row_to_ok (t := t) (p := p) (k := k) (n := n) (x := o.getD j 0) (o := o.take j) ht hp (fun i hi => ho.2.2 i (take_mem hi)) (ho.2.2 _ (getD_mem hj)) (nodup_at ho.2.1 hj) (by simp; omega)]
  · k_search [List.map_map]
    simp
theorem piece_ok {t : List Nat} {p : List (List Nat)} {k n m : Nat} {o : List Nat} (ht : isTurn t n) (hp : isPic p k n) (ho : isOrd o m k) (hl : m < 100000) : d__law_piece [nT t, pcD p, nT o] = .ok (pcD (pieceF t p o)) [nT t, pcD p, nT o] := by
  apply vF_eq
  unfold d__law_piece b__law_piece pieceF
  have hm := ho.1
  k_search []
  refine vS_range (fun j ρ => ∃ x, ρ = [some (nT t), some (pcD p), some (nT o), some (.lst (((List.range j).map fun k => rowF t p (o.take k) (o.getD k 0)).map nT)), x, none]) ⟨none, rfl⟩ ?_ ?_
  · rintro j ρ hj ⟨x, rfl⟩
    k_search []
    refine vE_lcm (enc := nD) (xs := List.range j) (fun i => nD (tieF t p (o.getD i 0) (o.getD j 0))) (by simp; omega) ?_ ?_
    · intro i hi
      have hi : i < j := by simpa using hi
      have e : o.getD i 0 ≠ o.getD j 0 := by
        intro e
        apply nodup_at ho.2.1 hj
        rw [← e]
        have : o.getD i 0 = (o.take j)[i]'(by simp; omega) := by simp [List.getD, show i < o.length by omega]
        rw [this]
        exact List.getElem_mem _
      k_search []
      k_search [law_tie_ok (i := o.getD i 0) (j := o.getD j 0) ht hp (ho.2.2 _ (getD_mem (by omega))) (ho.2.2 _ (getD_mem hj)) e]
    · k_search []
      refine ⟨some (nD j), ?_⟩
      have e : (List.range j).map (fun i => nD (tieF t p (o.getD i 0) (o.getD j 0))) = (rowF t p (o.take j) (o.getD j 0)).map nD := by
        unfold rowF
        rw [List.map_map]
        apply List.ext_getElem
        · simp; omega
        · intro i h1 h2
          simp at h1
          simp [List.getD, show i < o.length by omega]
      rw [e]
      simp only [List.range_succ, List.map_append, List.map_cons, List.map_nil]
  · rintro ρ ⟨x, rfl⟩
    k_search []
theorem order_ok (s : Src) (k : Nat) (hk : k < 900) : ∃ s' o, d__law_order [src s, .int k] = .ok (nT o) [src s', .int k] ∧ isOrd o k k := by
  suffices h : vF (d__law_order [src s, .int k]) (h := ⟨fun r ds => ∃ s' o, r = nT o ∧ ds = [src s', .int k] ∧ isOrd o k k, fun _ _ => False⟩) by
    obtain ⟨_, _, e, s', t, rfl, rfl, ht⟩ := vF_ex h
    exact ⟨s', t, e, ht⟩
  unfold d__law_order b__law_order
  k_search []
  refine vS_range (fun j ρ => ∃ s' o x, ρ = [some (src s'), some (.int k), some (nL o), x] ∧ isOrd o j j) ⟨s, [], none, rfl, rfl, by simp, by simp⟩ ?_ ?_
  · rintro j ρ hj ⟨s, o, x, rfl, ho⟩
    have hd := drN_lt (s := s) (m := ((j + 1 : Nat) : Int)) (by omega)
    have hl := ho.1
    k_search [draw_ok (s := s) (m := ((j + 1 : Nat) : Int)) (by omega) (by omega)]
    refine ⟨_, o.take (drN s ((j + 1 : Nat) : Int)) ++ [j] ++ o.drop (drN s ((j + 1 : Nat) : Int)), some (nD j), rfl, ?_, ?_, ?_⟩
    · simp; omega
    · have hnj : j ∉ o := fun h => by have := ho.2.2 j h; omega
      have hp : (o.take (drN s ((j + 1 : Nat) : Int)) ++ [j] ++ o.drop (drN s ((j + 1 : Nat) : Int))).Perm (j :: o) := by
        have := List.perm_middle (a := j) (l₁ := o.take (drN s ((j + 1 : Nat) : Int))) (l₂ := o.drop (drN s ((j + 1 : Nat) : Int)))
        rw [List.take_append_drop] at this
        simpa using this
      rw [hp.nodup_iff]
      exact List.nodup_cons.mpr ⟨hnj, ho.2.1⟩
    · intro i hi
      simp at hi
      rcases hi with hi | rfl | hi
      · have := ho.2.2 i (take_mem hi); omega
      · omega
      · have := ho.2.2 i (List.mem_of_mem_drop hi); omega
  · rintro ρ ⟨s, o, x, rfl, ho⟩
    k_search []
    exact ⟨s, o, rfl, rfl, ho⟩
end Dn.L

/-! P6: the checks, on what is right. -/
namespace Dn.L
open PySem Dn
theorem zip_at {α : Type} {l : List α} {x : α × Nat} (h : x ∈ l.zipIdx) : l[x.2]? = some x.1 := by
  obtain ⟨i, hi⟩ := List.mem_iff_getElem?.mp h
  rw [List.getElem?_zipIdx] at hi
  obtain ⟨y, h1, rfl⟩ := Option.map_eq_some_iff.mp hi
  simpa using h1
theorem zip_getD {α : Type} {l : List α} {x : α × Nat} (d : α) (h : x ∈ l.zipIdx) : x.2 < l.length ∧ l.getD x.2 d = x.1 := by
  have h1 := zip_at h
  have h2 := (List.getElem?_eq_some_iff.mp h1).1
  exact ⟨h2, by simp [List.getD, h1]⟩
theorem is_sequence_tup (ds : List D) : d_is_sequence [.tup ds] = .ok (.bl true) [.tup ds] := by
  apply vF_eq
  unfold d_is_sequence b_is_sequence
  k_search []
theorem is_sequence_lst (ds : List D) : d_is_sequence [.lst ds] = .ok (.bl true) [.lst ds] := by
  apply vF_eq
  unfold d_is_sequence b_is_sequence
  k_search []
theorem is_number_int (i : Int) : d_is_number [.int i] = .ok (.bl (decide (0 ≤ i))) [.int i] := by
  apply vF_eq
  unfold d_is_number b_is_number
  k_search []
theorem is_below_ii (i j : Int) : d_is_below [.int i, .int j] = .ok (.bl (decide (0 ≤ i ∧ i < j))) [.int i, .int j] := by
  apply vF_eq
  unfold d_is_below b_is_below
  k_search [is_number_int]
  refine vB_if (fun h => ?_) (fun h => ?_)
  · k_search []
    simp [h]
  · k_search []
    simp [h]
theorem is_below_n {i j : Nat} (h : i < j) : d_is_below [nD i, nD j] = .ok (.bl true) [nD i, nD j] := by
  rw [is_below_ii]; simp; omega
theorem is_row_ok {r : List Nat} {k n : Nat} (h : isRow r k n) : d_is_row [nT r, nD k, nD n] = .ok (.bl true) [nT r, nD k, nD n] := by
  apply vF_eq
  unfold d_is_row b_is_row
  have h1 := h.1
  k_search []
  refine vS_all (enc := nD) (xs := r) (fun ρ => ∃ x, ρ = [some (nT r), some (nD k), some (nD n), x]) ⟨none, rfl⟩ ?_ ?_
  · rintro x ρ hx ⟨y, rfl⟩
    k_search [is_below_n (h.2 x hx)]
    exact ⟨_, rfl⟩
  · rintro ρ ⟨y, rfl⟩
    k_search []
theorem is_shape_ok {p : List (List Nat)} {k n : Nat} (h : isPic p k n) : d_is_shape [pcD p, nD n] = .ok (.bl true) [pcD p, nD n] := by
  apply vF_eq
  unfold d_is_shape b_is_shape
  k_search []
  refine vS_all (xs := p.zipIdx) (fun ρ => ∃ x y, ρ = [some (pcD p), some (nD n), x, y]) ⟨none, none, rfl⟩ ?_ ?_
  · rintro x ρ hx ⟨y, z, rfl⟩
    obtain ⟨h1, h2⟩ := zip_getD [] hx
    rw [h.1] at h1
    have hr := h.2 _ h1
    rw [h2] at hr
    k_search [is_row_ok hr]
    exact ⟨_, _, rfl⟩
  · rintro ρ ⟨y, z, rfl⟩
    k_search []
theorem check_turn_ok {t : List Nat} {n : Nat} (ht : isTurn t n) (hn : 0 < n) : d_check_turn [nT t] = .ok .non [nT t] := by
  apply vF_eq
  unfold d_check_turn b_check_turn
  obtain ⟨h1, h2⟩ := ht
  have h3 : t ≠ [] := by intro e; subst e; simp at h1; omega
  k_search [is_sequence_tup, List.map_eq_nil_iff, h3]
  refine vS_all (xs := t.zipIdx) (fun ρ => ∃ x y, ρ = [some (nT t), x, y]) ⟨none, none, rfl⟩ ?_ ?_
  · rintro x ρ hx ⟨y, z, rfl⟩
    obtain ⟨h4, h5⟩ := zip_getD 0 hx
    have h6 := (h2 x.2 (by omega)).1
    rw [h5] at h6
    k_search [is_below_n (show x.1 < t.length by omega)]
    exact ⟨_, _, rfl⟩
  · rintro ρ ⟨y, z, rfl⟩
    k_search []
    refine vS_all (xs := t.zipIdx) (fun ρ => ∃ x y, ρ = [some (nT t), x, y]) ⟨_, _, rfl⟩ ?_ ?_
    · rintro x ρ hx ⟨y, z, rfl⟩
      obtain ⟨h4, h5⟩ := zip_getD 0 hx
      have h6 := h2 x.2 (by omega)
      rw [h5] at h6
      k_search []
      exact ⟨_, _, rfl⟩
    · rintro ρ ⟨y, z, rfl⟩
      k_search []
/-- a picture of three or four points -/
def isBar (p : List (List Nat)) (n : Nat) : Prop := isPic p 3 n ∨ isPic p 4 n
theorem isBar.len {p : List (List Nat)} {n : Nat} (h : isBar p n) : p.length = 3 ∨ p.length = 4 := h.imp (·.1) (·.1)
theorem isBar.pic {p : List (List Nat)} {n : Nat} (h : isBar p n) : isPic p p.length n := by
  rcases h with h | h
  · rw [h.1]; exact h
  · rw [h.1]; exact h
theorem check_bars_aux (q : D) (bs : List (List (List Nat))) (n : Nat) (hq : q = .tup (bs.map pcD) ∨ q = .lst (bs.map pcD)) (h : ∀ b ∈ bs, isBar b n) : d_check_bars [q, nD n] = .ok .non [q, nD n] := by
  have e0 : d_is_sequence [q] = .ok (.bl true) [q] := by
    rcases hq with rfl | rfl
    · exact is_sequence_tup _
    · exact is_sequence_lst _
  have e1 : enA [q] = some (bs.zipIdx.map fun p => D.tup [nD p.2, pcD p.1]) := by
    rcases hq with rfl | rfl
    · rw [enA_tup, enum_map]
    · rw [enA_lst, enum_map]
  clear hq
  apply vF_eq
  unfold d_check_bars b_check_bars
  k_search [e0, e1]
  refine vS_all (xs := bs.zipIdx) (fun ρ => ∃ x y, ρ = [some q, some (nD n), x, y]) ⟨none, none, rfl⟩ ?_ ?_
  · rintro x ρ hx ⟨y, z, rfl⟩
    obtain ⟨h4, h5⟩ := zip_getD [] hx
    have hb := h _ (getD_mem (d := []) h4)
    rw [h5] at hb
    have e2 : dInD true (.int ((x.1.length : Nat) : Int)) (.tup [.int 3, .int 4]) = some (.bl false) := by
      have := dNotIn_n x.1.length [3, 4]
      rw [show decide (x.1.length ∉ [3, 4]) = false by rcases hb.len with e | e <;> simp [e]] at this
      exact this
    k_search [is_shape_ok hb.pic, e2]
    exact ⟨_, _, rfl⟩
  · rintro ρ ⟨y, z, rfl⟩
    k_search []
theorem check_bars_ok (bs : List (List (List Nat))) (n : Nat) (h : ∀ b ∈ bs, isBar b n) : d_check_bars [.lst (bs.map pcD), nD n] = .ok .non [.lst (bs.map pcD), nD n] := check_bars_aux _ bs n (.inr rfl) h
end Dn.L

/-! M1: the greedy search for the least rows, in plain Lean. -/
namespace Dn.L
open PySem Dn
abbrev GS := Option (List Nat) × List (List Nat)
def mStep (s : GS) (c : List Nat × List Nat) : GS := match s.1 with
  | none => (some c.1, [c.2])
  | some b => if c.1 < b then (some c.1, [c.2]) else if c.1 = b then (some b, s.2 ++ [c.2]) else s
def cStep (row : List Nat → Nat → List Nat) (o : List Nat) (s : GS) (x : Nat) : GS := if x ∈ o then s else mStep s (row o x, o ++ [x])
def cIn (row : List Nat → Nat → List Nat) (n : Nat) (s : GS) (o : List Nat) : GS := (List.range n).foldl (cStep row o) s
def gAll (row : List Nat → Nat → List Nat) (n : Nat) (os : List (List Nat)) : GS := os.foldl (cIn row n) (none, [])
def gr (row : List Nat → Nat → List Nat) (n : Nat) : Nat → List (List Nat) × List (List Nat)
  | 0 => ([[]], [])
  | k + 1 => ((gAll row n (gr row n k).1).2, (gr row n k).2 ++ [(gAll row n (gr row n k).1).1.getD []])
theorem mStep_len (s : GS) (c : List Nat × List Nat) : (mStep s c).2.length ≤ s.2.length + 1 := by
  unfold mStep
  split
  · simp
  · split
    · simp
    · split <;> simp
theorem cStep_len (row : List Nat → Nat → List Nat) (o : List Nat) (s : GS) (x : Nat) : (cStep row o s x).2.length ≤ s.2.length + 1 := by
  unfold cStep; split
  · omega
  · exact mStep_len _ _
theorem cIn_len' (row : List Nat → Nat → List Nat) (o : List Nat) (s : GS) : ∀ j, ((List.range j).foldl (cStep row o) s).2.length ≤ s.2.length + j
  | 0 => by simp
  | j + 1 => by
    rw [List.range_succ, List.foldl_append]
    have := cIn_len' row o s j
    have := cStep_len row o ((List.range j).foldl (cStep row o) s) j
    simp only [List.foldl_cons, List.foldl_nil]
    omega
theorem gAll_len' (row : List Nat → Nat → List Nat) (n : Nat) : ∀ (os : List (List Nat)) (s : GS), (os.foldl (cIn row n) s).2.length ≤ s.2.length + os.length * n
  | [], s => by simp
  | o :: os, s => by
    rw [List.foldl_cons]
    have := gAll_len' row n os (cIn row n s o)
    have := cIn_len' row o s n
    unfold cIn at *
    rw [List.length_cons, Nat.add_mul]
    omega
theorem gAll_len (row : List Nat → Nat → List Nat) (n : Nat) (os : List (List Nat)) : (gAll row n os).2.length ≤ os.length * n := by
  have := gAll_len' row n os (none, []); simpa [gAll] using this
theorem gr_len (row : List Nat → Nat → List Nat) (n : Nat) : ∀ k, (gr row n k).1.length ≤ n ^ k
  | 0 => by simp [gr]
  | k + 1 => by
    have := gr_len row n k
    have := gAll_len row n (gr row n k).1
    show (gAll row n (gr row n k).1).2.length ≤ _
    rw [Nat.pow_succ]
    exact Nat.le_trans this (Nat.mul_le_mul_right n (by assumption))
theorem gr_rows (row : List Nat → Nat → List Nat) (n : Nat) : ∀ k, (gr row n k).2.length = k
  | 0 => rfl
  | k + 1 => by show ((gr row n k).2 ++ _).length = _; simp [gr_rows row n k]
/-- all that can come next -/
def cands (row : List Nat → Nat → List Nat) (n : Nat) (os : List (List Nat)) : List (List Nat × List Nat) := os.flatMap fun o => ((List.range n).filter (fun x => decide (x ∉ o))).map fun x => (row o x, o ++ [x])
theorem foldl_filter' {α σ : Type} (f : σ → α → σ) (c : α → Bool) (g : α → Bool) (hg : ∀ x, g x = !c x) : ∀ (l : List α) (s : σ), l.foldl (fun s x => if c x then s else f s x) s = (l.filter g).foldl f s
  | [], s => rfl
  | x :: l, s => by
    rw [List.foldl_cons, List.filter_cons, hg x]
    cases hc : c x with
    | true => simp [foldl_filter' f c g hg l]
    | false => simp [foldl_filter' f c g hg l]
theorem gAll_eq (row : List Nat → Nat → List Nat) (n : Nat) (os : List (List Nat)) : gAll row n os = (cands row n os).foldl mStep (none, []) := by
  unfold gAll cands
  generalize (none, []) = s
  induction os generalizing s with
  | nil => rfl
  | cons o os ih =>
    rw [List.foldl_cons, ih, List.flatMap_cons, List.foldl_append]
    congr 1
    unfold cIn cStep
    rw [List.foldl_map]
    have := foldl_filter' (fun s x => mStep s (row o x, o ++ [x])) (fun x => decide (x ∈ o)) (fun x => decide (x ∉ o)) (by intro x; simp) (List.range n) s
    simpa using this
theorem mem_cands {row : List Nat → Nat → List Nat} {n : Nat} {os : List (List Nat)} {c : List Nat × List Nat} : c ∈ cands row n os ↔ ∃ o ∈ os, ∃ x, x < n ∧ x ∉ o ∧ c = (row o x, o ++ [x]) := by
  unfold cands
  simp only [List.mem_flatMap, List.mem_map, List.mem_filter, List.mem_range, decide_eq_true_eq]
  constructor
  · rintro ⟨o, ho, x, ⟨h1, h2⟩, rfl⟩; exact ⟨o, ho, x, h1, h2, rfl⟩
  · rintro ⟨o, ho, x, h1, h2, rfl⟩; exact ⟨o, ho, x, ⟨h1, h2⟩, rfl⟩
/-- what the fold finds -/
theorem mFold (L : List (List Nat × List Nat)) : (L = [] ∧ L.foldl mStep (none, []) = (none, [])) ∨ ∃ b, L.foldl mStep (none, []) = (some b, (L.filter fun c => decide (c.1 = b)).map (·.2)) ∧ (∃ c ∈ L, c.1 = b) ∧ ∀ c ∈ L, b ≤ c.1 := by
  have key : ∀ (post pre : List (List Nat × List Nat)) (s : GS), ((pre = [] ∧ s = (none, [])) ∨ ∃ b, s = (some b, (pre.filter fun c => decide (c.1 = b)).map (·.2)) ∧ (∃ c ∈ pre, c.1 = b) ∧ ∀ c ∈ pre, b ≤ c.1) →
      (pre ++ post = [] ∧ post.foldl mStep s = (none, [])) ∨ ∃ b, post.foldl mStep s = (some b, ((pre ++ post).filter fun c => decide (c.1 = b)).map (·.2)) ∧ (∃ c ∈ pre ++ post, c.1 = b) ∧ ∀ c ∈ pre ++ post, b ≤ c.1 := by
    intro post
    induction post with
    | nil => intro pre s h; simpa using h
    | cons c post ih =>
      intro pre s h
      have e : pre ++ c :: post = (pre ++ [c]) ++ post := by simp
      rw [List.foldl_cons, e]
      apply ih
      right
      rcases h with ⟨rfl, rfl⟩ | ⟨b, rfl, ⟨c0, hc0, e0⟩, hb⟩
      · exact ⟨c.1, by simp [mStep], ⟨c, by simp, rfl⟩, by simp [List.le_refl]⟩
      · unfold mStep
        dsimp only
        by_cases h1 : c.1 < b
        · rw [if_pos h1]
          refine ⟨c.1, ?_, ⟨c, by simp, rfl⟩, ?_⟩
          · have : pre.filter (fun d => decide (d.1 = c.1)) = [] := by
              rw [List.filter_eq_nil_iff]
              intro d hd
              simp only [decide_eq_true_eq]
              intro e1
              have := hb d hd
              rw [e1] at this
              exact absurd h1 (List.not_lt.mpr this)
            rw [List.filter_append, this]; simp
          · intro d hd
            rcases List.mem_append.mp hd with hd | hd
            · exact List.le_trans (List.le_of_lt h1) (hb d hd)
            · simp at hd; subst hd; exact List.le_refl _
        · rw [if_neg h1]
          by_cases h2 : c.1 = b
          · rw [if_pos h2]
            refine ⟨b, ?_, ⟨c0, by simp [hc0], e0⟩, ?_⟩
            · rw [List.filter_append]; simp [h2]
            · intro d hd
              rcases List.mem_append.mp hd with hd | hd
              · exact hb d hd
              · simp at hd; subst hd; rw [h2]; exact List.le_refl _
          · rw [if_neg h2]
            refine ⟨b, ?_, ⟨c0, by simp [hc0], e0⟩, ?_⟩
            · rw [List.filter_append]; simp [h2]
            · intro d hd
              rcases List.mem_append.mp hd with hd | hd
              · exact hb d hd
              · simp at hd; subst hd; exact List.not_lt.mp h1
  have := key L [] (none, []) (.inl ⟨rfl, rfl⟩)
  simpa using this
/-- the greedy's turn -/
theorem gAll_spec {row : List Nat → Nat → List Nat} {n : Nat} {os : List (List Nat)} (h : ∃ o ∈ os, ∃ x, x < n ∧ x ∉ o) : ∃ b, (gAll row n os).1 = some b ∧ (∃ o ∈ os, ∃ x, x < n ∧ x ∉ o ∧ row o x = b) ∧
    (∀ o ∈ os, ∀ x, x < n → x ∉ o → b ≤ row o x) ∧ ∀ q, q ∈ (gAll row n os).2 ↔ ∃ o ∈ os, ∃ x, x < n ∧ x ∉ o ∧ row o x = b ∧ q = o ++ [x] := by
  rw [gAll_eq]
  rcases mFold (cands row n os) with ⟨h1, h2⟩ | ⟨b, h1, ⟨c, hc, e⟩, h3⟩
  · obtain ⟨o, ho, x, hx, hn⟩ := h
    have : (row o x, o ++ [x]) ∈ cands row n os := mem_cands.mpr ⟨o, ho, x, hx, hn, rfl⟩
    rw [h1] at this; simp at this
  · rw [h1]
    refine ⟨b, rfl, ?_, ?_, ?_⟩
    · obtain ⟨o, ho, x, hx, hn, rfl⟩ := mem_cands.mp hc
      exact ⟨o, ho, x, hx, hn, e⟩
    · intro o ho x hx hn
      exact h3 _ (mem_cands.mpr ⟨o, ho, x, hx, hn, rfl⟩)
    · intro q
      simp only [List.mem_map, List.mem_filter, decide_eq_true_eq]
      constructor
      · rintro ⟨d, ⟨hd, e1⟩, rfl⟩
        obtain ⟨o, ho, x, hx, hn, rfl⟩ := mem_cands.mp hd
        exact ⟨o, ho, x, hx, hn, e1, rfl⟩
      · rintro ⟨o, ho, x, hx, hn, e1, rfl⟩
        exact ⟨_, ⟨mem_cands.mpr ⟨o, ho, x, hx, hn, rfl⟩, e1⟩, rfl⟩
theorem ord_free {o : List Nat} {k n : Nat} (h : isOrd o k n) (hk : k < n) : ∃ x, x < n ∧ x ∉ o := by
  apply Classical.byContradiction
  intro hc
  have hs : ∀ x ∈ List.range n, x ∈ o := by
    intro x hx
    apply Classical.byContradiction
    intro h2
    exact hc ⟨x, by simpa using hx, h2⟩
  have h1 := h.1
  have : (List.range n).length ≤ o.length := List.Nodup.length_le_of_subset List.nodup_range hs
  simp at this; omega
theorem isOrd_app {o : List Nat} {k n x : Nat} (h : isOrd o k n) (hx : x < n) (hn : x ∉ o) : isOrd (o ++ [x]) (k + 1) n := by
  refine ⟨by simp [h.1], ?_, ?_⟩
  · rw [List.nodup_append]; refine ⟨h.2.1, by simp, ?_⟩
    intro a ha b hb e
    simp at hb; subst hb; subst e; exact hn ha
  · intro i hi
    rcases List.mem_append.mp hi with hi | hi
    · exact h.2.2 i hi
    · simp at hi; subst hi; exact hx
/-- the greedy's orders are orders, and there are some -/
theorem gr_ord {row : List Nat → Nat → List Nat} {n : Nat} : ∀ k, k ≤ n → (∀ o ∈ (gr row n k).1, isOrd o k n) ∧ (gr row n k).1 ≠ []
  | 0, _ => ⟨by intro o ho; simp [gr] at ho; subst ho; exact ⟨rfl, by simp, by simp⟩, by simp [gr]⟩
  | k + 1, hk => by
    obtain ⟨h1, h2⟩ := gr_ord (row := row) (n := n) k (by omega)
    obtain ⟨o, ho⟩ := List.exists_mem_of_ne_nil _ h2
    obtain ⟨x, hx, hn⟩ := ord_free (h1 o ho) (show k < n by omega)
    obtain ⟨b, e1, ⟨o2, ho2, x2, hx2, hn2, e2⟩, _, e4⟩ := gAll_spec (row := row) ⟨o, ho, x, hx, hn⟩
    constructor
    · intro q hq
      obtain ⟨o, ho, x, hx, hn, _, rfl⟩ := (e4 q).mp hq
      exact isOrd_app (h1 o ho) hx hn
    · intro e
      have : o2 ++ [x2] ∈ (gAll row n (gr row n k).1).2 := (e4 _).mpr ⟨o2, ho2, x2, hx2, hn2, e2, rfl⟩
      rw [show (gAll row n (gr row n k).1).2 = [] from e] at this
      simp at this
theorem gr_some {row : List Nat → Nat → List Nat} {n k : Nat} (hk : k < n) : ∃ b, (gAll row n (gr row n k).1).1 = some b := by
  obtain ⟨h1, h2⟩ := gr_ord (row := row) k (show k ≤ n by omega)
  obtain ⟨o, ho⟩ := List.exists_mem_of_ne_nil _ h2
  obtain ⟨x, hx, hn⟩ := ord_free (h1 o ho) hk
  obtain ⟨b, e1, _⟩ := gAll_spec (row := row) ⟨o, ho, x, hx, hn⟩
  exact ⟨b, e1⟩
end Dn.L

/-! P7: _law_least_form is the greedy. -/
namespace Dn.L
open PySem Dn
def oB : Option (List Nat) → D
  | none => .non
  | some r => nT r
theorem oB_none : oB none = .non := rfl
theorem oB_some (r : List Nat) : oB (some r) = nT r := rfl
theorem appO (o : List Nat) (x : Nat) : o.map nD ++ [D.int (x : Int)] = (o ++ [x]).map nD := appN o x
theorem pow_le7 {n k : Nat} (hn : n ≤ 7) (hk : k < n) : n ^ k * n ≤ 823543 := by
  have h1 : n ^ k * n = n ^ (k + 1) := (Nat.pow_succ ..).symm
  rw [h1]
  have h2 : n ^ (k + 1) ≤ 7 ^ (k + 1) := Nat.pow_le_pow_left hn _
  have h3 : 7 ^ (k + 1) ≤ 7 ^ 7 := Nat.pow_le_pow_right (by omega) (by omega)
  omega
theorem mStep_none (ks : List (List Nat)) (r q : List Nat) : mStep (none, ks) (r, q) = (some r, [q]) := rfl
theorem mStep_lt {b r : List Nat} (h : r < b) (ks : List (List Nat)) (q : List Nat) : mStep (some b, ks) (r, q) = (some r, [q]) := if_pos h
theorem mStep_eq (b : List Nat) (ks : List (List Nat)) (q : List Nat) : mStep (some b, ks) (b, q) = (some b, ks ++ [q]) := by
  unfold mStep; dsimp only; rw [if_neg (List.lt_irrefl b), if_pos rfl]
theorem mStep_gt {b r : List Nat} (h : ¬ r < b) (h2 : r ≠ b) (ks : List (List Nat)) (q : List Nat) : mStep (some b, ks) (r, q) = (some b, ks) := by
  unfold mStep; dsimp only; rw [if_neg h, if_neg h2]
end Dn.L

/-! P8: least_shape is the greedy. -/
namespace Dn.L
open PySem Dn
theorem dAt_rl {n i : Nat} {f : Nat → D} (h : i < n) : dAt (.lst ((List.range n).map f)) (nD i) = some (f i) := by
  rw [dAt_l]; simp [h]
theorem least_shape_ok {t : List Nat} {p : List (List Nat)} {n m : Nat} (ht : isTurn t m) (hp : isPic p n m) (hn : n ≤ 7) : d_least_shape [nT t, pcD p] = .ok (pcD (gr (rowF t p) n n).2) [nT t, pcD p] := by
  apply vF_eq
  unfold d_least_shape b_least_shape
  have hpl := hp.1
  k_search [hpl]
  refine vE_lcm (enc := nD) (xs := List.range n) (fun b => .lst ((List.range n).map fun a => if a = b then .non else nD (tieF t p a b))) (by simp; omega) ?_ ?_
  · intro b hb
    have hb : b < n := by simpa using hb
    k_search [hpl]
    refine vE_lcm (enc := nD) (xs := List.range n) (fun a => if a = b then .non else nD (tieF t p a b)) (by simp; omega) ?_ ?_
    · intro a ha
      have ha : a < n := by simpa using ha
      k_search []
      refine vB_if (fun h => ?_) (fun h => ?_)
      · k_search []
        rw [if_pos (by omega)]
      · k_search []
        k_search [tie_in_ok ht hp ha hb (show a ≠ b by omega)]
        rw [if_neg (by omega)]
    · k_search []
  k_search []
  generalize hfull : (D.lst ((List.range n).map fun b => D.lst ((List.range n).map fun a => if a = b then D.non else nD (tieF t p a b)))) = full
  have hf : ∀ x, x < n → ∃ d, dAt full (nD x) = some d ∧ ∀ i, i < n → i ≠ x → dAt d (nD i) = some (nD (tieF t p i x)) := by
    intro x hx
    refine ⟨_, by rw [← hfull]; exact dAt_rl hx, fun i hi hne => ?_⟩
    rw [dAt_rl hi, if_neg hne]
  clear hfull
  refine vS_range (fun k ρ => ∃ a b c d e f, ρ = [some (nT t), some (pcD p), some (.rng 0 (n : Int)), some full, some (.lst ((gr (rowF t p) n k).1.map nT)), some (.lst ((gr (rowF t p) n k).2.map nT)), a, b, c, d, e, f, none, none, none]) ⟨none, none, none, none, none, none, rfl⟩ ?_ ?_
  · rintro k ρ hk ⟨a, b, c, d, e, f, rfl⟩
    obtain ⟨hord, _⟩ := gr_ord (row := rowF t p) k (show k ≤ n by omega)
    have hlen : (gr (rowF t p) n k).1.length * n ≤ 823543 := Nat.le_trans (Nat.mul_le_mul_right n (gr_len _ _ _)) (pow_le7 hn hk)
    k_search []
    refine vS_fold (enc := nT) (xs := (gr (rowF t p) n k).1) (cIn (rowF t p) n) (none, []) (fun s ρ => ∃ d e f, ρ = [some (nT t), some (pcD p), some (.rng 0 (n : Int)), some full, some (.lst ((gr (rowF t p) n k).1.map nT)), some (.lst ((gr (rowF t p) n k).2.map nT)), some (nD k), some (oB s.1), some (.lst (s.2.map nT)), d, e, f, none, none, none]) ⟨_, _, _, rfl⟩ ?_ ?_
    · rintro pre o post ρ eo ⟨d, e, f, rfl⟩
      have hlo := gAll_len' (rowF t p) n pre (none, [])
      have hpo : pre.length * n + n ≤ 823543 := by
        have : (pre.length + 1) * n ≤ (gr (rowF t p) n k).1.length * n := Nat.mul_le_mul_right n (by rw [eo]; simp)
        rw [Nat.add_mul] at this; omega
      have ho := hord o (by rw [eo]; simp)
      generalize List.foldl (cIn (rowF t p) n) (none, []) pre = s at *
      simp only [List.length_nil] at hlo
      have hol := ho.1
      k_search []
      refine vS_range (fun j ρ => ∃ e f, ρ = [some (nT t), some (pcD p), some (.rng 0 (n : Int)), some full, some (.lst ((gr (rowF t p) n k).1.map nT)), some (.lst ((gr (rowF t p) n k).2.map nT)), some (nD k), some (oB ((List.range j).foldl (cStep (rowF t p) o) s).1), some (.lst ((((List.range j).foldl (cStep (rowF t p) o) s)).2.map nT)), some (nT o), e, f, none, none, none]) ⟨_, _, rfl⟩ ?_ ?_
      · rintro j ρ hj ⟨e, f, rfl⟩
        have hlj := cIn_len' (rowF t p) o s j
        have hst : List.foldl (cStep (rowF t p) o) s (List.range (j + 1)) = if j ∈ o then (List.range j).foldl (cStep (rowF t p) o) s else mStep ((List.range j).foldl (cStep (rowF t p) o) s) (rowF t p o j, o ++ [j]) := by
          rw [List.range_succ, List.foldl_append]; rfl
        generalize List.foldl (cStep (rowF t p) o) s (List.range (j + 1)) = zz at *
        generalize (List.range j).foldl (cStep (rowF t p) o) s = z at *
        subst hst
        obtain ⟨dj, hf1, hf2⟩ := hf j hj
        k_search [dNotIn_n]
        refine vB_if (fun hjo => ?_) (fun hjo => ?_)
        · rw [if_neg hjo]
          k_search []
          refine vE_lcm (enc := nD) (xs := o) (fun i => nD (tieF t p i j)) (by omega) ?_ ?_
          · intro i hi
            have h1 := ho.2.2 i hi
            have h2 : i ≠ j := fun e => hjo (e ▸ hi)
            k_search [hf1, hf2 i h1 h2]
          · have e1 : o.map (fun i => nD (tieF t p i j)) = (rowF t p o j).map nD := by simp [rowF]
            obtain ⟨b, ks⟩ := z
            dsimp only at hlj
            cases b with
            | none =>
              k_search [e1, oB_none]
              rw [mStep_none]
              exact ⟨_, _, rfl⟩
            | some b =>
              k_search [e1, oB_some]
              refine vB_if (fun h3 => ?_) (fun h3 => ?_)
              · k_search []
                rw [mStep_lt h3]
                exact ⟨_, _, rfl⟩
              · k_search []
                refine vB_if (fun h4 => ?_) (fun h4 => ?_)
                · k_search []
                  rw [h4, mStep_eq]
                  exact ⟨_, _, rfl⟩
                · k_search []
                  rw [mStep_gt h3 h4]
                  exact ⟨_, _, rfl⟩
        · rw [if_pos (Classical.not_not.mp hjo)]
          k_search []
          exact ⟨_, _, rfl⟩
      · rintro ρ ⟨e, f, rfl⟩
        exact ⟨_, _, _, rfl⟩
    · rintro ρ ⟨d, e, f, rfl⟩
      obtain ⟨b, hb⟩ := gr_some (row := rowF t p) hk
      have hr := gr_rows (rowF t p) n k
      have e1 : List.foldl (cIn (rowF t p) n) (none, []) (gr (rowF t p) n k).1 = gAll (rowF t p) n (gr (rowF t p) n k).1 := rfl
      rw [e1, hb]
      k_search [oB_some]
      refine ⟨some (nD k), some (nT b), none, d, e, f, ?_⟩
      have e2 : (gr (rowF t p) n (k + 1)).2 = (gr (rowF t p) n k).2 ++ [b] := by
        show _ ++ [(gAll (rowF t p) n (gr (rowF t p) n k).1).1.getD []] = _
        rw [hb]; rfl
      rw [e2]; rfl
  · rintro ρ ⟨a, b, c, d, e, f, rfl⟩
    k_search []
end Dn.L

/-! M3: pieces of pieces; the greedy is the least. -/
namespace Dn.L
open PySem Dn
theorem rowF_len (t : List Nat) (p : List (List Nat)) (o : List Nat) (x : Nat) : (rowF t p o x).length = o.length := by simp [rowF]
theorem pieceF_len (t : List Nat) (p : List (List Nat)) (o : List Nat) : (pieceF t p o).length = o.length := by simp [pieceF]
theorem pieceF_nil (t : List Nat) (p : List (List Nat)) : pieceF t p [] = [] := rfl
theorem pieceF_app (t : List Nat) (p : List (List Nat)) (o : List Nat) (x : Nat) : pieceF t p (o ++ [x]) = pieceF t p o ++ [rowF t p o x] := by
  unfold pieceF
  rw [List.length_append, List.length_singleton, List.range_succ, List.map_append]
  congr 1
  · apply List.map_congr_left
    intro k hk
    have hk : k < o.length := by simpa using hk
    rw [List.take_append_of_le_length (by omega)]
    congr 1
    simp [List.getD, List.getElem?_append_left hk]
  · simp [List.getD]
theorem pieceF_row {t : List Nat} {p : List (List Nat)} {o : List Nat} {k : Nat} (hk : k < o.length) : (pieceF t p o).getD k [] = rowF t p (o.take k) (o.getD k 0) := by
  simp [pieceF, List.getD, hk]
theorem pieceF_at {t : List Nat} {p : List (List Nat)} {o : List Nat} {i k : Nat} (hk : k < o.length) (hi : i < k) : ((pieceF t p o).getD k []).getD i 0 = tieF t p (o.getD i 0) (o.getD k 0) := by
  rw [pieceF_row hk]
  have h1 : i < o.length := by omega
  simp [rowF, List.getD, hi, h1, hk]
theorem ord_ne {o : List Nat} {m n i j : Nat} (ho : isOrd o m n) (hi : i < m) (hj : j < m) (h : i ≠ j) : o.getD i 0 ≠ o.getD j 0 := by
  have hl := ho.1
  have e1 : o.getD i 0 = o[i]'(by omega) := by simp [List.getD, show i < o.length by omega]
  have e2 : o.getD j 0 = o[j]'(by omega) := by simp [List.getD, show j < o.length by omega]
  rw [e1, e2]
  intro e
  exact h ((List.getElem_inj ho.2.1).mp e)
theorem ord_lt {o : List Nat} {m n i : Nat} (ho : isOrd o m n) (hi : i < m) : o.getD i 0 < n := ho.2.2 _ (getD_mem (by rw [ho.1]; exact hi))
theorem isPic_piece {t : List Nat} {p : List (List Nat)} {k n m : Nat} {o : List Nat} (ht : isTurn t n) (hp : isPic p k n) (ho : isOrd o m k) : isPic (pieceF t p o) m n := by
  refine ⟨by rw [pieceF_len, ho.1], fun j hj => ?_⟩
  rw [pieceF_row (by rw [ho.1]; exact hj)]
  refine ⟨by rw [rowF_len]; simp; have := ho.1; omega, fun x hx => ?_⟩
  unfold rowF at hx
  obtain ⟨i, hi, rfl⟩ := List.mem_map.mp hx
  refine tieF_lt ht hp (ho.2.2 i (take_mem hi)) (ord_lt ho hj) ?_
  intro e
  exact nodup_at ho.2.1 (show j < o.length by rw [ho.1]; exact hj) (e ▸ hi)
/-- ties of a piece -/
theorem tieF_piece {t : List Nat} {p : List (List Nat)} {k n m i j : Nat} {o : List Nat} (ht : isTurn t n) (hp : isPic p k n) (ho : isOrd o m k) (hi : i < m) (hj : j < m) (h : i ≠ j) : tieF t (pieceF t p o) i j = tieF t p (o.getD i 0) (o.getD j 0) := by
  have hl := ho.1
  by_cases hij : i < j
  · unfold tieF
    rw [if_pos hij, pieceF_at (by omega) hij]; rfl
  · have h1 : tieF t (pieceF t p o) i j = t.getD (((pieceF t p o).getD i []).getD j 0) 0 := by unfold tieF; rw [if_neg hij]
    rw [h1, pieceF_at (by omega) (show j < i by omega)]
    exact (tieF_turn ht hp (ord_lt ho hj) (ord_lt ho hi) (ord_ne ho hj hi (Ne.symm h))).symm
def comp (o q : List Nat) : List Nat := q.map fun i => o.getD i 0
theorem isOrd_comp {o q : List Nat} {a m k : Nat} (ho : isOrd o m k) (hq : isOrd q a m) : isOrd (comp o q) a k := by
  refine ⟨by simp [comp, hq.1], ?_, ?_⟩
  · unfold comp
    rw [List.nodup_iff_pairwise_ne, List.pairwise_map]
    refine hq.2.1.imp_of_mem ?_
    intro i j hi hj h
    exact ord_ne ho (hq.2.2 i hi) (hq.2.2 j hj) h
  · intro x hx
    obtain ⟨i, hi, rfl⟩ := List.mem_map.mp hx
    exact ord_lt ho (hq.2.2 i hi)
theorem pieceF_comp {t : List Nat} {p : List (List Nat)} {k n m a : Nat} {o q : List Nat} (ht : isTurn t n) (hp : isPic p k n) (ho : isOrd o m k) (hq : isOrd q a m) : pieceF t (pieceF t p o) q = pieceF t p (comp o q) := by
  have hl := hq.1
  have e : (comp o q).length = q.length := by simp [comp]
  unfold pieceF
  rw [e]
  apply List.map_congr_left
  intro j hj
  have hj : j < q.length := by simpa using hj
  have e1 : (comp o q).getD j 0 = o.getD (q.getD j 0) 0 := by simp [comp, List.getD, hj]
  have e2 : (comp o q).take j = comp o (q.take j) := by unfold comp; rw [List.map_take]
  rw [e1, e2]
  unfold rowF comp
  rw [List.map_map]
  apply List.map_congr_left
  intro i hi
  refine tieF_piece ht hp ho (hq.2.2 i (take_mem hi)) (ord_lt hq (by omega)) ?_
  intro e
  exact nodup_at hq.2.1 hj (e ▸ hi)
/-- the order of all points, backwards -/
def inv (o : List Nat) : List Nat := (List.range o.length).map fun x => o.idxOf x
theorem ord_full {o : List Nat} {n : Nat} (ho : isOrd o n n) {x : Nat} (hx : x < n) : x ∈ o := by
  apply Classical.byContradiction
  intro hn
  have hs : ∀ y ∈ x :: o, y ∈ List.range n := by
    intro y hy
    rcases List.mem_cons.mp hy with rfl | hy
    · simpa using hx
    · simpa using ho.2.2 y hy
  have := List.Nodup.length_le_of_subset (List.nodup_cons.mpr ⟨hn, ho.2.1⟩) hs
  have h1 := ho.1
  simp at this; omega
theorem inv_at {o : List Nat} {n x : Nat} (ho : isOrd o n n) (hx : x < n) : (inv o).getD x 0 = o.idxOf x ∧ o.idxOf x < n ∧ o.getD (o.idxOf x) 0 = x := by
  have hl := ho.1
  have h1 := List.idxOf_lt_length_of_mem (ord_full ho hx)
  refine ⟨by simp [inv, List.getD, hl, hx], by omega, ?_⟩
  have := List.getElem_idxOf h1
  simp [List.getD, h1]
theorem isOrd_inv {o : List Nat} {n : Nat} (ho : isOrd o n n) : isOrd (inv o) n n := by
  have hl := ho.1
  refine ⟨by simp [inv, hl], ?_, ?_⟩
  · unfold inv
    rw [List.nodup_iff_pairwise_ne, List.pairwise_map, hl]
    refine (List.nodup_iff_pairwise_ne.mp List.nodup_range).imp_of_mem ?_
    intro a b ha hb h e
    have h1 := (inv_at ho (by simpa using ha)).2.2
    have h2 := (inv_at ho (by simpa using hb)).2.2
    rw [e, h2] at h1
    exact h h1.symm
  · intro x hx
    unfold inv at hx
    obtain ⟨y, hy, rfl⟩ := List.mem_map.mp hx
    exact (inv_at ho (by simpa [hl] using hy)).2.1
theorem comp_inv {o q : List Nat} {a n : Nat} (ho : isOrd o n n) (hq : isOrd q a n) : comp o (comp (inv o) q) = q := by
  unfold comp
  rw [List.map_map]
  have : q.map ((fun i => o.getD i 0) ∘ fun i => (inv o).getD i 0) = q.map id := by
    apply List.map_congr_left
    intro x hx
    obtain ⟨h1, h2, h3⟩ := inv_at ho (hq.2.2 x hx)
    show o.getD ((inv o).getD x 0) 0 = x
    rw [h1, h3]
  rw [this, List.map_id]
/-! ### the greedy -/
theorem lt_app {a b : List (List Nat)} (c d : List (List Nat)) (h : a < b) (hl : a.length = b.length) : a ++ c < b ++ d := by
  induction a generalizing b with
  | nil => cases b with
    | nil => exact absurd h (List.lt_irrefl _)
    | cons _ _ => simp at hl
  | cons x a ih => cases b with
    | nil => simp at hl
    | cons y b =>
      rw [List.cons_append, List.cons_append, List.cons_lt_cons_iff]
      rcases List.cons_lt_cons_iff.mp h with h | ⟨rfl, h2⟩
      · exact .inl h
      · exact .inr ⟨rfl, ih h2 (by simpa using hl)⟩
theorem le_app1 {a : List (List Nat)} {b c : List Nat} (h : b ≤ c) : a ++ [b] ≤ a ++ [c] := by
  apply List.not_lt.mp
  intro hc
  induction a with
  | nil =>
    rw [List.nil_append, List.nil_append, List.cons_lt_cons_iff] at hc
    rcases hc with hc | ⟨_, hc⟩
    · exact List.not_lt.mpr h hc
    · exact absurd hc (List.lt_irrefl _)
  | cons x a ih =>
    rw [List.cons_append, List.cons_append, List.cons_lt_cons_iff] at hc
    rcases hc with hc | ⟨_, hc⟩
    · exact absurd hc (List.lt_irrefl _)
    · exact ih hc
theorem app1_inj {a b : List (List Nat)} {x y : List Nat} (h : a ++ [x] = b ++ [y]) : a = b ∧ x = y := by
  have := List.append_inj' h rfl
  exact ⟨this.1, by simpa using this.2⟩
theorem ord_split {q : List Nat} {k n : Nat} (hq : isOrd q (k + 1) n) : ∃ o x, q = o ++ [x] ∧ isOrd o k n ∧ x < n ∧ x ∉ o := by
  have hl := hq.1
  have hne : q ≠ [] := by intro e; subst e; simp at hl
  refine ⟨q.dropLast, q.getLast hne, (List.dropLast_concat_getLast hne).symm, ?_, ?_, ?_⟩
  · refine ⟨by simp [hl], hq.2.1.sublist (List.dropLast_sublist q), fun i hi => hq.2.2 i ((List.dropLast_sublist q).subset hi)⟩
  · exact hq.2.2 _ (List.getLast_mem hne)
  · have := hq.2.1
    rw [← List.dropLast_concat_getLast hne, List.nodup_append] at this
    intro h
    exact this.2.2 _ h _ (by simp) rfl
theorem gr_least {t : List Nat} {p : List (List Nat)} {n : Nat} : ∀ k, k ≤ n → (∀ q, q ∈ (gr (rowF t p) n k).1 ↔ isOrd q k n ∧ pieceF t p q = (gr (rowF t p) n k).2) ∧ ∀ q, isOrd q k n → (gr (rowF t p) n k).2 ≤ pieceF t p q
  | 0, _ => by
    constructor
    · intro q
      simp only [gr, List.mem_singleton]
      constructor
      · rintro rfl; exact ⟨⟨rfl, by simp, by simp⟩, rfl⟩
      · rintro ⟨h, _⟩; exact List.eq_nil_of_length_eq_zero h.1
    · intro q _
      simp [gr]
  | k + 1, hk => by
    obtain ⟨h1, h2⟩ := gr_least (t := t) (p := p) (n := n) k (by omega)
    obtain ⟨g1, g2⟩ := gr_ord (row := rowF t p) (n := n) k (by omega)
    obtain ⟨o, ho⟩ := List.exists_mem_of_ne_nil _ g2
    obtain ⟨x, hx, hn⟩ := ord_free (g1 o ho) (show k < n by omega)
    obtain ⟨b, e1, _, e3, e4⟩ := gAll_spec (row := rowF t p) ⟨o, ho, x, hx, hn⟩
    have e2 : (gr (rowF t p) n (k + 1)).2 = (gr (rowF t p) n k).2 ++ [b] := by
      show _ ++ [(gAll (rowF t p) n (gr (rowF t p) n k).1).1.getD []] = _
      rw [e1]; rfl
    have e5 : (gr (rowF t p) n (k + 1)).1 = (gAll (rowF t p) n (gr (rowF t p) n k).1).2 := rfl
    rw [e2, e5]
    have hlen := gr_rows (rowF t p) n k
    constructor
    · intro q
      rw [e4]
      constructor
      · rintro ⟨o, ho, x, hx, hn, hr, rfl⟩
        refine ⟨isOrd_app (g1 o ho) hx hn, ?_⟩
        rw [pieceF_app, hr, ((h1 o).mp ho).2]
      · rintro ⟨hq, he⟩
        obtain ⟨o, x, rfl, ho, hx, hn⟩ := ord_split hq
        rw [pieceF_app] at he
        obtain ⟨he1, he2⟩ := app1_inj he
        exact ⟨o, (h1 o).mpr ⟨ho, he1⟩, x, hx, hn, he2, rfl⟩
    · intro q hq
      obtain ⟨o, x, rfl, ho, hx, hn⟩ := ord_split hq
      rw [pieceF_app]
      rcases List.le_iff_lt_or_eq.mp (h2 o ho) with h | h
      · exact List.le_of_lt (lt_app _ _ h (by rw [hlen, pieceF_len, ho.1]))
      · rw [← h]
        exact le_app1 (e3 o ((h1 o).mpr ⟨ho, h.symm⟩) x hx hn)
/-- the least form -/
def lf (t : List Nat) (p : List (List Nat)) : List (List Nat) := (gr (rowF t p) p.length p.length).2
theorem lf_is {t : List Nat} {p : List (List Nat)} : ∃ o, isOrd o p.length p.length ∧ lf t p = pieceF t p o := by
  obtain ⟨_, g2⟩ := gr_ord (row := rowF t p) (n := p.length) p.length (Nat.le_refl _)
  obtain ⟨o, ho⟩ := List.exists_mem_of_ne_nil _ g2
  have := (gr_least (t := t) (p := p) (n := p.length) p.length (Nat.le_refl _)).1 o |>.mp ho
  exact ⟨o, this.1, this.2.symm⟩
theorem lf_le {t : List Nat} {p : List (List Nat)} {o : List Nat} (ho : isOrd o p.length p.length) : lf t p ≤ pieceF t p o :=
  (gr_least (t := t) (p := p) (n := p.length) p.length (Nat.le_refl _)).2 o ho
theorem lf_pic {t : List Nat} {p : List (List Nat)} {k n : Nat} (ht : isTurn t n) (hp : isPic p k n) : isPic (lf t p) k n := by
  obtain ⟨o, ho, e⟩ := lf_is (t := t) (p := p)
  rw [e]
  have hl := hp.1
  rw [hl] at ho
  exact isPic_piece ht hp ho
theorem lf_piece {t : List Nat} {p : List (List Nat)} {k n : Nat} {o : List Nat} (ht : isTurn t n) (hp : isPic p k n) (ho : isOrd o k k) : lf t (pieceF t p o) = lf t p := by
  have hl := hp.1
  have hl2 : (pieceF t p o).length = k := by rw [pieceF_len, ho.1]
  obtain ⟨a, ha, ea⟩ := lf_is (t := t) (p := p)
  obtain ⟨b, hb, eb⟩ := lf_is (t := t) (p := pieceF t p o)
  rw [hl] at ha
  rw [hl2] at hb
  apply List.le_antisymm
  · rw [ea]
    have := lf_le (t := t) (p := pieceF t p o) (o := comp (inv o) a) (by rw [hl2]; exact isOrd_comp (isOrd_inv ho) ha)
    rw [pieceF_comp ht hp ho (isOrd_comp (isOrd_inv ho) ha), comp_inv ho ha] at this
    exact this
  · rw [eb, pieceF_comp ht hp ho hb]
    exact lf_le (by rw [hl]; exact isOrd_comp ho hb)
end Dn.L

/-! P9: the barred orders of a table. -/
namespace Dn.L
open PySem Dn
def perms (n : Nat) : List (List Nat) := (permL n n).getD []
theorem perms3 : permL 3 3 = some (perms 3) := by decide +kernel
theorem perms4 : permL 4 4 = some (perms 4) := by decide +kernel
theorem perms3_ord : ∀ o ∈ perms 3, o.length = 3 ∧ o.Nodup ∧ ∀ i ∈ o, i < 3 := by decide +kernel
theorem perms4_ord : ∀ o ∈ perms 4, o.length = 4 ∧ o.Nodup ∧ ∀ i ∈ o, i < 4 := by decide +kernel
theorem perms3_all : ∀ a ∈ List.range 3, ∀ b ∈ List.range 3, ∀ c ∈ List.range 3, [a, b, c].Nodup → [a, b, c] ∈ perms 3 := by decide +kernel
theorem perms4_all : ∀ a ∈ List.range 4, ∀ b ∈ List.range 4, ∀ c ∈ List.range 4, ∀ d ∈ List.range 4, [a, b, c, d].Nodup → [a, b, c, d] ∈ perms 4 := by decide +kernel
theorem perms_len {n : Nat} (hn : n = 3 ∨ n = 4) : (perms n).length ≤ 24 := by
  rcases hn with rfl | rfl <;> decide +kernel
theorem mem_perms {n : Nat} (hn : n = 3 ∨ n = 4) (o : List Nat) : o ∈ perms n ↔ isOrd o n n := by
  constructor
  · intro h
    rcases hn with rfl | rfl
    · exact perms3_ord o h
    · exact perms4_ord o h
  · rintro ⟨h1, h2, h3⟩
    rcases hn with rfl | rfl
    · match o, h1, h2, h3 with
      | [a, b, c], _, h2, h3 => exact perms3_all a (List.mem_range.mpr (h3 a (by simp))) b (List.mem_range.mpr (h3 b (by simp))) c (List.mem_range.mpr (h3 c (by simp))) h2
    · match o, h1, h2, h3 with
      | [a, b, c, d], _, h2, h3 => exact perms4_all a (List.mem_range.mpr (h3 a (by simp))) b (List.mem_range.mpr (h3 b (by simp))) c (List.mem_range.mpr (h3 c (by simp))) d (List.mem_range.mpr (h3 d (by simp))) h2
theorem prA_n {n : Nat} (hn : n = 3 ∨ n = 4) : prA ((List.range n).map nD) = some ((perms n).map nT) := by
  have e1 : permL n n = some (perms n) := by
    rcases hn with rfl | rfl
    · exact perms3
    · exact perms4
  unfold prA
  rw [List.length_map, List.length_range, e1, Option.bind_some, if_pos (by omega)]
  congr 1
  apply List.map_congr_left
  intro o ho
  obtain ⟨h1, h2, h3⟩ := (mem_perms hn o).mp ho
  unfold pickD nT
  rw [List.take_of_length_le (by omega)]
  congr 1
  apply List.map_congr_left
  intro i hi
  have := h3 i hi
  simp [List.getD, this]
def barStep (t : List Nat) (K : List (List Nat)) (b : List (List Nat)) : List (List Nat) := (perms b.length).foldl (fun K o => sPutK K (pieceF t b o).flatten) K
def barK (t : List Nat) (bs : List (List (List Nat))) : List (List Nat) := bs.foldl (barStep t) []
theorem foldl_put_mem {α β : Type} [DecidableEq α] (f : β → α) : ∀ (l : List β) (K : List α) (k : α), k ∈ l.foldl (fun K o => sPutK K (f o)) K ↔ k ∈ K ∨ ∃ o ∈ l, k = f o
  | [], K, k => by simp
  | o :: l, K, k => by
    rw [List.foldl_cons, foldl_put_mem f l, mem_sPutK]
    simp only [List.mem_cons, exists_eq_or_imp]
    constructor
    · rintro ((h | h) | h)
      · exact .inl h
      · exact .inr (.inl h)
      · exact .inr (.inr h)
    · rintro (h | h | h)
      · exact .inl (.inl h)
      · exact .inl (.inr h)
      · exact .inr h
theorem foldl_put_len {α β : Type} [DecidableEq α] (f : β → α) : ∀ (l : List β) (K : List α), (l.foldl (fun K o => sPutK K (f o)) K).length ≤ K.length + l.length
  | [], K => by simp
  | o :: l, K => by
    rw [List.foldl_cons]
    have := foldl_put_len f l (sPutK K (f o))
    have := sPutK_len K (f o)
    simp only [List.length_cons]; omega
theorem foldl_put_nodup {α β : Type} [DecidableEq α] (f : β → α) : ∀ (l : List β) (K : List α), K.Nodup → (l.foldl (fun K o => sPutK K (f o)) K).Nodup
  | [], K, h => h
  | o :: l, K, h => by rw [List.foldl_cons]; exact foldl_put_nodup f l _ (nodup_sPutK h)
theorem barFold_mem (t : List Nat) : ∀ (bs : List (List (List Nat))) (K : List (List Nat)) (k : List Nat), k ∈ bs.foldl (barStep t) K ↔ k ∈ K ∨ ∃ b ∈ bs, ∃ o ∈ perms b.length, k = (pieceF t b o).flatten
  | [], K, k => by simp
  | b :: bs, K, k => by
    rw [List.foldl_cons, barFold_mem t bs]
    unfold barStep
    rw [foldl_put_mem (fun o => (pieceF t b o).flatten)]
    simp only [List.mem_cons, exists_eq_or_imp, or_assoc]
theorem mem_barK {t : List Nat} {bs : List (List (List Nat))} {k : List Nat} : k ∈ barK t bs ↔ ∃ b ∈ bs, ∃ o ∈ perms b.length, k = (pieceF t b o).flatten := by
  unfold barK; rw [barFold_mem]; simp
theorem barFold_len (t : List Nat) (n : Nat) : ∀ (bs : List (List (List Nat))) (K : List (List Nat)), (∀ b ∈ bs, isBar b n) → (bs.foldl (barStep t) K).length ≤ K.length + bs.length * 24
  | [], K, _ => by simp
  | b :: bs, K, h => by
    rw [List.foldl_cons]
    have := barFold_len t n bs (barStep t K b) fun b hb => h b (by simp [hb])
    have h1 := foldl_put_len (fun o => (pieceF t b o).flatten) (perms b.length) K
    have h2 := perms_len (h b (by simp)).len
    unfold barStep at *
    simp only [List.length_cons]
    omega
theorem flatten_len {p : List (List Nat)} {k n : Nat} (h : isPic p k n) (hk : k ≤ 12) : p.flatten.length ≤ 1000 := by
  have : ∀ l : List (List Nat), (∀ r ∈ l, r.length ≤ 12) → l.flatten.length ≤ l.length * 12 := by
    intro l
    induction l with
    | nil => intro _; simp
    | cons r l ih =>
      intro h
      have h1 := ih fun r hr => h r (by simp [hr])
      have h2 := h r (by simp)
      rw [List.flatten_cons, List.length_append, List.length_cons, Nat.add_mul]; omega
  have h1 := this p fun r hr => by
    obtain ⟨j, hj, e⟩ := List.getElem_of_mem hr
    have h2 := h.row (show j < k by rw [← h.1]; exact hj)
    have e2 : p.getD j [] = p[j] := by simp [List.getD, hj]
    rw [e2, e] at h2
    have := h.1
    omega
  have := h.1
  have : p.length * 12 ≤ 12 * 12 := Nat.mul_le_mul_right 12 (by omega)
  omega
theorem barred_orders_ok {t : List Nat} {n : Nat} {bs : List (List (List Nat))} (ht : isTurn t n) (hb : ∀ b ∈ bs, isBar b n) (hl : bs.length ≤ 1000) : d_barred_orders [nT t, .tup (bs.map pcD)] = .ok (kvD nT (tL (barK t bs))) [nT t, .tup (bs.map pcD)] := by
  apply vF_eq
  unfold d_barred_orders b_barred_orders
  k_search []
  refine vS_fold (enc := pcD) (xs := bs) (barStep t) [] (fun K ρ => ∃ a b, ρ = [some (nT t), some (.tup (bs.map pcD)), some (kvD nT (tL K)), a, b]) ⟨none, none, rfl⟩ ?_ ?_
  · rintro pre b post ρ e ⟨x, y, rfl⟩
    have hbb := hb b (by rw [e]; simp)
    have hlen := hbb.len
    have hK := barFold_len t n pre [] fun b hb' => hb b (by rw [e]; simp [hb'])
    have hpl : pre.length + 1 ≤ 1000 := by rw [e] at hl; simp at hl; omega
    have hst : barStep t (pre.foldl (barStep t) []) b = (perms b.length).foldl (fun K o => sPutK K (pieceF t b o).flatten) (pre.foldl (barStep t) []) := rfl
    rw [hst]
    generalize pre.foldl (barStep t) [] = K at *
    simp only [List.length_nil] at hK
    k_search [prA_n hlen]
    refine vS_fold (enc := nT) (xs := perms b.length) (fun K o => sPutK K (pieceF t b o).flatten) K (fun K ρ => ∃ b', ρ = [some (nT t), some (.tup (bs.map pcD)), some (kvD nT (tL K)), some (pcD b), b']) ⟨_, rfl⟩ ?_ ?_
    · rintro pre2 o post2 ρ e2 ⟨y, rfl⟩
      have ho := (mem_perms hlen o).mp (by rw [e2]; simp)
      have h1 := foldl_put_len (fun o => (pieceF t b o).flatten) pre2 K
      have h2 := perms_len hlen
      have h3 : pre2.length + 1 ≤ (perms b.length).length := by rw [e2]; simp
      have hp := isPic_piece ht hbb.pic ho
      have hf := flatten_len hp (by omega)
      generalize pre2.foldl (fun K o => sPutK K (pieceF t b o).flatten) K = K2 at *
      k_search [cut_ok ht hbb.pic ho (by omega), flat_ok (pieceF t b o) (by omega)]
      k_search [kE_n.dPut (tL K2) (pieceF t b o).flatten (.bl true) (by simp; omega), aPut_t]
      exact ⟨_, rfl⟩
    · rintro ρ ⟨y, rfl⟩
      exact ⟨_, _, rfl⟩
  · rintro ρ ⟨x, y, rfl⟩
    k_search []
    rfl
end Dn.L

/-! P10: Table. -/
namespace Dn.L
open PySem Dn
def widF (B : List (List (List Nat))) : Nat := B.foldl (fun w b => max w b.length) 3
def formsOf (t : List Nat) (bs : List (List (List Nat))) : List (List (List Nat)) := bs.foldl (fun S b => sPutK S (lf t b)) []
def barsOf (t : List Nat) (bs : List (List (List Nat))) : List (List (List Nat)) := (formsOf t bs).mergeSort szLe
def tabD (t : List Nat) (n : Nat) (B : List (List (List Nat))) : D := .obj "Table" [("turn", nT t), ("ties", nD n), ("bars", .tup (B.map pcD)), ("widest", nD (widF B)), ("barred", kvD nT (tL (barK t B))), ("notes", .dN [])]
theorem mem_formsOf {t : List Nat} {bs : List (List (List Nat))} {f : List (List Nat)} : f ∈ formsOf t bs ↔ ∃ b ∈ bs, f = lf t b := by
  unfold formsOf; rw [foldl_put_mem (fun b => lf t b)]; simp
theorem mem_barsOf {t : List Nat} {bs : List (List (List Nat))} {f : List (List Nat)} : f ∈ barsOf t bs ↔ ∃ b ∈ bs, f = lf t b := by
  unfold barsOf; rw [List.mem_mergeSort, mem_formsOf]
theorem barsOf_bar {t : List Nat} {n : Nat} {bs : List (List (List Nat))} (ht : isTurn t n) (hb : ∀ b ∈ bs, isBar b n) : ∀ f ∈ barsOf t bs, isBar f n := by
  intro f hf
  obtain ⟨b, h, rfl⟩ := mem_barsOf.mp hf
  exact (hb b h).imp (lf_pic ht) (lf_pic ht)
theorem formsOf_len (t : List Nat) (bs : List (List (List Nat))) : (formsOf t bs).length ≤ bs.length := by
  have := foldl_put_len (fun b => lf t b) bs []
  simpa [formsOf] using this
theorem barsOf_len (t : List Nat) (bs : List (List (List Nat))) : (barsOf t bs).length ≤ bs.length := by
  unfold barsOf; rw [List.length_mergeSort]; exact formsOf_len t bs
theorem table_ok {t : List Nat} {n : Nat} {bs : List (List (List Nat))} (ht : isTurn t n) (hn : 0 < n) (hb : ∀ b ∈ bs, isBar b n) (hl : bs.length ≤ 1000) : d_Table [.obj "Table" [], nT t, .lst (bs.map pcD)] = .ok .non [tabD t n (barsOf t bs), nT t, .lst (bs.map pcD)] := by
  apply vF_eq
  unfold d_Table b_Table
  obtain rfl : n = t.length := ht.1.symm
  k_search [check_turn_ok ht hn, check_bars_ok bs t.length hb]
  refine vE_dc (enc := pcD) (xs := bs) (fun pre acc ρ => acc = kvD pcD (tL (formsOf t pre)) ∧ ρ = [some (.obj "Table" [("turn", nT t), ("ties", nD t.length)]), some (nT t), some (.lst (bs.map pcD)), none, none]) ⟨rfl, rfl⟩ ?_ ?_
  · rintro pre b post acc ρ e ⟨rfl, rfl⟩
    have hbb := hb b (by rw [e]; simp)
    have hlen := hbb.len
    have h1 := formsOf_len t pre
    have h2 : pre.length + 1 ≤ 1000 := by rw [e] at hl; simp at hl; omega
    have e2 : formsOf t (pre ++ [b]) = sPutK (formsOf t pre) (lf t b) := by unfold formsOf; rw [List.foldl_append]; rfl
    have h3 := least_shape_ok (p := b) ht hbb.pic (by omega)
    have h4 : (gr (rowF t b) b.length b.length).2 = lf t b := rfl
    rw [h4] at h3
    k_search [h3, kE_p.dPut (tL (formsOf t pre)) (lf t b) (.bl true) (by simp; omega), aPut_t]
    rw [e2]
  · rintro acc ρ ⟨rfl, rfl⟩
    have h1 := formsOf_len t bs
    have h2 := barsOf_bar ht hb
    have h3 := barsOf_len t bs
    have h5 : ∀ p ∈ formsOf t bs, p.length ≤ 100000 := by
      intro p hp
      have := (h2 p (by unfold barsOf; rw [List.mem_mergeSort]; exact hp)).len
      omega
    k_search [keysD_kv (enc := pcD) (L := formsOf t bs) (by omega), qSortK_pc (L := formsOf t bs) h5 (by omega)]
    have e3 : (formsOf t bs).mergeSort szLe = barsOf t bs := rfl
    rw [e3]
    refine vS_fold (enc := pcD) (xs := barsOf t bs) (fun w b => max w b.length) 3 (fun w ρ => ∃ x, ρ = [some (.obj "Table" [("turn", nT t), ("ties", nD t.length), ("bars", .tup ((barsOf t bs).map pcD)), ("widest", nD w)]), some (nT t), some (.lst (bs.map pcD)), some (kvD pcD (tL (formsOf t bs))), x]) ⟨_, rfl⟩ ?_ ?_
    · rintro pre b post ρ e ⟨x, rfl⟩
      generalize List.foldl (fun w b => max w b.length) 3 pre = w
      k_search []
      exact ⟨_, rfl⟩
    · rintro ρ ⟨x, rfl⟩
      k_search [barred_orders_ok ht h2 (by omega)]
      rfl
end Dn.L

/-! P11: the orders in which one picture becomes another. -/
namespace Dn.L
open PySem Dn
def nextTo (row : List Nat → Nat → List Nat) (n : Nat) (os : List (List Nat)) (r : List Nat) : List (List Nat) := os.flatMap fun o => ((List.range n).filter fun x => decide (x ∉ o) && decide (row o x = r)).map fun x => o ++ [x]
def ordTo (row : List Nat → Nat → List Nat) (n : Nat) (rs : List (List Nat)) : List (List Nat) := rs.foldl (nextTo row n) [[]]
theorem nextTo_len (row : List Nat → Nat → List Nat) (n : Nat) (r : List Nat) : ∀ os : List (List Nat), (nextTo row n os r).length ≤ os.length * n
  | [] => by simp [nextTo]
  | o :: os => by
    have := nextTo_len row n r os
    unfold nextTo at *
    rw [List.flatMap_cons, List.length_append, List.length_map, List.length_cons, Nat.add_mul]
    have := List.length_filter_le (fun x => decide (x ∉ o) && decide (row o x = r)) (List.range n)
    simp only [List.length_range] at this
    omega
theorem ordTo_len (row : List Nat → Nat → List Nat) (n : Nat) (rs : List (List Nat)) : (ordTo row n rs).length ≤ n ^ rs.length := by
  have : ∀ (rs os : List (List Nat)), (rs.foldl (nextTo row n) os).length ≤ os.length * n ^ rs.length := by
    intro rs
    induction rs with
    | nil => intro os; simp
    | cons r rs ih =>
      intro os
      rw [List.foldl_cons, List.length_cons, Nat.pow_succ, Nat.mul_comm (n ^ rs.length) n, ← Nat.mul_assoc]
      exact Nat.le_trans (ih _) (Nat.mul_le_mul_right _ (nextTo_len row n r os))
  simpa [ordTo] using this rs [[]]
theorem mem_nextTo {row : List Nat → Nat → List Nat} {n : Nat} {os : List (List Nat)} {r q : List Nat} : q ∈ nextTo row n os r ↔ ∃ o ∈ os, ∃ x, x < n ∧ x ∉ o ∧ row o x = r ∧ q = o ++ [x] := by
  unfold nextTo
  simp only [List.mem_flatMap, List.mem_map, List.mem_filter, List.mem_range, Bool.and_eq_true, decide_eq_true_eq]
  constructor
  · rintro ⟨o, ho, x, ⟨h1, h2, h3⟩, rfl⟩; exact ⟨o, ho, x, h1, h2, h3, rfl⟩
  · rintro ⟨o, ho, x, h1, h2, h3, rfl⟩; exact ⟨o, ho, x, ⟨h1, h2, h3⟩, rfl⟩
theorem snoc_ind {α : Type} {P : List α → Prop} (h0 : P []) (h1 : ∀ l x, P l → P (l ++ [x])) (l : List α) : P l := by
  have : ∀ l : List α, P l.reverse := by
    intro l
    induction l with
    | nil => exact h0
    | cons x l ih => rw [List.reverse_cons]; exact h1 _ _ ih
  have h := this l.reverse
  rwa [List.reverse_reverse] at h
/-- the orders in which the piece is the picture -/
theorem mem_ordTo {t : List Nat} {p : List (List Nat)} {n : Nat} : ∀ (rs : List (List Nat)) (q : List Nat), q ∈ ordTo (rowF t p) n rs ↔ isOrd q rs.length n ∧ pieceF t p q = rs := by
  intro rs
  refine snoc_ind (P := fun rs => ∀ q, q ∈ ordTo (rowF t p) n rs ↔ isOrd q rs.length n ∧ pieceF t p q = rs) ?_ ?_ rs
  · intro q
    simp only [ordTo, List.foldl_nil, List.mem_singleton, List.length_nil]
    constructor
    · rintro rfl; exact ⟨⟨rfl, by simp, by simp⟩, rfl⟩
    · rintro ⟨h, _⟩; exact List.eq_nil_of_length_eq_zero h.1
  · intro rs r ih q
    have e : ordTo (rowF t p) n (rs ++ [r]) = nextTo (rowF t p) n (ordTo (rowF t p) n rs) r := by unfold ordTo; rw [List.foldl_append]; rfl
    rw [e, mem_nextTo, List.length_append, List.length_singleton]
    constructor
    · rintro ⟨o, ho, x, hx, hn, hr, rfl⟩
      obtain ⟨h1, h2⟩ := (ih o).mp ho
      exact ⟨isOrd_app h1 hx hn, by rw [pieceF_app, h2, hr]⟩
    · rintro ⟨hq, he⟩
      obtain ⟨o, x, rfl, ho, hx, hn⟩ := ord_split hq
      rw [pieceF_app] at he
      obtain ⟨h1, h2⟩ := app1_inj he
      exact ⟨o, (ih o).mpr ⟨ho, h1⟩, x, hx, hn, h2, rfl⟩
theorem ordTo_ord {t : List Nat} {p : List (List Nat)} {n : Nat} {rs : List (List Nat)} {q : List Nat} (h : q ∈ ordTo (rowF t p) n rs) : isOrd q rs.length n := ((mem_ordTo rs q).mp h).1
end Dn.L

/-! P12: _law_equal of a value and itself. -/
namespace Dn.L
open PySem Dn
theorem eq_int (k : Nat) (a : Int) : d__law_equal (k + 1) [.int a, .int a] = .ok (.bl true) [.int a, .int a] := by
  apply vF_eq
  rw [d__law_equal_succ]
  unfold b__law_equal
  k_search []
theorem eq_non (k : Nat) : d__law_equal (k + 1) [.non, .non] = .ok (.bl true) [.non, .non] := by
  apply vF_eq
  rw [d__law_equal_succ]
  unfold b__law_equal
  k_search []
theorem eq_tup (k : Nat) (ds : List D) (hl : ds.length < 1000000) (h : ∀ d ∈ ds, d__law_equal k [d, d] = .ok (.bl true) [d, d]) : d__law_equal (k + 1) [.tup ds, .tup ds] = .ok (.bl true) [.tup ds, .tup ds] := by
  apply vF_eq
  rw [d__law_equal_succ]
  unfold b__law_equal
  k_search []
  refine vS_range (fun j ρ => ∃ x, ρ = [some (.tup ds), some (.tup ds), x]) ⟨none, rfl⟩ ?_ ?_
  · rintro j ρ hj ⟨x, rfl⟩
    have e : dAt (.tup ds) (nD j) = some (ds.getD j .non) := by rw [dAt_t]; simp [List.getD, hj]
    have h2 := h _ (getD_mem (d := .non) hj)
    k_search [e, h2]
    exact ⟨_, rfl⟩
  · rintro ρ ⟨x, rfl⟩
    k_search []
theorem eq_nT (k : Nat) (l : List Nat) (hl : l.length < 1000000) : d__law_equal (k + 2) [nT l, nT l] = .ok (.bl true) [nT l, nT l] := by
  refine eq_tup (k + 1) _ (by simpa using hl) ?_
  intro d hd
  obtain ⟨x, _, rfl⟩ := List.mem_map.mp hd
  exact eq_int k _
theorem eq_nTs (k : Nat) (l : List (List Nat)) (hl : l.length < 1000000) (h : ∀ r ∈ l, r.length < 1000000) : d__law_equal (k + 3) [pcD l, pcD l] = .ok (.bl true) [pcD l, pcD l] := by
  refine eq_tup (k + 2) _ (by simpa using hl) ?_
  intro d hd
  obtain ⟨x, hx, rfl⟩ := List.mem_map.mp hd
  exact eq_nT k _ (h x hx)
theorem isPic.rows {p : List (List Nat)} {k n : Nat} (h : isPic p k n) : ∀ r ∈ p, r.length < k := by
  intro r hr
  obtain ⟨j, hj, e⟩ := List.getElem_of_mem hr
  have h2 := h.row (show j < k by rw [← h.1]; exact hj)
  have e2 : p.getD j [] = p[j] := by simp [List.getD, hj]
  rw [e2, e] at h2
  have := h.1
  omega
theorem eq_pic (k : Nat) {p : List (List Nat)} {a n : Nat} (h : isPic p a n) (ha : a < 1000) : d__law_equal (k + 3) [pcD p, pcD p] = .ok (.bl true) [pcD p, pcD p] :=
  eq_nTs k p (by have := h.1; omega) fun r hr => by have := h.rows r hr; omega
end Dn.L

/-! P13: the drawn pictures with many alike points. -/
namespace Dn.L
open PySem Dn
def pick3 (a b c z : Nat) : Nat := if z = 0 then a else if z = 1 then b else c
theorem dAt3 {a b c z : Nat} (h : z < 3) : dAt (.tup [nD a, nD b, nD c]) (nD z) = some (nD (pick3 a b c z)) := by
  have : z = 0 ∨ z = 1 ∨ z = 2 := by omega
  rcases this with rfl | rfl | rfl
  · exact dAt_t0 _ _
  · exact dAt_t1 _ _ _
  · exact dAt_t2 _ _ _ _
theorem pick3_lt {a b c z n : Nat} (h1 : a < n) (h2 : b < n) (h3 : c < n) : pick3 a b c z < n := by
  unfold pick3; split
  · exact h1
  · split <;> assumption
end Dn.L

/-! P14: the functions of a table and a picture. -/
namespace Dn.L
open PySem Dn
theorem tab_turn (t : List Nat) (n : Nat) (B : List (List (List Nat))) : fldC "Table" "turn" (tabD t n B) = some (nT t) := by unfold tabD; k_search []
theorem tab_ties (t : List Nat) (n : Nat) (B : List (List (List Nat))) : fldC "Table" "ties" (tabD t n B) = some (nD n) := by unfold tabD; k_search []
theorem check_picture_ok {t : List Nat} {n k : Nat} {B : List (List (List Nat))} {p : List (List Nat)} (hp : isPic p k n) : d_check_picture [tabD t n B, pcD p] = .ok .non [tabD t n B, pcD p] := by
  apply vF_eq
  unfold d_check_picture b_check_picture
  k_search [tab_ties, is_shape_ok hp]
def headD : List (List Nat) → D
  | [] => .non
  | o :: _ => nT o
def alikeF (t : List Nat) (p q : List (List Nat)) : D := if p.length = q.length then headD (ordTo (rowF t p) p.length q) else .non
theorem isPic_set {p : List (List Nat)} {k n a : Nat} {r : List Nat} (hp : isPic p k n) (ha : a < k) (hr : isRow r a n) : isPic (p.set a r) k n := by
  refine ⟨by rw [List.length_set, hp.1], fun j hj => ?_⟩
  by_cases e : j = a
  · subst e
    have : (p.set j r).getD j [] = r := by simp [List.getD, hp.1, ha]
    rw [this]; exact hr
  · have : (p.set a r).getD j [] = p.getD j [] := by simp [List.getD, List.getElem?_set_ne (Ne.symm e)]
    rw [this]; exact hp.2 j hj
theorem isRow_set {r : List Nat} {k n a v : Nat} (hr : isRow r k n) (hv : v < n) : isRow (r.set a v) k n := by
  refine ⟨by rw [List.length_set, hr.1], fun x hx => ?_⟩
  rcases List.mem_or_eq_of_mem_set hx with h | rfl
  · exact hr.2 x h
  · exact hv
theorem set_parts {α : Type} {l : List α} {a : Nat} {v : α} (h : a < l.length) : l.take a ++ [v] ++ l.drop (a + 1) = l.set a v := by
  rw [List.set_eq_take_append_cons_drop, if_pos h]; simp
end Dn.L

/-! P16: all orders; _law_flat; _law_least. -/
namespace Dn.L
open PySem Dn
def ordStep (n : Nat) (os : List (List Nat)) : List (List Nat) := os.flatMap fun o => ((List.range n).filter fun x => decide (x ∉ o)).map fun x => o ++ [x]
def ordAll (n : Nat) : Nat → List (List Nat)
  | 0 => [[]]
  | k + 1 => ordStep n (ordAll n k)
theorem ordStep_len (n : Nat) : ∀ os : List (List Nat), (ordStep n os).length ≤ os.length * n
  | [] => by simp [ordStep]
  | o :: os => by
    have := ordStep_len n os
    unfold ordStep at *
    rw [List.flatMap_cons, List.length_append, List.length_map, List.length_cons, Nat.add_mul]
    have := List.length_filter_le (fun x => decide (x ∉ o)) (List.range n)
    simp only [List.length_range] at this
    omega
theorem ordAll_len (n : Nat) : ∀ k, (ordAll n k).length ≤ n ^ k
  | 0 => by simp [ordAll]
  | k + 1 => by
    have := ordAll_len n k
    rw [Nat.pow_succ]
    exact Nat.le_trans (ordStep_len n (ordAll n k)) (Nat.mul_le_mul_right n this)
theorem mem_ordAll {n : Nat} : ∀ (k : Nat) (q : List Nat), q ∈ ordAll n k ↔ isOrd q k n
  | 0, q => by
    simp only [ordAll, List.mem_singleton]
    constructor
    · rintro rfl; exact ⟨rfl, by simp, by simp⟩
    · intro h; exact List.eq_nil_of_length_eq_zero h.1
  | k + 1, q => by
    unfold ordAll ordStep
    simp only [List.mem_flatMap, List.mem_map, List.mem_filter, List.mem_range, decide_eq_true_eq]
    constructor
    · rintro ⟨o, ho, x, ⟨h1, h2⟩, rfl⟩
      exact isOrd_app ((mem_ordAll k o).mp ho) h1 h2
    · intro hq
      obtain ⟨o, x, rfl, ho, hx, hn⟩ := ord_split hq
      exact ⟨o, (mem_ordAll k o).mpr ho, x, ⟨hx, hn⟩, rfl⟩
theorem orders_ok {n : Nat} (hn : n ≤ 7) : d__law_orders [.int n] = .ok (.lst ((ordAll n n).map nT)) [.int n] := by
  apply vF_eq
  unfold d__law_orders b__law_orders
  k_search []
  refine vS_range (fun k ρ => ∃ a b c d, ρ = [some (.int n), some (.lst ((ordAll n k).map nT)), a, b, c, d]) ⟨none, none, none, none, rfl⟩ ?_ ?_
  · rintro k ρ hk ⟨a, b, c, d, rfl⟩
    have hord : ∀ o ∈ ordAll n k, isOrd o k n := fun o ho => (mem_ordAll k o).mp ho
    have hlen : (ordAll n k).length * n ≤ 823543 := Nat.le_trans (Nat.mul_le_mul_right n (ordAll_len n k)) (pow_le7 hn hk)
    have hst : ordAll n (k + 1) = ordStep n (ordAll n k) := rfl
    rw [hst]
    generalize ordAll n k = os at *
    k_search []
    refine vS_loop (enc := nT) (xs := os) (fun pre ρ => ∃ c d, ρ = [some (.int n), some (.lst (os.map nT)), some (nD k), some (.lst ((ordStep n pre).map nT)), c, d]) ⟨_, _, rfl⟩ ?_ ?_
    · rintro pre o post ρ eo ⟨c, d, rfl⟩
      have ho := hord o (by rw [eo]; simp)
      have h1 := ordStep_len n pre
      have h2 : pre.length * n + n ≤ 823543 := by
        have : (pre.length + 1) * n ≤ os.length * n := Nat.mul_le_mul_right n (by rw [eo]; simp)
        rw [Nat.add_mul] at this; omega
      have hst2 : ordStep n (pre ++ [o]) = ordStep n pre ++ ((List.range n).filter fun x => decide (x ∉ o)).map fun x => o ++ [x] := by
        unfold ordStep; rw [List.flatMap_append]; simp
      rw [hst2]
      generalize ordStep n pre = zs at *
      have hol := ho.1
      k_search []
      refine vS_range (fun j ρ => ∃ d, ρ = [some (.int n), some (.lst (os.map nT)), some (nD k), some (.lst ((zs ++ ((List.range j).filter fun x => decide (x ∉ o)).map fun x => o ++ [x]).map nT)), some (nT o), d]) ⟨d, by simp⟩ ?_ ?_
      · rintro j ρ hj ⟨d, rfl⟩
        have hst3 : ((List.range (j + 1)).filter fun x => decide (x ∉ o)).map (fun x => o ++ [x]) = ((List.range j).filter fun x => decide (x ∉ o)).map (fun x => o ++ [x]) ++ (if j ∉ o then [o ++ [j]] else []) := by
          rw [List.range_succ, List.filter_append, List.map_append]
          congr 1
          by_cases h : j ∈ o <;> simp [h]
        rw [hst3]
        have h3 := List.length_filter_le (fun x => decide (x ∉ o)) (List.range j)
        generalize hq : ((List.range j).filter fun x => decide (x ∉ o)).map (fun x => o ++ [x]) = ws at *
        have h4 : ws.length ≤ j := by rw [← hq, List.length_map]; simpa using h3
        clear hq h3
        k_search [dNotIn_n]
        refine vB_if (fun hjo => ?_) (fun hjo => ?_)
        · k_search []
          rw [if_pos hjo]
          exact ⟨some (nD j), by simp⟩
        · rw [if_neg hjo, List.append_nil]
          k_search []
          exact ⟨_, rfl⟩
      · rintro ρ ⟨d, rfl⟩
        exact ⟨_, _, rfl⟩
    · rintro ρ ⟨c, d, rfl⟩
      k_search []
      exact ⟨_, _, _, _, rfl⟩
  · rintro ρ ⟨a, b, c, d, rfl⟩
    k_search []
theorem law_flat_ok (p : List (List Nat)) (h : p.flatten.length < 100000) : d__law_flat [pcD p] = .ok (nT p.flatten) [pcD p] := by
  apply vF_eq
  unfold d__law_flat b__law_flat
  k_search []
  refine vS_loop (enc := nT) (xs := p) (fun pre ρ => ∃ a, ρ = [some (pcD p), some (nT pre.flatten), a]) ⟨none, rfl⟩ ?_ ?_
  · rintro pre r post ρ e ⟨a, rfl⟩
    have hl : pre.flatten.length + r.length < 100000 := by
      rw [e] at h; simp at h ⊢; omega
    k_search [List.flatten_append, List.flatten_cons, List.flatten_nil, List.append_nil]
    exact ⟨_, rfl⟩
  · rintro ρ ⟨a, rfl⟩
    k_search []
theorem pic_range {t : List Nat} {p : List (List Nat)} {k n : Nat} (hp : isPic p k n) : pieceF t p (List.range k) = p := by
  apply List.ext_getElem
  · rw [pieceF_len]; simp [hp.1]
  · intro j h1 h2
    have gd : ∀ {α : Type} {l : List α} {i : Nat} (h : i < l.length) (d : α), l.getD i d = l[i] := fun h d => by simp [List.getD, h]
    have hj : j < k := by rw [pieceF_len] at h1; simpa using h1
    have hr := hp.row hj
    rw [← gd h1 [], ← gd h2 [], pieceF_row (by simpa using hj)]
    apply List.ext_getElem
    · rw [rowF_len, hr]; simp; omega
    · intro i h3 h4
      have hi : i < j := by rw [hr] at h4; exact h4
      rw [← gd h4 0]
      simp only [rowF, List.getElem_map, List.getElem_take, List.getElem_range]
      have e4 : (List.range k).getD j 0 = j := by simp [List.getD, hj]
      rw [e4]
      unfold tieF
      rw [if_pos hi]
theorem ord_range (n : Nat) : isOrd (List.range n) n n := ⟨by simp, List.nodup_range, by simp⟩
end Dn.L

/-! P17: the law's barred keys; Table of any sequences. -/
namespace Dn.L
open PySem Dn
def lawStep (t : List Nat) (K : List (List Nat)) (b : List (List Nat)) : List (List Nat) := (ordAll b.length b.length).foldl (fun K o => sPutK K (pieceF t b o).flatten) K
def lawK (t : List Nat) (bs : List (List (List Nat))) : List (List Nat) := bs.foldl (lawStep t) []
theorem lawFold_mem (t : List Nat) : ∀ (bs : List (List (List Nat))) (K : List (List Nat)) (k : List Nat), k ∈ bs.foldl (lawStep t) K ↔ k ∈ K ∨ ∃ b ∈ bs, ∃ o, isOrd o b.length b.length ∧ k = (pieceF t b o).flatten
  | [], K, k => by simp
  | b :: bs, K, k => by
    rw [List.foldl_cons, lawFold_mem t bs]
    unfold lawStep
    rw [foldl_put_mem (fun o => (pieceF t b o).flatten)]
    simp only [List.mem_cons, exists_eq_or_imp, or_assoc, mem_ordAll]
theorem mem_lawK {t : List Nat} {bs : List (List (List Nat))} {k : List Nat} : k ∈ lawK t bs ↔ ∃ b ∈ bs, ∃ o, isOrd o b.length b.length ∧ k = (pieceF t b o).flatten := by
  unfold lawK; rw [lawFold_mem]; simp
theorem lawFold_len (t : List Nat) (n : Nat) : ∀ (bs : List (List (List Nat))) (K : List (List Nat)), (∀ b ∈ bs, isBar b n) → (bs.foldl (lawStep t) K).length ≤ K.length + bs.length * 256
  | [], K, _ => by simp
  | b :: bs, K, h => by
    rw [List.foldl_cons]
    have := lawFold_len t n bs (lawStep t K b) fun b hb => h b (by simp [hb])
    have h1 := foldl_put_len (fun o => (pieceF t b o).flatten) (ordAll b.length b.length) K
    have h2 := ordAll_len b.length b.length
    have h3 : b.length ^ b.length ≤ 256 := by rcases (h b (by simp)).len with e | e <;> rw [e] <;> decide
    unfold lawStep at *
    simp only [List.length_cons]
    omega
/-- the two sets of keys are one -/
theorem mem_barK_law {t : List Nat} {n : Nat} {bs : List (List (List Nat))} (ht : isTurn t n) (hb : ∀ b ∈ bs, isBar b n) {k : List Nat} : k ∈ barK t (barsOf t bs) ↔ k ∈ lawK t bs := by
  rw [mem_barK, mem_lawK]
  constructor
  · rintro ⟨f, hf, o, ho, rfl⟩
    obtain ⟨b, hbm, rfl⟩ := mem_barsOf.mp hf
    have hbb := (hb b hbm).pic
    have hfl := (lf_pic ht hbb).1
    rw [hfl] at ho
    have ho := (mem_perms (hb b hbm).len o).mp ho
    obtain ⟨a, ha, e⟩ := lf_is (t := t) (p := b)
    exact ⟨b, hbm, comp a o, isOrd_comp ha ho, by rw [e, pieceF_comp ht hbb ha ho]⟩
  · rintro ⟨b, hbm, o, ho, rfl⟩
    have hbb := (hb b hbm).pic
    have hfl := (lf_pic ht hbb).1
    obtain ⟨a, ha, e⟩ := lf_is (t := t) (p := b)
    refine ⟨lf t b, mem_barsOf.mpr ⟨b, hbm, rfl⟩, comp (inv a) o, ?_, ?_⟩
    · rw [hfl]
      exact (mem_perms (hb b hbm).len _).mpr (isOrd_comp (isOrd_inv ha) ho)
    · rw [e, pieceF_comp ht hbb ha (isOrd_comp (isOrd_inv ha) ho), comp_inv ha ho]
theorem check_turn_aux (q : D) {t : List Nat} {n : Nat} (hq : q = nT t ∨ q = nL t) (ht : isTurn t n) (hn : 0 < n) : d_check_turn [q] = .ok .non [q] := by
  obtain ⟨h1, h2⟩ := ht
  have h3 : t ≠ [] := by intro e; subst e; simp at h1; omega
  have e0 : d_is_sequence [q] = .ok (.bl true) [q] := by
    rcases hq with rfl | rfl
    · exact is_sequence_tup _
    · exact is_sequence_lst _
  have e1 : enA [q] = some (t.zipIdx.map fun p => D.tup [nD p.2, nD p.1]) := by
    rcases hq with rfl | rfl
    · rw [enA_tup, enum_map]
    · rw [enA_lst, enum_map]
  have e2 : dTru q = some true := by
    rcases hq with rfl | rfl
    · rw [dTru_tup]; simp [h3]
    · rw [dTru_lst]; simp [h3]
  have e3 : dLen q = some (nD t.length) := by
    rcases hq with rfl | rfl
    · rw [dLen_tup, List.length_map]
    · rw [dLen_lst, List.length_map]
  have e4 : ∀ i, i < t.length → dAt q (nD i) = some (nD (t.getD i 0)) := by
    intro i hi
    rcases hq with rfl | rfl
    · exact dAt_n hi
    · exact dAt_nl hi
  clear hq
  apply vF_eq
  unfold d_check_turn b_check_turn
  k_search [e0, e1, e2]
  refine vS_all (xs := t.zipIdx) (fun ρ => ∃ x y, ρ = [some q, x, y]) ⟨none, none, rfl⟩ ?_ ?_
  · rintro x ρ hx ⟨y, z, rfl⟩
    obtain ⟨h4, h5⟩ := zip_getD 0 hx
    have h6 := (h2 x.2 (by omega)).1
    rw [h5] at h6
    k_search [e3, is_below_n (show x.1 < t.length by omega)]
    exact ⟨_, _, rfl⟩
  · rintro ρ ⟨y, z, rfl⟩
    k_search [e1]
    refine vS_all (xs := t.zipIdx) (fun ρ => ∃ x y, ρ = [some q, x, y]) ⟨_, _, rfl⟩ ?_ ?_
    · rintro x ρ hx ⟨y, z, rfl⟩
      obtain ⟨h4, h5⟩ := zip_getD 0 hx
      have h6 := h2 x.2 (by omega)
      rw [h5] at h6
      k_search [e4 x.1 (by omega)]
      exact ⟨_, _, rfl⟩
    · rintro ρ ⟨y, z, rfl⟩
      k_search []
theorem table_aux (q r : D) {t : List Nat} {n : Nat} {bs : List (List (List Nat))} (hq : q = nT t ∨ q = nL t) (hr : r = .tup (bs.map pcD) ∨ r = .lst (bs.map pcD)) (ht : isTurn t n) (hn : 0 < n) (hb : ∀ b ∈ bs, isBar b n) (hl : bs.length ≤ 1000) : d_Table [.obj "Table" [], q, r] = .ok .non [tabD t n (barsOf t bs), q, r] := by
  apply vF_eq
  unfold d_Table b_Table
  obtain rfl : n = t.length := ht.1.symm
  have e3 : dLen q = some (nD t.length) := by
    rcases hq with rfl | rfl
    · rw [dLen_tup, List.length_map]
    · rw [dLen_lst, List.length_map]
  have e5 : ∃ z, sqD q = some z ∧ qTuple z = some (nT t) := by
    rcases hq with rfl | rfl
    · exact ⟨_, rfl, rfl⟩
    · exact ⟨_, rfl, rfl⟩
  obtain ⟨z, e6, e7⟩ := e5
  have e8 : itemsR r = some (bs.map pcD) := by
    rcases hr with rfl | rfl <;> rfl
  k_search [check_turn_aux q hq ht hn, e3, check_bars_aux r bs t.length hr hb, e6, e7, e8]
  refine vE_dc (enc := pcD) (xs := bs) (fun pre acc ρ => acc = kvD pcD (tL (formsOf t pre)) ∧ ρ = [some (.obj "Table" [("turn", nT t), ("ties", nD t.length)]), some q, some r, none, none]) ⟨rfl, rfl⟩ ?_ ?_
  · rintro pre b post acc ρ e ⟨rfl, rfl⟩
    have hbb := hb b (by rw [e]; simp)
    have hlen := hbb.len
    have h1 := formsOf_len t pre
    have h2 : pre.length + 1 ≤ 1000 := by rw [e] at hl; simp at hl; omega
    have e2 : formsOf t (pre ++ [b]) = sPutK (formsOf t pre) (lf t b) := by unfold formsOf; rw [List.foldl_append]; rfl
    have h3 := least_shape_ok (p := b) ht hbb.pic (by omega)
    have h4 : (gr (rowF t b) b.length b.length).2 = lf t b := rfl
    rw [h4] at h3
    k_search [h3, kE_p.dPut (tL (formsOf t pre)) (lf t b) (.bl true) (by simp; omega), aPut_t]
    rw [e2]
  · rintro acc ρ ⟨rfl, rfl⟩
    have h1 := formsOf_len t bs
    have h2 := barsOf_bar ht hb
    have h3 := barsOf_len t bs
    have h5 : ∀ p ∈ formsOf t bs, p.length ≤ 100000 := by
      intro p hp
      have := (h2 p (by unfold barsOf; rw [List.mem_mergeSort]; exact hp)).len
      omega
    k_search [keysD_kv (enc := pcD) (L := formsOf t bs) (by omega), qSortK_pc (L := formsOf t bs) h5 (by omega)]
    have e3 : (formsOf t bs).mergeSort szLe = barsOf t bs := rfl
    rw [e3]
    refine vS_fold (enc := pcD) (xs := barsOf t bs) (fun w b => max w b.length) 3 (fun w ρ => ∃ x, ρ = [some (.obj "Table" [("turn", nT t), ("ties", nD t.length), ("bars", .tup ((barsOf t bs).map pcD)), ("widest", nD w)]), some q, some r, some (kvD pcD (tL (formsOf t bs))), x]) ⟨_, rfl⟩ ?_ ?_
    · rintro pre b post ρ e ⟨x, rfl⟩
      generalize List.foldl (fun w b => max w b.length) 3 pre = w
      k_search []
      exact ⟨_, rfl⟩
    · rintro ρ ⟨x, rfl⟩
      k_search [barred_orders_ok ht h2 (by omega)]
      rfl
theorem tab_bars (t : List Nat) (n : Nat) (B : List (List (List Nat))) : fldC "Table" "bars" (tabD t n B) = some (.tup (B.map pcD)) := by unfold tabD; k_search []
theorem tab_widest (t : List Nat) (n : Nat) (B : List (List (List Nat))) : fldC "Table" "widest" (tabD t n B) = some (nD (widF B)) := by unfold tabD; k_search []
theorem tab_barred (t : List Nat) (n : Nat) (B : List (List (List Nat))) : fldC "Table" "barred" (tabD t n B) = some (kvD nT (tL (barK t B))) := by unfold tabD; k_search []
end Dn.L

/-! M4: moves. -/
namespace Dn.L
open PySem Dn
theorem gd {α : Type} {l : List α} {i : Nat} (h : i < l.length) (d : α) : l.getD i d = l[i] := by simp [List.getD, h]
theorem getD_map0 (f : Nat → Nat) {l : List Nat} {i : Nat} (h : i < l.length) : (l.map f).getD i 0 = f (l.getD i 0) := by simp [List.getD, h]
theorem comp_assoc {o m q : List Nat} (h : ∀ i ∈ q, i < m.length) : comp (comp o m) q = comp o (comp m q) := by
  unfold comp
  rw [List.map_map]
  apply List.map_congr_left
  intro i hi
  exact getD_map0 _ (h i hi)
theorem isOrd_range (n : Nat) : isOrd (List.range n) n n := ⟨by simp, List.nodup_range, by simp⟩
theorem comp_range {o : List Nat} {n : Nat} (h : o.length = n) : comp o (List.range n) = o := by
  unfold comp
  apply List.ext_getElem
  · simp [h]
  · intro i h1 h2
    simp [List.getD, h2]
theorem comp_inv_l {o q : List Nat} {a n : Nat} (ho : isOrd o n n) (hq : isOrd q a n) : comp (inv o) (comp o q) = q := by
  unfold comp
  rw [List.map_map]
  have : q.map ((fun i => (inv o).getD i 0) ∘ fun i => o.getD i 0) = q.map id := by
    apply List.map_congr_left
    intro x hx
    have hx := hq.2.2 x hx
    obtain ⟨h1, h2, h3⟩ := inv_at ho (ord_lt ho hx)
    show (inv o).getD (o.getD x 0) 0 = x
    rw [h1]
    apply Classical.byContradiction
    intro hne
    exact ord_ne ho h2 hx hne h3
  rw [this, List.map_id]
theorem piece_range {t : List Nat} {p : List (List Nat)} {k n : Nat} (hp : isPic p k n) : pieceF t p (List.range k) = p := by
  apply List.ext_getElem
  · rw [pieceF_len]; simp [hp.1]
  · intro j h1 h2
    have hj : j < k := by rw [pieceF_len] at h1; simpa using h1
    have hr := hp.row hj
    have e1 : (pieceF t p (List.range k))[j] = (pieceF t p (List.range k)).getD j [] := by simp [List.getD, h1]
    have e2 : p[j] = p.getD j [] := by simp [List.getD, h2]
    rw [e1, e2, pieceF_row (by simpa using hj)]
    apply List.ext_getElem
    · rw [rowF_len, hr]; simp; omega
    · intro i h3 h4
      have hi : i < j := by rw [hr] at h4; exact h4
      have e3 : (p.getD j [])[i] = (p.getD j []).getD i 0 := (gd h4 0).symm
      rw [e3]
      simp only [rowF, List.getElem_map, List.getElem_take, List.getElem_range]
      have e4 : (List.range k).getD j 0 = j := by simp [List.getD, hj]
      rw [e4]
      unfold tieF
      rw [if_pos hi]
/-- a move -/
def isMove (t : List Nat) (p : List (List Nat)) (m : List Nat) : Prop := isOrd m p.length p.length ∧ pieceF t p m = p
theorem mem_moves {t : List Nat} {p : List (List Nat)} {k n : Nat} (hp : isPic p k n) {m : List Nat} : m ∈ ordTo (rowF t p) k p ↔ isMove t p m := by
  rw [mem_ordTo]; unfold isMove; rw [hp.1]
theorem move_comp {t : List Nat} {p : List (List Nat)} {k n : Nat} (ht : isTurn t n) (hp : isPic p k n) {a b : List Nat} (ha : isMove t p a) (hb : isMove t p b) : isMove t p (comp a b) := by
  obtain ⟨a1, a2⟩ := ha
  obtain ⟨b1, b2⟩ := hb
  unfold isMove
  rw [hp.1] at *
  refine ⟨isOrd_comp a1 b1, ?_⟩
  rw [← pieceF_comp ht hp a1 b1, a2, b2]
theorem nextTo_nodup {row : List Nat → Nat → List Nat} {n : Nat} {r : List Nat} : ∀ {os : List (List Nat)}, os.Nodup → (nextTo row n os r).Nodup
  | [], _ => by simp [nextTo]
  | o :: os, h => by
    obtain ⟨h1, h2⟩ := List.nodup_cons.mp h
    have ih := nextTo_nodup (row := row) (n := n) (r := r) h2
    have e : nextTo row n (o :: os) r = ((List.range n).filter fun x => decide (x ∉ o) && decide (row o x = r)).map (fun x => o ++ [x]) ++ nextTo row n os r := by
      unfold nextTo; rw [List.flatMap_cons]
    rw [e, List.nodup_append]
    refine ⟨?_, ih, ?_⟩
    · rw [List.nodup_iff_pairwise_ne, List.pairwise_map]
      refine (List.nodup_iff_pairwise_ne.mp (List.nodup_range.sublist (List.filter_sublist))).imp ?_
      intro a b hab he
      have := List.append_inj' he rfl
      exact hab (by simpa using this.2)
    · intro a ha b hb hab
      subst hab
      obtain ⟨x, _, rfl⟩ := List.mem_map.mp ha
      obtain ⟨o2, ho2, x2, _, _, _, he⟩ := mem_nextTo.mp hb
      have := List.append_inj' he rfl
      exact h1 (this.1 ▸ ho2)
theorem ordTo_nodup (row : List Nat → Nat → List Nat) (n : Nat) (rs : List (List Nat)) : (ordTo row n rs).Nodup := by
  have : ∀ (rs os : List (List Nat)), os.Nodup → (rs.foldl (nextTo row n) os).Nodup := by
    intro rs
    induction rs with
    | nil => intro os h; exact h
    | cons r rs ih => intro os h; rw [List.foldl_cons]; exact ih _ (nextTo_nodup h)
  exact this rs [[]] (by simp)
theorem move_conj {t : List Nat} {p : List (List Nat)} {k n : Nat} (ht : isTurn t n) (hp : isPic p k n) {o m : List Nat} (ho : isOrd o k k) (hm : isMove t (pieceF t p o) m) : isMove t p (comp o (comp m (inv o))) := by
  have hq := isPic_piece ht hp ho
  obtain ⟨m1, m2⟩ := hm
  rw [hq.1] at m1
  have hi := isOrd_inv ho
  unfold isMove
  rw [hp.1]
  refine ⟨isOrd_comp ho (isOrd_comp m1 hi), ?_⟩
  rw [← pieceF_comp ht hp ho (isOrd_comp m1 hi), ← pieceF_comp ht hq m1 hi, m2, pieceF_comp ht hp ho hi]
  have : comp o (inv o) = List.range k := by
    have h := comp_inv ho (isOrd_range k)
    rwa [comp_range hi.1] at h
  rw [this, piece_range hp]
theorem conj_inj {k : Nat} {o a b : List Nat} (ho : isOrd o k k) (ha : isOrd a k k) (hb : isOrd b k k) (h : comp o (comp a (inv o)) = comp o (comp b (inv o))) : a = b := by
  have hi := isOrd_inv ho
  have h1 : comp (inv o) (comp o (comp a (inv o))) = comp (inv o) (comp o (comp b (inv o))) := by rw [h]
  rw [comp_inv_l ho (isOrd_comp ha hi), comp_inv_l ho (isOrd_comp hb hi)] at h1
  have h2 : comp (comp a (inv o)) o = comp (comp b (inv o)) o := by rw [h1]
  have e : ∀ x : List Nat, isOrd x k k → comp (comp x (inv o)) o = x := by
    intro x hx
    rw [comp_assoc (fun i hi' => by rw [hi.1]; exact ho.2.2 i hi')]
    have e2 : comp (inv o) o = List.range k := by
      have h := comp_inv_l ho (isOrd_range k)
      rwa [comp_range ho.1] at h
    rw [e2, comp_range hx.1]
  rwa [e a ha, e b hb] at h2
theorem moves_le {t : List Nat} {p : List (List Nat)} {k n : Nat} (ht : isTurn t n) (hp : isPic p k n) {o : List Nat} (ho : isOrd o k k) : (ordTo (rowF t (pieceF t p o)) k (pieceF t p o)).length ≤ (ordTo (rowF t p) k p).length := by
  have hq := isPic_piece ht hp ho
  have hord : ∀ m ∈ ordTo (rowF t (pieceF t p o)) k (pieceF t p o), isOrd m k k := fun m hm => by
    have := ((mem_moves hq).mp hm).1
    rwa [hq.1] at this
  have h1 : ((ordTo (rowF t (pieceF t p o)) k (pieceF t p o)).map fun m => comp o (comp m (inv o))).length ≤ (ordTo (rowF t p) k p).length := by
    apply List.Nodup.length_le_of_subset
    · rw [List.nodup_iff_pairwise_ne, List.pairwise_map]
      refine (List.nodup_iff_pairwise_ne.mp (ordTo_nodup _ _ _)).imp_of_mem ?_
      intro a b ha hb hab he
      exact hab (conj_inj ho (hord a ha) (hord b hb) he)
    · intro x hx
      obtain ⟨m, hm, rfl⟩ := List.mem_map.mp hx
      exact (mem_moves hp).mpr (move_conj ht hp ho ((mem_moves hq).mp hm))
  simpa using h1
theorem moves_len {t : List Nat} {p : List (List Nat)} {k n : Nat} (ht : isTurn t n) (hp : isPic p k n) {o : List Nat} (ho : isOrd o k k) : (ordTo (rowF t (pieceF t p o)) k (pieceF t p o)).length = (ordTo (rowF t p) k p).length := by
  apply Nat.le_antisymm (moves_le ht hp ho)
  have hq := isPic_piece ht hp ho
  have h := moves_le ht hq (isOrd_inv ho)
  have e : pieceF t (pieceF t p o) (inv o) = p := by
    rw [pieceF_comp ht hp ho (isOrd_inv ho)]
    have : comp o (inv o) = List.range k := by
      have h := comp_inv ho (isOrd_range k)
      rwa [comp_range (isOrd_inv ho).1] at h
    rw [this, piece_range hp]
  rw [e] at h
  exact h
end Dn.L

/-! M5: which pictures are barred. -/
namespace Dn.L
open PySem Dn
/-- its least form is that of a bar -/
def bad (t : List Nat) (bs : List (List (List Nat))) (x : List (List Nat)) : Prop := ∃ b ∈ bs, lf t b = lf t x
theorem flat_inj : ∀ (k : Nat) {a b : List (List Nat)}, (∀ j (h : j < a.length), (a[j]).length = j + k) → (∀ j (h : j < b.length), (b[j]).length = j + k) → a.length = b.length → a.flatten = b.flatten → a = b
  | _, [], [], _, _, _, _ => rfl
  | _, [], _ :: _, _, _, h, _ => by simp at h
  | _, _ :: _, [], _, _, h, _ => by simp at h
  | k, x :: a, y :: b, ha, hb, hl, h => by
    have h1 : x.length = k := by have := ha 0 (by simp); simpa using this
    have h2 : y.length = k := by have := hb 0 (by simp); simpa using this
    rw [List.flatten_cons, List.flatten_cons] at h
    obtain ⟨e1, e2⟩ := List.append_inj h (by omega)
    subst e1
    congr 1
    refine flat_inj (k + 1) (a := a) (b := b) ?_ ?_ (by simpa using hl) e2
    · intro j hj
      have := ha (j + 1) (by simp; omega)
      simp at this; omega
    · intro j hj
      have := hb (j + 1) (by simp; omega)
      simp at this; omega
theorem pic_rows {p : List (List Nat)} {k n : Nat} (h : isPic p k n) (j : Nat) (hj : j < p.length) : (p[j]).length = j + 0 := by
  have := h.row (show j < k by rw [← h.1]; exact hj)
  have e : p.getD j [] = p[j] := by simp [List.getD, hj]
  rw [e] at this
  omega
theorem pic_flat_inj {a b : List (List Nat)} {k n : Nat} (ha : isPic a k n) (hb : isPic b k n) (h : a.flatten = b.flatten) : a = b :=
  flat_inj 0 (pic_rows ha) (pic_rows hb) (by rw [ha.1, hb.1]) h
theorem flat_len3 {p : List (List Nat)} {n : Nat} (h : isPic p 3 n) : p.flatten.length = 3 := by
  have h0 := h.row (show 0 < 3 by omega)
  have h1 := h.row (show 1 < 3 by omega)
  have h2 := h.row (show 2 < 3 by omega)
  match p, h.1 with
  | [a, b, c], _ => simp at h0 h1 h2; simp [h0, h1, h2]
theorem flat_len4 {p : List (List Nat)} {n : Nat} (h : isPic p 4 n) : p.flatten.length = 6 := by
  have h0 := h.row (show 0 < 4 by omega)
  have h1 := h.row (show 1 < 4 by omega)
  have h2 := h.row (show 2 < 4 by omega)
  have h3 := h.row (show 3 < 4 by omega)
  match p, h.1 with
  | [a, b, c, d], _ => simp at h0 h1 h2 h3; simp [h0, h1, h2, h3]
theorem pic_bar {p : List (List Nat)} {n : Nat} (h : isBar p n) {m : Nat} (hm : isPic p m n) : m = 3 ∨ m = 4 := by
  have := h.len
  have := hm.1
  omega
theorem bar_flat_eq {a b : List (List Nat)} {n : Nat} (ha : isBar a n) (hb : isBar b n) (h : a.flatten = b.flatten) : a = b := by
  have hl := congrArg List.length h
  rcases ha with ha | ha <;> rcases hb with hb | hb
  · exact pic_flat_inj ha hb h
  · rw [flat_len3 ha, flat_len4 hb] at hl; omega
  · rw [flat_len4 ha, flat_len3 hb] at hl; omega
  · exact pic_flat_inj ha hb h
theorem lf_eq_piece {t : List Nat} {a b : List (List Nat)} {k n : Nat} (ht : isTurn t n) (ha : isPic a k n) (hb : isPic b k n) (h : lf t b = lf t a) : ∃ o, isOrd o k k ∧ a = pieceF t b o := by
  obtain ⟨x, hx, ex⟩ := lf_is (t := t) (p := a)
  obtain ⟨y, hy, ey⟩ := lf_is (t := t) (p := b)
  rw [ha.1] at hx
  rw [hb.1] at hy
  refine ⟨comp y (inv x), isOrd_comp hy (isOrd_inv hx), ?_⟩
  rw [← pieceF_comp ht hb hy (isOrd_inv hx), ← ey, h, ex, pieceF_comp ht ha hx (isOrd_inv hx)]
  have : comp x (inv x) = List.range k := by
    have h := comp_inv hx (isOrd_range k)
    rwa [comp_range (isOrd_inv hx).1] at h
  rw [this, piece_range ha]
theorem lf_len {t : List Nat} {p : List (List Nat)} : (lf t p).length = p.length := by
  obtain ⟨o, ho, e⟩ := lf_is (t := t) (p := p)
  rw [e, pieceF_len, ho.1]
theorem mem_lawK_bad {t : List Nat} {n : Nat} {bs : List (List (List Nat))} {x : List (List Nat)} (ht : isTurn t n) (hb : ∀ b ∈ bs, isBar b n) (hx : isBar x n) : x.flatten ∈ lawK t bs ↔ bad t bs x := by
  rw [mem_lawK]
  constructor
  · rintro ⟨b, hbm, o, ho, e⟩
    have hbb := hb b hbm
    have hp := isPic_piece ht hbb.pic ho
    have hpb : isBar (pieceF t b o) n := by
      rcases hbb.len with h | h
      · rw [h] at hp; exact .inl hp
      · rw [h] at hp; exact .inr hp
    have e2 := bar_flat_eq hx hpb e
    exact ⟨b, hbm, by rw [e2, lf_piece ht hbb.pic ho]⟩
  · rintro ⟨b, hbm, e⟩
    have hbb := hb b hbm
    have hl : b.length = x.length := by rw [← lf_len (t := t) (p := b), e, lf_len]
    have h1 := hbb.pic
    rw [hl] at h1
    obtain ⟨o, ho, e2⟩ := lf_eq_piece ht hx.pic h1 e
    exact ⟨b, hbm, o, by rw [hl]; exact ho, by rw [e2]⟩
theorem bad_piece {t : List Nat} {n k m : Nat} {bs : List (List (List Nat))} {p : List (List Nat)} {o q : List Nat} (ht : isTurn t n) (hp : isPic p k n) (ho : isOrd o m k) (hq : isOrd q m m) : bad t bs (pieceF t p (comp o q)) ↔ bad t bs (pieceF t p o) := by
  unfold bad
  rw [← pieceF_comp ht hp ho hq, lf_piece ht (isPic_piece ht hp ho) hq]
/-- ascending -/
def asc (o : List Nat) : Prop := o.Pairwise (· < ·)
theorem asc_of {o : List Nat} {m k : Nat} (ho : isOrd o m k) : ∃ o' q, isOrd o' m k ∧ asc o' ∧ isOrd q m m ∧ o = comp o' q := by
  have hp : (o.mergeSort (fun a b => decide (a ≤ b))).Perm o := List.mergeSort_perm _ _
  have hs : (o.mergeSort (fun a b => decide (a ≤ b))).Pairwise (fun a b => decide (a ≤ b) = true) := List.pairwise_mergeSort (by intro a b c; simp; omega) (by intro a b; simp; omega) o
  generalize o.mergeSort (fun a b => decide (a ≤ b)) = o' at hp hs
  have hn : o'.Nodup := hp.nodup_iff.mpr ho.2.1
  have hl : o'.length = m := by rw [hp.length_eq, ho.1]
  have ho' : isOrd o' m k := ⟨hl, hn, fun i hi => ho.2.2 i (hp.mem_iff.mp hi)⟩
  refine ⟨o', o.map fun x => o'.idxOf x, ho', ?_, ⟨by simp [ho.1], ?_, ?_⟩, ?_⟩
  · refine (hs.and (List.nodup_iff_pairwise_ne.mp hn)).imp ?_
    intro a b ⟨h1, h2⟩
    have : a ≤ b := by simpa using h1
    omega
  · rw [List.nodup_iff_pairwise_ne, List.pairwise_map]
    refine (List.nodup_iff_pairwise_ne.mp ho.2.1).imp_of_mem ?_
    intro a b ha hb hab e
    have h1 := List.getElem_idxOf (List.idxOf_lt_length_of_mem (hp.mem_iff.mpr ha))
    have h2 := List.getElem_idxOf (List.idxOf_lt_length_of_mem (hp.mem_iff.mpr hb))
    apply hab
    rw [← h1, ← h2]
    congr 1
  · intro i hi
    obtain ⟨x, hx, rfl⟩ := List.mem_map.mp hi
    have := List.idxOf_lt_length_of_mem (hp.mem_iff.mpr hx)
    omega
  · unfold comp
    rw [List.map_map]
    have : o.map ((fun i => o'.getD i 0) ∘ fun x => o'.idxOf x) = o.map id := by
      apply List.map_congr_left
      intro x hx
      have h1 := List.idxOf_lt_length_of_mem (hp.mem_iff.mpr hx)
      show o'.getD (o'.idxOf x) 0 = x
      rw [gd h1]
      exact List.getElem_idxOf h1
    rw [this, List.map_id]
/-- no piece of m points is barred -/
def free (t : List Nat) (bs : List (List (List Nat))) (m : Nat) (p : List (List Nat)) : Prop := ∀ o, isOrd o m p.length → ¬ bad t bs (pieceF t p o)
theorem free_asc {t : List Nat} {n k m : Nat} {bs : List (List (List Nat))} {p : List (List Nat)} (ht : isTurn t n) (hp : isPic p k n) : free t bs m p ↔ ∀ o, isOrd o m k → asc o → ¬ bad t bs (pieceF t p o) := by
  unfold free
  rw [hp.1]
  constructor
  · intro h o ho _; exact h o ho
  · intro h o ho
    obtain ⟨o', q, h1, h2, h3, rfl⟩ := asc_of ho
    rw [bad_piece ht hp h1 h3]
    exact h o' h1 h2
theorem free_piece {t : List Nat} {n k m : Nat} {bs : List (List (List Nat))} {p : List (List Nat)} {a : List Nat} (ht : isTurn t n) (hp : isPic p k n) (ha : isOrd a k k) : free t bs m (pieceF t p a) ↔ free t bs m p := by
  unfold free
  have hq := isPic_piece ht hp ha
  rw [hq.1, hp.1]
  constructor
  · intro h o ho
    have := h (comp (inv a) o) (isOrd_comp (isOrd_inv ha) ho)
    rwa [pieceF_comp ht hp ha (isOrd_comp (isOrd_inv ha) ho), comp_inv ha ho] at this
  · intro h o ho
    rw [pieceF_comp ht hp ha ho]
    exact h _ (isOrd_comp ha ho)
theorem free_lf {t : List Nat} {n k m : Nat} {bs : List (List (List Nat))} {p : List (List Nat)} (ht : isTurn t n) (hp : isPic p k n) : free t bs m (lf t p) ↔ free t bs m p := by
  obtain ⟨a, ha, e⟩ := lf_is (t := t) (p := p)
  rw [hp.1] at ha
  rw [e]; exact free_piece ht hp ha
/-- ascending triples -/
theorem asc3 {o : List Nat} {k : Nat} : (isOrd o 3 k ∧ asc o) ↔ ∃ a b c, o = [a, b, c] ∧ a < b ∧ b < c ∧ c < k := by
  constructor
  · rintro ⟨⟨h1, _, h3⟩, h4⟩
    match o, h1 with
    | [a, b, c], _ =>
      unfold asc at h4
      simp at h4
      exact ⟨a, b, c, rfl, h4.1.1, h4.2, h3 c (by simp)⟩
  · rintro ⟨a, b, c, rfl, h1, h2, h3⟩
    refine ⟨⟨rfl, ?_, ?_⟩, ?_⟩
    · simp; omega
    · intro i hi; simp at hi; omega
    · unfold asc; simp; omega
theorem piece3 {t : List Nat} {p : List (List Nat)} {a b c : Nat} (h1 : a < b) (h2 : b < c) : (pieceF t p [a, b, c]).flatten = [(p.getD b []).getD a 0, (p.getD c []).getD a 0, (p.getD c []).getD b 0] := by
  have h3 : a < c := by omega
  have e : pieceF t p [a, b, c] = [[], [tieF t p a b], [tieF t p a c, tieF t p b c]] := rfl
  rw [e]
  unfold tieF
  simp [h1, h2, h3]
end Dn.L

/-! P18: sorted lists of forms; least_bars. -/
namespace Dn.L
open PySem Dn
theorem szLe_trans (a b c : List (List Nat)) : szLe a b = true → szLe b c = true → szLe a c = true := by
  unfold szLe
  simp only [decide_eq_true_eq]
  rintro (h1 | ⟨h1, h2⟩) (h3 | ⟨h3, h4⟩)
  · exact .inl (by omega)
  · exact .inl (by omega)
  · exact .inl (by omega)
  · exact .inr ⟨by omega, List.le_trans h2 h4⟩
theorem szLe_total (a b : List (List Nat)) : (szLe a b || szLe b a) = true := by
  unfold szLe
  simp only [Bool.or_eq_true, decide_eq_true_eq]
  rcases Nat.lt_trichotomy a.length b.length with h | h | h
  · exact .inl (.inl h)
  · rcases List.le_total a b with h2 | h2
    · exact .inl (.inr ⟨h, h2⟩)
    · exact .inr (.inr ⟨h.symm, h2⟩)
  · exact .inr (.inl h)
theorem szLe_antisymm {a b : List (List Nat)} (h1 : szLe a b = true) (h2 : szLe b a = true) : a = b := by
  unfold szLe at h1 h2
  simp only [decide_eq_true_eq] at h1 h2
  rcases h1 with h1 | ⟨h1, h3⟩ <;> rcases h2 with h2 | ⟨h2, h4⟩
  · omega
  · omega
  · omega
  · exact List.le_antisymm h3 h4
theorem sz_eq {L M : List (List (List Nat))} (hl : L.Pairwise fun a b => szLe a b = true) (hm : M.Pairwise fun a b => szLe a b = true) (nl : L.Nodup) (nm : M.Nodup) (h : ∀ x, x ∈ L ↔ x ∈ M) : L = M :=
  List.Perm.eq_of_pairwise (le := fun a b => szLe a b = true) (fun a b _ _ h1 h2 => szLe_antisymm h1 h2) hl hm ((List.perm_ext_iff_of_nodup nl nm).mpr h)
theorem barsOf_sorted (t : List Nat) (bs : List (List (List Nat))) : (barsOf t bs).Pairwise fun a b => szLe a b = true := List.pairwise_mergeSort szLe_trans szLe_total _
theorem barsOf_nodup (t : List Nat) (bs : List (List (List Nat))) : (barsOf t bs).Nodup := by
  unfold barsOf
  rw [(List.mergeSort_perm _ _).nodup_iff]
  exact foldl_put_nodup (fun b => lf t b) bs [] (by simp)
theorem barsOf_eq {t : List Nat} {bs : List (List (List Nat))} {M : List (List (List Nat))} (hm : M.Pairwise fun a b => szLe a b = true) (nm : M.Nodup) (h : ∀ x, x ∈ M ↔ ∃ b ∈ bs, x = lf t b) : barsOf t bs = M :=
  sz_eq (barsOf_sorted t bs) hm (barsOf_nodup t bs) nm fun x => by rw [mem_barsOf, h]
theorem lf_lf {t : List Nat} {p : List (List Nat)} {k n : Nat} (ht : isTurn t n) (hp : isPic p k n) : lf t (lf t p) = lf t p := by
  obtain ⟨o, ho, e⟩ := lf_is (t := t) (p := p)
  rw [hp.1] at ho
  have : lf t (pieceF t p o) = lf t p := lf_piece ht hp ho
  rw [← e] at this
  exact this
theorem barsOf_self {t : List Nat} {n : Nat} {bs : List (List (List Nat))} (ht : isTurn t n) (hb : ∀ b ∈ bs, isBar b n) : barsOf t (barsOf t bs) = barsOf t bs := by
  refine barsOf_eq (barsOf_sorted t bs) (barsOf_nodup t bs) fun x => ?_
  constructor
  · intro hx
    obtain ⟨b, hbm, rfl⟩ := mem_barsOf.mp hx
    exact ⟨lf t b, hx, (lf_lf ht (hb b hbm).pic).symm⟩
  · rintro ⟨b, hbm, rfl⟩
    obtain ⟨b', hbm', rfl⟩ := mem_barsOf.mp hbm
    rw [lf_lf ht (hb b' hbm').pic]
    exact hbm
theorem bad_barsOf {t : List Nat} {n : Nat} {bs : List (List (List Nat))} (ht : isTurn t n) (hb : ∀ b ∈ bs, isBar b n) (x : List (List Nat)) : bad t (barsOf t bs) x ↔ bad t bs x := by
  unfold bad
  constructor
  · rintro ⟨f, hf, e⟩
    obtain ⟨b, hbm, rfl⟩ := mem_barsOf.mp hf
    rw [lf_lf ht (hb b hbm).pic] at e
    exact ⟨b, hbm, e⟩
  · rintro ⟨b, hbm, e⟩
    exact ⟨lf t b, mem_barsOf.mpr ⟨b, hbm, rfl⟩, by rw [lf_lf ht (hb b hbm).pic]; exact e⟩
theorem mem_barK_bad {t : List Nat} {n : Nat} {bs : List (List (List Nat))} {x : List (List Nat)} (ht : isTurn t n) (hb : ∀ b ∈ bs, isBar b n) (hx : isBar x n) : x.flatten ∈ barK t (barsOf t bs) ↔ bad t bs x := by
  rw [mem_barK_law ht hb, mem_lawK_bad ht hb hx]
theorem dIn_key (K : List (List Nat)) (k : List Nat) : dInN false (nT k) (kvD nT (tL K)) = some (.bl (decide (k ∈ K))) := by
  rw [kE_n.dIn, aGet_t]; simp
theorem is_barred_ok {t : List Nat} {n m k : Nat} {B : List (List (List Nat))} {x : List (List Nat)} (hx : isPic x k m) (hk : k ≤ 12) : d_is_barred [tabD t n B, pcD x] = .ok (.bl (decide (x.flatten ∈ barK t B))) [tabD t n B, pcD x] := by
  have := flatten_len hx hk
  apply vF_eq
  unfold d_is_barred b_is_barred
  k_search [flat_ok x (by omega), tab_barred, dIn_key]
def combs (n r : Nat) : List (List Nat) := (combL n r).getD []
theorem combs43 : combL 4 3 = some (combs 4 3) := by decide +kernel
theorem combs43_eq : combs 4 3 = [[0, 1, 2], [0, 1, 3], [0, 2, 3], [1, 2, 3]] := by decide +kernel
theorem cbA_of {n r : Nat} (h : combL n r = some (combs n r)) (hr : r ≤ 1000) (hn : n ≤ 1000) (hlt : ∀ o ∈ combs n r, ∀ i ∈ o, i < n) : cbA ((List.range n).map nD) (.int r) = some ((combs n r).map nT) := by
  unfold cbA
  rw [asI_int, Option.bind_some, List.length_map, List.length_range, Int.toNat_natCast, h, if_pos ⟨by omega, hr, hn⟩, Option.map_some]
  congr 1
  apply List.map_congr_left
  intro o ho
  unfold pickE nT
  congr 1
  apply List.map_congr_left
  intro i hi
  have := hlt o ho i hi
  simp [List.getD, this]
/-- all pieces of fewer points are let -/
def isLB (t : List Nat) (K : List (List Nat)) (f : List (List Nat)) : Bool := if f.length = 4 then (combs 4 3).all fun c => decide ((pieceF t f c).flatten ∉ K) else true
theorem isLB_iff {t : List Nat} {n : Nat} {bs : List (List (List Nat))} {f : List (List Nat)} (ht : isTurn t n) (hb : ∀ b ∈ bs, isBar b n) (hf : isBar f n) : isLB t (barK t (barsOf t bs)) f = true ↔ (f.length = 4 → free t bs 3 f) := by
  unfold isLB
  by_cases h4 : f.length = 4
  · rw [if_pos h4]
    have hp := hf.pic
    rw [h4] at hp
    rw [free_asc ht hp, List.all_eq_true]
    constructor
    · intro h _ o ho1 ho2
      obtain ⟨a, b, c, rfl, h1, h2, h3⟩ := asc3.mp ⟨ho1, ho2⟩
      have hm : [a, b, c] ∈ combs 4 3 := by
        rw [combs43_eq]
        have : (a = 0 ∧ b = 1 ∧ c = 2) ∨ (a = 0 ∧ b = 1 ∧ c = 3) ∨ (a = 0 ∧ b = 2 ∧ c = 3) ∨ (a = 1 ∧ b = 2 ∧ c = 3) := by omega
        rcases this with ⟨rfl, rfl, rfl⟩ | ⟨rfl, rfl, rfl⟩ | ⟨rfl, rfl, rfl⟩ | ⟨rfl, rfl, rfl⟩ <;> simp
      have := h _ hm
      rw [decide_eq_true_eq, mem_barK_bad ht hb (.inl (isPic_piece ht hp ho1))] at this
      exact this
    · intro h c hc
      rw [decide_eq_true_eq]
      rw [combs43_eq] at hc
      have : isOrd c 3 4 ∧ asc c := by
        simp only [List.mem_cons, List.not_mem_nil, or_false] at hc
        rcases hc with rfl | rfl | rfl | rfl <;> exact ⟨⟨rfl, by decide, by decide⟩, by unfold asc; decide⟩
      rw [mem_barK_bad ht hb (.inl (isPic_piece ht hp this.1))]
      exact h h4 c this.1 this.2
  · rw [if_neg h4]
    simp [h4]
end Dn.L

/-! P19: lets, first_barred. -/
namespace Dn.L
open PySem Dn
def key3 (p : List (List Nat)) (a b c : Nat) : List Nat := [(p.getD b []).getD a 0, (p.getD c []).getD a 0, (p.getD c []).getD b 0]
def key6 (p : List (List Nat)) (a b c d : Nat) : List Nat := [(p.getD b []).getD a 0, (p.getD c []).getD a 0, (p.getD c []).getD b 0, (p.getD d []).getD a 0, (p.getD d []).getD b 0, (p.getD d []).getD c 0]
theorem piece3k {t : List Nat} {p : List (List Nat)} {a b c : Nat} (h1 : a < b) (h2 : b < c) : (pieceF t p [a, b, c]).flatten = key3 p a b c := piece3 h1 h2
theorem piece6k {t : List Nat} {p : List (List Nat)} {a b c d : Nat} (h1 : a < b) (h2 : b < c) (h3 : c < d) : (pieceF t p [a, b, c, d]).flatten = key6 p a b c d := by
  have e : pieceF t p [a, b, c, d] = [[], [tieF t p a b], [tieF t p a c, tieF t p b c], [tieF t p a d, tieF t p b d, tieF t p c d]] := rfl
  rw [e]
  unfold tieF key6
  simp [h1, h2, h3, show a < c by omega, show a < d by omega, show b < d by omega]
theorem dIn_key3 (K : List (List Nat)) (a b c : Nat) : dInN false (.tup [.int a, .int b, .int c]) (kvD nT (tL K)) = some (.bl (decide ([a, b, c] ∈ K))) := dIn_key K [a, b, c]
theorem dIn_key6 (K : List (List Nat)) (a b c d e f : Nat) : dInN false (.tup [.int a, .int b, .int c, .int d, .int e, .int f]) (kvD nT (tL K)) = some (.bl (decide ([a, b, c, d, e, f] ∈ K))) := dIn_key K [a, b, c, d, e, f]
def hitB (c : Bool) : Option D := if c = true then some (.bl false) else none
/-- a tie fits: no key that it makes is barred -/
def tf3 (K : List (List Nat)) (p : List (List Nat)) (row : List Nat) (tie : Nat) : Option D := (List.range row.length).findSome? fun i => hitB (decide ([(p.getD row.length []).getD i 0, row.getD i 0, tie] ∈ K))
def tf6 (K : List (List Nat)) (p : List (List Nat)) (row : List Nat) (tie : Nat) : Option D := (List.range row.length).findSome? fun j => (List.range j).findSome? fun i => hitB (decide ([(p.getD j []).getD i 0, (p.getD row.length []).getD i 0, (p.getD row.length []).getD j 0, row.getD i 0, row.getD j 0, tie] ∈ K))
def tfD (K : List (List Nat)) (w : Nat) (p : List (List Nat)) (row : List Nat) (tie : Nat) : D := ((tf3 K p row tie).or (if w = 4 then tf6 K p row tie else none)).getD (.bl true)
theorem hitB_dec (c : Prop) [Decidable c] : hitB (decide c) = if c then some (.bl false) else none := by unfold hitB; by_cases h : c <;> simp [h]
theorem findB {α : Type} {l : List α} {f : α → Bool} {d : D} (h : l.findSome? (fun a => hitB (f a)) = some d) : d = .bl false := by
  obtain ⟨a, _, e⟩ := List.exists_of_findSome?_eq_some h
  unfold hitB at e
  split at e
  · injection e with e; exact e.symm
  · cases e
theorem findB2 {α β : Type} {l : List α} {g : α → List β} {f : α → β → Bool} {d : D} (h : l.findSome? (fun a => (g a).findSome? fun b => hitB (f a b)) = some d) : d = .bl false := by
  obtain ⟨a, _, e⟩ := List.exists_of_findSome?_eq_some h
  exact findB e
theorem tie_fits_ok {t : List Nat} {n k : Nat} {B : List (List (List Nat))} {p : List (List Nat)} {row : List Nat} {tie : Nat} (hp : isPic p k n) (hr : row.length < k) (hk : k < 1000) : d_tie_fits [tabD t n B, pcD p, nT row, nD tie] = .ok (tfD (barK t B) (widF B) p row tie) [tabD t n B, pcD p, nT row, nD tie] := by
  have hpl := hp.1
  have hat := hp.row hr
  apply vF_eq
  unfold d_tie_fits b_tie_fits
  k_search [tab_barred]
  refine vS_find (enc := nD) (xs := List.range row.length) (fun i => hitB (decide ([(p.getD row.length []).getD i 0, row.getD i 0, tie] ∈ barK t B))) (fun ρ => ∃ x, ρ = [some (tabD t n B), some (pcD p), some (nT row), some (nD tie), some (nD row.length), some (nT (p.getD row.length [])), some (kvD nT (tL (barK t B))), x, none]) ⟨none, rfl⟩ ?_ ?_ ?_
  · rintro i hi ρ ⟨x, rfl⟩
    have hi : i < row.length := by simpa using hi
    rw [hitB_dec]
    k_search [dIn_key3]
    refine vB_if (fun h => ?_) (fun h => ?_)
    · k_search []
      exact ⟨if_pos h, _, rfl⟩
    · k_search []
      exact ⟨if_neg h, _, rfl⟩
  · rintro ρ h3 ⟨x, rfl⟩
    have h3 : tf3 (barK t B) p row tie = none := h3
    k_search [tab_widest]
    refine vB_if (fun hw => ?_) (fun hw => ?_)
    · have hw : widF B = 4 := by omega
      k_search []
      refine vS_find (enc := nD) (xs := List.range row.length) (fun j => (List.range j).findSome? fun i => hitB (decide ([(p.getD j []).getD i 0, (p.getD row.length []).getD i 0, (p.getD row.length []).getD j 0, row.getD i 0, row.getD j 0, tie] ∈ barK t B))) (fun ρ => ∃ x y, ρ = [some (tabD t n B), some (pcD p), some (nT row), some (nD tie), some (nD row.length), some (nT (p.getD row.length [])), some (kvD nT (tL (barK t B))), x, y]) ⟨_, _, rfl⟩ ?_ ?_ ?_
      · rintro j hj ρ ⟨x, y, rfl⟩
        have hj : j < row.length := by simpa using hj
        have hjr := hp.row (show j < k by omega)
        k_search []
        refine vS_find (enc := nD) (xs := List.range j) (fun i => hitB (decide ([(p.getD j []).getD i 0, (p.getD row.length []).getD i 0, (p.getD row.length []).getD j 0, row.getD i 0, row.getD j 0, tie] ∈ barK t B))) (fun ρ => ∃ x, ρ = [some (tabD t n B), some (pcD p), some (nT row), some (nD tie), some (nD row.length), some (nT (p.getD row.length [])), some (kvD nT (tL (barK t B))), x, some (nD j)]) ⟨_, rfl⟩ ?_ ?_ ?_
        · rintro i hi ρ ⟨x, rfl⟩
          have hi : i < j := by simpa using hi
          rw [hitB_dec]
          k_search [dIn_key6]
          refine vB_if (fun h => ?_) (fun h => ?_)
          · k_search []
            exact ⟨if_pos h, _, rfl⟩
          · k_search []
            exact ⟨if_neg h, _, rfl⟩
        · rintro ρ h ⟨x, rfl⟩
          exact ⟨h, _, _, rfl⟩
        · rintro d ρ h ⟨x, rfl⟩
          exact ⟨h, _, _, rfl⟩
      · rintro ρ h6 ⟨x, y, rfl⟩
        have h6 : tf6 (barK t B) p row tie = none := h6
        k_search []
        unfold tfD
        rw [h3, if_pos hw, h6]; rfl
      · rintro d ρ h6 ⟨x, y, rfl⟩
        have h6' : tf6 (barK t B) p row tie = some d := h6
        k_search []
        unfold tfD
        rw [h3, if_pos hw, h6']; rfl
    · have hw : widF B ≠ 4 := by omega
      k_search []
      unfold tfD
      rw [h3, if_neg hw]; rfl
  · rintro d ρ h3 ⟨x, rfl⟩
    have h3 : tf3 (barK t B) p row tie = some d := h3
    k_search []
    unfold tfD
    rw [h3]; rfl
/-- it fits -/
def tfB (K : List (List Nat)) (w : Nat) (p : List (List Nat)) (row : List Nat) (tie : Nat) : Prop := (∀ i, i < row.length → [(p.getD row.length []).getD i 0, row.getD i 0, tie] ∉ K) ∧ (w = 4 → ∀ j, j < row.length → ∀ i, i < j → [(p.getD j []).getD i 0, (p.getD row.length []).getD i 0, (p.getD row.length []).getD j 0, row.getD i 0, row.getD j 0, tie] ∉ K)
theorem hit_none {α : Type} {l : List α} {f : α → Prop} [DecidablePred f] : l.findSome? (fun a => hitB (decide (f a))) = none ↔ ∀ a ∈ l, ¬ f a := by
  rw [List.findSome?_eq_none_iff]
  constructor
  · intro h a ha hf
    have := h a ha
    rw [hitB_dec, if_pos hf] at this
    cases this
  · intro h a ha
    rw [hitB_dec, if_neg (h a ha)]
open Classical in
theorem tfD_eq (K : List (List Nat)) (w : Nat) (p : List (List Nat)) (row : List Nat) (tie : Nat) : tfD K w p row tie = .bl (decide (tfB K w p row tie)) := by
  unfold tfD
  have e3 : tf3 K p row tie = none ↔ ∀ i, i < row.length → [(p.getD row.length []).getD i 0, row.getD i 0, tie] ∉ K := by
    unfold tf3
    rw [hit_none (f := fun i => [(p.getD row.length []).getD i 0, row.getD i 0, tie] ∈ K)]
    simp only [List.mem_range]
  have e6 : tf6 K p row tie = none ↔ ∀ j, j < row.length → ∀ i, i < j → [(p.getD j []).getD i 0, (p.getD row.length []).getD i 0, (p.getD row.length []).getD j 0, row.getD i 0, row.getD j 0, tie] ∉ K := by
    unfold tf6
    rw [List.findSome?_eq_none_iff]
    constructor
    · intro h j hj i hi
      have := h j (by simpa using hj)
      rw [hit_none (f := fun i => [(p.getD j []).getD i 0, (p.getD row.length []).getD i 0, (p.getD row.length []).getD j 0, row.getD i 0, row.getD j 0, tie] ∈ K)] at this
      exact this i (by simpa using hi)
    · intro h j hj
      rw [hit_none (f := fun i => [(p.getD j []).getD i 0, (p.getD row.length []).getD i 0, (p.getD row.length []).getD j 0, row.getD i 0, row.getD j 0, tie] ∈ K)]
      intro i hi
      exact h j (by simpa using hj) i (by simpa using hi)
  cases h3 : tf3 K p row tie with
  | some d =>
    have hd : d = .bl false := findB h3
    have hn : ¬ ∀ i, i < row.length → [(p.getD row.length []).getD i 0, row.getD i 0, tie] ∉ K := fun z => by rw [e3.mpr z] at h3; cases h3
    rw [decide_eq_false (fun z => hn z.1), hd]; rfl
  | none =>
    have y3 := e3.mp h3
    by_cases hw : w = 4
    · rw [if_pos hw]
      cases h6 : tf6 K p row tie with
      | some d =>
        have hd : d = .bl false := findB2 h6
        rw [decide_eq_false (fun z => by have := e6.mpr (z.2 hw); rw [h6] at this; cases this), hd]; rfl
      | none => rw [decide_eq_true ⟨y3, fun _ => e6.mp h6⟩]; rfl
    · rw [if_neg hw, decide_eq_true ⟨y3, fun z => absurd z hw⟩]; rfl
end Dn.L

/-! P20: lets and barred_places. -/
namespace Dn.L
open PySem Dn
noncomputable def pb (P : Prop) : Bool := @decide P (Classical.propDecidable P)
theorem pb_true {P : Prop} (h : P) : pb P = true := @decide_eq_true P (Classical.propDecidable P) h
theorem pb_false {P : Prop} (h : ¬ P) : pb P = false := @decide_eq_false P (Classical.propDecidable P) h
theorem pb_iff {P Q : Prop} (h : P ↔ Q) : pb P = pb Q := by
  by_cases q : Q
  · rw [pb_true q, pb_true (h.mpr q)]
  · rw [pb_false q, pb_false fun z => q (h.mp z)]
theorem vB_pb {P A B : Prop} (h1 : P → A) (h2 : ¬ P → B) : vB (pb P) (h := ⟨A, B⟩) := by
  by_cases h : P
  · rw [pb_true h]; exact h1 h
  · rw [pb_false h]; exact h2 h
theorem tie_fits_pb {t : List Nat} {n k : Nat} {B : List (List (List Nat))} {p : List (List Nat)} {row : List Nat} {tie : Nat} (hp : isPic p k n) (hr : row.length < k) (hk : k < 1000) : d_tie_fits [tabD t n B, pcD p, nT row, nD tie] = .ok (.bl (pb (tfB (barK t B) (widF B) p row tie))) [tabD t n B, pcD p, nT row, nD tie] := by
  rw [tie_fits_ok hp hr hk, tfD_eq]; rfl
def rfB (K : List (List Nat)) (w : Nat) (p : List (List Nat)) (row : List Nat) : Prop := ∀ b, b < row.length → tfB K w p (row.take b) (row.getD b 0)
theorem row_fits_ok {t : List Nat} {n k : Nat} {B : List (List (List Nat))} {p : List (List Nat)} {row : List Nat} (hp : isPic p k n) (hr : row.length ≤ k) (hk : k < 1000) : d_row_fits [tabD t n B, pcD p, nT row] = .ok (.bl (pb (rfB (barK t B) (widF B) p row))) [tabD t n B, pcD p, nT row] := by
  apply vF_eq
  unfold d_row_fits b_row_fits
  k_search []
  rw [zip_map]
  refine vS_loop (xs := List.range row.length) (fun pre ρ => (∃ x y, ρ = [some (tabD t n B), some (pcD p), some (nT row), x, y]) ∧ ∀ b ∈ pre, tfB (barK t B) (widF B) p (row.take b) (row.getD b 0)) ⟨⟨none, none, rfl⟩, by simp⟩ ?_ ?_
  · rintro pre b post ρ e ⟨⟨x, y, rfl⟩, hall⟩
    have hb : b < row.length := by
      have : b ∈ List.range row.length := by rw [e]; simp
      simpa using this
    k_search [tie_fits_pb (t := t) (B := B) (row := row.take b) (tie := row.getD b 0) hp (by rw [List.length_take]; omega) hk]
    refine vB_pb (fun h => ?_) (fun h => ?_)
    · k_search []
      refine ⟨⟨_, _, rfl⟩, fun i hi => ?_⟩
      rcases List.mem_append.mp hi with hi | hi
      · exact hall i hi
      · simp at hi; subst hi; exact h
    · k_search []
      rw [pb_false fun z => h (z b hb)]
  · rintro ρ ⟨⟨x, y, rfl⟩, hall⟩
    k_search []
    rw [pb_true (show rfB (barK t B) (widF B) p row from fun b hb => hall b (by simpa using hb))]
def letB (K : List (List Nat)) (w : Nat) (p : List (List Nat)) : Prop := ∀ r ∈ p, rfB K w p r
theorem is_let_ok {t : List Nat} {n k : Nat} {B : List (List (List Nat))} {p : List (List Nat)} (hp : isPic p k n) (hk : k < 1000) : d_is_let [tabD t n B, pcD p] = .ok (.bl (pb (letB (barK t B) (widF B) p))) [tabD t n B, pcD p] := by
  apply vF_eq
  unfold d_is_let b_is_let
  k_search []
  refine vS_loop (enc := nT) (xs := p) (fun pre ρ => (∃ x, ρ = [some (tabD t n B), some (pcD p), x]) ∧ ∀ r ∈ pre, rfB (barK t B) (widF B) p r) ⟨⟨none, rfl⟩, by simp⟩ ?_ ?_
  · rintro pre r post ρ e ⟨⟨x, rfl⟩, hall⟩
    have hr := hp.rows r (by rw [e]; simp)
    k_search [row_fits_ok (t := t) (B := B) (row := r) hp (by omega) hk]
    refine vB_pb (fun h => ?_) (fun h => ?_)
    · k_search []
      refine ⟨⟨_, rfl⟩, fun i hi => ?_⟩
      rcases List.mem_append.mp hi with hi | hi
      · exact hall i hi
      · simp at hi; subst hi; exact h
    · k_search []
      rw [pb_false fun z => h (z r (by rw [e]; simp))]
  · rintro ρ ⟨⟨x, rfl⟩, hall⟩
    k_search []
    rw [pb_true (show letB (barK t B) (widF B) p from hall)]
theorem lets_ok {t : List Nat} {n k : Nat} {B : List (List (List Nat))} {p : List (List Nat)} (hp : isPic p k n) (hk : k < 1000) : d_lets [tabD t n B, pcD p] = .ok (.bl (pb (letB (barK t B) (widF B) p))) [tabD t n B, pcD p] := by
  apply vF_eq
  unfold d_lets b_lets
  k_search [check_picture_ok hp, is_let_ok (t := t) (B := B) hp hk]
/-- no key of three, none of six -/
def free3K (K : List (List Nat)) (p : List (List Nat)) (k : Nat) : Prop := ∀ a b c, a < b → b < c → c < k → key3 p a b c ∉ K
def free6K (K : List (List Nat)) (p : List (List Nat)) (k : Nat) : Prop := ∀ a b c d, a < b → b < c → c < d → d < k → key6 p a b c d ∉ K
theorem letB_iff {K : List (List Nat)} {w n k : Nat} {p : List (List Nat)} (hp : isPic p k n) : letB K w p ↔ free3K K p k ∧ (w = 4 → free6K K p k) := by
  have hpl := hp.1
  have tk : ∀ (l : List Nat) (a b : Nat), a < b → (l.take b).getD a 0 = l.getD a 0 := fun l a b h => by simp [List.getD, List.getElem?_take, h]
  constructor
  · intro h
    have h' : ∀ c, c < k → ∀ b, b < c → tfB K w p ((p.getD c []).take b) ((p.getD c []).getD b 0) := fun c hc b hb =>
      h _ (getD_mem (by omega)) b (by rw [hp.row hc]; exact hb)
    constructor
    · intro a b c h1 h2 h3
      have hl : ((p.getD c []).take b).length = b := by rw [List.length_take, hp.row h3]; omega
      have := (h' c h3 b h2).1 a (by rw [hl]; exact h1)
      rw [hl, tk _ _ _ h1] at this
      exact this
    · intro hw a b c d h1 h2 h3 h4
      have hl : ((p.getD d []).take c).length = c := by rw [List.length_take, hp.row h4]; omega
      have := (h' d h4 c h3).2 hw b (by rw [hl]; exact h2) a h1
      rw [hl, tk _ _ _ h2, tk _ _ _ (show a < c by omega)] at this
      exact this
  · rintro ⟨h3, h6⟩ r hr b hb
    obtain ⟨c, hc, rfl⟩ := List.getElem_of_mem hr
    have hck : c < k := by omega
    have er : p[c] = p.getD c [] := (gd hc []).symm
    rw [er] at hb ⊢
    rw [hp.row hck] at hb
    have hl : ((p.getD c []).take b).length = b := by rw [List.length_take, hp.row hck]; omega
    constructor
    · intro a ha
      rw [hl] at ha ⊢
      rw [tk _ _ _ ha]
      exact h3 a b c ha hb hck
    · intro hw j hj i hi
      rw [hl] at hj ⊢
      rw [tk _ _ _ hj, tk _ _ _ (show i < b by omega)]
      exact h6 hw i j b c hi hj hb hck
/-! ### the first barred places -/
def triL (k : Nat) : List (List Nat) := (List.range k).flatMap fun a => (rangeN (a + 1) k).flatMap fun b => (rangeN (b + 1) k).map fun c => [a, b, c]
def quadL (k : Nat) : List (List Nat) := (List.range k).flatMap fun a => (rangeN (a + 1) k).flatMap fun b => (rangeN (b + 1) k).flatMap fun c => (rangeN (c + 1) k).map fun d => [a, b, c, d]
theorem comb_tri : ∀ k ∈ List.range 13, combL k 3 = some (triL k) := by decide +kernel
theorem comb_quad : ∀ k ∈ List.range 13, combL k 4 = some (quadL k) := by decide +kernel
theorem mem_rangeN {i lo hi : Nat} : i ∈ rangeN lo hi ↔ lo ≤ i ∧ i < hi := by
  unfold rangeN
  simp only [List.mem_map, List.mem_range]
  constructor
  · rintro ⟨a, h, rfl⟩; omega
  · rintro ⟨h1, h2⟩; exact ⟨i - lo, by omega, by omega⟩
theorem mem_triL {k : Nat} {o : List Nat} : o ∈ triL k ↔ ∃ a b c, o = [a, b, c] ∧ a < b ∧ b < c ∧ c < k := by
  unfold triL
  simp only [List.mem_flatMap, List.mem_map, mem_rangeN, List.mem_range]
  constructor
  · rintro ⟨a, ha, b, ⟨h1, h2⟩, c, ⟨h3, h4⟩, rfl⟩; exact ⟨a, b, c, rfl, by omega, by omega, h4⟩
  · rintro ⟨a, b, c, rfl, h1, h2, h3⟩; exact ⟨a, by omega, b, ⟨by omega, by omega⟩, c, ⟨by omega, h3⟩, rfl⟩
theorem mem_quadL {k : Nat} {o : List Nat} : o ∈ quadL k ↔ ∃ a b c d, o = [a, b, c, d] ∧ a < b ∧ b < c ∧ c < d ∧ d < k := by
  unfold quadL
  simp only [List.mem_flatMap, List.mem_map, mem_rangeN, List.mem_range]
  constructor
  · rintro ⟨a, ha, b, ⟨h1, h2⟩, c, ⟨h3, h4⟩, d, ⟨h5, h6⟩, rfl⟩; exact ⟨a, b, c, d, rfl, by omega, by omega, by omega, h6⟩
  · rintro ⟨a, b, c, d, rfl, h1, h2, h3, h4⟩; exact ⟨a, by omega, b, ⟨by omega, by omega⟩, c, ⟨by omega, by omega⟩, d, ⟨by omega, h4⟩, rfl⟩
theorem tri_ord {k : Nat} {o : List Nat} (h : o ∈ triL k) : isOrd o 3 k := by
  obtain ⟨a, b, c, rfl, h1, h2, h3⟩ := mem_triL.mp h
  exact (asc3.mpr ⟨a, b, c, rfl, h1, h2, h3⟩).1
theorem quad_ord {k : Nat} {o : List Nat} (h : o ∈ quadL k) : isOrd o 4 k := by
  obtain ⟨a, b, c, d, rfl, h1, h2, h3, h4⟩ := mem_quadL.mp h
  refine ⟨rfl, by simp; omega, ?_⟩
  intro i hi; simp at hi; omega
theorem cbA_l {k r : Nat} {L : List (List Nat)} (h : combL k r = some L) (hr : r ≤ 1000) (hk : k ≤ 1000) (hlt : ∀ o ∈ L, ∀ i ∈ o, i < k) : cbA ((List.range k).map nD) (.int r) = some (L.map nT) := by
  unfold cbA
  rw [asI_int, Option.bind_some, List.length_map, List.length_range, Int.toNat_natCast, h, if_pos ⟨by omega, hr, hk⟩, Option.map_some]
  congr 1
  apply List.map_congr_left
  intro o ho
  unfold pickE nT
  congr 1
  apply List.map_congr_left
  intro i hi
  have := hlt o ho i hi
  simp [List.getD, this]
/-- the places of the first key that is barred -/
def hitO (K : List (List Nat)) (t : List Nat) (p : List (List Nat)) (o : List Nat) : Option D := if (pieceF t p o).flatten ∈ K then some (nT o) else none
def fbD (K : List (List Nat)) (w : Nat) (t : List Nat) (p : List (List Nat)) (k : Nat) : D := (((triL k).findSome? (hitO K t p)).or (if w = 4 then (quadL k).findSome? (hitO K t p) else none)).getD .non
theorem first_barred_ok {t : List Nat} {n k : Nat} {B : List (List (List Nat))} {p : List (List Nat)} (ht : isTurn t n) (hp : isPic p k n) (hk : k ≤ 12) (hw : widF B = 3 ∨ widF B = 4) : d_first_barred [tabD t n B, pcD p] = .ok (fbD (barK t B) (widF B) t p k) [tabD t n B, pcD p] := by
  have hpl := hp.1
  apply vF_eq
  unfold d_first_barred b_first_barred
  have hr : rg2D [.int 3, .int ((widF B + 1 : Nat) : Int)] = some ((rangeN 3 (widF B + 1)).map nD) := rg2D_nat (i := 3) (by omega) (by omega)
  have h3 : cbA ((List.range k).map nD) (.int 3) = some ((triL k).map nT) := cbA_l (r := 3) (comb_tri k (by simp; omega)) (by omega) (by omega) fun o ho => (tri_ord ho).2.2
  have h4 : cbA ((List.range k).map nD) (.int 4) = some ((quadL k).map nT) := cbA_l (r := 4) (comb_quad k (by simp; omega)) (by omega) (by omega) fun o ho => (quad_ord ho).2.2
  k_search [tab_widest, hr]
  refine vS_find (enc := nD) (xs := rangeN 3 (widF B + 1)) (fun r => (if r = 3 then triL k else quadL k).findSome? (hitO (barK t B) t p)) (fun ρ => ∃ x y, ρ = [some (tabD t n B), some (pcD p), x, y]) ⟨none, none, rfl⟩ ?_ ?_ ?_
  · rintro r hrm ρ ⟨x, y, rfl⟩
    have hr34 : r = 3 ∨ r = 4 := by have := mem_rangeN.mp hrm; omega
    have hcb : cbA ((List.range k).map nD) (.int r) = some ((if r = 3 then triL k else quadL k).map nT) := by
      rcases hr34 with rfl | rfl
      · exact h3
      · exact h4
    have hord : ∀ o ∈ (if r = 3 then triL k else quadL k), isOrd o r k := by
      rcases hr34 with rfl | rfl
      · exact fun o ho => tri_ord ho
      · exact fun o ho => quad_ord ho
    generalize (if r = 3 then triL k else quadL k) = L at *
    k_search [hpl, hcb]
    refine vS_find (enc := nT) (xs := L) (hitO (barK t B) t p) (fun ρ => ∃ y, ρ = [some (tabD t n B), some (pcD p), some (nD r), y]) ⟨_, rfl⟩ ?_ ?_ ?_
    · rintro o ho ρ ⟨y, rfl⟩
      have hoo := hord o ho
      k_search [tab_turn, cut_ok ht hp hoo (by omega), is_barred_ok (B := B) (t := t) (n := n) (isPic_piece ht hp hoo) (by omega)]
      refine vB_if (fun h => ?_) (fun h => ?_)
      · k_search []
        exact ⟨if_pos h, _, rfl⟩
      · k_search []
        exact ⟨if_neg h, _, rfl⟩
    · rintro ρ h ⟨y, rfl⟩
      exact ⟨h, _, _, rfl⟩
    · rintro d ρ h ⟨y, rfl⟩
      exact ⟨h, _, _, rfl⟩
  all_goals
    have e : ∀ f : Nat → Option D, (rangeN 3 (widF B + 1)).findSome? f = (f 3).or (if widF B = 4 then f 4 else none) := by
      intro f
      rcases hw with e | e
      · rw [e]
        show [3].findSome? f = _
        simp
      · rw [e]
        show [3, 4].findSome? f = _
        rw [List.findSome?_cons, List.findSome?_cons]
        cases f 3 <;> simp
        cases f 4 <;> simp
  · rintro ρ h ⟨x, y, rfl⟩
    rw [e] at h
    k_search []
    unfold fbD
    have h' : ((triL k).findSome? (hitO (barK t B) t p)).or (if widF B = 4 then (quadL k).findSome? (hitO (barK t B) t p) else none) = none := h
    rw [h']; rfl
  · rintro d ρ h ⟨x, y, rfl⟩
    rw [e] at h
    k_search []
    unfold fbD
    have h' : ((triL k).findSome? (hitO (barK t B) t p)).or (if widF B = 4 then (quadL k).findSome? (hitO (barK t B) t p) else none) = some d := h
    rw [h']; rfl
theorem barred_places_ok {t : List Nat} {n k : Nat} {B : List (List (List Nat))} {p : List (List Nat)} (ht : isTurn t n) (hp : isPic p k n) (hk : k ≤ 12) (hw : widF B = 3 ∨ widF B = 4) : d_barred_places [tabD t n B, pcD p] = .ok (fbD (barK t B) (widF B) t p k) [tabD t n B, pcD p] := by
  apply vF_eq
  unfold d_barred_places b_barred_places
  k_search [check_picture_ok hp, first_barred_ok ht hp hk hw]
end Dn.L

/-! P21: the law's own look for barred places. -/
namespace Dn.L
open PySem Dn
theorem find_flatMap {α β : Type} (f : β → Option D) (g : α → List β) : ∀ l : List α, (l.flatMap g).findSome? f = l.findSome? fun a => (g a).findSome? f
  | [] => rfl
  | a :: l => by
    rw [List.flatMap_cons, List.findSome?_append, find_flatMap f g l, List.findSome?_cons]
    cases (g a).findSome? f <;> rfl
theorem find_map {α β : Type} (f : β → Option D) (g : α → β) : ∀ l : List α, (l.map g).findSome? f = l.findSome? fun a => f (g a)
  | [] => rfl
  | a :: l => by
    rw [List.map_cons, List.findSome?_cons, find_map f g l, List.findSome?_cons]
theorem tri_find (f : List Nat → Option D) (k : Nat) : (triL k).findSome? f = (List.range k).findSome? fun a => (rangeN (a + 1) k).findSome? fun b => (rangeN (b + 1) k).findSome? fun c => f [a, b, c] := by
  unfold triL
  simp only [find_flatMap, find_map]
theorem quad_find (f : List Nat → Option D) (k : Nat) : (quadL k).findSome? f = (List.range k).findSome? fun a => (rangeN (a + 1) k).findSome? fun b => (rangeN (b + 1) k).findSome? fun c => (rangeN (c + 1) k).findSome? fun d => f [a, b, c, d] := by
  unfold quadL
  simp only [find_flatMap, find_map]
theorem hit3 (K : List (List Nat)) (t : List Nat) (p : List (List Nat)) {a b c : Nat} (h1 : a < b) (h2 : b < c) : hitO K t p [a, b, c] = if [(p.getD b []).getD a 0, (p.getD c []).getD a 0, (p.getD c []).getD b 0] ∈ K then some (nT [a, b, c]) else none := by
  unfold hitO; rw [piece3k h1 h2]; rfl
theorem hit6 (K : List (List Nat)) (t : List Nat) (p : List (List Nat)) {a b c d : Nat} (h1 : a < b) (h2 : b < c) (h3 : c < d) : hitO K t p [a, b, c, d] = if [(p.getD b []).getD a 0, (p.getD c []).getD a 0, (p.getD c []).getD b 0, (p.getD d []).getD a 0, (p.getD d []).getD b 0, (p.getD d []).getD c 0] ∈ K then some (nT [a, b, c, d]) else none := by
  unfold hitO; rw [piece6k h1 h2 h3]; rfl
theorem law_first_barred_ok {K : List (List Nat)} (t : List Nat) {n k : Nat} {p : List (List Nat)} (hp : isPic p k n) (hk : k < 1000) : d__law_first_barred [kvD nT (tL K), pcD p] = .ok (fbD K 4 t p k) [kvD nT (tL K), pcD p] := by
  have hpl := hp.1
  have hr : ∀ a : Nat, a < k → rg2D [.int ((a + 1 : Nat) : Int), .int (k : Int)] = some ((rangeN (a + 1) k).map nD) := fun a ha => rg2D_nat (by omega) (by omega)
  have hrow := fun i (hi : i < k) => hp.row hi
  apply vF_eq
  unfold d__law_first_barred b__law_first_barred
  k_search [hpl]
  refine vS_find (enc := nD) (xs := List.range k) (fun a => (rangeN (a + 1) k).findSome? fun b => (rangeN (b + 1) k).findSome? fun c => hitO K t p [a, b, c]) (fun ρ => ∃ x y z, ρ = [some (kvD nT (tL K)), some (pcD p), some (nD k), x, y, z, none, none]) ⟨none, none, none, rfl⟩ ?_ ?_ ?_
  · rintro a ha ρ ⟨x, y, z, rfl⟩
    have ha : a < k := by simpa using ha
    k_search [hr a ha]
    refine vS_find (enc := nD) (xs := rangeN (a + 1) k) (fun b => (rangeN (b + 1) k).findSome? fun c => hitO K t p [a, b, c]) (fun ρ => ∃ y z, ρ = [some (kvD nT (tL K)), some (pcD p), some (nD k), some (nD a), y, z, none, none]) ⟨_, _, rfl⟩ ?_ ?_ ?_
    · rintro b hb ρ ⟨y, z, rfl⟩
      have hb := mem_rangeN.mp hb
      have hbk := hb.2
      have hrb := hrow b hbk
      k_search [hr b hbk]
      refine vS_find (enc := nD) (xs := rangeN (b + 1) k) (fun c => hitO K t p [a, b, c]) (fun ρ => ∃ z, ρ = [some (kvD nT (tL K)), some (pcD p), some (nD k), some (nD a), some (nD b), z, none, none]) ⟨_, rfl⟩ ?_ ?_ ?_
      · rintro c hc ρ ⟨z, rfl⟩
        have hc := mem_rangeN.mp hc
        have hck := hc.2
        have hrc := hrow c hck
        have h1 : a < b := by omega
        have h2 : b < c := by omega
        rw [hit3 K t p h1 h2]
        k_search [dIn_key3]
        refine vB_if (fun h => ?_) (fun h => ?_)
        · k_search []
          exact ⟨if_pos h, _, rfl⟩
        · k_search []
          exact ⟨if_neg h, _, rfl⟩
      · rintro ρ h ⟨z, rfl⟩
        exact ⟨h, _, _, rfl⟩
      · rintro d ρ h ⟨z, rfl⟩
        exact ⟨h, _, _, rfl⟩
    · rintro ρ h ⟨y, z, rfl⟩
      exact ⟨h, _, _, _, rfl⟩
    · rintro d ρ h ⟨y, z, rfl⟩
      exact ⟨h, _, _, _, rfl⟩
  · rintro ρ h ⟨x, y, z, rfl⟩
    have h0 : (triL k).findSome? (hitO K t p) = none := by rw [tri_find]; exact h
    k_search []
    refine vS_find (enc := nD) (xs := List.range k) (fun a => (rangeN (a + 1) k).findSome? fun b => (rangeN (b + 1) k).findSome? fun c => (rangeN (c + 1) k).findSome? fun d => hitO K t p [a, b, c, d]) (fun ρ => ∃ x y z w q, ρ = [some (kvD nT (tL K)), some (pcD p), some (nD k), x, y, z, w, q]) ⟨_, _, _, _, _, rfl⟩ ?_ ?_ ?_
    · rintro a ha ρ ⟨x, y, z, w, q, rfl⟩
      have ha : a < k := by simpa using ha
      k_search [hr a ha]
      refine vS_find (enc := nD) (xs := rangeN (a + 1) k) (fun b => (rangeN (b + 1) k).findSome? fun c => (rangeN (c + 1) k).findSome? fun d => hitO K t p [a, b, c, d]) (fun ρ => ∃ x y z q, ρ = [some (kvD nT (tL K)), some (pcD p), some (nD k), x, y, z, some (nD a), q]) ⟨_, _, _, _, rfl⟩ ?_ ?_ ?_
      · rintro b hb ρ ⟨x, y, z, q, rfl⟩
        have hb := mem_rangeN.mp hb
        have hbk := hb.2
        have hrb := hrow b hbk
        k_search [hr b hbk]
        refine vS_find (enc := nD) (xs := rangeN (b + 1) k) (fun c => (rangeN (c + 1) k).findSome? fun d => hitO K t p [a, b, c, d]) (fun ρ => ∃ y z q, ρ = [some (kvD nT (tL K)), some (pcD p), some (nD k), some (nD b), y, z, some (nD a), q]) ⟨_, _, _, rfl⟩ ?_ ?_ ?_
        · rintro c hc ρ ⟨y, z, q, rfl⟩
          have hc := mem_rangeN.mp hc
          have hck := hc.2
          have hrc := hrow c hck
          have h1 : a < b := by omega
          have h2 : b < c := by omega
          k_search [hr c hck]
          refine vS_find (enc := nD) (xs := rangeN (c + 1) k) (fun d => hitO K t p [a, b, c, d]) (fun ρ => ∃ z, ρ = [some (kvD nT (tL K)), some (pcD p), some (nD k), some (nD b), some (nD c), z, some (nD a), some (nT [(p.getD b []).getD a 0, (p.getD c []).getD a 0, (p.getD c []).getD b 0])]) ⟨_, rfl⟩ ?_ ?_ ?_
          · rintro d hd ρ ⟨z, rfl⟩
            have hd := mem_rangeN.mp hd
            have hdk := hd.2
            have hrd := hrow d hdk
            have h3 : c < d := by omega
            rw [hit6 K t p h1 h2 h3]
            k_search [dIn_key6]
            refine vB_if (fun h => ?_) (fun h => ?_)
            · k_search []
              exact ⟨if_pos h, _, rfl⟩
            · k_search []
              exact ⟨if_neg h, _, rfl⟩
          · rintro ρ h ⟨z, rfl⟩
            exact ⟨h, _, _, _, rfl⟩
          · rintro d ρ h ⟨z, rfl⟩
            exact ⟨h, _, _, _, rfl⟩
        · rintro ρ h ⟨y, z, q, rfl⟩
          exact ⟨h, _, _, _, _, rfl⟩
        · rintro d ρ h ⟨y, z, q, rfl⟩
          exact ⟨h, _, _, _, _, rfl⟩
      · rintro ρ h ⟨x, y, z, q, rfl⟩
        exact ⟨h, _, _, _, _, _, rfl⟩
      · rintro d ρ h ⟨x, y, z, q, rfl⟩
        exact ⟨h, _, _, _, _, _, rfl⟩
    · rintro ρ h ⟨x, y, z, w, q, rfl⟩
      have h2 : (quadL k).findSome? (hitO K t p) = none := by rw [quad_find]; exact h
      k_search []
      unfold fbD
      rw [h0, h2]; rfl
    · rintro d ρ h ⟨x, y, z, w, q, rfl⟩
      have h2 : (quadL k).findSome? (hitO K t p) = some d := by rw [quad_find]; exact h
      k_search []
      unfold fbD
      rw [h0, h2]; rfl
  · rintro d ρ h ⟨x, y, z, rfl⟩
    have h0 : (triL k).findSome? (hitO K t p) = some d := by rw [tri_find]; exact h
    k_search []
    unfold fbD
    rw [h0]; rfl
end Dn.L

/-! K09: the law. -/
namespace Dn.L
open PySem Dn
theorem barred_frz (q : D) {t : List Nat} {n : Nat} {bs : List (List (List Nat))} (hq : itemsR q = some (bs.map pcD)) (ht : isTurn t n) (hb : ∀ b ∈ bs, isBar b n) (hl : bs.length ≤ 1000) : d__law_barred [nT t, q] = .ok (kvD nT (tL (lawK t bs))) [nT t, q] := by
  apply vF_eq
  unfold d__law_barred b__law_barred
  k_search [hq]
  refine vS_loop (enc := pcD) (xs := bs) (fun pre ρ => ∃ a b, ρ = [some (nT t), some q, some (kvD nT (tL (lawK t pre))), a, b]) ⟨none, none, rfl⟩ ?_ ?_
  · rintro pre b post ρ e ⟨x, y, rfl⟩
    have hbb := hb b (by rw [e]; simp)
    have hlen := hbb.len
    have hK := lawFold_len t n pre [] fun b hb' => hb b (by rw [e]; simp [hb'])
    have hpl : pre.length + 1 ≤ 1000 := by rw [e] at hl; simp at hl; omega
    have hst : lawK t (pre ++ [b]) = (ordAll b.length b.length).foldl (fun K o => sPutK K (pieceF t b o).flatten) (lawK t pre) := by
      unfold lawK; rw [List.foldl_append]; rfl
    rw [hst]
    have hK : (lawK t pre).length ≤ pre.length * 256 := by simpa [lawK] using hK
    generalize lawK t pre = K at *
    k_search [orders_ok (show b.length ≤ 7 by omega)]
    refine vS_fold (enc := nT) (xs := ordAll b.length b.length) (fun K o => sPutK K (pieceF t b o).flatten) K (fun K ρ => ∃ b', ρ = [some (nT t), some q, some (kvD nT (tL K)), some (pcD b), b']) ⟨_, rfl⟩ ?_ ?_
    · rintro pre2 o post2 ρ e2 ⟨y, rfl⟩
      have ho := (mem_ordAll b.length o).mp (by rw [e2]; simp)
      have h1 := foldl_put_len (fun o => (pieceF t b o).flatten) pre2 K
      have h2 := ordAll_len b.length b.length
      have h4 : b.length ^ b.length ≤ 256 := by rcases hlen with e | e <;> rw [e] <;> decide
      have h3 : pre2.length + 1 ≤ (ordAll b.length b.length).length := by rw [e2]; simp
      have hp := isPic_piece ht hbb.pic ho
      have hf := flatten_len hp (by omega)
      generalize pre2.foldl (fun K o => sPutK K (pieceF t b o).flatten) K = K2 at *
      k_search [piece_ok ht hbb.pic ho (by omega), law_flat_ok (pieceF t b o) (by omega)]
      k_search [kE_n.dPut (tL K2) (pieceF t b o).flatten (.bl true) (by simp; omega), aPut_t]
      exact ⟨_, rfl⟩
    · rintro ρ ⟨y, rfl⟩
      exact ⟨_, _, rfl⟩
  · rintro ρ ⟨x, y, rfl⟩
    k_search []
/-- what the law's look at a row tells -/
def mt (K : List (List Nat)) (p : List (List Nat)) (row : List Nat) (m : Nat) : Option D := (List.range m).findSome? fun i => (hitB (decide ([(p.getD m []).getD i 0, row.getD i 0, row.getD m 0] ∈ K))).or ((List.range i).findSome? fun h => hitB (decide ([(p.getD i []).getD h 0, (p.getD m []).getD h 0, (p.getD m []).getD i 0, row.getD h 0, row.getD i 0, row.getD m 0] ∈ K)))
theorem mt_bl {K : List (List Nat)} {p : List (List Nat)} {row : List Nat} {m : Nat} {d : D} (h : mt K p row m = some d) : d = .bl false := by
  unfold mt at h
  obtain ⟨a, _, e⟩ := List.exists_of_findSome?_eq_some h
  cases h1 : hitB (decide ([(p.getD m []).getD a 0, row.getD a 0, row.getD m 0] ∈ K)) with
  | none => rw [h1] at e; exact findB e
  | some d' =>
    rw [h1] at e
    unfold hitB at h1
    split at h1
    · injection h1 with h1; injection e with e; rw [← e, ← h1]
    · cases h1
def meetsD (K : List (List Nat)) (p : List (List Nat)) (row : List Nat) : Bool := (mt K p row (row.length - 1)).isNone
theorem meets_ok {K : List (List Nat)} {p : List (List Nat)} {row : List Nat} {k n : Nat} (hp : isPic p k n) (h1 : 1 ≤ row.length) (h2 : row.length ≤ k) (hk : k < 1000) : d__law_meets [kvD nT (tL K), pcD p, nT row] = .ok (.bl (meetsD K p row)) [kvD nT (tL K), pcD p, nT row] := by
  unfold meetsD
  have hpl := hp.1
  obtain ⟨m, hm⟩ : ∃ m, row.length = m + 1 := ⟨row.length - 1, by omega⟩
  have e : row.length - 1 = m := by omega
  rw [e]
  have hrow := hp.row (show m < k by omega)
  apply vF_eq
  unfold d__law_meets b__law_meets
  k_search [hm]
  rw [show m + 1 - 1 = m from rfl]
  refine vS_find (enc := nD) (xs := List.range m) (fun i => (hitB (decide ([(p.getD m []).getD i 0, row.getD i 0, row.getD m 0] ∈ K))).or ((List.range i).findSome? fun h => hitB (decide ([(p.getD i []).getD h 0, (p.getD m []).getD h 0, (p.getD m []).getD i 0, row.getD h 0, row.getD i 0, row.getD m 0] ∈ K)))) (fun ρ => ∃ x y, ρ = [some (kvD nT (tL K)), some (pcD p), some (nT row), some (nD m), x, y]) ⟨none, none, rfl⟩ ?_ ?_ ?_
  · rintro i hi ρ ⟨x, y, rfl⟩
    have hi : i < m := by simpa using hi
    have hri := hp.row (show i < k by omega)
    rw [hitB_dec]
    k_search [dIn_key3]
    refine vB_if (fun h => ?_) (fun h => ?_)
    · k_search []
      exact ⟨by rw [if_pos h]; rfl, _, _, rfl⟩
    · rw [if_neg h]
      k_search []
      refine vS_find (enc := nD) (xs := List.range i) (fun h => hitB (decide ([(p.getD i []).getD h 0, (p.getD m []).getD h 0, (p.getD m []).getD i 0, row.getD h 0, row.getD i 0, row.getD m 0] ∈ K))) (fun ρ => ∃ y, ρ = [some (kvD nT (tL K)), some (pcD p), some (nT row), some (nD m), some (nD i), y]) ⟨_, rfl⟩ ?_ ?_ ?_
      · rintro j hj ρ ⟨y, rfl⟩
        have hj : j < i := by simpa using hj
        rw [hitB_dec]
        k_search [dIn_key6]
        refine vB_if (fun h => ?_) (fun h => ?_)
        · k_search []
          exact ⟨if_pos h, _, rfl⟩
        · k_search []
          exact ⟨if_neg h, _, rfl⟩
      · rintro ρ h ⟨y, rfl⟩
        exact ⟨h, _, _, rfl⟩
      · rintro d ρ h ⟨y, rfl⟩
        exact ⟨h, _, _, rfl⟩
  · rintro ρ h ⟨x, y, rfl⟩
    have h : mt K p row m = none := h
    k_search []
    rw [h]; rfl
  · rintro d ρ h ⟨x, y, rfl⟩
    have h : mt K p row m = some d := h
    have hd := mt_bl h
    subst hd
    k_search []
    rw [h]; rfl
/-- no barred key among what has been drawn -/
def rowOk (K : List (List Nat)) (p : List (List Nat)) (row : List Nat) : Prop := ∀ m, m < row.length → ∀ i, i < m → [(p.getD m []).getD i 0, row.getD i 0, row.getD m 0] ∉ K ∧ ∀ h, h < i → [(p.getD i []).getD h 0, (p.getD m []).getD h 0, (p.getD m []).getD i 0, row.getD h 0, row.getD i 0, row.getD m 0] ∉ K
theorem meetsD_true {K : List (List Nat)} {p : List (List Nat)} {row : List Nat} {m : Nat} (hm : row.length = m + 1) (h : meetsD K p row = true) : ∀ i, i < m → [(p.getD m []).getD i 0, row.getD i 0, row.getD m 0] ∉ K ∧ ∀ h, h < i → [(p.getD i []).getD h 0, (p.getD m []).getD h 0, (p.getD m []).getD i 0, row.getD h 0, row.getD i 0, row.getD m 0] ∉ K := by
  unfold meetsD at h
  rw [hm, show m + 1 - 1 = m from rfl, Option.isNone_iff_eq_none] at h
  unfold mt at h
  rw [List.findSome?_eq_none_iff] at h
  intro i hi
  have h1 := h i (by simpa using hi)
  rw [Option.or_eq_none_iff] at h1
  obtain ⟨h1, h2⟩ := h1
  constructor
  · intro z
    rw [hitB_dec, if_pos z] at h1; cases h1
  · intro j hj
    exact (hit_none.mp h2) j (by simpa using hj)
theorem gdA {α : Type} {l : List α} {i : Nat} (h : i < l.length) (x d : α) : (l ++ [x]).getD i d = l.getD i d := by
  rw [gd h, gd (show i < (l ++ [x]).length by simp; omega), List.getElem_append_left h]
theorem gdE {α : Type} {l : List α} (x d : α) : (l ++ [x]).getD l.length d = x := by
  rw [gd (show l.length < (l ++ [x]).length by simp)]; simp
theorem rowOk_app {K : List (List Nat)} {p : List (List Nat)} {r : List Nat} {x : Nat} (h : rowOk K p r) (hm : meetsD K p (r ++ [x]) = true) : rowOk K p (r ++ [x]) := by
  intro m hml i hi
  rw [List.length_append] at hml
  by_cases e : m < r.length
  · have := h m e i hi
    rw [gdA e, gdA (show i < r.length by omega)]
    refine ⟨this.1, fun j hj => ?_⟩
    rw [gdA (show j < r.length by omega)]
    exact this.2 j hj
  · have e : m = r.length := by simp at hml; omega
    subst e
    exact meetsD_true (m := r.length) (by simp) hm i hi
theorem free_app {K : List (List Nat)} {p : List (List Nat)} {r : List Nat} {k n : Nat} (hp : isPic p k n) (hr : isRow r k n) (h3 : free3K K p k) (h6 : free6K K p k) (h : rowOk K p r) : free3K K (p ++ [r]) (k + 1) ∧ free6K K (p ++ [r]) (k + 1) := by
  have hpl := hp.1
  have hrl := hr.1
  have ek : (p ++ [r]).getD k [] = r := by rw [← hpl]; exact gdE _ _
  have el : ∀ i, i < k → (p ++ [r]).getD i [] = p.getD i [] := fun i hi => gdA (by omega) _ _
  constructor
  · intro a b c h1 h2 hc
    unfold key3
    rw [el b (by omega)]
    by_cases e : c < k
    · rw [el c e]; exact h3 a b c h1 h2 e
    · have e : c = k := by omega
      subst e
      rw [ek]
      exact (h b (by omega) a h1).1
  · intro a b c d h1 h2 h3' hd
    unfold key6
    rw [el b (by omega), el c (by omega)]
    by_cases e : d < k
    · rw [el d e]; exact h6 a b c d h1 h2 h3' e
    · have e : d = k := by omega
      subst e
      rw [ek]
      exact (h c (by omega) b h2).2 a h1
theorem drawn_row_ok (s : Src) {K : List (List Nat)} {p : List (List Nat)} {k n : Nat} (hp : isPic p k n) (hk : k < 1000) (hn : n < 100) : ∃ s' d, d__law_drawn_row [src s, kvD nT (tL K), pcD p, .int n] = .ok d [src s', kvD nT (tL K), pcD p, .int n] ∧ (d = .non ∨ ∃ r, d = nT r ∧ isRow r k n ∧ rowOk K p r) := by
  suffices h : vF (d__law_drawn_row [src s, kvD nT (tL K), pcD p, .int n]) (h := ⟨fun d ds => ∃ s', ds = [src s', kvD nT (tL K), pcD p, .int n] ∧ (d = .non ∨ ∃ r, d = nT r ∧ isRow r k n ∧ rowOk K p r), fun _ _ => False⟩) by
    obtain ⟨d, _, e, s', rfl, h2⟩ := vF_ex h
    exact ⟨s', d, e, h2⟩
  have hpl := hp.1
  unfold d__law_drawn_row b__law_drawn_row
  k_search []
  rw [hpl]
  refine vS_range (fun j ρ => ∃ s' r a b, ρ = [some (src s'), some (kvD nT (tL K)), some (pcD p), some (.int n), some (nT r), a, b, none] ∧ isRow r j n ∧ rowOk K p r) ⟨s, [], none, none, rfl, ⟨rfl, by simp⟩, fun m hm => by simp at hm⟩ ?_ ?_
  · intro j ρ hj hI
    obtain ⟨s, r, a, b, e, hr, hok⟩ := hI
    subst e
    have hrl := hr.1
    k_search []
    refine vE_lcf (enc := nD) (xs := List.range n) (fun x => meetsD K p (r ++ [x])) nD (by simp; omega) ?_ ?_
    · intro x hx
      k_search [meets_ok (K := K) (row := r ++ [x]) hp (by simp) (by simp; omega) hk]
      cases meetsD K p (r ++ [x]) <;> k_search []
    · generalize hq : (List.range n).filter (fun x => meetsD K p (r ++ [x])) = fr
      have hfr : ∀ x ∈ fr, x < n := by
        intro x hx
        rw [← hq] at hx
        simpa using (List.mem_filter.mp hx).1
      have hfm : ∀ x ∈ fr, meetsD K p (r ++ [x]) = true := by
        intro x hx
        rw [← hq] at hx
        simpa using (List.mem_filter.mp hx).2
      have hfl : fr.length ≤ n := by
        rw [← hq]
        have := List.length_filter_le (fun x => meetsD K p (r ++ [x])) (List.range n)
        simpa using this
      k_search []
      refine vB_if (fun h => ?_) (fun h => ?_)
      · k_search []
        exact ⟨_, rfl, by simp⟩
      · have hd := drN_lt (s := s) (m := fr.length) (by omega)
        k_search [draw_ok (s := s) (m := fr.length) (by omega) (by omega)]
        have hmem : fr.getD (drN s fr.length) 0 ∈ fr := getD_mem (by omega)
        have hfl0 : fr.length ≤ n := hfl
        have q1 := isRow_app hr (hfr _ hmem)
        have q2 := rowOk_app hok (hfm _ hmem)
        exact ⟨_, r ++ [fr.getD (drN s fr.length) 0], _, _, rfl, q1, q2⟩
  · intro ρ hI
    obtain ⟨s, r, a, b, e, hr, hok⟩ := hI
    subst e
    k_search []
    exact ⟨s, rfl, .inr ⟨r, rfl, hr, hok⟩⟩
theorem drawn_let_ok (s : Src) {K : List (List Nat)} {n m : Nat} (hn : n < 100) (hm : m < 900) : ∃ s' p k, d__law_drawn_let [src s, kvD nT (tL K), .int n, .int m] = .ok (pcD p) [src s', kvD nT (tL K), .int n, .int m] ∧ isPic p k n ∧ k ≤ m ∧ free3K K p k ∧ free6K K p k := by
  suffices h : vF (d__law_drawn_let [src s, kvD nT (tL K), .int n, .int m]) (h := ⟨fun d ds => ∃ s' p k, d = pcD p ∧ ds = [src s', kvD nT (tL K), .int n, .int m] ∧ isPic p k n ∧ k ≤ m ∧ free3K K p k ∧ free6K K p k, fun _ _ => False⟩) by
    obtain ⟨_, _, e, s', p, k, rfl, rfl, h2⟩ := vF_ex h
    exact ⟨s', p, k, e, h2⟩
  unfold d__law_drawn_let b__law_drawn_let
  k_search []
  refine vS_range (fun j ρ => ∃ s' p k a b, ρ = [some (src s'), some (kvD nT (tL K)), some (.int n), some (.int m), some (pcD p), a, b] ∧ isPic p k n ∧ k ≤ j ∧ free3K K p k ∧ free6K K p k) ⟨s, [], 0, none, none, rfl, ⟨rfl, by simp⟩, by omega, fun a b c _ _ h => by omega, fun a b c d _ _ _ h => by omega⟩ ?_ ?_
  · rintro j ρ hj ⟨s, p, k, a, b, rfl, hp, hkj, hf3, hf6⟩
    have hpl := hp.1
    obtain ⟨s', d, hd, hd2⟩ := drawn_row_ok s (K := K) hp (by omega) hn
    rcases hd2 with rfl | ⟨r, rfl, hr, hok⟩
    · k_search [hd]
      exact ⟨s', p, k, _, _, rfl, hp, by omega, hf3, hf6⟩
    · k_search [hd]
      exact ⟨s', p ++ [r], k + 1, _, _, rfl, isPic_app hp hr, by omega, free_app hp hr hf3 hf6 hok⟩
  · rintro ρ ⟨s, p, k, a, b, rfl, hp, hkj, hf⟩
    k_search []
    exact ⟨s, p, k, rfl, rfl, hp, hkj, hf⟩
theorem changed_ok (s : Src) {p : List (List Nat)} {n k : Nat} (hp : isPic p k n) (hk2 : k < 900) (hn : 0 < n) (hn2 : n < 100) : ∃ s' q, d__law_changed [src s, pcD p, .int n] = .ok (pcD q) [src s', pcD p, .int n] ∧ isPic q k n := by
  suffices h : vF (d__law_changed [src s, pcD p, .int n]) (h := ⟨fun r ds => ∃ s' q, r = pcD q ∧ ds = [src s', pcD p, .int n] ∧ isPic q k n, fun _ _ => False⟩) by
    obtain ⟨_, _, e, s', t, rfl, rfl, ht⟩ := vF_ex h
    exact ⟨s', t, e, ht⟩
  unfold d__law_changed b__law_changed
  have hl := hp.1
  have dr : ∀ s : Src, ∀ m : Nat, 0 < m → m < 1000 → d__law_draw [src s, .int m] = .ok (.int (drN s m)) [src (drS s m), .int m] := fun s m h1 h2 => draw_ok (by omega) (by omega)
  have dl : ∀ s : Src, ∀ m : Nat, 0 < m → drN s m < m := fun s m hm => by have := drN_lt (s := s) (m := m) (by omega); omega
  k_search [hl]
  refine vB_if (fun h => ?_) (fun h => ?_)
  · k_search []
    exact ⟨s, p, rfl, rfl, hp⟩
  have h1 := dl s (k - 1) (by omega)
  k_search [hl, dr s (k - 1) (by omega) (by omega)]
  generalize drN s ↑(k - 1) = a0 at *
  generalize drS s ↑(k - 1) = s1
  have h2 := dl s1 (1 + a0) (by omega)
  have hrow := hp.2 (1 + a0) (by omega)
  have hrl := hrow.1
  k_search [hl, dr s1 (1 + a0) (by omega) (by omega)]
  generalize drN s1 ↑(1 + a0) = b0 at *
  generalize drS s1 ↑(1 + a0) = s2
  have ha : 1 + a0 < k := by omega
  generalize 1 + a0 = a at *
  have h3 := dl s2 n hn
  k_search [dr s2 n hn (by omega)]
  refine ⟨_, p.set a ((p.getD a []).set b0 (drN s2 n)), ?_, rfl, isPic_set hp (by omega) (isRow_set hrow h3)⟩
  rw [← set_parts (show a < p.length by omega), ← set_parts (show b0 < (p.getD a []).length by omega)]
theorem dNe_bb (x : Bool) : dNe (.bl x) (.bl x) = some (.bl false) := by cases x <;> rfl
theorem dIsB_bl (a b : Bool) : dIsB (.bl a) (.bl b) = some (.bl (a == b)) := by rw [dIsB]
theorem flat3 {x : List (List Nat)} {n : Nat} (h : isPic x 3 n) : x.flatten.length = 3 := by
  match x, h with
  | [a, b, c], h =>
    have h0 : a.length = 0 := h.row (show 0 < 3 by omega)
    have h1 : b.length = 1 := h.row (show 1 < 3 by omega)
    have h2 : c.length = 2 := h.row (show 2 < 3 by omega)
    simp [h0, h1, h2]
  | [], h => exact absurd h.1 (by simp)
  | [_], h => exact absurd h.1 (by simp)
  | [_, _], h => exact absurd h.1 (by simp)
  | _ :: _ :: _ :: _ :: _, h => exact absurd h.1 (by simp)
theorem widF_aux : ∀ (B : List (List (List Nat))) (w : Nat), (w = 3 ∨ w = 4) → (∀ b ∈ B, b.length = 3 ∨ b.length = 4) → (B.foldl (fun w b => max w b.length) w = 4) ∨ (B.foldl (fun w b => max w b.length) w = 3 ∧ ∀ b ∈ B, b.length = 3)
  | [], w, hw, _ => by
    rcases hw with rfl | rfl
    · exact .inr ⟨rfl, by simp⟩
    · exact .inl rfl
  | b :: B, w, hw, h => by
    have hb := h b (by simp)
    have hB := fun x (hx : x ∈ B) => h x (by simp [hx])
    have keep4 : B.foldl (fun w b => max w b.length) 4 = 4 := by
      rcases widF_aux B 4 (.inr rfl) hB with e | ⟨e, _⟩
      · exact e
      · have : ∀ (B : List (List (List Nat))) (w : Nat), w ≤ B.foldl (fun w b => max w b.length) w := by
          intro B; induction B with
          | nil => intro w; exact Nat.le_refl _
          | cons b B ih => intro w; exact Nat.le_trans (Nat.le_max_left _ _) (ih _)
        have := this B 4
        omega
    rw [List.foldl_cons]
    rcases hw with rfl | rfl <;> rcases hb with e | e
    · rw [e, show max 3 3 = 3 from rfl]
      rcases widF_aux B 3 (.inl rfl) hB with e2 | ⟨e2, e3⟩
      · exact .inl e2
      · exact .inr ⟨e2, fun x hx => by
          rcases List.mem_cons.mp hx with rfl | hx
          · exact e
          · exact e3 x hx⟩
    · rw [e, show max 3 4 = 4 from rfl]; exact .inl keep4
    · rw [e, show max 4 3 = 4 from rfl]; exact .inl keep4
    · rw [e, show max 4 4 = 4 from rfl]; exact .inl keep4
theorem widF_bars {B : List (List (List Nat))} {n : Nat} (h : ∀ b ∈ B, isBar b n) : widF B = 4 ∨ (widF B = 3 ∧ ∀ b ∈ B, b.length = 3) := widF_aux B 3 (.inl rfl) fun b hb => (h b hb).len
theorem key6_out {t : List Nat} {n k : Nat} {B : List (List (List Nat))} (ht : isTurn t n) (h : ∀ b ∈ B, isBar b n) (h3 : ∀ b ∈ B, b.length = 3) (p : List (List Nat)) : free6K (barK t B) p k := by
  intro a b c d _ _ _ _ hm
  obtain ⟨f, hf, o, ho, e⟩ := mem_barK.mp hm
  have hfp : isPic f 3 n := by
    rcases h f hf with q | q
    · exact q
    · have := h3 f hf; rw [q.1] at this; omega
  have ho2 : isOrd o 3 3 := by
    rw [h3 f hf] at ho
    exact (mem_perms (.inl rfl) o).mp ho
  have hl := flat3 (isPic_piece ht hfp ho2)
  rw [← e] at hl
  simp [key6] at hl
theorem find_hit {K : List (List Nat)} {t : List Nat} {p : List (List Nat)} {L : List (List Nat)} : L.findSome? (hitO K t p) = none ↔ ∀ o ∈ L, (pieceF t p o).flatten ∉ K := by
  rw [List.findSome?_eq_none_iff]
  constructor
  · intro h o ho z
    have := h o ho
    unfold hitO at this
    rw [if_pos z] at this; cases this
  · intro h o ho
    unfold hitO
    rw [if_neg (h o ho)]
theorem find_tri {K : List (List Nat)} {t : List Nat} {p : List (List Nat)} {k : Nat} : (triL k).findSome? (hitO K t p) = none ↔ free3K K p k := by
  rw [find_hit]
  constructor
  · intro h a b c h1 h2 h3
    have := h [a, b, c] (mem_triL.mpr ⟨a, b, c, rfl, h1, h2, h3⟩)
    rwa [piece3k h1 h2] at this
  · intro h o ho
    obtain ⟨a, b, c, rfl, h1, h2, h3⟩ := mem_triL.mp ho
    rw [piece3k h1 h2]; exact h a b c h1 h2 h3
theorem find_quad {K : List (List Nat)} {t : List Nat} {p : List (List Nat)} {k : Nat} : (quadL k).findSome? (hitO K t p) = none ↔ free6K K p k := by
  rw [find_hit]
  constructor
  · intro h a b c d h1 h2 h3 h4
    have := h [a, b, c, d] (mem_quadL.mpr ⟨a, b, c, d, rfl, h1, h2, h3, h4⟩)
    rwa [piece6k h1 h2 h3] at this
  · intro h o ho
    obtain ⟨a, b, c, d, rfl, h1, h2, h3, h4⟩ := mem_quadL.mp ho
    rw [piece6k h1 h2 h3]; exact h a b c d h1 h2 h3 h4
theorem hitO_cong {K K' : List (List Nat)} (h : ∀ x, x ∈ K ↔ x ∈ K') (t : List Nat) (p : List (List Nat)) : hitO K t p = hitO K' t p := by
  funext o
  unfold hitO
  by_cases q : (pieceF t p o).flatten ∈ K'
  · rw [if_pos q, if_pos ((h _).mpr q)]
  · rw [if_neg q, if_neg fun z => q ((h _).mp z)]
theorem fbD_eq {t : List Nat} {n : Nat} {bs : List (List (List Nat))} (ht : isTurn t n) (hb : ∀ b ∈ bs, isBar b n) (p : List (List Nat)) (k : Nat) : fbD (lawK t bs) 4 t p k = fbD (barK t (barsOf t bs)) (widF (barsOf t bs)) t p k := by
  have e := hitO_cong (fun x => (mem_barK_law ht hb (k := x)).symm) t p
  unfold fbD
  rw [e]
  have hB := barsOf_bar ht hb
  rcases widF_bars hB with w | ⟨w, h3⟩
  · rw [w]
  · rw [w, if_pos rfl, if_neg (by omega), find_quad.mpr (key6_out ht hB h3 p)]
theorem fbD_cases (K : List (List Nat)) (w : Nat) (t : List Nat) (p : List (List Nat)) (k : Nat) : (fbD K w t p k = .non ∧ (free3K K p k ∧ (w = 4 → free6K K p k))) ∨ ((∃ o, fbD K w t p k = nT o ∧ o.length < 1000000) ∧ ¬ (free3K K p k ∧ (w = 4 → free6K K p k))) := by
  have hit : ∀ L : List (List Nat), (∀ o ∈ L, o.length < 1000000) → ∀ d, L.findSome? (hitO K t p) = some d → ∃ o, d = nT o ∧ o.length < 1000000 := by
    intro L hL d h
    obtain ⟨o, ho, e⟩ := List.exists_of_findSome?_eq_some h
    unfold hitO at e
    split at e
    · injection e with e; exact ⟨o, e.symm, hL o ho⟩
    · cases e
  have l3 : ∀ o ∈ triL k, o.length < 1000000 := fun o ho => by rw [(tri_ord ho).1]; omega
  have l4 : ∀ o ∈ quadL k, o.length < 1000000 := fun o ho => by rw [(quad_ord ho).1]; omega
  unfold fbD
  cases e3 : (triL k).findSome? (hitO K t p) with
  | some d =>
    obtain ⟨o, rfl, ho⟩ := hit _ l3 d e3
    refine .inr ⟨⟨o, rfl, ho⟩, fun z => ?_⟩
    rw [find_tri.mpr z.1] at e3; cases e3
  | none =>
    by_cases w4 : w = 4
    · rw [if_pos w4]
      cases e4 : (quadL k).findSome? (hitO K t p) with
      | some d =>
        obtain ⟨o, rfl, ho⟩ := hit _ l4 d e4
        refine .inr ⟨⟨o, rfl, ho⟩, fun z => ?_⟩
        rw [find_quad.mpr (z.2 w4)] at e4; cases e4
      | none => exact .inl ⟨rfl, find_tri.mp e3, fun _ => find_quad.mp e4⟩
    · rw [if_neg w4]
      exact .inl ⟨rfl, find_tri.mp e3, fun z => absurd z w4⟩
theorem ask_ok {t : List Nat} {n k : Nat} {bs : List (List (List Nat))} {p : List (List Nat)} (ht : isTurn t n) (hb : ∀ b ∈ bs, isBar b n) (hp : isPic p k n) (hk : k ≤ 12) : d__law_ask [tabD t n (barsOf t bs), kvD nT (tL (lawK t bs)), pcD p] = .ok (.bl true) [tabD t n (barsOf t bs), kvD nT (tL (lawK t bs)), pcD p] := by
  have hB := barsOf_bar ht hb
  have hw : widF (barsOf t bs) = 3 ∨ widF (barsOf t bs) = 4 := (widF_bars hB).elim .inr fun h => .inl h.1
  have e1 := law_first_barred_ok (K := lawK t bs) t hp (by omega)
  rw [fbD_eq ht hb] at e1
  have e2 := barred_places_ok (B := barsOf t bs) ht hp hk hw
  have e3 := lets_ok (t := t) (B := barsOf t bs) hp (by omega)
  rw [pb_iff (letB_iff hp)] at e3
  have hc := fbD_cases (barK t (barsOf t bs)) (widF (barsOf t bs)) t p k
  generalize fbD (barK t (barsOf t bs)) (widF (barsOf t bs)) t p k = F at *
  apply vF_eq
  unfold d__law_ask b__law_ask
  rcases hc with ⟨rfl, hf⟩ | ⟨⟨o, rfl, ho⟩, hf⟩
  · rw [pb_true hf] at e3
    k_search [e1, e2, e3, dNe_bb, eq_non 11]
  · rw [pb_false hf] at e3
    k_search [e1, e2, e3, dNe_bb, eq_nT 10 o ho]
theorem law_plain (ns : List Int) (hns : ns.length ≤ 63) : ∃ r, d_law [.scr ns] = .ok (.bl true) r := by
  suffices h : vF (d_law [.scr ns]) (h := ⟨fun r _ => r = .bl true, fun _ _ => False⟩) by
    obtain ⟨_, ds, e, rfl⟩ := vF_ex h
    exact ⟨ds, e⟩
  obtain ⟨s0, hs0⟩ : ∃ s, d__law_source [.scr ns, .int 0] = .ok (src s) [.scr ns, .int 0] := source_ok ns 0 (by omega)
  obtain ⟨s1, hs1⟩ : ∃ s, d__law_source [.scr ns, .int 1] = .ok (src s) [.scr ns, .int 1] := source_ok ns 1 (by omega)
  obtain ⟨s2, hs2⟩ : ∃ s, d__law_source [.scr ns, .int 2] = .ok (src s) [.scr ns, .int 2] := source_ok ns 2 (by omega)
  unfold d_law b_law
  k_search [hs0, draw_ok (s := s0) (m := 4) (by omega) (by omega)]
  have hn := drN_lt (s := s0) (m := 4) (by omega)
  generalize hnn : 1 + drN s0 4 = n
  have hn0 : 0 < n := by omega
  have hn4 : n ≤ 4 := by omega
  obtain ⟨s0', t, ht, htt⟩ := turn_ok (drS s0 4) n hn0 (by omega)
  have hk3 := drN_lt (s := s0') (m := 6) (by omega)
  k_search [ht, draw_ok (s := s0') (m := 6) (by omega) (by omega)]
  refine vE_lcr (fun i acc ρ => ∃ s' bs, acc = bs.map pcD ∧ bs.length = i ∧ (∀ b ∈ bs, isBar b n) ∧ ρ = [some (.scr ns), some (src s'), some (nD n), some (nT t), none, none, none, none, none, none, none, none, none, none, none]) (by omega) ⟨_, [], rfl, rfl, by simp, rfl⟩ ?_ ?_
  · rintro i acc ρ hi ⟨s, bs, rfl, hbl, hb, rfl⟩
    obtain ⟨s', p, hp, hpp⟩ : ∃ s' p, d__law_picture [src s, .int 3, .int n] = .ok (pcD p) [src s', .int 3, .int n] ∧ isPic p 3 n := picture_ok s 3 n (by omega) hn0 (by omega)
    k_search [hp]
    refine ⟨s', bs ++ [p], by simp, by simp [hbl], ?_, rfl⟩
    intro b hbm
    rcases List.mem_append.mp hbm with hbm | hbm
    · exact hb b hbm
    · simp at hbm; subst hbm; exact .inl hpp
  rintro acc ρ ⟨s, bs, rfl, hbl, hb, rfl⟩
  have hbl : bs.length ≤ 20 := by omega
  k_search []
  refine vB_if (fun h => ?_) (fun h => ?_)
  · have hk5 := drN_lt (s := s) (m := 5) (by omega)
    k_search [draw_ok (s := s) (m := 5) (by omega) (by omega)]
    refine vE_lcr (fun i acc ρ => ∃ s' bs1, acc = bs1.map pcD ∧ bs1.length = i ∧ (∀ b ∈ bs1, isBar b n) ∧ ρ = [some (.scr ns), some (src s'), some (nD n), some (nT t), some (.lst (bs.map pcD)), none, none, none, none, none, none, none, none, none, none]) (by omega) ⟨_, [], rfl, rfl, by simp, rfl⟩ ?_ ?_
    · rintro i acc ρ hi ⟨s, bs1, rfl, hbl1, hb1, rfl⟩
      obtain ⟨s', p, hp, hpp⟩ : ∃ s' p, d__law_picture [src s, .int 4, .int n] = .ok (pcD p) [src s', .int 4, .int n] ∧ isPic p 4 n := picture_ok s 4 n (by omega) hn0 (by omega)
      k_search [hp]
      refine ⟨s', bs1 ++ [p], by simp, by simp [hbl1], ?_, rfl⟩
      intro b hbm
      rcases List.mem_append.mp hbm with hbm | hbm
      · exact hb1 b hbm
      · simp at hbm; subst hbm; exact .inr hpp
    rintro acc ρ ⟨s, bs1, rfl, hbl1, hb1, rfl⟩
    have hb : ∀ b ∈ bs ++ bs1, isBar b n := by
      intro b hbm
      rcases List.mem_append.mp hbm with q | q
      · exact hb b q
      · exact hb1 b q
    have hbl : (bs ++ bs1).length ≤ 40 := by rw [List.length_append]; omega
    k_search []
    generalize bs ++ bs1 = bs at *
    have hbar := barred_frz (.lst (bs.map pcD)) (t := t) (n := n) (bs := bs) rfl htt hb (by omega)
    have htab := table_ok htt hn0 hb (by omega)
    have hm13 := drN_lt (s := s1) (m := 13) (by omega)
    obtain ⟨s1', g, k, hg1, hg, hgk, hf3, hf6⟩ := drawn_let_ok (drS s1 13) (K := lawK t bs) (n := n) (m := drN s1 13) (by omega) (by omega)
    have hgk : k ≤ 12 := by omega
    obtain ⟨s1'', g2, hg2, hg2p⟩ := changed_ok s1' hg (by omega) hn0 (by omega)
    have hm13' := drN_lt (s := s2) (m := 13) (by omega)
    obtain ⟨s2', x, hx1, hx⟩ := picture_ok (drS s2 13) (drN s2 13) n (by omega) hn0 (by omega)
    k_search [hbar, htab, hs1, draw_ok (s := s1) (m := 13) (by omega) (by omega), hg1, hg2, hs2, draw_ok (s := s2) (m := 13) (by omega) (by omega), hx1]
    refine vE_lc (enc := pcD) (xs := bs) (fun pre acc ρ => ∃ s' qs, acc = qs.map pcD ∧ qs.length = pre.length ∧ (∀ q ∈ qs, ∃ m, m ≤ 12 ∧ isPic q m n) ∧ ρ = [some (.scr ns), some (src s), some (nD n), some (nT t), some (.lst (bs.map pcD)), some (kvD nT (tL (lawK t bs))), some (tabD t n (barsOf t bs)), some (src s1''), some (pcD g), some (.lst [pcD g, pcD g2, pcD x]), some (src s'), none, none, none, none]) (by simp; omega) ⟨_, [], rfl, rfl, by simp, rfl⟩ ?_ ?_
    · rintro pre b post acc ρ e ⟨s', qs, rfl, hql, hq, rfl⟩
      have hbb := hb b (by rw [e]; simp)
      have hlen := hbb.len
      obtain ⟨s3, o, ho1, ho⟩ := order_ok s' b.length (by omega)
      k_search [ho1, piece_ok htt hbb.pic ho (by omega)]
      refine ⟨s3, qs ++ [pieceF t b o], by simp, by simp [hql], ?_, rfl⟩
      intro q hqm
      rcases List.mem_append.mp hqm with hqm | hqm
      · exact hq q hqm
      · simp at hqm; subst hqm; exact ⟨b.length, by omega, isPic_piece htt hbb.pic ho⟩
    rintro acc ρ ⟨s', qs, rfl, hql, hq, rfl⟩
    k_search []
    have hall : ∀ y ∈ g :: g2 :: x :: qs, ∃ m, m ≤ 12 ∧ isPic y m n := by
      intro y hy
      rcases List.mem_cons.mp hy with rfl | hy
      · exact ⟨k, hgk, hg⟩
      rcases List.mem_cons.mp hy with rfl | hy
      · exact ⟨k, hgk, hg2p⟩
      rcases List.mem_cons.mp hy with rfl | hy
      · exact ⟨drN s2 13, by omega, hx⟩
      exact hq y hy
    have hnon : fbD (lawK t bs) 4 t g k = .non := by
      rcases fbD_cases (lawK t bs) 4 t g k with h | h
      · exact h.1
      · exact absurd ⟨hf3, fun _ => hf6⟩ h.2
    have e1 := law_first_barred_ok (K := lawK t bs) t hg (by omega)
    rw [hnon] at e1
    have hB := barsOf_bar htt hb
    have hw : widF (barsOf t bs) = 3 ∨ widF (barsOf t bs) = 4 := (widF_bars hB).elim .inr fun h => .inl h.1
    have e2 := barred_places_ok (B := barsOf t bs) htt hg hgk hw
    rw [← fbD_eq htt hb, hnon] at e2
    have e3 := lets_ok (t := t) (B := barsOf t bs) hg (by omega)
    have hlet : letB (barK t (barsOf t bs)) (widF (barsOf t bs)) g := (letB_iff hg).mpr ⟨fun a b c h1 h2 h3 z => hf3 a b c h1 h2 h3 ((mem_barK_law htt hb).mp z), fun _ a b c d h1 h2 h3 h4 z => hf6 a b c d h1 h2 h3 h4 ((mem_barK_law htt hb).mp z)⟩
    rw [pb_true hlet] at e3
    refine vS_all (enc := pcD) (xs := g :: g2 :: x :: qs) (fun ρ => ∃ a, ρ = [some (.scr ns), some (src s), some (nD n), some (nT t), some (.lst (bs.map pcD)), some (kvD nT (tL (lawK t bs))), some (tabD t n (barsOf t bs)), some (src s1''), some (pcD g), none, some (src s'), a, none, none, none]) ⟨none, rfl⟩ ?_ ?_
    · rintro y ρ hy ⟨a, rfl⟩
      obtain ⟨m, hm, hym⟩ := hall y hy
      k_search [ask_ok htt hb hym hm]
      exact ⟨_, rfl⟩
    · rintro ρ ⟨a, rfl⟩
      k_search [e1, e2, e3, dIsB_bl, show (true == true) = true from rfl]
  · have hbl : bs.length ≤ 40 := by omega
    k_search []
    have hbar := barred_frz (.lst (bs.map pcD)) (t := t) (n := n) (bs := bs) rfl htt hb (by omega)
    have htab := table_ok htt hn0 hb (by omega)
    have hm13 := drN_lt (s := s1) (m := 13) (by omega)
    obtain ⟨s1', g, k, hg1, hg, hgk, hf3, hf6⟩ := drawn_let_ok (drS s1 13) (K := lawK t bs) (n := n) (m := drN s1 13) (by omega) (by omega)
    have hgk : k ≤ 12 := by omega
    obtain ⟨s1'', g2, hg2, hg2p⟩ := changed_ok s1' hg (by omega) hn0 (by omega)
    have hm13' := drN_lt (s := s2) (m := 13) (by omega)
    obtain ⟨s2', x, hx1, hx⟩ := picture_ok (drS s2 13) (drN s2 13) n (by omega) hn0 (by omega)
    k_search [hbar, htab, hs1, draw_ok (s := s1) (m := 13) (by omega) (by omega), hg1, hg2, hs2, draw_ok (s := s2) (m := 13) (by omega) (by omega), hx1]
    refine vE_lc (enc := pcD) (xs := bs) (fun pre acc ρ => ∃ s' qs, acc = qs.map pcD ∧ qs.length = pre.length ∧ (∀ q ∈ qs, ∃ m, m ≤ 12 ∧ isPic q m n) ∧ ρ = [some (.scr ns), some (src s), some (nD n), some (nT t), some (.lst (bs.map pcD)), some (kvD nT (tL (lawK t bs))), some (tabD t n (barsOf t bs)), some (src s1''), some (pcD g), some (.lst [pcD g, pcD g2, pcD x]), some (src s'), none, none, none, none]) (by simp; omega) ⟨_, [], rfl, rfl, by simp, rfl⟩ ?_ ?_
    · rintro pre b post acc ρ e ⟨s', qs, rfl, hql, hq, rfl⟩
      have hbb := hb b (by rw [e]; simp)
      have hlen := hbb.len
      obtain ⟨s3, o, ho1, ho⟩ := order_ok s' b.length (by omega)
      k_search [ho1, piece_ok htt hbb.pic ho (by omega)]
      refine ⟨s3, qs ++ [pieceF t b o], by simp, by simp [hql], ?_, rfl⟩
      intro q hqm
      rcases List.mem_append.mp hqm with hqm | hqm
      · exact hq q hqm
      · simp at hqm; subst hqm; exact ⟨b.length, by omega, isPic_piece htt hbb.pic ho⟩
    rintro acc ρ ⟨s', qs, rfl, hql, hq, rfl⟩
    k_search []
    have hall : ∀ y ∈ g :: g2 :: x :: qs, ∃ m, m ≤ 12 ∧ isPic y m n := by
      intro y hy
      rcases List.mem_cons.mp hy with rfl | hy
      · exact ⟨k, hgk, hg⟩
      rcases List.mem_cons.mp hy with rfl | hy
      · exact ⟨k, hgk, hg2p⟩
      rcases List.mem_cons.mp hy with rfl | hy
      · exact ⟨drN s2 13, by omega, hx⟩
      exact hq y hy
    have hnon : fbD (lawK t bs) 4 t g k = .non := by
      rcases fbD_cases (lawK t bs) 4 t g k with h | h
      · exact h.1
      · exact absurd ⟨hf3, fun _ => hf6⟩ h.2
    have e1 := law_first_barred_ok (K := lawK t bs) t hg (by omega)
    rw [hnon] at e1
    have hB := barsOf_bar htt hb
    have hw : widF (barsOf t bs) = 3 ∨ widF (barsOf t bs) = 4 := (widF_bars hB).elim .inr fun h => .inl h.1
    have e2 := barred_places_ok (B := barsOf t bs) htt hg hgk hw
    rw [← fbD_eq htt hb, hnon] at e2
    have e3 := lets_ok (t := t) (B := barsOf t bs) hg (by omega)
    have hlet : letB (barK t (barsOf t bs)) (widF (barsOf t bs)) g := (letB_iff hg).mpr ⟨fun a b c h1 h2 h3 z => hf3 a b c h1 h2 h3 ((mem_barK_law htt hb).mp z), fun _ a b c d h1 h2 h3 h4 z => hf6 a b c d h1 h2 h3 h4 ((mem_barK_law htt hb).mp z)⟩
    rw [pb_true hlet] at e3
    refine vS_all (enc := pcD) (xs := g :: g2 :: x :: qs) (fun ρ => ∃ a, ρ = [some (.scr ns), some (src s), some (nD n), some (nT t), some (.lst (bs.map pcD)), some (kvD nT (tL (lawK t bs))), some (tabD t n (barsOf t bs)), some (src s1''), some (pcD g), none, some (src s'), a, none, none, none]) ⟨none, rfl⟩ ?_ ?_
    · rintro y ρ hy ⟨a, rfl⟩
      obtain ⟨m, hm, hym⟩ := hall y hy
      k_search [ask_ok htt hb hym hm]
      exact ⟨_, rfl⟩
    · rintro ρ ⟨a, rfl⟩
      k_search [e1, e2, e3, dIsB_bl, show (true == true) = true from rfl]
end Dn.L

namespace Dn.L
open PySem PySem.Spec PyProof.Rows L2 Dn
/-! ### the end -/
theorem txt_mk {P : Program} {w : World} {K : PySem.W.Frag} {base h : Heap} {mg : Str → Option Value} {NS : Str → D → Option D} (X : K.In h) (G : h.Ns mainGlobals mg)
    {f0 f1 f2 f3 f4 f5 f6 f7 f8 f9 f10 f11 f12 f13 f14 f15 f16 f17 f18 f19 f20 f21 f22 f23 f24 f25 f26 f27 f28 f29 f30 f31 f32 f33 f34 f35 f36 f37 f38 f39 : Addr}
    {od0 an0 od1 an1 od2 an2 od3 an3 od4 an4 od5 an5 od6 an6 od7 an7 od8 an8 od9 an9 od10 an10 od11 an11 od12 an12 od13 an13 od14 an14 od15 an15 od16 an16 od17 an17 od18 an18 od19 an19 od20 an20 od21 an21 od22 an22 od23 an23 od24 an24 od25 an25 od26 an26 od27 an27 od28 an28 od29 an29 od30 an30 od31 an31 od32 an32 od33 an33 od34 an34 od35 an35 od36 an36 od37 an37 od38 an38 od39 an39 : Option Addr}
    {sl0 sl1 sl2 sl3 sl4 sl5 sl6 sl7 sl8 sl9 sl10 sl11 sl12 sl13 sl14 sl15 sl16 sl17 sl18 sl19 sl20 sl21 sl22 sl23 sl24 sl25 sl26 sl27 sl28 sl29 sl30 sl31 sl32 sl33 sl34 sl35 sl36 sl37 sl38 sl39 : Array (Option Value)}
    {oc0 kV0 dc0 pm0 cd0 ct0 oc1 kV1 dc1 pm1 cd1 ct1 oc2 kV2 dc2 pm2 cd2 ct2 oc3 kV3 dc3 pm3 cd3 ct3 oc4 kV4 dc4 pm4 cd4 ct4 oc5 kV5 dc5 pm5 cd5 ct5 oc6 kV6 dc6 pm6 cd6 ct6 oc7 kV7 dc7 pm7 cd7 ct7 oc8 kV8 dc8 pm8 cd8 ct8 oc9 kV9 dc9 pm9 cd9 ct9 oc10 kV10 dc10 pm10 cd10 ct10 oc11 kV11 dc11 pm11 cd11 ct11 oc12 kV12 dc12 pm12 cd12 ct12 oc13 kV13 dc13 pm13 cd13 ct13 oc14 kV14 dc14 pm14 cd14 ct14 oc15 kV15 dc15 pm15 cd15 ct15 oc16 kV16 dc16 pm16 cd16 ct16 oc17 kV17 dc17 pm17 cd17 ct17 oc18 kV18 dc18 pm18 cd18 ct18 oc19 kV19 dc19 pm19 cd19 ct19 oc20 kV20 dc20 pm20 cd20 ct20 oc21 kV21 dc21 pm21 cd21 ct21 oc22 kV22 dc22 pm22 cd22 ct22 oc23 kV23 dc23 pm23 cd23 ct23 oc24 kV24 dc24 pm24 cd24 ct24 oc25 kV25 dc25 pm25 cd25 ct25 oc26 kV26 dc26 pm26 cd26 ct26 oc27 kV27 dc27 pm27 cd27 ct27 oc28 kV28 dc28 pm28 cd28 ct28 oc29 kV29 dc29 pm29 cd29 ct29 oc30 kV30 dc30 pm30 cd30 ct30 oc31 kV31 dc31 pm31 cd31 ct31 oc32 kV32 dc32 pm32 cd32 ct32 oc33 kV33 dc33 pm33 cd33 ct33 oc34 kV34 dc34 pm34 cd34 ct34 oc35 kV35 dc35 pm35 cd35 ct35 oc36 kV36 dc36 pm36 cd36 ct36 oc37 kV37 dc37 pm37 cd37 ct37 oc38 kV38 dc38 pm38 cd38 ct38 oc39 kV39 dc39 pm39 cd39 ct39 : Value}
    {C40 f40 : Addr} {od40 an40 : Option Addr} {sl40 : Array (Option Value)} {oc40 kV40 dc40 pm40 cd40 ct40 : Value}
    (a0 : PySem.W.nsIn K mainGlobals "_law_source" = some (some (.ref f0)))
    (l0 : K.lookup f0 = some ⟨oc0, od0, .func (PySem.W.fnOf "_law_source" "_law_source" (defArgs s__law_source) (defBody s__law_source) (defScope s__law_source) .none kV0 dc0 pm0 an0 cd0 ct0), sl0⟩)
    (c0 : PySem.W.codeIn K cd0 "_law_source" = true)
    (k0 : PySem.W.keepIn K (.ref f0) = true)
    (a1 : PySem.W.nsIn K mainGlobals "_law_draw" = some (some (.ref f1)))
    (l1 : K.lookup f1 = some ⟨oc1, od1, .func (PySem.W.fnOf "_law_draw" "_law_draw" (defArgs s__law_draw) (defBody s__law_draw) (defScope s__law_draw) .none kV1 dc1 pm1 an1 cd1 ct1), sl1⟩)
    (c1 : PySem.W.codeIn K cd1 "_law_draw" = true)
    (k1 : PySem.W.keepIn K (.ref f1) = true)
    (a2 : PySem.W.nsIn K mainGlobals "_law_turn" = some (some (.ref f2)))
    (l2 : K.lookup f2 = some ⟨oc2, od2, .func (PySem.W.fnOf "_law_turn" "_law_turn" (defArgs s__law_turn) (defBody s__law_turn) (defScope s__law_turn) .none kV2 dc2 pm2 an2 cd2 ct2), sl2⟩)
    (c2 : PySem.W.codeIn K cd2 "_law_turn" = true)
    (k2 : PySem.W.keepIn K (.ref f2) = true)
    (a3 : PySem.W.nsIn K mainGlobals "_law_picture" = some (some (.ref f3)))
    (l3 : K.lookup f3 = some ⟨oc3, od3, .func (PySem.W.fnOf "_law_picture" "_law_picture" (defArgs s__law_picture) (defBody s__law_picture) (defScope s__law_picture) .none kV3 dc3 pm3 an3 cd3 ct3), sl3⟩)
    (c3 : PySem.W.codeIn K cd3 "_law_picture" = true)
    (k3 : PySem.W.keepIn K (.ref f3) = true)
    (a4 : PySem.W.nsIn K mainGlobals "_law_orders" = some (some (.ref f4)))
    (l4 : K.lookup f4 = some ⟨oc4, od4, .func (PySem.W.fnOf "_law_orders" "_law_orders" (defArgs s__law_orders) (defBody s__law_orders) (defScope s__law_orders) .none kV4 dc4 pm4 an4 cd4 ct4), sl4⟩)
    (c4 : PySem.W.codeIn K cd4 "_law_orders" = true)
    (k4 : PySem.W.keepIn K (.ref f4) = true)
    (a5 : PySem.W.nsIn K mainGlobals "_law_flat" = some (some (.ref f5)))
    (l5 : K.lookup f5 = some ⟨oc5, od5, .func (PySem.W.fnOf "_law_flat" "_law_flat" (defArgs s__law_flat) (defBody s__law_flat) (defScope s__law_flat) .none kV5 dc5 pm5 an5 cd5 ct5), sl5⟩)
    (c5 : PySem.W.codeIn K cd5 "_law_flat" = true)
    (k5 : PySem.W.keepIn K (.ref f5) = true)
    (a6 : PySem.W.nsIn K mainGlobals "_law_tie" = some (some (.ref f6)))
    (l6 : K.lookup f6 = some ⟨oc6, od6, .func (PySem.W.fnOf "_law_tie" "_law_tie" (defArgs s__law_tie) (defBody s__law_tie) (defScope s__law_tie) .none kV6 dc6 pm6 an6 cd6 ct6), sl6⟩)
    (c6 : PySem.W.codeIn K cd6 "_law_tie" = true)
    (k6 : PySem.W.keepIn K (.ref f6) = true)
    (a7 : PySem.W.nsIn K mainGlobals "_law_piece" = some (some (.ref f7)))
    (l7 : K.lookup f7 = some ⟨oc7, od7, .func (PySem.W.fnOf "_law_piece" "_law_piece" (defArgs s__law_piece) (defBody s__law_piece) (defScope s__law_piece) .none kV7 dc7 pm7 an7 cd7 ct7), sl7⟩)
    (c7 : PySem.W.codeIn K cd7 "_law_piece" = true)
    (k7 : PySem.W.keepIn K (.ref f7) = true)
    (a8 : PySem.W.nsIn K mainGlobals "_law_barred" = some (some (.ref f8)))
    (l8 : K.lookup f8 = some ⟨oc8, od8, .func (PySem.W.fnOf "_law_barred" "_law_barred" (defArgs s__law_barred) (defBody s__law_barred) (defScope s__law_barred) .none kV8 dc8 pm8 an8 cd8 ct8), sl8⟩)
    (c8 : PySem.W.codeIn K cd8 "_law_barred" = true)
    (k8 : PySem.W.keepIn K (.ref f8) = true)
    (a9 : PySem.W.nsIn K mainGlobals "is_sequence" = some (some (.ref f9)))
    (l9 : K.lookup f9 = some ⟨oc9, od9, .func (PySem.W.fnOf "is_sequence" "is_sequence" (defArgs s_is_sequence) (defBody s_is_sequence) (defScope s_is_sequence) .none kV9 dc9 pm9 an9 cd9 ct9), sl9⟩)
    (c9 : PySem.W.codeIn K cd9 "is_sequence" = true)
    (k9 : PySem.W.keepIn K (.ref f9) = true)
    (a10 : PySem.W.nsIn K mainGlobals "is_number" = some (some (.ref f10)))
    (l10 : K.lookup f10 = some ⟨oc10, od10, .func (PySem.W.fnOf "is_number" "is_number" (defArgs s_is_number) (defBody s_is_number) (defScope s_is_number) .none kV10 dc10 pm10 an10 cd10 ct10), sl10⟩)
    (c10 : PySem.W.codeIn K cd10 "is_number" = true)
    (k10 : PySem.W.keepIn K (.ref f10) = true)
    (a11 : PySem.W.nsIn K mainGlobals "is_below" = some (some (.ref f11)))
    (l11 : K.lookup f11 = some ⟨oc11, od11, .func (PySem.W.fnOf "is_below" "is_below" (defArgs s_is_below) (defBody s_is_below) (defScope s_is_below) .none kV11 dc11 pm11 an11 cd11 ct11), sl11⟩)
    (c11 : PySem.W.codeIn K cd11 "is_below" = true)
    (k11 : PySem.W.keepIn K (.ref f11) = true)
    (a12 : PySem.W.nsIn K mainGlobals "check_turn" = some (some (.ref f12)))
    (l12 : K.lookup f12 = some ⟨oc12, od12, .func (PySem.W.fnOf "check_turn" "check_turn" (defArgs s_check_turn) (defBody s_check_turn) (defScope s_check_turn) .none kV12 dc12 pm12 an12 cd12 ct12), sl12⟩)
    (c12 : PySem.W.codeIn K cd12 "check_turn" = true)
    (k12 : PySem.W.keepIn K (.ref f12) = true)
    (a13 : PySem.W.nsIn K mainGlobals "is_row" = some (some (.ref f13)))
    (l13 : K.lookup f13 = some ⟨oc13, od13, .func (PySem.W.fnOf "is_row" "is_row" (defArgs s_is_row) (defBody s_is_row) (defScope s_is_row) .none kV13 dc13 pm13 an13 cd13 ct13), sl13⟩)
    (c13 : PySem.W.codeIn K cd13 "is_row" = true)
    (k13 : PySem.W.keepIn K (.ref f13) = true)
    (a14 : PySem.W.nsIn K mainGlobals "is_shape" = some (some (.ref f14)))
    (l14 : K.lookup f14 = some ⟨oc14, od14, .func (PySem.W.fnOf "is_shape" "is_shape" (defArgs s_is_shape) (defBody s_is_shape) (defScope s_is_shape) .none kV14 dc14 pm14 an14 cd14 ct14), sl14⟩)
    (c14 : PySem.W.codeIn K cd14 "is_shape" = true)
    (k14 : PySem.W.keepIn K (.ref f14) = true)
    (a15 : PySem.W.nsIn K mainGlobals "check_bars" = some (some (.ref f15)))
    (l15 : K.lookup f15 = some ⟨oc15, od15, .func (PySem.W.fnOf "check_bars" "check_bars" (defArgs s_check_bars) (defBody s_check_bars) (defScope s_check_bars) .none kV15 dc15 pm15 an15 cd15 ct15), sl15⟩)
    (c15 : PySem.W.codeIn K cd15 "check_bars" = true)
    (k15 : PySem.W.keepIn K (.ref f15) = true)
    (a16 : PySem.W.nsIn K mainGlobals "tie_in" = some (some (.ref f16)))
    (l16 : K.lookup f16 = some ⟨oc16, od16, .func (PySem.W.fnOf "tie_in" "tie_in" (defArgs s_tie_in) (defBody s_tie_in) (defScope s_tie_in) .none kV16 dc16 pm16 an16 cd16 ct16), sl16⟩)
    (c16 : PySem.W.codeIn K cd16 "tie_in" = true)
    (k16 : PySem.W.keepIn K (.ref f16) = true)
    (a17 : PySem.W.nsIn K mainGlobals "least_shape" = some (some (.ref f17)))
    (l17 : K.lookup f17 = some ⟨oc17, od17, .func (PySem.W.fnOf "least_shape" "least_shape" (defArgs s_least_shape) (defBody s_least_shape) (defScope s_least_shape) .none kV17 dc17 pm17 an17 cd17 ct17), sl17⟩)
    (c17 : PySem.W.codeIn K cd17 "least_shape" = true)
    (k17 : PySem.W.keepIn K (.ref f17) = true)
    (a18 : PySem.W.nsIn K mainGlobals "flat" = some (some (.ref f18)))
    (l18 : K.lookup f18 = some ⟨oc18, od18, .func (PySem.W.fnOf "flat" "flat" (defArgs s_flat) (defBody s_flat) (defScope s_flat) .none kV18 dc18 pm18 an18 cd18 ct18), sl18⟩)
    (c18 : PySem.W.codeIn K cd18 "flat" = true)
    (k18 : PySem.W.keepIn K (.ref f18) = true)
    (a19 : PySem.W.nsIn K mainGlobals "row_to" = some (some (.ref f19)))
    (l19 : K.lookup f19 = some ⟨oc19, od19, .func (PySem.W.fnOf "row_to" "row_to" (defArgs s_row_to) (defBody s_row_to) (defScope s_row_to) .none kV19 dc19 pm19 an19 cd19 ct19), sl19⟩)
    (c19 : PySem.W.codeIn K cd19 "row_to" = true)
    (k19 : PySem.W.keepIn K (.ref f19) = true)
    (a20 : PySem.W.nsIn K mainGlobals "cut" = some (some (.ref f20)))
    (l20 : K.lookup f20 = some ⟨oc20, od20, .func (PySem.W.fnOf "cut" "cut" (defArgs s_cut) (defBody s_cut) (defScope s_cut) .none kV20 dc20 pm20 an20 cd20 ct20), sl20⟩)
    (c20 : PySem.W.codeIn K cd20 "cut" = true)
    (k20 : PySem.W.keepIn K (.ref f20) = true)
    (a21 : PySem.W.nsIn K mainGlobals "barred_orders" = some (some (.ref f21)))
    (l21 : K.lookup f21 = some ⟨oc21, od21, .func (PySem.W.fnOf "barred_orders" "barred_orders" (defArgs s_barred_orders) (defBody s_barred_orders) (defScope s_barred_orders) .none kV21 dc21 pm21 an21 cd21 ct21), sl21⟩)
    (c21 : PySem.W.codeIn K cd21 "barred_orders" = true)
    (k21 : PySem.W.keepIn K (.ref f21) = true)
    (a22 : PySem.W.nsIn K mainGlobals "_law_meets" = some (some (.ref f22)))
    (l22 : K.lookup f22 = some ⟨oc22, od22, .func (PySem.W.fnOf "_law_meets" "_law_meets" (defArgs s__law_meets) (defBody s__law_meets) (defScope s__law_meets) .none kV22 dc22 pm22 an22 cd22 ct22), sl22⟩)
    (c22 : PySem.W.codeIn K cd22 "_law_meets" = true)
    (k22 : PySem.W.keepIn K (.ref f22) = true)
    (a23 : PySem.W.nsIn K mainGlobals "_law_drawn_row" = some (some (.ref f23)))
    (l23 : K.lookup f23 = some ⟨oc23, od23, .func (PySem.W.fnOf "_law_drawn_row" "_law_drawn_row" (defArgs s__law_drawn_row) (defBody s__law_drawn_row) (defScope s__law_drawn_row) .none kV23 dc23 pm23 an23 cd23 ct23), sl23⟩)
    (c23 : PySem.W.codeIn K cd23 "_law_drawn_row" = true)
    (k23 : PySem.W.keepIn K (.ref f23) = true)
    (a24 : PySem.W.nsIn K mainGlobals "_law_drawn_let" = some (some (.ref f24)))
    (l24 : K.lookup f24 = some ⟨oc24, od24, .func (PySem.W.fnOf "_law_drawn_let" "_law_drawn_let" (defArgs s__law_drawn_let) (defBody s__law_drawn_let) (defScope s__law_drawn_let) .none kV24 dc24 pm24 an24 cd24 ct24), sl24⟩)
    (c24 : PySem.W.codeIn K cd24 "_law_drawn_let" = true)
    (k24 : PySem.W.keepIn K (.ref f24) = true)
    (a25 : PySem.W.nsIn K mainGlobals "_law_changed" = some (some (.ref f25)))
    (l25 : K.lookup f25 = some ⟨oc25, od25, .func (PySem.W.fnOf "_law_changed" "_law_changed" (defArgs s__law_changed) (defBody s__law_changed) (defScope s__law_changed) .none kV25 dc25 pm25 an25 cd25 ct25), sl25⟩)
    (c25 : PySem.W.codeIn K cd25 "_law_changed" = true)
    (k25 : PySem.W.keepIn K (.ref f25) = true)
    (a26 : PySem.W.nsIn K mainGlobals "_law_order" = some (some (.ref f26)))
    (l26 : K.lookup f26 = some ⟨oc26, od26, .func (PySem.W.fnOf "_law_order" "_law_order" (defArgs s__law_order) (defBody s__law_order) (defScope s__law_order) .none kV26 dc26 pm26 an26 cd26 ct26), sl26⟩)
    (c26 : PySem.W.codeIn K cd26 "_law_order" = true)
    (k26 : PySem.W.keepIn K (.ref f26) = true)
    (a27 : PySem.W.nsIn K mainGlobals "_law_first_barred" = some (some (.ref f27)))
    (l27 : K.lookup f27 = some ⟨oc27, od27, .func (PySem.W.fnOf "_law_first_barred" "_law_first_barred" (defArgs s__law_first_barred) (defBody s__law_first_barred) (defScope s__law_first_barred) .none kV27 dc27 pm27 an27 cd27 ct27), sl27⟩)
    (c27 : PySem.W.codeIn K cd27 "_law_first_barred" = true)
    (k27 : PySem.W.keepIn K (.ref f27) = true)
    (a28 : PySem.W.nsIn K mainGlobals "check_picture" = some (some (.ref f28)))
    (l28 : K.lookup f28 = some ⟨oc28, od28, .func (PySem.W.fnOf "check_picture" "check_picture" (defArgs s_check_picture) (defBody s_check_picture) (defScope s_check_picture) .none kV28 dc28 pm28 an28 cd28 ct28), sl28⟩)
    (c28 : PySem.W.codeIn K cd28 "check_picture" = true)
    (k28 : PySem.W.keepIn K (.ref f28) = true)
    (a29 : PySem.W.nsIn K mainGlobals "tie_fits" = some (some (.ref f29)))
    (l29 : K.lookup f29 = some ⟨oc29, od29, .func (PySem.W.fnOf "tie_fits" "tie_fits" (defArgs s_tie_fits) (defBody s_tie_fits) (defScope s_tie_fits) .none kV29 dc29 pm29 an29 cd29 ct29), sl29⟩)
    (c29 : PySem.W.codeIn K cd29 "tie_fits" = true)
    (k29 : PySem.W.keepIn K (.ref f29) = true)
    (a30 : PySem.W.nsIn K mainGlobals "row_fits" = some (some (.ref f30)))
    (l30 : K.lookup f30 = some ⟨oc30, od30, .func (PySem.W.fnOf "row_fits" "row_fits" (defArgs s_row_fits) (defBody s_row_fits) (defScope s_row_fits) .none kV30 dc30 pm30 an30 cd30 ct30), sl30⟩)
    (c30 : PySem.W.codeIn K cd30 "row_fits" = true)
    (k30 : PySem.W.keepIn K (.ref f30) = true)
    (a31 : PySem.W.nsIn K mainGlobals "is_let" = some (some (.ref f31)))
    (l31 : K.lookup f31 = some ⟨oc31, od31, .func (PySem.W.fnOf "is_let" "is_let" (defArgs s_is_let) (defBody s_is_let) (defScope s_is_let) .none kV31 dc31 pm31 an31 cd31 ct31), sl31⟩)
    (c31 : PySem.W.codeIn K cd31 "is_let" = true)
    (k31 : PySem.W.keepIn K (.ref f31) = true)
    (a32 : PySem.W.nsIn K mainGlobals "lets" = some (some (.ref f32)))
    (l32 : K.lookup f32 = some ⟨oc32, od32, .func (PySem.W.fnOf "lets" "lets" (defArgs s_lets) (defBody s_lets) (defScope s_lets) .none kV32 dc32 pm32 an32 cd32 ct32), sl32⟩)
    (c32 : PySem.W.codeIn K cd32 "lets" = true)
    (k32 : PySem.W.keepIn K (.ref f32) = true)
    (a33 : PySem.W.nsIn K mainGlobals "_law_equal" = some (some (.ref f33)))
    (l33 : K.lookup f33 = some ⟨oc33, od33, .func (PySem.W.fnOf "_law_equal" "_law_equal" (defArgs s__law_equal) (defBody s__law_equal) (defScope s__law_equal) .none kV33 dc33 pm33 an33 cd33 ct33), sl33⟩)
    (c33 : PySem.W.codeIn K cd33 "_law_equal" = true)
    (k33 : PySem.W.keepIn K (.ref f33) = true)
    (a34 : PySem.W.nsIn K mainGlobals "is_barred" = some (some (.ref f34)))
    (l34 : K.lookup f34 = some ⟨oc34, od34, .func (PySem.W.fnOf "is_barred" "is_barred" (defArgs s_is_barred) (defBody s_is_barred) (defScope s_is_barred) .none kV34 dc34 pm34 an34 cd34 ct34), sl34⟩)
    (c34 : PySem.W.codeIn K cd34 "is_barred" = true)
    (k34 : PySem.W.keepIn K (.ref f34) = true)
    (a35 : PySem.W.nsIn K mainGlobals "first_barred" = some (some (.ref f35)))
    (l35 : K.lookup f35 = some ⟨oc35, od35, .func (PySem.W.fnOf "first_barred" "first_barred" (defArgs s_first_barred) (defBody s_first_barred) (defScope s_first_barred) .none kV35 dc35 pm35 an35 cd35 ct35), sl35⟩)
    (c35 : PySem.W.codeIn K cd35 "first_barred" = true)
    (k35 : PySem.W.keepIn K (.ref f35) = true)
    (a36 : PySem.W.nsIn K mainGlobals "barred_places" = some (some (.ref f36)))
    (l36 : K.lookup f36 = some ⟨oc36, od36, .func (PySem.W.fnOf "barred_places" "barred_places" (defArgs s_barred_places) (defBody s_barred_places) (defScope s_barred_places) .none kV36 dc36 pm36 an36 cd36 ct36), sl36⟩)
    (c36 : PySem.W.codeIn K cd36 "barred_places" = true)
    (k36 : PySem.W.keepIn K (.ref f36) = true)
    (a37 : PySem.W.nsIn K mainGlobals "_law_ask" = some (some (.ref f37)))
    (l37 : K.lookup f37 = some ⟨oc37, od37, .func (PySem.W.fnOf "_law_ask" "_law_ask" (defArgs s__law_ask) (defBody s__law_ask) (defScope s__law_ask) .none kV37 dc37 pm37 an37 cd37 ct37), sl37⟩)
    (c37 : PySem.W.codeIn K cd37 "_law_ask" = true)
    (k37 : PySem.W.keepIn K (.ref f37) = true)
    (a38 : PySem.W.nsIn K mainGlobals "law" = some (some (.ref f38)))
    (l38 : K.lookup f38 = some ⟨oc38, od38, .func (PySem.W.fnOf "law" "law" (defArgs s_law) (defBody s_law) (defScope s_law) .none kV38 dc38 pm38 an38 cd38 ct38), sl38⟩)
    (c38 : PySem.W.codeIn K cd38 "law" = true)
    (k38 : PySem.W.keepIn K (.ref f38) = true)
    (a39 : PySem.W.nsIn K mainGlobals "by_size" = some (some (.ref f39)))
    (l39 : K.lookup f39 = some ⟨oc39, od39, .func (PySem.W.fnOf "by_size" "by_size" (defArgs s_by_size) (defBody s_by_size) (defScope s_by_size) .none kV39 dc39 pm39 an39 cd39 ct39), sl39⟩)
    (c39 : PySem.W.codeIn K cd39 "by_size" = true)
    (k39 : PySem.W.keepIn K (.ref f39) = true)
    (aC40 : PySem.W.nsIn K mainGlobals "Table" = some (some (.ref C40)))
    (a40 : PySem.W.findIn K (.ref C40) "__init__" = some (some (.ref f40)))
    (i40 : PySem.W.isFn K (.ref f40) = true)
    (l40 : K.lookup f40 = some ⟨oc40, od40, .func (PySem.W.fnOf "__init__" "Table.__init__" (defArgs s_Table) (defBody s_Table) (defScope s_Table) .none kV40 dc40 pm40 an40 cd40 ct40), sl40⟩)
    (c40 : PySem.W.codeIn K cd40 "Table.__init__" = true)
    (k40 : PySem.W.keepIn K (.ref f40) = true)
    (pg40 : PySem.W.plainGet K C40 Str.empty = true)
    (hd40 : PySem.W.hasDictIn K C40 = true)
    (po40 : PySem.W.plainOver K C40 = true)
    (sa40 : PySem.W.findIn K (.ref C40) "__setattr__" = some (some (.builtin "object.__setattr__")))
    (mk40 : PySem.W.makesIn K C40 = true)
    (kc40 : PySem.W.keepIn K (.ref C40) = true)
    (n40_turn : PySem.W.findIn K (.ref C40) "turn" = some none)
    (n40_ties : PySem.W.findIn K (.ref C40) "ties" = some none)
    (n40_bars : PySem.W.findIn K (.ref C40) "bars" = some none)
    (n40_widest : PySem.W.findIn K (.ref C40) "widest" = some none)
    (n40_barred : PySem.W.findIn K (.ref C40) "barred" = some none)
    (n40_notes : PySem.W.findIn K (.ref C40) "notes" = some none)
    (z_bool : PySem.W.nsIn K mainGlobals "bool" = some none)
    (z_enumerate : PySem.W.nsIn K mainGlobals "enumerate" = some none)
    (z_int : PySem.W.nsIn K mainGlobals "int" = some none)
    (z_isinstance : PySem.W.nsIn K mainGlobals "isinstance" = some none)
    (z_len : PySem.W.nsIn K mainGlobals "len" = some none)
    (z_list : PySem.W.nsIn K mainGlobals "list" = some none)
    (z_max : PySem.W.nsIn K mainGlobals "max" = some none)
    (z_range : PySem.W.nsIn K mainGlobals "range" = some none)
    (z_sorted : PySem.W.nsIn K mainGlobals "sorted" = some none)
    (z_str : PySem.W.nsIn K mainGlobals "str" = some none)
    (z_tuple : PySem.W.nsIn K mainGlobals "tuple" = some none)
    (im_combinations : PySem.W.nsIn K mainGlobals "combinations" = some (some (.type "itertools.combinations")))
    (im_permutations : PySem.W.nsIn K mainGlobals "permutations" = some (some (.type "itertools.permutations"))) : Txt ⟨P, w, K, mg, base, NS⟩ := by
  have F0 := fun_mk (st := s__law_source) l0 c0 k0
  have F1 := fun_mk (st := s__law_draw) l1 c1 k1
  have F2 := fun_mk (st := s__law_turn) l2 c2 k2
  have F3 := fun_mk (st := s__law_picture) l3 c3 k3
  have F4 := fun_mk (st := s__law_orders) l4 c4 k4
  have F5 := fun_mk (st := s__law_flat) l5 c5 k5
  have F6 := fun_mk (st := s__law_tie) l6 c6 k6
  have F7 := fun_mk (st := s__law_piece) l7 c7 k7
  have F8 := fun_mk (st := s__law_barred) l8 c8 k8
  have F9 := fun_mk (st := s_is_sequence) l9 c9 k9
  have F10 := fun_mk (st := s_is_number) l10 c10 k10
  have F11 := fun_mk (st := s_is_below) l11 c11 k11
  have F12 := fun_mk (st := s_check_turn) l12 c12 k12
  have F13 := fun_mk (st := s_is_row) l13 c13 k13
  have F14 := fun_mk (st := s_is_shape) l14 c14 k14
  have F15 := fun_mk (st := s_check_bars) l15 c15 k15
  have F16 := fun_mk (st := s_tie_in) l16 c16 k16
  have F17 := fun_mk (st := s_least_shape) l17 c17 k17
  have F18 := fun_mk (st := s_flat) l18 c18 k18
  have F19 := fun_mk (st := s_row_to) l19 c19 k19
  have F20 := fun_mk (st := s_cut) l20 c20 k20
  have F21 := fun_mk (st := s_barred_orders) l21 c21 k21
  have F22 := fun_mk (st := s__law_meets) l22 c22 k22
  have F23 := fun_mk (st := s__law_drawn_row) l23 c23 k23
  have F24 := fun_mk (st := s__law_drawn_let) l24 c24 k24
  have F25 := fun_mk (st := s__law_changed) l25 c25 k25
  have F26 := fun_mk (st := s__law_order) l26 c26 k26
  have F27 := fun_mk (st := s__law_first_barred) l27 c27 k27
  have F28 := fun_mk (st := s_check_picture) l28 c28 k28
  have F29 := fun_mk (st := s_tie_fits) l29 c29 k29
  have F30 := fun_mk (st := s_row_fits) l30 c30 k30
  have F31 := fun_mk (st := s_is_let) l31 c31 k31
  have F32 := fun_mk (st := s_lets) l32 c32 k32
  have F33 := fun_mk (st := s__law_equal) l33 c33 k33
  have F34 := fun_mk (st := s_is_barred) l34 c34 k34
  have F35 := fun_mk (st := s_first_barred) l35 c35 k35
  have F36 := fun_mk (st := s_barred_places) l36 c36 k36
  have F37 := fun_mk (st := s__law_ask) l37 c37 k37
  have F38 := fun_mk (st := s_law) l38 c38 k38
  have F39 := fun_mk (st := s_by_size) l39 c39 k39
  have F40 := fun_mk (st := s_Table) l40 c40 k40
  exact {
    c_Table := ⟨C40, f40, _, PySem.W.mg_of X G aC40, ⟨mk40, a40, i40, kc40⟩, F40, ⟨pg40, hd40, po40, sa40⟩, fun g hg => by
      simp only [List.mem_cons, List.not_mem_nil, or_false] at hg
      rcases hg with rfl | rfl | rfl | rfl | rfl | rfl
      · exact n40_turn
      · exact n40_ties
      · exact n40_bars
      · exact n40_widest
      · exact n40_barred
      · exact n40_notes⟩,
    b_bool := PySem.W.mg_none_of X G z_bool,
    b_enumerate := PySem.W.mg_none_of X G z_enumerate,
    b_int := PySem.W.mg_none_of X G z_int,
    b_isinstance := PySem.W.mg_none_of X G z_isinstance,
    b_len := PySem.W.mg_none_of X G z_len,
    b_list := PySem.W.mg_none_of X G z_list,
    b_max := PySem.W.mg_none_of X G z_max,
    b_range := PySem.W.mg_none_of X G z_range,
    b_sorted := PySem.W.mg_none_of X G z_sorted,
    b_str := PySem.W.mg_none_of X G z_str,
    b_tuple := PySem.W.mg_none_of X G z_tuple,
    i_combinations := PySem.W.mg_of X G im_combinations,
    i_permutations := PySem.W.mg_of X G im_permutations,
    f__law_source := ⟨f0, _, PySem.W.mg_of X G a0, F0⟩,
    f__law_draw := ⟨f1, _, PySem.W.mg_of X G a1, F1⟩,
    f__law_turn := ⟨f2, _, PySem.W.mg_of X G a2, F2⟩,
    f__law_picture := ⟨f3, _, PySem.W.mg_of X G a3, F3⟩,
    f__law_orders := ⟨f4, _, PySem.W.mg_of X G a4, F4⟩,
    f__law_flat := ⟨f5, _, PySem.W.mg_of X G a5, F5⟩,
    f__law_tie := ⟨f6, _, PySem.W.mg_of X G a6, F6⟩,
    f__law_piece := ⟨f7, _, PySem.W.mg_of X G a7, F7⟩,
    f__law_barred := ⟨f8, _, PySem.W.mg_of X G a8, F8⟩,
    f_is_sequence := ⟨f9, _, PySem.W.mg_of X G a9, F9⟩,
    f_is_number := ⟨f10, _, PySem.W.mg_of X G a10, F10⟩,
    f_is_below := ⟨f11, _, PySem.W.mg_of X G a11, F11⟩,
    f_check_turn := ⟨f12, _, PySem.W.mg_of X G a12, F12⟩,
    f_is_row := ⟨f13, _, PySem.W.mg_of X G a13, F13⟩,
    f_is_shape := ⟨f14, _, PySem.W.mg_of X G a14, F14⟩,
    f_check_bars := ⟨f15, _, PySem.W.mg_of X G a15, F15⟩,
    f_tie_in := ⟨f16, _, PySem.W.mg_of X G a16, F16⟩,
    f_least_shape := ⟨f17, _, PySem.W.mg_of X G a17, F17⟩,
    f_flat := ⟨f18, _, PySem.W.mg_of X G a18, F18⟩,
    f_row_to := ⟨f19, _, PySem.W.mg_of X G a19, F19⟩,
    f_cut := ⟨f20, _, PySem.W.mg_of X G a20, F20⟩,
    f_barred_orders := ⟨f21, _, PySem.W.mg_of X G a21, F21⟩,
    f__law_meets := ⟨f22, _, PySem.W.mg_of X G a22, F22⟩,
    f__law_drawn_row := ⟨f23, _, PySem.W.mg_of X G a23, F23⟩,
    f__law_drawn_let := ⟨f24, _, PySem.W.mg_of X G a24, F24⟩,
    f__law_changed := ⟨f25, _, PySem.W.mg_of X G a25, F25⟩,
    f__law_order := ⟨f26, _, PySem.W.mg_of X G a26, F26⟩,
    f__law_first_barred := ⟨f27, _, PySem.W.mg_of X G a27, F27⟩,
    f_check_picture := ⟨f28, _, PySem.W.mg_of X G a28, F28⟩,
    f_tie_fits := ⟨f29, _, PySem.W.mg_of X G a29, F29⟩,
    f_row_fits := ⟨f30, _, PySem.W.mg_of X G a30, F30⟩,
    f_is_let := ⟨f31, _, PySem.W.mg_of X G a31, F31⟩,
    f_lets := ⟨f32, _, PySem.W.mg_of X G a32, F32⟩,
    f__law_equal := ⟨f33, _, PySem.W.mg_of X G a33, F33⟩,
    f_is_barred := ⟨f34, _, PySem.W.mg_of X G a34, F34⟩,
    f_first_barred := ⟨f35, _, PySem.W.mg_of X G a35, F35⟩,
    f_barred_places := ⟨f36, _, PySem.W.mg_of X G a36, F36⟩,
    f__law_ask := ⟨f37, _, PySem.W.mg_of X G a37, F37⟩,
    f_law := ⟨f38, _, PySem.W.mg_of X G a38, F38⟩,
    key_by_size := ⟨f39, PySem.W.mg_of X G a39, ⟨⟨_, _, "picture", _, _, ["picture"], _, _, _, _, _, _, _, F39, ⟨rfl, rfl, rfl, by decide +kernel, rfl, by decide +kernel, by decide +kernel⟩, by rfl, by rfl, by rfl, fun _ _ _ _ _ _ us hl => (match us, hl with | [_], _ => rfl), by decide⟩, PySem.W.mg_none_of X G z_len⟩⟩ }
theorem all_mk {l : PySem.W.OpenLaw} {w : World} {K : PySem.W.Frag} {h : Heap} {mg : Str → Option Value} {fa : Addr} (X : K.In h) (G : h.Ns mainGlobals mg) (hfa : mg "law" = some (.ref fa))
    {f0 f1 f2 f3 f4 f5 f6 f7 f8 f9 f10 f11 f12 f13 f14 f15 f16 f17 f18 f19 f20 f21 f22 f23 f24 f25 f26 f27 f28 f29 f30 f31 f32 f33 f34 f35 f36 f37 f38 f39 : Addr}
    {od0 an0 od1 an1 od2 an2 od3 an3 od4 an4 od5 an5 od6 an6 od7 an7 od8 an8 od9 an9 od10 an10 od11 an11 od12 an12 od13 an13 od14 an14 od15 an15 od16 an16 od17 an17 od18 an18 od19 an19 od20 an20 od21 an21 od22 an22 od23 an23 od24 an24 od25 an25 od26 an26 od27 an27 od28 an28 od29 an29 od30 an30 od31 an31 od32 an32 od33 an33 od34 an34 od35 an35 od36 an36 od37 an37 od38 an38 od39 an39 : Option Addr}
    {sl0 sl1 sl2 sl3 sl4 sl5 sl6 sl7 sl8 sl9 sl10 sl11 sl12 sl13 sl14 sl15 sl16 sl17 sl18 sl19 sl20 sl21 sl22 sl23 sl24 sl25 sl26 sl27 sl28 sl29 sl30 sl31 sl32 sl33 sl34 sl35 sl36 sl37 sl38 sl39 : Array (Option Value)}
    {oc0 kV0 dc0 pm0 cd0 ct0 oc1 kV1 dc1 pm1 cd1 ct1 oc2 kV2 dc2 pm2 cd2 ct2 oc3 kV3 dc3 pm3 cd3 ct3 oc4 kV4 dc4 pm4 cd4 ct4 oc5 kV5 dc5 pm5 cd5 ct5 oc6 kV6 dc6 pm6 cd6 ct6 oc7 kV7 dc7 pm7 cd7 ct7 oc8 kV8 dc8 pm8 cd8 ct8 oc9 kV9 dc9 pm9 cd9 ct9 oc10 kV10 dc10 pm10 cd10 ct10 oc11 kV11 dc11 pm11 cd11 ct11 oc12 kV12 dc12 pm12 cd12 ct12 oc13 kV13 dc13 pm13 cd13 ct13 oc14 kV14 dc14 pm14 cd14 ct14 oc15 kV15 dc15 pm15 cd15 ct15 oc16 kV16 dc16 pm16 cd16 ct16 oc17 kV17 dc17 pm17 cd17 ct17 oc18 kV18 dc18 pm18 cd18 ct18 oc19 kV19 dc19 pm19 cd19 ct19 oc20 kV20 dc20 pm20 cd20 ct20 oc21 kV21 dc21 pm21 cd21 ct21 oc22 kV22 dc22 pm22 cd22 ct22 oc23 kV23 dc23 pm23 cd23 ct23 oc24 kV24 dc24 pm24 cd24 ct24 oc25 kV25 dc25 pm25 cd25 ct25 oc26 kV26 dc26 pm26 cd26 ct26 oc27 kV27 dc27 pm27 cd27 ct27 oc28 kV28 dc28 pm28 cd28 ct28 oc29 kV29 dc29 pm29 cd29 ct29 oc30 kV30 dc30 pm30 cd30 ct30 oc31 kV31 dc31 pm31 cd31 ct31 oc32 kV32 dc32 pm32 cd32 ct32 oc33 kV33 dc33 pm33 cd33 ct33 oc34 kV34 dc34 pm34 cd34 ct34 oc35 kV35 dc35 pm35 cd35 ct35 oc36 kV36 dc36 pm36 cd36 ct36 oc37 kV37 dc37 pm37 cd37 ct37 oc38 kV38 dc38 pm38 cd38 ct38 oc39 kV39 dc39 pm39 cd39 ct39 : Value}
    {C40 f40 : Addr} {od40 an40 : Option Addr} {sl40 : Array (Option Value)} {oc40 kV40 dc40 pm40 cd40 ct40 : Value}
    (a0 : PySem.W.nsIn K mainGlobals "_law_source" = some (some (.ref f0)))
    (l0 : K.lookup f0 = some ⟨oc0, od0, .func (PySem.W.fnOf "_law_source" "_law_source" (defArgs s__law_source) (defBody s__law_source) (defScope s__law_source) .none kV0 dc0 pm0 an0 cd0 ct0), sl0⟩)
    (c0 : PySem.W.codeIn K cd0 "_law_source" = true)
    (k0 : PySem.W.keepIn K (.ref f0) = true)
    (a1 : PySem.W.nsIn K mainGlobals "_law_draw" = some (some (.ref f1)))
    (l1 : K.lookup f1 = some ⟨oc1, od1, .func (PySem.W.fnOf "_law_draw" "_law_draw" (defArgs s__law_draw) (defBody s__law_draw) (defScope s__law_draw) .none kV1 dc1 pm1 an1 cd1 ct1), sl1⟩)
    (c1 : PySem.W.codeIn K cd1 "_law_draw" = true)
    (k1 : PySem.W.keepIn K (.ref f1) = true)
    (a2 : PySem.W.nsIn K mainGlobals "_law_turn" = some (some (.ref f2)))
    (l2 : K.lookup f2 = some ⟨oc2, od2, .func (PySem.W.fnOf "_law_turn" "_law_turn" (defArgs s__law_turn) (defBody s__law_turn) (defScope s__law_turn) .none kV2 dc2 pm2 an2 cd2 ct2), sl2⟩)
    (c2 : PySem.W.codeIn K cd2 "_law_turn" = true)
    (k2 : PySem.W.keepIn K (.ref f2) = true)
    (a3 : PySem.W.nsIn K mainGlobals "_law_picture" = some (some (.ref f3)))
    (l3 : K.lookup f3 = some ⟨oc3, od3, .func (PySem.W.fnOf "_law_picture" "_law_picture" (defArgs s__law_picture) (defBody s__law_picture) (defScope s__law_picture) .none kV3 dc3 pm3 an3 cd3 ct3), sl3⟩)
    (c3 : PySem.W.codeIn K cd3 "_law_picture" = true)
    (k3 : PySem.W.keepIn K (.ref f3) = true)
    (a4 : PySem.W.nsIn K mainGlobals "_law_orders" = some (some (.ref f4)))
    (l4 : K.lookup f4 = some ⟨oc4, od4, .func (PySem.W.fnOf "_law_orders" "_law_orders" (defArgs s__law_orders) (defBody s__law_orders) (defScope s__law_orders) .none kV4 dc4 pm4 an4 cd4 ct4), sl4⟩)
    (c4 : PySem.W.codeIn K cd4 "_law_orders" = true)
    (k4 : PySem.W.keepIn K (.ref f4) = true)
    (a5 : PySem.W.nsIn K mainGlobals "_law_flat" = some (some (.ref f5)))
    (l5 : K.lookup f5 = some ⟨oc5, od5, .func (PySem.W.fnOf "_law_flat" "_law_flat" (defArgs s__law_flat) (defBody s__law_flat) (defScope s__law_flat) .none kV5 dc5 pm5 an5 cd5 ct5), sl5⟩)
    (c5 : PySem.W.codeIn K cd5 "_law_flat" = true)
    (k5 : PySem.W.keepIn K (.ref f5) = true)
    (a6 : PySem.W.nsIn K mainGlobals "_law_tie" = some (some (.ref f6)))
    (l6 : K.lookup f6 = some ⟨oc6, od6, .func (PySem.W.fnOf "_law_tie" "_law_tie" (defArgs s__law_tie) (defBody s__law_tie) (defScope s__law_tie) .none kV6 dc6 pm6 an6 cd6 ct6), sl6⟩)
    (c6 : PySem.W.codeIn K cd6 "_law_tie" = true)
    (k6 : PySem.W.keepIn K (.ref f6) = true)
    (a7 : PySem.W.nsIn K mainGlobals "_law_piece" = some (some (.ref f7)))
    (l7 : K.lookup f7 = some ⟨oc7, od7, .func (PySem.W.fnOf "_law_piece" "_law_piece" (defArgs s__law_piece) (defBody s__law_piece) (defScope s__law_piece) .none kV7 dc7 pm7 an7 cd7 ct7), sl7⟩)
    (c7 : PySem.W.codeIn K cd7 "_law_piece" = true)
    (k7 : PySem.W.keepIn K (.ref f7) = true)
    (a8 : PySem.W.nsIn K mainGlobals "_law_barred" = some (some (.ref f8)))
    (l8 : K.lookup f8 = some ⟨oc8, od8, .func (PySem.W.fnOf "_law_barred" "_law_barred" (defArgs s__law_barred) (defBody s__law_barred) (defScope s__law_barred) .none kV8 dc8 pm8 an8 cd8 ct8), sl8⟩)
    (c8 : PySem.W.codeIn K cd8 "_law_barred" = true)
    (k8 : PySem.W.keepIn K (.ref f8) = true)
    (a9 : PySem.W.nsIn K mainGlobals "is_sequence" = some (some (.ref f9)))
    (l9 : K.lookup f9 = some ⟨oc9, od9, .func (PySem.W.fnOf "is_sequence" "is_sequence" (defArgs s_is_sequence) (defBody s_is_sequence) (defScope s_is_sequence) .none kV9 dc9 pm9 an9 cd9 ct9), sl9⟩)
    (c9 : PySem.W.codeIn K cd9 "is_sequence" = true)
    (k9 : PySem.W.keepIn K (.ref f9) = true)
    (a10 : PySem.W.nsIn K mainGlobals "is_number" = some (some (.ref f10)))
    (l10 : K.lookup f10 = some ⟨oc10, od10, .func (PySem.W.fnOf "is_number" "is_number" (defArgs s_is_number) (defBody s_is_number) (defScope s_is_number) .none kV10 dc10 pm10 an10 cd10 ct10), sl10⟩)
    (c10 : PySem.W.codeIn K cd10 "is_number" = true)
    (k10 : PySem.W.keepIn K (.ref f10) = true)
    (a11 : PySem.W.nsIn K mainGlobals "is_below" = some (some (.ref f11)))
    (l11 : K.lookup f11 = some ⟨oc11, od11, .func (PySem.W.fnOf "is_below" "is_below" (defArgs s_is_below) (defBody s_is_below) (defScope s_is_below) .none kV11 dc11 pm11 an11 cd11 ct11), sl11⟩)
    (c11 : PySem.W.codeIn K cd11 "is_below" = true)
    (k11 : PySem.W.keepIn K (.ref f11) = true)
    (a12 : PySem.W.nsIn K mainGlobals "check_turn" = some (some (.ref f12)))
    (l12 : K.lookup f12 = some ⟨oc12, od12, .func (PySem.W.fnOf "check_turn" "check_turn" (defArgs s_check_turn) (defBody s_check_turn) (defScope s_check_turn) .none kV12 dc12 pm12 an12 cd12 ct12), sl12⟩)
    (c12 : PySem.W.codeIn K cd12 "check_turn" = true)
    (k12 : PySem.W.keepIn K (.ref f12) = true)
    (a13 : PySem.W.nsIn K mainGlobals "is_row" = some (some (.ref f13)))
    (l13 : K.lookup f13 = some ⟨oc13, od13, .func (PySem.W.fnOf "is_row" "is_row" (defArgs s_is_row) (defBody s_is_row) (defScope s_is_row) .none kV13 dc13 pm13 an13 cd13 ct13), sl13⟩)
    (c13 : PySem.W.codeIn K cd13 "is_row" = true)
    (k13 : PySem.W.keepIn K (.ref f13) = true)
    (a14 : PySem.W.nsIn K mainGlobals "is_shape" = some (some (.ref f14)))
    (l14 : K.lookup f14 = some ⟨oc14, od14, .func (PySem.W.fnOf "is_shape" "is_shape" (defArgs s_is_shape) (defBody s_is_shape) (defScope s_is_shape) .none kV14 dc14 pm14 an14 cd14 ct14), sl14⟩)
    (c14 : PySem.W.codeIn K cd14 "is_shape" = true)
    (k14 : PySem.W.keepIn K (.ref f14) = true)
    (a15 : PySem.W.nsIn K mainGlobals "check_bars" = some (some (.ref f15)))
    (l15 : K.lookup f15 = some ⟨oc15, od15, .func (PySem.W.fnOf "check_bars" "check_bars" (defArgs s_check_bars) (defBody s_check_bars) (defScope s_check_bars) .none kV15 dc15 pm15 an15 cd15 ct15), sl15⟩)
    (c15 : PySem.W.codeIn K cd15 "check_bars" = true)
    (k15 : PySem.W.keepIn K (.ref f15) = true)
    (a16 : PySem.W.nsIn K mainGlobals "tie_in" = some (some (.ref f16)))
    (l16 : K.lookup f16 = some ⟨oc16, od16, .func (PySem.W.fnOf "tie_in" "tie_in" (defArgs s_tie_in) (defBody s_tie_in) (defScope s_tie_in) .none kV16 dc16 pm16 an16 cd16 ct16), sl16⟩)
    (c16 : PySem.W.codeIn K cd16 "tie_in" = true)
    (k16 : PySem.W.keepIn K (.ref f16) = true)
    (a17 : PySem.W.nsIn K mainGlobals "least_shape" = some (some (.ref f17)))
    (l17 : K.lookup f17 = some ⟨oc17, od17, .func (PySem.W.fnOf "least_shape" "least_shape" (defArgs s_least_shape) (defBody s_least_shape) (defScope s_least_shape) .none kV17 dc17 pm17 an17 cd17 ct17), sl17⟩)
    (c17 : PySem.W.codeIn K cd17 "least_shape" = true)
    (k17 : PySem.W.keepIn K (.ref f17) = true)
    (a18 : PySem.W.nsIn K mainGlobals "flat" = some (some (.ref f18)))
    (l18 : K.lookup f18 = some ⟨oc18, od18, .func (PySem.W.fnOf "flat" "flat" (defArgs s_flat) (defBody s_flat) (defScope s_flat) .none kV18 dc18 pm18 an18 cd18 ct18), sl18⟩)
    (c18 : PySem.W.codeIn K cd18 "flat" = true)
    (k18 : PySem.W.keepIn K (.ref f18) = true)
    (a19 : PySem.W.nsIn K mainGlobals "row_to" = some (some (.ref f19)))
    (l19 : K.lookup f19 = some ⟨oc19, od19, .func (PySem.W.fnOf "row_to" "row_to" (defArgs s_row_to) (defBody s_row_to) (defScope s_row_to) .none kV19 dc19 pm19 an19 cd19 ct19), sl19⟩)
    (c19 : PySem.W.codeIn K cd19 "row_to" = true)
    (k19 : PySem.W.keepIn K (.ref f19) = true)
    (a20 : PySem.W.nsIn K mainGlobals "cut" = some (some (.ref f20)))
    (l20 : K.lookup f20 = some ⟨oc20, od20, .func (PySem.W.fnOf "cut" "cut" (defArgs s_cut) (defBody s_cut) (defScope s_cut) .none kV20 dc20 pm20 an20 cd20 ct20), sl20⟩)
    (c20 : PySem.W.codeIn K cd20 "cut" = true)
    (k20 : PySem.W.keepIn K (.ref f20) = true)
    (a21 : PySem.W.nsIn K mainGlobals "barred_orders" = some (some (.ref f21)))
    (l21 : K.lookup f21 = some ⟨oc21, od21, .func (PySem.W.fnOf "barred_orders" "barred_orders" (defArgs s_barred_orders) (defBody s_barred_orders) (defScope s_barred_orders) .none kV21 dc21 pm21 an21 cd21 ct21), sl21⟩)
    (c21 : PySem.W.codeIn K cd21 "barred_orders" = true)
    (k21 : PySem.W.keepIn K (.ref f21) = true)
    (a22 : PySem.W.nsIn K mainGlobals "_law_meets" = some (some (.ref f22)))
    (l22 : K.lookup f22 = some ⟨oc22, od22, .func (PySem.W.fnOf "_law_meets" "_law_meets" (defArgs s__law_meets) (defBody s__law_meets) (defScope s__law_meets) .none kV22 dc22 pm22 an22 cd22 ct22), sl22⟩)
    (c22 : PySem.W.codeIn K cd22 "_law_meets" = true)
    (k22 : PySem.W.keepIn K (.ref f22) = true)
    (a23 : PySem.W.nsIn K mainGlobals "_law_drawn_row" = some (some (.ref f23)))
    (l23 : K.lookup f23 = some ⟨oc23, od23, .func (PySem.W.fnOf "_law_drawn_row" "_law_drawn_row" (defArgs s__law_drawn_row) (defBody s__law_drawn_row) (defScope s__law_drawn_row) .none kV23 dc23 pm23 an23 cd23 ct23), sl23⟩)
    (c23 : PySem.W.codeIn K cd23 "_law_drawn_row" = true)
    (k23 : PySem.W.keepIn K (.ref f23) = true)
    (a24 : PySem.W.nsIn K mainGlobals "_law_drawn_let" = some (some (.ref f24)))
    (l24 : K.lookup f24 = some ⟨oc24, od24, .func (PySem.W.fnOf "_law_drawn_let" "_law_drawn_let" (defArgs s__law_drawn_let) (defBody s__law_drawn_let) (defScope s__law_drawn_let) .none kV24 dc24 pm24 an24 cd24 ct24), sl24⟩)
    (c24 : PySem.W.codeIn K cd24 "_law_drawn_let" = true)
    (k24 : PySem.W.keepIn K (.ref f24) = true)
    (a25 : PySem.W.nsIn K mainGlobals "_law_changed" = some (some (.ref f25)))
    (l25 : K.lookup f25 = some ⟨oc25, od25, .func (PySem.W.fnOf "_law_changed" "_law_changed" (defArgs s__law_changed) (defBody s__law_changed) (defScope s__law_changed) .none kV25 dc25 pm25 an25 cd25 ct25), sl25⟩)
    (c25 : PySem.W.codeIn K cd25 "_law_changed" = true)
    (k25 : PySem.W.keepIn K (.ref f25) = true)
    (a26 : PySem.W.nsIn K mainGlobals "_law_order" = some (some (.ref f26)))
    (l26 : K.lookup f26 = some ⟨oc26, od26, .func (PySem.W.fnOf "_law_order" "_law_order" (defArgs s__law_order) (defBody s__law_order) (defScope s__law_order) .none kV26 dc26 pm26 an26 cd26 ct26), sl26⟩)
    (c26 : PySem.W.codeIn K cd26 "_law_order" = true)
    (k26 : PySem.W.keepIn K (.ref f26) = true)
    (a27 : PySem.W.nsIn K mainGlobals "_law_first_barred" = some (some (.ref f27)))
    (l27 : K.lookup f27 = some ⟨oc27, od27, .func (PySem.W.fnOf "_law_first_barred" "_law_first_barred" (defArgs s__law_first_barred) (defBody s__law_first_barred) (defScope s__law_first_barred) .none kV27 dc27 pm27 an27 cd27 ct27), sl27⟩)
    (c27 : PySem.W.codeIn K cd27 "_law_first_barred" = true)
    (k27 : PySem.W.keepIn K (.ref f27) = true)
    (a28 : PySem.W.nsIn K mainGlobals "check_picture" = some (some (.ref f28)))
    (l28 : K.lookup f28 = some ⟨oc28, od28, .func (PySem.W.fnOf "check_picture" "check_picture" (defArgs s_check_picture) (defBody s_check_picture) (defScope s_check_picture) .none kV28 dc28 pm28 an28 cd28 ct28), sl28⟩)
    (c28 : PySem.W.codeIn K cd28 "check_picture" = true)
    (k28 : PySem.W.keepIn K (.ref f28) = true)
    (a29 : PySem.W.nsIn K mainGlobals "tie_fits" = some (some (.ref f29)))
    (l29 : K.lookup f29 = some ⟨oc29, od29, .func (PySem.W.fnOf "tie_fits" "tie_fits" (defArgs s_tie_fits) (defBody s_tie_fits) (defScope s_tie_fits) .none kV29 dc29 pm29 an29 cd29 ct29), sl29⟩)
    (c29 : PySem.W.codeIn K cd29 "tie_fits" = true)
    (k29 : PySem.W.keepIn K (.ref f29) = true)
    (a30 : PySem.W.nsIn K mainGlobals "row_fits" = some (some (.ref f30)))
    (l30 : K.lookup f30 = some ⟨oc30, od30, .func (PySem.W.fnOf "row_fits" "row_fits" (defArgs s_row_fits) (defBody s_row_fits) (defScope s_row_fits) .none kV30 dc30 pm30 an30 cd30 ct30), sl30⟩)
    (c30 : PySem.W.codeIn K cd30 "row_fits" = true)
    (k30 : PySem.W.keepIn K (.ref f30) = true)
    (a31 : PySem.W.nsIn K mainGlobals "is_let" = some (some (.ref f31)))
    (l31 : K.lookup f31 = some ⟨oc31, od31, .func (PySem.W.fnOf "is_let" "is_let" (defArgs s_is_let) (defBody s_is_let) (defScope s_is_let) .none kV31 dc31 pm31 an31 cd31 ct31), sl31⟩)
    (c31 : PySem.W.codeIn K cd31 "is_let" = true)
    (k31 : PySem.W.keepIn K (.ref f31) = true)
    (a32 : PySem.W.nsIn K mainGlobals "lets" = some (some (.ref f32)))
    (l32 : K.lookup f32 = some ⟨oc32, od32, .func (PySem.W.fnOf "lets" "lets" (defArgs s_lets) (defBody s_lets) (defScope s_lets) .none kV32 dc32 pm32 an32 cd32 ct32), sl32⟩)
    (c32 : PySem.W.codeIn K cd32 "lets" = true)
    (k32 : PySem.W.keepIn K (.ref f32) = true)
    (a33 : PySem.W.nsIn K mainGlobals "_law_equal" = some (some (.ref f33)))
    (l33 : K.lookup f33 = some ⟨oc33, od33, .func (PySem.W.fnOf "_law_equal" "_law_equal" (defArgs s__law_equal) (defBody s__law_equal) (defScope s__law_equal) .none kV33 dc33 pm33 an33 cd33 ct33), sl33⟩)
    (c33 : PySem.W.codeIn K cd33 "_law_equal" = true)
    (k33 : PySem.W.keepIn K (.ref f33) = true)
    (a34 : PySem.W.nsIn K mainGlobals "is_barred" = some (some (.ref f34)))
    (l34 : K.lookup f34 = some ⟨oc34, od34, .func (PySem.W.fnOf "is_barred" "is_barred" (defArgs s_is_barred) (defBody s_is_barred) (defScope s_is_barred) .none kV34 dc34 pm34 an34 cd34 ct34), sl34⟩)
    (c34 : PySem.W.codeIn K cd34 "is_barred" = true)
    (k34 : PySem.W.keepIn K (.ref f34) = true)
    (a35 : PySem.W.nsIn K mainGlobals "first_barred" = some (some (.ref f35)))
    (l35 : K.lookup f35 = some ⟨oc35, od35, .func (PySem.W.fnOf "first_barred" "first_barred" (defArgs s_first_barred) (defBody s_first_barred) (defScope s_first_barred) .none kV35 dc35 pm35 an35 cd35 ct35), sl35⟩)
    (c35 : PySem.W.codeIn K cd35 "first_barred" = true)
    (k35 : PySem.W.keepIn K (.ref f35) = true)
    (a36 : PySem.W.nsIn K mainGlobals "barred_places" = some (some (.ref f36)))
    (l36 : K.lookup f36 = some ⟨oc36, od36, .func (PySem.W.fnOf "barred_places" "barred_places" (defArgs s_barred_places) (defBody s_barred_places) (defScope s_barred_places) .none kV36 dc36 pm36 an36 cd36 ct36), sl36⟩)
    (c36 : PySem.W.codeIn K cd36 "barred_places" = true)
    (k36 : PySem.W.keepIn K (.ref f36) = true)
    (a37 : PySem.W.nsIn K mainGlobals "_law_ask" = some (some (.ref f37)))
    (l37 : K.lookup f37 = some ⟨oc37, od37, .func (PySem.W.fnOf "_law_ask" "_law_ask" (defArgs s__law_ask) (defBody s__law_ask) (defScope s__law_ask) .none kV37 dc37 pm37 an37 cd37 ct37), sl37⟩)
    (c37 : PySem.W.codeIn K cd37 "_law_ask" = true)
    (k37 : PySem.W.keepIn K (.ref f37) = true)
    (a38 : PySem.W.nsIn K mainGlobals "law" = some (some (.ref f38)))
    (l38 : K.lookup f38 = some ⟨oc38, od38, .func (PySem.W.fnOf "law" "law" (defArgs s_law) (defBody s_law) (defScope s_law) .none kV38 dc38 pm38 an38 cd38 ct38), sl38⟩)
    (c38 : PySem.W.codeIn K cd38 "law" = true)
    (k38 : PySem.W.keepIn K (.ref f38) = true)
    (a39 : PySem.W.nsIn K mainGlobals "by_size" = some (some (.ref f39)))
    (l39 : K.lookup f39 = some ⟨oc39, od39, .func (PySem.W.fnOf "by_size" "by_size" (defArgs s_by_size) (defBody s_by_size) (defScope s_by_size) .none kV39 dc39 pm39 an39 cd39 ct39), sl39⟩)
    (c39 : PySem.W.codeIn K cd39 "by_size" = true)
    (k39 : PySem.W.keepIn K (.ref f39) = true)
    (aC40 : PySem.W.nsIn K mainGlobals "Table" = some (some (.ref C40)))
    (a40 : PySem.W.findIn K (.ref C40) "__init__" = some (some (.ref f40)))
    (i40 : PySem.W.isFn K (.ref f40) = true)
    (l40 : K.lookup f40 = some ⟨oc40, od40, .func (PySem.W.fnOf "__init__" "Table.__init__" (defArgs s_Table) (defBody s_Table) (defScope s_Table) .none kV40 dc40 pm40 an40 cd40 ct40), sl40⟩)
    (c40 : PySem.W.codeIn K cd40 "Table.__init__" = true)
    (k40 : PySem.W.keepIn K (.ref f40) = true)
    (pg40 : PySem.W.plainGet K C40 Str.empty = true)
    (hd40 : PySem.W.hasDictIn K C40 = true)
    (po40 : PySem.W.plainOver K C40 = true)
    (sa40 : PySem.W.findIn K (.ref C40) "__setattr__" = some (some (.builtin "object.__setattr__")))
    (mk40 : PySem.W.makesIn K C40 = true)
    (kc40 : PySem.W.keepIn K (.ref C40) = true)
    (n40_turn : PySem.W.findIn K (.ref C40) "turn" = some none)
    (n40_ties : PySem.W.findIn K (.ref C40) "ties" = some none)
    (n40_bars : PySem.W.findIn K (.ref C40) "bars" = some none)
    (n40_widest : PySem.W.findIn K (.ref C40) "widest" = some none)
    (n40_barred : PySem.W.findIn K (.ref C40) "barred" = some none)
    (n40_notes : PySem.W.findIn K (.ref C40) "notes" = some none)
    (z_bool : PySem.W.nsIn K mainGlobals "bool" = some none)
    (z_enumerate : PySem.W.nsIn K mainGlobals "enumerate" = some none)
    (z_int : PySem.W.nsIn K mainGlobals "int" = some none)
    (z_isinstance : PySem.W.nsIn K mainGlobals "isinstance" = some none)
    (z_len : PySem.W.nsIn K mainGlobals "len" = some none)
    (z_list : PySem.W.nsIn K mainGlobals "list" = some none)
    (z_max : PySem.W.nsIn K mainGlobals "max" = some none)
    (z_range : PySem.W.nsIn K mainGlobals "range" = some none)
    (z_sorted : PySem.W.nsIn K mainGlobals "sorted" = some none)
    (z_str : PySem.W.nsIn K mainGlobals "str" = some none)
    (z_tuple : PySem.W.nsIn K mainGlobals "tuple" = some none)
    (im_combinations : PySem.W.nsIn K mainGlobals "combinations" = some (some (.type "itertools.combinations")))
    (im_permutations : PySem.W.nsIn K mainGlobals "permutations" = some (some (.type "itertools.permutations"))) :
    ∃ fd : FuncData, (∀ (s : Shared) (v : Value), BindsTo s fd ⟨[v], []⟩ [("script", v)]) ∧ ∀ base : Heap, K.In base → base.Ns mainGlobals mg → FnOk l.prog w K mg base (L2.CX l.prog w) 15 fa fd ["script"] (spL K) := by
  have e := hfa.symm.trans (PySem.W.mg_of X G a38)
  cases e
  refine ⟨PySem.W.fnOf "law" "law" (defArgs s_law) (defBody s_law) (defScope s_law) .none kV38 dc38 pm38 an38 cd38 ct38, fun s v => .of_eq rfl, fun base _ _ => ?_⟩
  have T : Txt ⟨l.prog, w, K, mg, base, fun _ _ => none⟩ := txt_mk X G a0 l0 c0 k0 a1 l1 c1 k1 a2 l2 c2 k2 a3 l3 c3 k3 a4 l4 c4 k4 a5 l5 c5 k5 a6 l6 c6 k6 a7 l7 c7 k7 a8 l8 c8 k8 a9 l9 c9 k9 a10 l10 c10 k10 a11 l11 c11 k11 a12 l12 c12 k12 a13 l13 c13 k13 a14 l14 c14 k14 a15 l15 c15 k15 a16 l16 c16 k16 a17 l17 c17 k17 a18 l18 c18 k18 a19 l19 c19 k19 a20 l20 c20 k20 a21 l21 c21 k21 a22 l22 c22 k22 a23 l23 c23 k23 a24 l24 c24 k24 a25 l25 c25 k25 a26 l26 c26 k26 a27 l27 c27 k27 a28 l28 c28 k28 a29 l29 c29 k29 a30 l30 c30 k30 a31 l31 c31 k31 a32 l32 c32 k32 a33 l33 c33 k33 a34 l34 c34 k34 a35 l35 c35 k35 a36 l36 c36 k36 a37 l37 c37 k37 a38 l38 c38 k38 a39 l39 c39 k39 aC40 a40 i40 l40 c40 k40 pg40 hd40 po40 sa40 mk40 kc40 n40_turn n40_ties n40_bars n40_widest n40_barred n40_notes z_bool z_enumerate z_int z_isinstance z_len z_list z_max z_range z_sorted z_str z_tuple im_combinations im_permutations
  obtain ⟨f, fd, h1, h2, h3⟩ := (fnd_law T).ex
  have e2 := h1.symm.trans (PySem.W.mg_of X G a38)
  cases e2
  obtain ⟨oc, od, kV, doc, pm, an, cdv, ct, osl, rfl, lk, hcd⟩ := h2.ex
  rw [l38] at lk
  cases lk
  exact law_end (mode := .frz) h3 law_plain
theorem walk {l : PySem.W.OpenLaw} {q : Program} {loose : List Str} {XP : (Str → Option Value) → Heap → Prop} {YP : World → Heap → Prop} {d : DefRec} {K : Params → PySem.W.Frag} (hn : l.most = some 63) (hdf : d.params.defaults = [])
    (hY : ∀ (w : World) (h : Heap), YP w h → (K w.params).In h)
    (F : ∀ (w : World) (mg : Str → Option Value) (fa : Addr) (h : Heap), (K w.params).In h → h.Ns mainGlobals mg → mg d.name = some (.ref fa) →
      ∃ fd : FuncData, (∀ (s : Shared) (u : Value), BindsTo s fd ⟨[u], []⟩ [("script", u)]) ∧ ∀ base : Heap, (K w.params).In base → base.Ns mainGlobals mg → FnOk l.prog w (K w.params) mg base (L2.CX l.prog w) 15 fa fd ["script"] (spL (K w.params))) :
    PySem.W.WalkO q loose XP YP l.row.toRowW d [] (fun f vs => PySem.call f vs) :=
  L2.walk_of (n := 63) (k := 15) (x := "script") (CX := fun w => L2.CX l.prog w) (sp := fun w => spL (K w.params)) hn (by decide) hdf ⟨rfl, by decide, by decide⟩ hY F (fun _ _ a ns hl _ hS => ⟨a, ns, rfl, hS, hl, fun _ => rfl⟩) fun _ H s e s' hx => by
    obtain ⟨_, _, _, _, _, _, _, _, _, _, _, _, hf⟩ := hx
    exact hf
end Dn.L

open PySem PySem.W PyProof.Rows in
set_option maxRecDepth 100000 in
set_option maxHeartbeats 0 in
theorem PySem.Challenge.cw_patchworlds_k09_lets_and_barred_places_holds : PySem.Challenge.rw_patchworlds_k09_lets_and_barred_places.Holds := by
  w_on; o_law; k_head; (case hw => w_witness2)
  k_fill
  refine Dn.L.walk (l := PySem.Challenge.rw_patchworlds_k09_lets_and_barred_places) rfl rfl (fun w h Y => PySem.W.kIn_of Y) ?F
  case F =>
    intro w mg fa h KX G hmg
    refine' Dn.L.all_mk KX G hmg ?a0 ?l0 ?c0 ?k0 ?a1 ?l1 ?c1 ?k1 ?a2 ?l2 ?c2 ?k2 ?a3 ?l3 ?c3 ?k3 ?a4 ?l4 ?c4 ?k4 ?a5 ?l5 ?c5 ?k5 ?a6 ?l6 ?c6 ?k6 ?a7 ?l7 ?c7 ?k7 ?a8 ?l8 ?c8 ?k8 ?a9 ?l9 ?c9 ?k9 ?a10 ?l10 ?c10 ?k10 ?a11 ?l11 ?c11 ?k11 ?a12 ?l12 ?c12 ?k12 ?a13 ?l13 ?c13 ?k13 ?a14 ?l14 ?c14 ?k14 ?a15 ?l15 ?c15 ?k15 ?a16 ?l16 ?c16 ?k16 ?a17 ?l17 ?c17 ?k17 ?a18 ?l18 ?c18 ?k18 ?a19 ?l19 ?c19 ?k19 ?a20 ?l20 ?c20 ?k20 ?a21 ?l21 ?c21 ?k21 ?a22 ?l22 ?c22 ?k22 ?a23 ?l23 ?c23 ?k23 ?a24 ?l24 ?c24 ?k24 ?a25 ?l25 ?c25 ?k25 ?a26 ?l26 ?c26 ?k26 ?a27 ?l27 ?c27 ?k27 ?a28 ?l28 ?c28 ?k28 ?a29 ?l29 ?c29 ?k29 ?a30 ?l30 ?c30 ?k30 ?a31 ?l31 ?c31 ?k31 ?a32 ?l32 ?c32 ?k32 ?a33 ?l33 ?c33 ?k33 ?a34 ?l34 ?c34 ?k34 ?a35 ?l35 ?c35 ?k35 ?a36 ?l36 ?c36 ?k36 ?a37 ?l37 ?c37 ?k37 ?a38 ?l38 ?c38 ?k38 ?a39 ?l39 ?c39 ?k39 ?aC40 ?a40 ?i40 ?l40 ?c40 ?k40 ?pg40 ?hd40 ?po40 ?sa40 ?mk40 ?kc40 ?n40_turn ?n40_ties ?n40_bars ?n40_widest ?n40_barred ?n40_notes ?z_bool ?z_enumerate ?z_int ?z_isinstance ?z_len ?z_list ?z_max ?z_range ?z_sorted ?z_str ?z_tuple ?im_combinations ?im_permutations
    (case a0 => k_is)
    (case l0 => k_is)
    (case c0 => k_is)
    (case k0 => k_is)
    (case a1 => k_is)
    (case l1 => k_is)
    (case c1 => k_is)
    (case k1 => k_is)
    (case a2 => k_is)
    (case l2 => k_is)
    (case c2 => k_is)
    (case k2 => k_is)
    (case a3 => k_is)
    (case l3 => k_is)
    (case c3 => k_is)
    (case k3 => k_is)
    (case a4 => k_is)
    (case l4 => k_is)
    (case c4 => k_is)
    (case k4 => k_is)
    (case a5 => k_is)
    (case l5 => k_is)
    (case c5 => k_is)
    (case k5 => k_is)
    (case a6 => k_is)
    (case l6 => k_is)
    (case c6 => k_is)
    (case k6 => k_is)
    (case a7 => k_is)
    (case l7 => k_is)
    (case c7 => k_is)
    (case k7 => k_is)
    (case a8 => k_is)
    (case l8 => k_is)
    (case c8 => k_is)
    (case k8 => k_is)
    (case a9 => k_is)
    (case l9 => k_is)
    (case c9 => k_is)
    (case k9 => k_is)
    (case a10 => k_is)
    (case l10 => k_is)
    (case c10 => k_is)
    (case k10 => k_is)
    (case a11 => k_is)
    (case l11 => k_is)
    (case c11 => k_is)
    (case k11 => k_is)
    (case a12 => k_is)
    (case l12 => k_is)
    (case c12 => k_is)
    (case k12 => k_is)
    (case a13 => k_is)
    (case l13 => k_is)
    (case c13 => k_is)
    (case k13 => k_is)
    (case a14 => k_is)
    (case l14 => k_is)
    (case c14 => k_is)
    (case k14 => k_is)
    (case a15 => k_is)
    (case l15 => k_is)
    (case c15 => k_is)
    (case k15 => k_is)
    (case a16 => k_is)
    (case l16 => k_is)
    (case c16 => k_is)
    (case k16 => k_is)
    (case a17 => k_is)
    (case l17 => k_is)
    (case c17 => k_is)
    (case k17 => k_is)
    (case a18 => k_is)
    (case l18 => k_is)
    (case c18 => k_is)
    (case k18 => k_is)
    (case a19 => k_is)
    (case l19 => k_is)
    (case c19 => k_is)
    (case k19 => k_is)
    (case a20 => k_is)
    (case l20 => k_is)
    (case c20 => k_is)
    (case k20 => k_is)
    (case a21 => k_is)
    (case l21 => k_is)
    (case c21 => k_is)
    (case k21 => k_is)
    (case a22 => k_is)
    (case l22 => k_is)
    (case c22 => k_is)
    (case k22 => k_is)
    (case a23 => k_is)
    (case l23 => k_is)
    (case c23 => k_is)
    (case k23 => k_is)
    (case a24 => k_is)
    (case l24 => k_is)
    (case c24 => k_is)
    (case k24 => k_is)
    (case a25 => k_is)
    (case l25 => k_is)
    (case c25 => k_is)
    (case k25 => k_is)
    (case a26 => k_is)
    (case l26 => k_is)
    (case c26 => k_is)
    (case k26 => k_is)
    (case a27 => k_is)
    (case l27 => k_is)
    (case c27 => k_is)
    (case k27 => k_is)
    (case a28 => k_is)
    (case l28 => k_is)
    (case c28 => k_is)
    (case k28 => k_is)
    (case a29 => k_is)
    (case l29 => k_is)
    (case c29 => k_is)
    (case k29 => k_is)
    (case a30 => k_is)
    (case l30 => k_is)
    (case c30 => k_is)
    (case k30 => k_is)
    (case a31 => k_is)
    (case l31 => k_is)
    (case c31 => k_is)
    (case k31 => k_is)
    (case a32 => k_is)
    (case l32 => k_is)
    (case c32 => k_is)
    (case k32 => k_is)
    (case a33 => k_is)
    (case l33 => k_is)
    (case c33 => k_is)
    (case k33 => k_is)
    (case a34 => k_is)
    (case l34 => k_is)
    (case c34 => k_is)
    (case k34 => k_is)
    (case a35 => k_is)
    (case l35 => k_is)
    (case c35 => k_is)
    (case k35 => k_is)
    (case a36 => k_is)
    (case l36 => k_is)
    (case c36 => k_is)
    (case k36 => k_is)
    (case a37 => k_is)
    (case l37 => k_is)
    (case c37 => k_is)
    (case k37 => k_is)
    (case a38 => k_is)
    (case l38 => k_is)
    (case c38 => k_is)
    (case k38 => k_is)
    (case a39 => k_is)
    (case l39 => k_is)
    (case c39 => k_is)
    (case k39 => k_is)
    (case aC40 => k_is)
    (case a40 => k_is)
    (case i40 => k_is)
    (case l40 => k_is)
    (case c40 => k_is)
    (case k40 => k_is)
    (case pg40 => k_is)
    (case hd40 => k_is)
    (case po40 => k_is)
    (case sa40 => k_is)
    (case mk40 => k_is)
    (case kc40 => k_is)
    (case n40_turn => k_is)
    (case n40_ties => k_is)
    (case n40_bars => k_is)
    (case n40_widest => k_is)
    (case n40_barred => k_is)
    (case n40_notes => k_is)
    (case z_bool => k_is)
    (case z_enumerate => k_is)
    (case z_int => k_is)
    (case z_isinstance => k_is)
    (case z_len => k_is)
    (case z_list => k_is)
    (case z_max => k_is)
    (case z_range => k_is)
    (case z_sorted => k_is)
    (case z_str => k_is)
    (case z_tuple => k_is)
    (case im_combinations => k_is)
    (case im_permutations => k_is)
#print axioms PySem.Challenge.cw_patchworlds_k09_lets_and_barred_places_holds
