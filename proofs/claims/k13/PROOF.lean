import PyProof.Rows.All
import Wide.All
import OpenK.AllK
import Wide.FinOn
import HandS.ForMost
import HandS.TupAny
import HandS.TupMul
import HandS.Zip
import HandS.Conv
import HandS.Flow
import KE.GoesNew
import KE.GoesMore
import PyProof.EnumMake
import PyProof.CallFns
import PyProof.ReprRoads
import HandS.Style
import HandS.NoneIn
import HandS.Deep
import HandS.Dict
import HandS.Sort
import HandS.SortInts
import KE.SortData
import PyProof.SliceList
import HandS.Ends
import HandS.MapObj
import KE.KDictZip
import KE.KStar
import HandS.Star
import PySem.Challenge.RW_turnedweights_k13_whole_rooms_and_the_fo
set_option Elab.async false
set_option linter.all false
set_option maxRecDepth 100000
/-! Ev1: data by value over the hand layer: pure data, owned lists, the drawing source. -/
namespace L2.Ev
open PySem PySem.Spec PyProof.Rows

/-- the source from which a law draws -/
structure Src where
  cells : List Int
  left : Int
  mixed : Int
  turn : Int
  deriving Inhabited

abbrev SA := Option (Addr × Addr)
def Away (sa : SA) (a : Addr) : Prop := ∀ p, sa = some p → a ≠ p.1 ∧ a ≠ p.2
theorem Away.empty {a : Addr} : Away Option.none a := fun _ h => nomatch h

mutual
def Pu : PyData → Prop
  | .none => True
  | .bool _ => True
  | .int _ => True
  | .str x => x.length ≤ sizeLine
  | .tuple ds => ds.length ≤ sizeLine ∧ PuAll ds
  | .list _ => False
  | .dict _ => False
def PuAll : List PyData → Prop
  | [] => True
  | d :: ds => Pu d ∧ PuAll ds
end
theorem puAll_iff : ∀ {ds : List PyData}, PuAll ds ↔ ∀ d ∈ ds, Pu d
  | [] => ⟨fun _ _ h => absurd h (by simp), fun _ => trivial⟩
  | d :: ds => by
    show (Pu d ∧ PuAll ds) ↔ _
    rw [List.forall_mem_cons, puAll_iff]
theorem PuAll.get {ds : List PyData} (h : PuAll ds) {i : Nat} {d : PyData} (e : ds[i]? = some d) : Pu d := puAll_iff.mp h d (List.mem_of_getElem? e)
theorem PuAll.append {ds es : List PyData} (h : PuAll ds) (g : PuAll es) : PuAll (ds ++ es) := puAll_iff.mpr fun d m => (List.mem_append.mp m).elim (puAll_iff.mp h d) (puAll_iff.mp g d)
theorem puAll_one {d : PyData} (h : Pu d) : PuAll [d] := ⟨h, trivial⟩
theorem PuAll.sub {ds es : List PyData} (h : PuAll ds) (s : ∀ d ∈ es, d ∈ ds) : PuAll es := puAll_iff.mpr fun d m => puAll_iff.mp h d (s d m)

/-- the tuples stand -/
def TupX (H H' : Hp) : Prop := ∀ a xs, Rd H a (.tup xs) → Rd H' a (.tup xs)
theorem TupX.refl (H : Hp) : TupX H H := fun _ _ h => h
theorem TupX.trans {H H1 H2 : Hp} (a : TupX H H1) (b : TupX H1 H2) : TupX H H2 := fun c xs h => b c xs (a c xs h)
section
variable {K : PySem.W.Frag} {H H' : Hp}
theorem TupX.sqt {a : Addr} {xs : List V} (e : TupX H H') (h : SqT K H a xs) : SqT K H' a xs := h.elim (fun q => .inl (e a xs q)) .inr
mutual
theorem TupX.dp (e : TupX H H') : ∀ (d : PyData) (v : V), Pu d → Dp K H v d → Dp K H' v d
  | .none, _, _, h => by cases h; exact .non
  | .bool b, _, _, h => by cases h; exact .bl b
  | .int i, _, _, h => by cases h; exact .int i
  | .str x, _, _, h => by cases h; exact .str x
  | .tuple ds, _, p, h => by
    cases h with
    | tup hs ha => exact .tup (e.sqt hs) (e.dpAll ds _ p.2 ha)
  | .list _, _, p, _ => p.elim
  | .dict _, _, p, _ => p.elim
theorem TupX.dpAll (e : TupX H H') : ∀ (ds : List PyData) (vs : List V), PuAll ds → DpAll K H vs ds → DpAll K H' vs ds
  | [], _, _, h => by cases h; exact .nil
  | d :: ds, _, p, h => by
    cases h with
    | cons h1 h2 => exact .cons (e.dp d _ p.1 h1) (e.dpAll ds _ p.2 h2)
end
end
end L2.Ev
namespace L2
open PySem PySem.Spec PyProof.Rows
theorem DpAll.length {K : PySem.W.Frag} {H : Hp} : ∀ {vs : List V} {ds : List PyData}, DpAll K H vs ds → vs.length = ds.length
  | _, _, .nil => rfl
  | _, _, .cons _ t => congrArg (· + 1) (DpAll.length t)
theorem DpAll.get {K : PySem.W.Frag} {H : Hp} : ∀ {vs : List V} {ds : List PyData} {i : Nat} {v : V}, DpAll K H vs ds → vs[i]? = some v → ∃ d, ds[i]? = some d ∧ Dp K H v d
  | _, _, _, _, .nil, e => by simp at e
  | _, _, 0, _, .cons r _, e => by simp at e; subst e; exact ⟨_, rfl, r⟩
  | _, _, i + 1, _, .cons _ t, e => DpAll.get (i := i) t (by simpa using e)
theorem DpAll.get' {K : PySem.W.Frag} {H : Hp} : ∀ {vs : List V} {ds : List PyData} {i : Nat} {d : PyData}, DpAll K H vs ds → ds[i]? = some d → ∃ v, vs[i]? = some v ∧ Dp K H v d
  | _, _, _, _, .nil, e => by simp at e
  | _, _, 0, _, .cons r _, e => by simp at e; subst e; exact ⟨_, rfl, r⟩
  | _, _, i + 1, _, .cons _ t, e => DpAll.get' (i := i) t (by simpa using e)
theorem DpAll.append {K : PySem.W.Frag} {H : Hp} : ∀ {vs ws : List V} {ds es : List PyData}, DpAll K H vs ds → DpAll K H ws es → DpAll K H (vs ++ ws) (ds ++ es)
  | _, _, _, _, .nil, s => s
  | _, _, _, _, .cons r t, s => .cons r (DpAll.append t s)
theorem DpAll.one {K : PySem.W.Frag} {H : Hp} {v : V} {d : PyData} (h : Dp K H v d) : DpAll K H [v] [d] := .cons h .nil
theorem DpAll.set {K : PySem.W.Frag} {H : Hp} {v : V} {d : PyData} (h : Dp K H v d) : ∀ {vs : List V} {ds : List PyData} (i : Nat), DpAll K H vs ds → DpAll K H (vs.set i v) (ds.set i d)
  | _, _, _, .nil => .nil
  | _, _, 0, .cons _ t => .cons h t
  | _, _, i + 1, .cons r t => .cons r (DpAll.set h i t)
theorem DpAll.take {K : PySem.W.Frag} {H : Hp} : ∀ {vs : List V} {ds : List PyData} (n : Nat), DpAll K H vs ds → DpAll K H (vs.take n) (ds.take n)
  | _, _, 0, _ => .nil
  | _, _, _ + 1, .nil => .nil
  | _, _, n + 1, .cons r t => .cons r (DpAll.take n t)
theorem DpAll.drop {K : PySem.W.Frag} {H : Hp} : ∀ {vs : List V} {ds : List PyData} (n : Nat), DpAll K H vs ds → DpAll K H (vs.drop n) (ds.drop n)
  | _, _, 0, r => r
  | _, _, _ + 1, .nil => .nil
  | _, _, n + 1, .cons _ t => DpAll.drop n t
theorem DpAll.flat {K : PySem.W.Frag} {H : Hp} {vs : List V} {ds : List PyData} (h : DpAll K H vs ds) : ∀ k : Nat, DpAll K H (List.replicate k vs).flatten (List.replicate k ds).flatten
  | 0 => .nil
  | k + 1 => by
    rw [List.replicate_succ, List.replicate_succ, List.flatten_cons, List.flatten_cons]
    exact h.append (h.flat k)
theorem DpAll.rev {K : PySem.W.Frag} {H : Hp} : ∀ {vs : List V} {ds : List PyData}, DpAll K H vs ds → DpAll K H vs.reverse ds.reverse
  | _, _, .nil => .nil
  | _, _, .cons r t => by
    rw [List.reverse_cons, List.reverse_cons]
    exact (DpAll.rev t).append (.one r)

end L2
namespace L2.Ev
open PySem PySem.Spec PyProof.Rows
/-- all but the source stands -/
structure Ext (sa : SA) (H H' : Hp) : Prop where
  cell : ∀ a o, H a = some o → Away sa a → H' a = some o
  tup : TupX H H'
section
variable {sa : SA} {K : PySem.W.Frag} {H H' H1 H2 B B' : Hp}
theorem Ext.refl (sa : SA) (H : Hp) : Ext sa H H := ⟨fun _ _ h _ => h, TupX.refl H⟩
theorem Ext.trans (a : Ext sa H H1) (b : Ext sa H1 H2) : Ext sa H H2 := ⟨fun c o h w => b.cell c o (a.cell c o h w) w, a.tup.trans b.tup⟩
theorem Ext.of_same (h : Same H H') : Ext sa H H' := ⟨fun a o e _ => h a o e, fun a xs r => r.elim (fun q => .inl (h _ _ q)) fun ⟨o, q⟩ => .inr ⟨o, h _ _ q⟩⟩
theorem same_new {p : Addr} {o : HO} (h : H p = none) : Same H (upd H p o) := fun b x e => by rw [upd_ne (ne_of_none e h)]; exact e
theorem Ext.new {p : Addr} {o : HO} (h : H p = none) : Ext sa H (upd H p o) := .of_same (same_new h)
theorem Ext.sql {a : Addr} {xs : List V} (e : Ext sa H H') (w : Away sa a) (h : SqL K H a xs) : SqL K H' a xs := by
  rcases h with (h | ⟨o, h⟩) | h
  · exact .inl (.inl (e.cell _ _ h w))
  · exact .inl (.inr ⟨o, e.cell _ _ h w⟩)
  · exact .inr h
/-- a list that is written (or a fresh place): the tuples stand -/
theorem tupX_upd {p : Addr} {o : HO} (h : H p = none ∨ ∃ vs, H p = some (.lst vs)) : TupX H (upd H p o) := fun a xs r => by
  have ne : a ≠ p := fun e => by
    subst e
    rcases h with h | ⟨vs, h⟩
    · rcases r with r | ⟨_, r⟩ <;> (rw [h] at r; cases r)
    · rcases r with r | ⟨_, r⟩ <;> (rw [h] at r; cases r)
  rcases r with r | ⟨u, r⟩
  · exact .inl (by rw [upd_ne ne]; exact r)
  · exact .inr ⟨u, by rw [upd_ne ne]; exact r⟩
end

/-! ### slots -/
inductive Sl where
  /-- pure data -/
  | p (d : PyData)
  /-- an own list of pure data -/
  | l (ds : List PyData)
  /-- an own list of own lists of pure data -/
  | ll (dss : List (List PyData))
  /-- a list of pure data that nobody writes -/
  | b (ds : List PyData)
  | bb (dss : List (List PyData))
  /-- the source -/
  | src
abbrev Env := List (Option Sl)

/-- an own list's cell -/
def LsAt (K : PySem.W.Frag) (H : Hp) (a : Addr) (ds : List PyData) : Prop := ∃ vs, H a = some (.lst vs) ∧ DpAll K H vs ds ∧ PuAll ds ∧ ds.length ≤ sizeLine
def RowsAt (K : PySem.W.Frag) (H : Hp) : List Addr → List (List PyData) → Prop
  | [], [] => True
  | b :: bs, ds :: dss => LsAt K H b ds ∧ RowsAt K H bs dss
  | _, _ => False
/-- a list that is read -/
def BAt (K : PySem.W.Frag) (sa : SA) (B : Hp) (a : Addr) (ds : List PyData) : Prop := ∃ vs, SqL K B a vs ∧ Away sa a ∧ DpAll K B vs ds ∧ PuAll ds ∧ ds.length ≤ sizeLine
def RowsB (K : PySem.W.Frag) (sa : SA) (B : Hp) : List V → List (List PyData) → Prop
  | [], [] => True
  | v :: vs, ds :: dss => (∃ b, v = .ref b ∧ BAt K sa B b ds) ∧ RowsB K sa B vs dss
  | _, _ => False
def SlRep (K : PySem.W.Frag) (sa : SA) (B H : Hp) (v : V) : Sl → List Addr → Prop
  | .p d, F => F = [] ∧ Dp K H v d ∧ Pu d
  | .l ds, F => ∃ a, v = .ref a ∧ F = [a] ∧ LsAt K H a ds
  | .ll dss, F => ∃ a bs, v = .ref a ∧ F = a :: bs ∧ H a = some (.lst (bs.map .ref)) ∧ RowsAt K H bs dss ∧ dss.length ≤ sizeLine
  | .b ds, F => F = [] ∧ ∃ a, v = .ref a ∧ BAt K sa B a ds
  | .bb dss, F => F = [] ∧ ∃ a vs, v = .ref a ∧ SqL K B a vs ∧ Away sa a ∧ RowsB K sa B vs dss ∧ dss.length ≤ sizeLine
  | .src, F => F = [] ∧ ∃ p, sa = some p ∧ v = .ref p.1

def SrcAt (H : Hp) (S : Src) (p : Addr × Addr) : Prop :=
  H p.1 = some (.dK [(.inr "cells", .ref p.2), (.inr "left", .int S.left), (.inr "mixed", .int S.mixed), (.inr "turn", .int S.turn)]) ∧
  H p.2 = some (.lst (S.cells.map .int)) ∧ p.1 ≠ p.2 ∧ S.cells.length ≤ sizeLine
def SrcRep (sa : SA) (H : Hp) (S : Src) : Prop := ∀ p, sa = some p → SrcAt H S p
theorem SrcRep.empty {H : Hp} {S : Src} : SrcRep Option.none H S := fun _ h => nomatch h
theorem SrcRep.same {sa : SA} {H H' : Hp} {S : Src} (s : SrcRep sa H S) (e : Same H H') : SrcRep sa H' S := fun p h => let ⟨a, b, c, d⟩ := s p h; ⟨e _ _ a, e _ _ b, c, d⟩
theorem SrcRep.away {sa : SA} {H : Hp} {S : Src} (s : SrcRep sa H S) {a : Addr} (h : H a = none) : Away sa a := fun p e => by
  obtain ⟨q1, q2, _, _⟩ := s p e
  exact ⟨fun z => (by rw [z, q1] at h; cases h), fun z => (by rw [z, q2] at h; cases h)⟩

structure Owns (K : PySem.W.Frag) (sa : SA) (B H : Hp) (σ : St) (δ : Env) (F : Nat → List Addr) : Prop where
  rep : ∀ i sl, δ[i]? = some (some sl) → ∃ v, σ[i]? = some (some v) ∧ SlRep K sa B H v sl (F i)
  nodup : ∀ i, (F i).Nodup
  apart : ∀ i j a, i ≠ j → a ∈ F i → a ∉ F j
  own : ∀ i a, a ∈ F i → B a = none ∧ Away sa a ∧ ∃ vs, H a = some (.lst vs)
structure Ok (K : PySem.W.Frag) (sa : SA) (B H : Hp) (σ : St) (δ : Env) (S : Src) : Prop where
  base : Ext sa B H
  len : δ.length = σ.length
  owns : ∃ F, Owns K sa B H σ δ F
  src : SrcRep sa H S

section
variable {K : PySem.W.Frag} {sa : SA} {B B' H H' : Hp} {σ : St} {δ : Env} {S S' : Src} {F : List Addr} {v : V} {sl : Sl}
theorem LsAt.mono {a : Addr} {ds : List PyData} (h : LsAt K H a ds) (e : H' a = H a) (t : TupX H H') : LsAt K H' a ds := by
  obtain ⟨vs, h1, h2, h3, h4⟩ := h
  exact ⟨vs, e.trans h1, t.dpAll _ _ h3 h2, h3, h4⟩
theorem RowsAt.mono (t : TupX H H') : ∀ {bs : List Addr} {dss : List (List PyData)}, RowsAt K H bs dss → (∀ b ∈ bs, H' b = H b) → RowsAt K H' bs dss
  | [], [], _, _ => trivial
  | b :: bs, ds :: dss, h, e => ⟨h.1.mono (e b List.mem_cons_self) t, RowsAt.mono t h.2 fun c m => e c (List.mem_cons_of_mem _ m)⟩
  | [], _ :: _, h, _ => h.elim
  | _ :: _, [], h, _ => h.elim
theorem RowsAt.cell : ∀ {bs : List Addr} {dss : List (List PyData)}, RowsAt K H bs dss → ∀ b ∈ bs, ∃ vs, H b = some (.lst vs)
  | b :: bs, ds :: dss, h, c, m => by
    rcases List.mem_cons.mp m with e | m
    · obtain ⟨vs, q, _⟩ := h.1
      exact ⟨vs, by rw [e]; exact q⟩
    · exact RowsAt.cell h.2 c m
theorem RowsAt.length : ∀ {bs : List Addr} {dss : List (List PyData)}, RowsAt K H bs dss → bs.length = dss.length
  | [], [], _ => rfl
  | b :: bs, ds :: dss, h => congrArg (· + 1) (RowsAt.length h.2)
  | [], _ :: _, h => h.elim
  | _ :: _, [], h => h.elim
theorem RowsAt.get : ∀ {bs : List Addr} {dss : List (List PyData)} {i : Nat} {ds : List PyData}, RowsAt K H bs dss → dss[i]? = some ds → ∃ b, bs[i]? = some b ∧ LsAt K H b ds
  | b :: bs, d :: dss, 0, ds, h, e => by simp at e; subst e; exact ⟨b, rfl, h.1⟩
  | b :: bs, d :: dss, i + 1, ds, h, e => RowsAt.get (i := i) h.2 (by simpa using e)
  | [], [], _, _, _, e => by simp at e
  | [], _ :: _, _, _, h, _ => h.elim
  | _ :: _, [], _, _, h, _ => h.elim
theorem BAt.mono {a : Addr} {ds : List PyData} (h : BAt K sa B a ds) (e : Ext sa B B') : BAt K sa B' a ds := by
  obtain ⟨vs, h1, h2, h3, h4, h5⟩ := h
  exact ⟨vs, e.sql h2 h1, h2, e.tup.dpAll _ _ h4 h3, h4, h5⟩
theorem RowsB.mono (e : Ext sa B B') : ∀ {vs : List V} {dss : List (List PyData)}, RowsB K sa B vs dss → RowsB K sa B' vs dss
  | [], [], _ => trivial
  | v :: vs, ds :: dss, h => ⟨let ⟨b, q, z⟩ := h.1; ⟨b, q, z.mono e⟩, RowsB.mono e h.2⟩
  | [], _ :: _, h => h.elim
  | _ :: _, [], h => h.elim
theorem RowsB.length : ∀ {vs : List V} {dss : List (List PyData)}, RowsB K sa B vs dss → vs.length = dss.length
  | [], [], _ => rfl
  | v :: vs, ds :: dss, h => congrArg (· + 1) (RowsB.length h.2)
  | [], _ :: _, h => h.elim
  | _ :: _, [], h => h.elim
theorem RowsB.get : ∀ {vs : List V} {dss : List (List PyData)} {i : Nat} {ds : List PyData}, RowsB K sa B vs dss → dss[i]? = some ds → ∃ b, vs[i]? = some (.ref b) ∧ BAt K sa B b ds
  | v :: vs, d :: dss, 0, ds, h, e => by
    simp at e; subst e
    obtain ⟨b, rfl, q⟩ := h.1
    exact ⟨b, rfl, q⟩
  | v :: vs, d :: dss, i + 1, ds, h, e => RowsB.get (i := i) h.2 (by simpa using e)
  | [], [], _, _, _, e => by simp at e
  | [], _ :: _, _, _, h, _ => h.elim
  | _ :: _, [], _, _, h, _ => h.elim
theorem RowsB.of : ∀ {bs : List Addr} {dss : List (List PyData)}, (∀ b ∈ bs, Away sa b) → RowsAt K H bs dss → RowsB K sa H (bs.map .ref) dss
  | [], [], _, _ => trivial
  | b :: bs, ds :: dss, w, h => ⟨⟨b, rfl, let ⟨vs, h1, h2, h3, h4⟩ := h.1; ⟨vs, .of h1, w b List.mem_cons_self, h2, h3, h4⟩⟩, RowsB.of (fun c m => w c (List.mem_cons_of_mem _ m)) h.2⟩
  | [], _ :: _, _, h => h.elim
  | _ :: _, [], _, h => h.elim
theorem SlRep.mono (h : SlRep K sa B H v sl F) (eb : Ext sa B B') (t : TupX H H') (k : ∀ a ∈ F, H' a = H a) : SlRep K sa B' H' v sl F := by
  cases sl with
  | p d => exact ⟨h.1, t.dp _ _ h.2.2 h.2.1, h.2.2⟩
  | l ds =>
    obtain ⟨a, e, hF, q⟩ := h
    subst hF
    exact ⟨a, e, rfl, q.mono (k a (by simp)) t⟩
  | ll dss =>
    obtain ⟨a, bs, e, hF, q, r, z⟩ := h
    subst hF
    exact ⟨a, bs, e, rfl, (k a (by simp)).trans q, r.mono t fun b m => k b (List.mem_cons_of_mem _ m), z⟩
  | b ds =>
    obtain ⟨e, a, e2, q⟩ := h
    exact ⟨e, a, e2, q.mono eb⟩
  | bb dss =>
    obtain ⟨e, a, vs, e2, q, w, r, z⟩ := h
    exact ⟨e, a, vs, e2, eb.sql w q, w, r.mono eb, z⟩
  | src => exact h
/-- the cells of a representation -/
theorem SlRep.cell (h : SlRep K sa B H v sl F) : ∀ a ∈ F, ∃ vs, H a = some (.lst vs) := by
  cases sl with
  | p d => rw [h.1]; exact fun _ m => nomatch m
  | l ds =>
    obtain ⟨a, e, hF, vs, q, _⟩ := h
    subst hF
    intro c m
    obtain rfl : c = a := by simpa using m
    exact ⟨vs, q⟩
  | ll dss =>
    obtain ⟨a, bs, e, hF, q, r, z⟩ := h
    subst hF
    intro c m
    rcases List.mem_cons.mp m with e | m
    · exact ⟨_, by rw [e]; exact q⟩
    · exact r.cell c m
  | b ds => rw [h.1]; exact fun _ m => nomatch m
  | bb ds => rw [h.1]; exact fun _ m => nomatch m
  | src => rw [h.1]; exact fun _ m => nomatch m

variable {FF : Nat → List Addr}
theorem Owns.ext (o : Owns K sa B H σ δ FF) (e : Ext sa H H') : Owns K sa B H' σ δ FF where
  rep := fun i sl h => let ⟨v, h1, h2⟩ := o.rep i sl h; ⟨v, h1, h2.mono (.refl _ _) e.tup fun a m => by
    obtain ⟨_, w, vs, q⟩ := o.own i a m
    rw [q]; exact e.cell a _ q w⟩
  nodup := o.nodup
  apart := o.apart
  own := fun i a m => let ⟨h1, h2, vs, h3⟩ := o.own i a m; ⟨h1, h2, vs, e.cell a _ h3 h2⟩
theorem Ok.ext (ok : Ok K sa B H σ δ S) (e : Ext sa H H') (s : SrcRep sa H' S') : Ok K sa B H' σ δ S' :=
  ⟨ok.base.trans e, ok.len, let ⟨F, o⟩ := ok.owns; ⟨F, o.ext e⟩, s⟩
theorem Ok.same (ok : Ok K sa B H σ δ S) (e : Same H H') : Ok K sa B H' σ δ S := ok.ext (.of_same e) (ok.src.same e)
theorem Ok.new (ok : Ok K sa B H σ δ S) {p : Addr} {o : HO} (h : H p = none) : Ok K sa B (upd H p o) σ δ S := ok.same (same_new h)
theorem Ok.away (ok : Ok K sa B H σ δ S) {p : Addr} (h : H p = none) : Away sa p := ok.src.away h
theorem Ok.basefree (ok : Ok K sa B H σ δ S) {p : Addr} (h : H p = none) : B p = none := by
  cases q : B p with
  | none => rfl
  | some o =>
    have z := ok.base.cell p o q (ok.away h)
    rw [h] at z; cases z

/-- slots forgotten -/
def Sub : Env → Env → Prop
  | [], [] => True
  | none :: a, _ :: b => Sub a b
  | some x :: a, y :: b => y = some x ∧ Sub a b
  | _, _ => False
theorem Sub.get : ∀ {a b : Env}, Sub a b → ∀ (i : Nat) sl, a[i]? = some (some sl) → b[i]? = some (some sl)
  | none :: a, _ :: b, h, 0, _, e => by simp at e
  | none :: a, _ :: b, h, i + 1, _, e => by simpa using Sub.get (a := a) h i _ (by simpa using e)
  | some x :: a, y :: b, h, 0, _, e => by
    rw [h.1]
    simpa using e
  | some x :: a, y :: b, h, i + 1, _, e => by simpa using Sub.get (a := a) h.2 i _ (by simpa using e)
  | [], [], _, _, _, e => by simp at e
  | [], _ :: _, h, _, _, _ => h.elim
  | none :: _, [], h, _, _, _ => h.elim
  | some _ :: _, [], h, _, _, _ => h.elim
theorem Sub.length : ∀ {a b : Env}, Sub a b → a.length = b.length
  | none :: a, _ :: b, h => congrArg (· + 1) (Sub.length (a := a) h)
  | some x :: a, y :: b, h => congrArg (· + 1) (Sub.length (a := a) h.2)
  | [], [], _ => rfl
  | [], _ :: _, h => h.elim
  | none :: _, [], h => h.elim
  | some _ :: _, [], h => h.elim
theorem Sub.rfl' : ∀ (a : Env), Sub a a
  | [] => trivial
  | none :: a => Sub.rfl' a
  | some _ :: a => ⟨rfl, Sub.rfl' a⟩
theorem Ok.forget {δ' : Env} (ok : Ok K sa B H σ δ S) (h : Sub δ' δ) : Ok K sa B H σ δ' S :=
  ⟨ok.base, h.length.trans ok.len, let ⟨F, o⟩ := ok.owns; ⟨F, fun i sl e => o.rep i sl (h.get i sl e), o.nodup, o.apart, o.own⟩, ok.src⟩
/-- another row of slots where those that are told stand as they stood -/
theorem Ok.slots {δ' : Env} {σ' : St} (ok : Ok K sa B H σ δ S) (hl : δ'.length = σ'.length) (h : ∀ (i : Nat) sl, δ'[i]? = some (some sl) → δ[i]? = some (some sl) ∧ ∀ v, σ[i]? = some (some v) → σ'[i]? = some (some v)) : Ok K sa B H σ' δ' S :=
  ⟨ok.base, hl, let ⟨F, o⟩ := ok.owns; ⟨F, fun i sl e => let ⟨v, h1, h2⟩ := o.rep i sl (h i sl e).1; ⟨v, (h i sl e).2 v h1, h2⟩, o.nodup, o.apart, o.own⟩, ok.src⟩

/-- a slot is stored: what stands there owns the cells Fn, that were none ahead -/
theorem Ok.setNew (ok : Ok K sa B H σ δ S) (e : Ext sa H H') (s : SrcRep sa H' S') {i : Nat} {Fn : List Addr} (r : SlRep K sa B H' v sl Fn) (hi : i < δ.length)
    (hn : Fn.Nodup) (hf : ∀ a ∈ Fn, H a = none) : Ok K sa B H' (σ.set i (some v)) (δ.set i (some sl)) S' := by
  refine ⟨ok.base.trans e, by rw [List.length_set, List.length_set]; exact ok.len, ?_, s⟩
  obtain ⟨F, o⟩ := ok.owns
  have o' := o.ext e
  have nf : ∀ j, ∀ a ∈ Fn, a ∉ F j := fun j a m z => by
    obtain ⟨_, _, vs, q⟩ := o.own j a z
    rw [hf a m] at q; cases q
  refine ⟨fun j => if j = i then Fn else F j, fun j sl' h => ?_, fun j => ?_, fun j k a ne m => ?_, fun j a m => ?_⟩
  · by_cases hj : j = i
    · subst hj
      rw [List.getElem?_set_self hi] at h
      cases h
      exact ⟨v, by rw [List.getElem?_set_self (by rw [← ok.len]; exact hi)], by rw [if_pos rfl]; exact r⟩
    · rw [List.getElem?_set_ne (Ne.symm hj)] at h
      obtain ⟨w, h1, h2⟩ := o'.rep j sl' h
      exact ⟨w, by rw [List.getElem?_set_ne (Ne.symm hj)]; exact h1, by rw [if_neg hj]; exact h2⟩
  · by_cases hj : j = i
    · simp only [hj, if_true]; exact hn
    · simp only [hj, if_false]; exact o.nodup j
  · by_cases hj : j = i
    · simp only [hj, if_true] at m
      have hk : k ≠ i := fun z => ne (hj.trans z.symm)
      simp only [hk, if_false]
      exact nf k a m
    · simp only [hj, if_false] at m
      by_cases hk : k = i
      · simp only [hk, if_true]
        exact fun z => nf j a z m
      · simp only [hk, if_false]
        exact o.apart j k a ne m
  · by_cases hj : j = i
    · simp only [hj, if_true] at m
      exact ⟨ok.basefree (hf a m), ok.away (hf a m), r.cell a m⟩
    · simp only [hj, if_false] at m
      exact o'.own j a m
theorem Ok.set (ok : Ok K sa B H σ δ S) {i : Nat} (r : SlRep K sa B H v sl []) (hi : i < δ.length) : Ok K sa B H (σ.set i (some v)) (δ.set i (some sl)) S :=
  ok.setNew (.refl _ _) ok.src r hi .nil fun _ m => nomatch m

/-- all that isn't owned becomes base -/
theorem Ok.freeze (ok : Ok K sa B H σ δ S) (e : Ext sa H H') (s : SrcRep sa H' S') :
    ∃ B', Ext sa B B' ∧ Ok K sa B' H' σ δ S' ∧ TupX H' B' ∧ ∀ p o, H p = none → H' p = some o → B' p = some o := by
  obtain ⟨F, o⟩ := ok.owns
  have o' := o.ext e
  classical
  let B' : Hp := fun b => if ∃ i, b ∈ F i then none else H' b
  have b1 : ∀ b, (∃ i, b ∈ F i) → B' b = none := fun b h => if_pos h
  have b2 : ∀ b, ¬ (∃ i, b ∈ F i) → B' b = H' b := fun b h => if_neg h
  have tx : TupX H' B' := fun a xs r => by
    have nm : ¬ ∃ i, a ∈ F i := fun ⟨i, m⟩ => by
      obtain ⟨_, _, vs, q⟩ := o'.own i a m
      rcases r with r | ⟨_, r⟩ <;> (rw [q] at r; cases r)
    rcases r with r | ⟨u, r⟩
    · exact .inl (by rw [b2 a nm]; exact r)
    · exact .inr ⟨u, by rw [b2 a nm]; exact r⟩
  have eb : Ext sa B B' := ⟨fun a ob q w => by
    have nm : ¬ ∃ i, a ∈ F i := fun ⟨i, m⟩ => by
      rw [(o.own i a m).1] at q; cases q
    rw [b2 a nm]
    exact e.cell a ob (ok.base.cell a ob q w) w, ok.base.tup.trans (e.tup.trans tx)⟩
  refine ⟨B', eb, ⟨⟨fun a ob q w => ?_, fun a xs r => ?_⟩, ok.len, ⟨F, fun i sl h => ?_, o.nodup, o.apart, fun i a m => ?_⟩, s⟩, tx, fun p ob h h' => ?_⟩
  · by_cases hm : ∃ i, a ∈ F i
    · rw [b1 a hm] at q; cases q
    · rw [b2 a hm] at q; exact q
  · by_cases hm : ∃ i, a ∈ F i
    · rcases r with r | ⟨_, r⟩ <;> (rw [b1 a hm] at r; cases r)
    · rcases r with r | ⟨u, r⟩
      · exact .inl (by rw [b2 a hm] at r; exact r)
      · exact .inr ⟨u, by rw [b2 a hm] at r; exact r⟩
  · obtain ⟨w, h1, h2⟩ := o'.rep i sl h
    exact ⟨w, h1, h2.mono eb (TupX.refl _) fun _ _ => rfl⟩
  · obtain ⟨_, w, q⟩ := o'.own i a m
    exact ⟨b1 a ⟨i, m⟩, w, q⟩
  · have nm : ¬ ∃ i, p ∈ F i := fun ⟨i, m⟩ => by
      obtain ⟨_, _, vs, q⟩ := o.own i p m
      rw [h] at q; cases q
    rw [b2 p nm]; exact h'

/-- an own list is written -/
theorem Ok.write (ok : Ok K sa B H σ δ S) {i : Nat} {ds ds' : List PyData} {a : Addr} {vs' : List V} (hi : δ[i]? = some (some (.l ds))) (hσ : σ[i]? = some (some (.ref a)))
    (hd : DpAll K H vs' ds') (hp : PuAll ds') (hz : ds'.length ≤ sizeLine) : Ok K sa B (upd H a (.lst vs')) σ (δ.set i (some (.l ds'))) S := by
  obtain ⟨F, o⟩ := ok.owns
  obtain ⟨v, h1, a', h2, hF, vs, q, _⟩ := o.rep i _ hi
  rw [hσ] at h1
  obtain rfl : V.ref a = v := Option.some.inj (Option.some.inj h1)
  obtain rfl : a = a' := by injection h2
  have ma : a ∈ F i := by rw [hF]; simp
  obtain ⟨hb, w, _⟩ := o.own i a ma
  have tx : TupX H (upd H a (.lst vs')) := tupX_upd (.inr ⟨vs, q⟩)
  have il : i < δ.length := (List.getElem?_eq_some_iff.mp hi).1
  refine ⟨⟨fun c ob e wc => ?_, ok.base.tup.trans tx⟩, by rw [List.length_set]; exact ok.len, ⟨F, fun j sl' h => ?_, o.nodup, o.apart, fun j c m => ?_⟩, fun p hp => ?_⟩
  · rw [upd_ne (fun z => by rw [z, hb] at e; cases e)]
    exact ok.base.cell c ob e wc
  · by_cases hj : j = i
    · subst hj
      rw [List.getElem?_set_self il] at h
      cases h
      exact ⟨.ref a, hσ, a, rfl, hF, vs', upd_same, tx.dpAll _ _ hp hd, hp, hz⟩
    · rw [List.getElem?_set_ne (Ne.symm hj)] at h
      obtain ⟨u, g1, g2⟩ := o.rep j sl' h
      exact ⟨u, g1, g2.mono (.refl _ _) tx fun c m => upd_ne fun z => o.apart j i c hj m (z ▸ ma)⟩
  · obtain ⟨g1, g2, ws, g3⟩ := o.own j c m
    refine ⟨g1, g2, ?_⟩
    by_cases hc : c = a
    · exact ⟨vs', by rw [hc, upd_same]⟩
    · exact ⟨ws, by rw [upd_ne hc]; exact g3⟩
  · obtain ⟨q1, q2, q3, q4⟩ := ok.src p hp
    exact ⟨by rw [upd_ne (Ne.symm (w p hp).1)]; exact q1, by rw [upd_ne (Ne.symm (w p hp).2)]; exact q2, q3, q4⟩
end
end L2.Ev

set_option Elab.async false
set_option linter.all false
set_option maxRecDepth 100000
/-! Ev2: what an expression evaluates to. -/
namespace L2.Ev
open PySem PySem.Spec PyProof.Rows

/-- how a Lean value is written as data -/
class Enc (α : Type) where
  enc : α → PyData
@[reducible] def enc {α : Type} [Enc α] (x : α) : PyData := Enc.enc x
structure T3 (α β γ : Type) where
  a : α
  b : β
  c : γ
  deriving DecidableEq, Inhabited
structure T4 (α β γ δ : Type) where
  a : α
  b : β
  c : γ
  d : δ
  deriving DecidableEq, Inhabited
structure T5 (α β γ δ ε : Type) where
  a : α
  b : β
  c : γ
  d : δ
  e : ε
  deriving DecidableEq, Inhabited
structure T1 (α : Type) where
  a : α
  deriving DecidableEq, Inhabited
instance : Enc Int := ⟨.int⟩
instance : Enc Bool := ⟨.bool⟩
instance : Enc Str := ⟨.str⟩
instance : Enc PyData := ⟨fun d => d⟩
instance : Enc Unit := ⟨fun _ => .none⟩
instance {α β} [Enc α] [Enc β] : Enc (α × β) := ⟨fun x => .tuple [enc x.1, enc x.2]⟩
instance {α} [Enc α] : Enc (T1 α) := ⟨fun x => .tuple [enc x.a]⟩
instance {α β γ} [Enc α] [Enc β] [Enc γ] : Enc (T3 α β γ) := ⟨fun x => .tuple [enc x.a, enc x.b, enc x.c]⟩
instance {α β γ δ} [Enc α] [Enc β] [Enc γ] [Enc δ] : Enc (T4 α β γ δ) := ⟨fun x => .tuple [enc x.a, enc x.b, enc x.c, enc x.d]⟩
instance {α β γ δ ε} [Enc α] [Enc β] [Enc γ] [Enc δ] [Enc ε] : Enc (T5 α β γ δ ε) := ⟨fun x => .tuple [enc x.a, enc x.b, enc x.c, enc x.d, enc x.e]⟩
@[reducible] def encs {α : Type} [Enc α] (xs : List α) : List PyData := xs.map enc
@[reducible] def encss {α : Type} [Enc α] (xss : List (List α)) : List (List PyData) := xss.map encs
instance {α} [Enc α] : Enc (List α) := ⟨fun xs => .tuple (encs xs)⟩
/-- None or a value -/
def encO {α : Type} [Enc α] : Option α → PyData
  | none => .none
  | some x => enc x
instance {α} [Enc α] : Enc (Option α) := ⟨encO⟩

/-! ### judgements -/
def BOk (st : Bool) (K : PySem.W.Frag) (sa : SA) (B H : Hp) (σ : St) (δ : Env) (S : Src) (B' : Hp) : Prop := if st = true then Ext sa B B' ∧ Ok K sa B' H σ δ S else B' = H
/-- the value is represented as sl (st: in a base that stands behind what follows) -/
def tEG (st : Bool) (K : PySem.W.Frag) (sa : SA) (δ : Env) (S : Src) (sl : Sl) (S' : Src) : TE := fun σ H Q =>
  ∃ B, Ok K sa B H σ δ S ∧ ∀ v H' B', Ok K sa B H' σ δ S' → Ext sa H H' → BOk st K sa B H' σ δ S' B' → SlRep K sa B' B' v sl [] → Q v H'
def EG (st : Bool) (X : Cx) (sa : SA) (δ : Env) (S : Src) (e : Expr) (sl : Sl) (S' : Src) : Prop := PE X e (tEG st X.K sa δ S sl S')
abbrev EE (X : Cx) (sa : SA) (δ : Env) (S : Src) (e : Expr) (sl : Sl) (S' : Src) : Prop := EG false X sa δ S e sl S'
/-- a new list of pure data -/
def tEL (K : PySem.W.Frag) (sa : SA) (δ : Env) (S : Src) (ds : List PyData) (S' : Src) : TE := fun σ H Q =>
  ∃ B, Ok K sa B H σ δ S ∧ ∀ p H', H p = none → Ok K sa B H' σ δ S' → Ext sa H H' → LsAt K H' p ds → Q (.ref p) H'
def EL (X : Cx) (sa : SA) (δ : Env) (S : Src) (e : Expr) (ds : List PyData) (S' : Src) : Prop := PE X e (tEL X.K sa δ S ds S')
/-- a new list of new lists of pure data -/
def tEM (K : PySem.W.Frag) (sa : SA) (δ : Env) (S : Src) (dss : List (List PyData)) (S' : Src) : TE := fun σ H Q =>
  ∃ B, Ok K sa B H σ δ S ∧ ∀ p bs H', (∀ b ∈ p :: bs, H b = none) → (p :: bs).Nodup → Ok K sa B H' σ δ S' → Ext sa H H' → H' p = some (.lst (bs.map .ref)) → RowsAt K H' bs dss → dss.length ≤ sizeLine → Q (.ref p) H'
def EM (X : Cx) (sa : SA) (δ : Env) (S : Src) (e : Expr) (dss : List (List PyData)) (S' : Src) : Prop := PE X e (tEM X.K sa δ S dss S')
/-- a test -/
def tET (K : PySem.W.Frag) (sa : SA) (δ : Env) (S : Src) (c : Bool) (S' : Src) : TT := fun σ H Q =>
  ∃ B, Ok K sa B H σ δ S ∧ ∀ H', Ok K sa B H' σ δ S' → Ext sa H H' → Q c H'
def ET (X : Cx) (sa : SA) (δ : Env) (S : Src) (e : Expr) (c : Bool) (S' : Src) : Prop := PT X e (tET X.K sa δ S c S')
def EW (X : Cx) (sa : SA) (δ : Env) (S : Src) (e : Expr) (c : Bool) (S' : Src) : Prop := PW X e (tET X.K sa δ S c S')
def SlsRep (K : PySem.W.Frag) (sa : SA) (B : Hp) : List V → List Sl → Prop
  | [], [] => True
  | v :: vs, sl :: sls => SlRep K sa B B v sl [] ∧ SlsRep K sa B vs sls
  | _, _ => False
/-- arguments -/
def tEA (st : Bool) (K : PySem.W.Frag) (sa : SA) (δ : Env) (S : Src) (sls : List Sl) (S' : Src) : TA := fun σ H Q =>
  ∃ B, Ok K sa B H σ δ S ∧ ∀ vs H' B', Ok K sa B H' σ δ S' → Ext sa H H' → BOk st K sa B H' σ δ S' B' → SlsRep K sa B' vs sls → Q vs H'
def EA (st : Bool) (X : Cx) (sa : SA) (δ : Env) (S : Src) (es : List Expr) (sls : List Sl) (S' : Src) : Prop := PA X es (tEA st X.K sa δ S sls S')

section
variable {X : Cx} {sa : SA} {δ : Env} {S S1 S2 S3 S' : Src} {st : Bool} {e a b c : Expr} {sl sla slb : Sl} {pos : Pos}
theorem pe_imp {t t' : TE} (h : PE X e t) (m : ∀ σ H Q, t' σ H Q → t σ H Q) : PE X e t' := ⟨fun pins s σ H Q I q => h.run pins s σ H Q I (m σ H Q q)⟩
theorem pt_imp {t t' : TT} (h : PT X e t) (m : ∀ σ H Q, t' σ H Q → t σ H Q) : PT X e t' := ⟨fun pins s σ H Q I q => h.run pins s σ H Q I (m σ H Q q)⟩
theorem pw_imp {t t' : TT} (h : PW X e t) (m : ∀ σ H Q, t' σ H Q → t σ H Q) : PW X e t' := ⟨fun w pins s σ H Q I q => h.run w pins s σ H Q I (m σ H Q q)⟩
theorem pa_imp {es : List Expr} {t t' : TA} (h : PA X es t) (m : ∀ σ H Q, t' σ H Q → t σ H Q) : PA X es t' := ⟨fun p pins s σ H Q I q => h.run p pins s σ H Q I (m σ H Q q)⟩

variable {K : PySem.W.Frag} {B H H' : Hp} {σ : St} {v : V}
/-- pure data is handed on -/
theorem give_p {G : Prop} {d : PyData} (ok : Ok K sa B H σ δ S) (e : Ext sa H H') (s : SrcRep sa H' S') (hd : Dp K H' v d) (hp : Pu d)
    (k : ∀ B', Ok K sa B H' σ δ S' → BOk st K sa B H' σ δ S' B' → SlRep K sa B' B' v (.p d) [] → G) : G := by
  have ok' := ok.ext e s
  cases st with
  | false => exact k H' ok' rfl ⟨rfl, hd, hp⟩
  | true =>
    obtain ⟨B', eb, okb, tx, _⟩ := ok.freeze e s
    exact k B' ok' ⟨eb, okb⟩ ⟨rfl, tx.dp _ _ hp hd, hp⟩
/-- a new list is handed on as one that is read -/
theorem give_l {G : Prop} {p : Addr} {ds : List PyData} (ok : Ok K sa B H σ δ S) (e : Ext sa H H') (s : SrcRep sa H' S') (hp : H p = none) (hl : LsAt K H' p ds)
    (k : ∀ B', Ok K sa B H' σ δ S' → BOk st K sa B H' σ δ S' B' → SlRep K sa B' B' (.ref p) (.b ds) [] → G) : G := by
  have ok' := ok.ext e s
  obtain ⟨vs, h1, h2, h3, h4⟩ := hl
  cases st with
  | false => exact k H' ok' rfl ⟨rfl, p, rfl, vs, .of h1, ok.away hp, h2, h3, h4⟩
  | true =>
    obtain ⟨B', eb, okb, tx, fr⟩ := ok.freeze e s
    exact k B' ok' ⟨eb, okb⟩ ⟨rfl, p, rfl, vs, .of (fr p _ hp h1), ok.away hp, tx.dpAll _ _ h3 h2, h3, h4⟩
theorem give_m {G : Prop} {p : Addr} {bs : List Addr} {dss : List (List PyData)} (ok : Ok K sa B H σ δ S) (e : Ext sa H H') (s : SrcRep sa H' S') (hp : ∀ b ∈ p :: bs, H b = none) (hl : H' p = some (.lst (bs.map .ref))) (hr : RowsAt K H' bs dss) (hz : dss.length ≤ sizeLine)
    (k : ∀ B', Ok K sa B H' σ δ S' → BOk st K sa B H' σ δ S' B' → SlRep K sa B' B' (.ref p) (.bb dss) [] → G) : G := by
  have ok' := ok.ext e s
  have aw : ∀ b ∈ bs, Away sa b := fun b m => ok.away (hp b (List.mem_cons_of_mem _ m))
  cases st with
  | false => exact k H' ok' rfl ⟨rfl, p, _, rfl, .of hl, ok.away (hp p List.mem_cons_self), RowsB.of aw hr, hz⟩
  | true =>
    obtain ⟨B', eb, okb, tx, fr⟩ := ok.freeze e s
    refine k B' ok' ⟨eb, okb⟩ ⟨rfl, p, _, rfl, .of (fr p _ (hp p List.mem_cons_self) hl), ok.away (hp p List.mem_cons_self), RowsB.of aw ?_, hz⟩
    refine hr.mono tx fun b m => ?_
    obtain ⟨vs, q⟩ := hr.cell b m
    rw [q]
    exact fr b _ (hp b (List.mem_cons_of_mem _ m)) q
theorem SlsRep.pures {ds : List PyData} {vs : List V} (h : SlsRep K sa B vs (ds.map .p)) : DpAll K B vs ds ∧ PuAll ds := by
  induction ds generalizing vs with
  | nil =>
    cases vs with
    | nil => exact ⟨.nil, trivial⟩
    | cons v vs => exact h.elim
  | cons d ds ih =>
    cases vs with
    | nil => exact h.elim
    | cons v vs =>
      obtain ⟨h1, h2⟩ := ih h.2
      exact ⟨.cons h.1.2.1 h1, h.1.2.2, h2⟩
theorem SlRep.ext {sl : Sl} (h : SlRep K sa B B v sl []) (e : Ext sa B H) : SlRep K sa H H v sl [] := h.mono e e.tup fun _ m => nomatch m
theorem SlsRep.ext : ∀ {vs : List V} {sls : List Sl}, SlsRep K sa B vs sls → Ext sa B H → SlsRep K sa H vs sls
  | [], [], _, _ => trivial
  | v :: vs, sl :: sls, h, e => ⟨h.1.ext e, SlsRep.ext h.2 e⟩
  | [], _ :: _, h, _ => h.elim
  | _ :: _, [], h, _ => h.elim

/-! ### arguments -/
theorem ea_nil : EA st X sa δ S [] [] S := pa_imp pa_nil fun σ H Q ⟨B, ok, k⟩ => by
  cases st with
  | false => exact k [] H H ok (.refl _ _) rfl trivial
  | true => exact k [] H B ok (.refl _ _) ⟨.refl _ _, ok⟩ trivial
theorem ea_cons {es : List Expr} {sls : List Sl} (h1 : EG st X sa δ S e sl S1) (h2 : EA st X sa δ S1 es sls S2) (hs : starEach (e :: es) X.env = (false, eval e X.env) :: starEach es X.env := by rfl) :
    EA st X sa δ S (e :: es) (sl :: sls) S2 := pa_imp (pa_cons h1 h2 hs) fun σ H Q ⟨B, ok, k⟩ => by
  refine ⟨B, ok, fun v H1 B1 ok1 e1 b1 r1 => ?_⟩
  cases st with
  | false =>
    obtain rfl : B1 = H1 := b1
    exact ⟨B, ok1, fun vs H2 B2 ok2 e2 b2 r2 => k _ H2 B2 ok2 (e1.trans e2) b2 ⟨by
      obtain rfl : B2 = H2 := b2
      exact r1.ext e2, r2⟩⟩
  | true =>
    obtain ⟨eb, okb⟩ := b1
    refine ⟨B1, okb, fun vs H2 B2 ok2 e2 b2 r2 => ?_⟩
    obtain ⟨eb2, okb2⟩ := b2
    exact k _ H2 B2 (ok1.ext e2 ok2.src) (e1.trans e2) ⟨eb.trans eb2, okb2⟩ ⟨r1.ext eb2, r2⟩

/-! ### names -/
theorem ev_var (i : Nat) {x : Str} {d : PyData} (hd : δ[i]? = some (some (.p d))) (hv : PE X (.Name x pos) (tVar i)) : EG st X sa δ S (.Name x pos) (.p d) S := pe_imp hv fun σ H Q ⟨B, ok, k⟩ => by
  obtain ⟨F, o⟩ := ok.owns
  obtain ⟨v, h1, h2⟩ := o.rep i _ hd
  exact ⟨v, h1, give_p ok (.refl _ _) ok.src h2.2.1 h2.2.2 fun B' ok' b r => k v H B' ok' (.refl _ _) b r⟩
theorem ev_varB (i : Nat) {x : Str} {ds : List PyData} (hd : δ[i]? = some (some (.b ds))) (hv : PE X (.Name x pos) (tVar i)) : EG st X sa δ S (.Name x pos) (.b ds) S := pe_imp hv fun σ H Q ⟨B, ok, k⟩ => by
  obtain ⟨F, o⟩ := ok.owns
  obtain ⟨v, h1, _, h2⟩ := o.rep i _ hd
  refine ⟨v, h1, ?_⟩
  cases st with
  | false =>
    obtain ⟨a, e, q⟩ := h2
    exact k v H H ok (.refl _ _) rfl ⟨rfl, a, e, q.mono ok.base⟩
  | true => exact k v H B ok (.refl _ _) ⟨.refl _ _, ok⟩ ⟨rfl, h2⟩
theorem ev_varBB (i : Nat) {x : Str} {dss : List (List PyData)} (hd : δ[i]? = some (some (.bb dss))) (hv : PE X (.Name x pos) (tVar i)) : EG st X sa δ S (.Name x pos) (.bb dss) S := pe_imp hv fun σ H Q ⟨B, ok, k⟩ => by
  obtain ⟨F, o⟩ := ok.owns
  obtain ⟨v, h1, _, h2⟩ := o.rep i _ hd
  refine ⟨v, h1, ?_⟩
  cases st with
  | false =>
    obtain ⟨a, vs, e, q, w, r, z⟩ := h2
    exact k v H H ok (.refl _ _) rfl ⟨rfl, a, vs, e, ok.base.sql w q, w, r.mono ok.base, z⟩
  | true => exact k v H B ok (.refl _ _) ⟨.refl _ _, ok⟩ ⟨rfl, h2⟩
/-- an own list, read -/
theorem ev_varL (i : Nat) {x : Str} {ds : List PyData} (hd : δ[i]? = some (some (.l ds))) (hv : PE X (.Name x pos) (tVar i)) : EE X sa δ S (.Name x pos) (.b ds) S := pe_imp hv fun σ H Q ⟨B, ok, k⟩ => by
  obtain ⟨F, o⟩ := ok.owns
  obtain ⟨v, h1, a, e, hF, vs, q, q2⟩ := o.rep i _ hd
  exact ⟨v, h1, k v H H ok (.refl _ _) rfl ⟨rfl, a, e, vs, .of q, (o.own i a (by rw [hF]; simp)).2.1, q2⟩⟩
theorem ev_varLL (i : Nat) {x : Str} {dss : List (List PyData)} (hd : δ[i]? = some (some (.ll dss))) (hv : PE X (.Name x pos) (tVar i)) : EE X sa δ S (.Name x pos) (.bb dss) S := pe_imp hv fun σ H Q ⟨B, ok, k⟩ => by
  obtain ⟨F, o⟩ := ok.owns
  obtain ⟨v, h1, a, bs, e, hF, q, r, z⟩ := o.rep i _ hd
  exact ⟨v, h1, k v H H ok (.refl _ _) rfl ⟨rfl, a, _, e, .of q, (o.own i a (by rw [hF]; simp)).2.1, RowsB.of (fun b m => (o.own i b (by rw [hF]; exact List.mem_cons_of_mem _ m)).2.1) r, z⟩⟩
theorem ev_varS (i : Nat) {x : Str} (hd : δ[i]? = some (some .src)) (hv : PE X (.Name x pos) (tVar i)) : EG st X sa δ S (.Name x pos) .src S := pe_imp hv fun σ H Q ⟨B, ok, k⟩ => by
  obtain ⟨F, o⟩ := ok.owns
  obtain ⟨v, h1, _, h2⟩ := o.rep i _ hd
  refine ⟨v, h1, ?_⟩
  cases st with
  | false => exact k v H H ok (.refl _ _) rfl ⟨rfl, h2⟩
  | true => exact k v H B ok (.refl _ _) ⟨.refl _ _, ok⟩ ⟨rfl, h2⟩
/-- a new list, read -/
theorem ev_of_new {ds : List PyData} (h : EL X sa δ S e ds S') : EG st X sa δ S e (.b ds) S' := pe_imp h fun σ H Q ⟨B, ok, k⟩ =>
  ⟨B, ok, fun p H' hp ok' e' hl => give_l ok e' ok'.src hp hl fun B' ok'' b r => k _ H' B' ok'' e' b r⟩
theorem ev_of_newM {dss : List (List PyData)} (h : EM X sa δ S e dss S') : EG st X sa δ S e (.bb dss) S' := pe_imp h fun σ H Q ⟨B, ok, k⟩ =>
  ⟨B, ok, fun p bs H' hp hn ok' e' hl hr hz => give_m ok e' ok'.src hp hl hr hz fun B' ok'' b r => k _ H' B' ok'' e' b r⟩

/-! ### constants -/
theorem ev_const {w : V} {d : PyData} (h : PE X e (tC w)) (hd : ∀ K H, Dp K H w d) (hp : Pu d) : EG st X sa δ S e (.p d) S := pe_imp h fun σ H Q ⟨B, ok, k⟩ =>
  give_p ok (.refl _ _) ok.src (hd _ _) hp fun B' ok' b r => k _ H B' ok' (.refl _ _) b r
theorem ev_int {i : Int} {j} : EG st X sa δ S (.Constant (.int i) j pos) (.p (.int i)) S := ev_const pe_int (fun _ _ => .int i) trivial
theorem ev_bl {b : Bool} {j} : EG st X sa δ S (.Constant (.bool b) j pos) (.p (.bool b)) S := ev_const pe_bl (fun _ _ => .bl b) trivial
theorem ev_non {j} : EG st X sa δ S (.Constant .none j pos) (.p .none) S := ev_const pe_non (fun _ _ => .non) trivial
theorem ev_str {x : Str} {j} (h : Nat.ble x.length 1000 = true := by rfl) : EG st X sa δ S (.Constant (.str x) j pos) (.p (.str x)) S := ev_const pe_str (fun _ _ => .str x) (by
  have := Nat.le_of_ble_eq_true h
  show x.length ≤ sizeLine
  rw [sizeLine_eq]; omega)

/-! ### operators on pure data with a pure answer that is no object -/
/-- from what the operands are to what the operator asks -/
def RI (K : PySem.W.Frag) (sa : SA) (r : R2) (sla slb : Sl) (w : V) : Prop := ∀ va vb H Q, SlRep K sa H H va sla [] → SlRep K sa H H vb slb [] → Q w H → r va vb H Q
theorem ev_bin {t : TE} {r : R2} {ta tb : TE} {w : V} {d : PyData} (h : PE X e (tOp r (tEG false X.K sa δ S sla S1) (tEG false X.K sa δ S1 slb S2))) (hr : RI X.K sa r sla slb w) (hd : ∀ K H, Dp K H w d) (hp : Pu d) : EG st X sa δ S e (.p d) S2 :=
  pe_imp h fun σ H Q ⟨B, ok, k⟩ => ⟨B, ok, fun v H1 B1 ok1 e1 b1 r1 => ⟨B, ok1, fun u H2 B2 ok2 e2 b2 r2 => by
    obtain rfl : B1 = H1 := b1
    obtain rfl : B2 = H2 := b2
    exact hr v u _ Q (r1.ext e2) r2 (give_p ok (e1.trans e2) ok2.src (hd _ _) hp fun B' ok' b r => k _ _ B' ok' (e1.trans e2) b r)⟩⟩
theorem dpi {i : Int} (h : SlRep K sa B H v (.p (.int i)) []) : v = .int i := by cases h.2.1; rfl
theorem dpb {b : Bool} (h : SlRep K sa B H v (.p (.bool b)) []) : v = .bl b := by cases h.2.1; rfl
theorem dps {x : Str} (h : SlRep K sa B H v (.p (.str x)) []) : v = .str x := by cases h.2.1; rfl
theorem dpn (h : SlRep K sa B H v (.p .none) []) : v = .non := by cases h.2.1; rfl
theorem dpt {ds : List PyData} (h : SlRep K sa B H v (.p (.tuple ds)) []) : ∃ a xs, v = .ref a ∧ SqT K H a xs ∧ DpAll K H xs ds ∧ PuAll ds ∧ ds.length ≤ sizeLine := by
  obtain ⟨_, h, p⟩ := h
  cases h with
  | tup hs ha => exact ⟨_, _, rfl, hs, ha, p.2, p.1⟩
theorem ri_I0 {g : Int → Int → V} {i j : Int} : RI K sa (rI0 g) (.p (.int i)) (.p (.int j)) (g i j) := fun va vb H Q h1 h2 q => ⟨i, j, dpi h1, dpi h2, q⟩
theorem ri_I {C : Int → Int → Prop} {g : Int → Int → V} {i j : Int} (hc : C i j) : RI K sa (rI C g) (.p (.int i)) (.p (.int j)) (g i j) := fun va vb H Q h1 h2 q => ⟨i, j, dpi h1, dpi h2, hc, q⟩
section
variable {i j : Int}
theorem ev_add (ha : EE X sa δ S a (.p (.int i)) S1) (hb : EE X sa δ S1 b (.p (.int j)) S2) : EG st X sa δ S (.BinOp a .Add b pos) (.p (.int (i + j))) S2 := ev_bin (t := fun _ _ _ => True) (ta := fun _ _ _ => True) (tb := fun _ _ _ => True) (pe_op op_add ha hb) ri_I0 (fun _ _ => .int _) trivial
theorem ev_sub (ha : EE X sa δ S a (.p (.int i)) S1) (hb : EE X sa δ S1 b (.p (.int j)) S2) : EG st X sa δ S (.BinOp a .Sub b pos) (.p (.int (i - j))) S2 := ev_bin (t := fun _ _ _ => True) (ta := fun _ _ _ => True) (tb := fun _ _ _ => True) (pe_op op_sub ha hb) ri_I0 (fun _ _ => .int _) trivial
theorem ev_mul (hc : CMul i j) (ha : EE X sa δ S a (.p (.int i)) S1) (hb : EE X sa δ S1 b (.p (.int j)) S2) : EG st X sa δ S (.BinOp a .Mult b pos) (.p (.int (i * j))) S2 := ev_bin (t := fun _ _ _ => True) (ta := fun _ _ _ => True) (tb := fun _ _ _ => True) (pe_op op_mul ha hb) (ri_I hc) (fun _ _ => .int _) trivial
theorem ev_mod (hc : 0 < j) (ha : EE X sa δ S a (.p (.int i)) S1) (hb : EE X sa δ S1 b (.p (.int j)) S2) : EG st X sa δ S (.BinOp a .Mod b pos) (.p (.int (i % j))) S2 := ev_bin (t := fun _ _ _ => True) (ta := fun _ _ _ => True) (tb := fun _ _ _ => True) (pe_op op_mod ha hb) (ri_I (C := fun _ j => 0 < j) hc) (fun _ _ => .int _) trivial
theorem ev_div (hc : CDiv i j) (ha : EE X sa δ S a (.p (.int i)) S1) (hb : EE X sa δ S1 b (.p (.int j)) S2) : EG st X sa δ S (.BinOp a .FloorDiv b pos) (.p (.int (i / j))) S2 := ev_bin (t := fun _ _ _ => True) (ta := fun _ _ _ => True) (tb := fun _ _ _ => True) (pe_op op_fdiv ha hb) (ri_I hc) (fun _ _ => .int _) trivial
end
theorem ev_neg {i : Int} (ha : EE X sa δ S a (.p (.int i)) S1) : EG st X sa δ S (.UnaryOp .USub a pos) (.p (.int (-i))) S1 := pe_imp (pe_un un_neg ha) fun σ H Q ⟨B, ok, k⟩ => ⟨B, ok, fun v H1 B1 ok1 e1 b1 r1 =>
  ⟨i, dpi r1, give_p ok e1 ok1.src (.int _) trivial fun B' ok' b r => k _ _ B' ok' e1 b r⟩⟩

/-! ### comparisons -/
/-- a comparison that answers c -/
def RC (K : PySem.W.Frag) (sa : SA) (r : R2) (sla slb : Sl) (c : Bool) : Prop := RI K sa r sla slb (.bl c)
theorem ev_cmp {op : CmpOp} {r : R2} {k : Bool} (ho : OpR X (compareOp op) r) (hr : RC X.K sa r sla slb k) (ha : EE X sa δ S a sla S1) (hb : EE X sa δ S1 b slb S2) (hm : behindInMarks op b = false) :
    EG st X sa δ S (.Compare a [op] [b] pos) (.p (.bool k)) S2 := ev_bin (t := fun _ _ _ => True) (ta := fun _ _ _ => True) (tb := fun _ _ _ => True) (pe_cmpR ho ha hb hm) hr (fun _ _ => .bl _) trivial
theorem et_cmp {op : CmpOp} {r : R2} {k : Bool} (ho : OpR X (compareOp op) r) (hr : RC X.K sa r sla slb k) (ha : EE X sa δ S a sla S1) (hb : EE X sa δ S1 b slb S2) (hm : behindInMarks op b = false) :
    ET X sa δ S (.Compare a [op] [b] pos) k S2 := pt_imp (pt_cmpR ho ha hb hm) fun σ H Q ⟨B, ok, kk⟩ => ⟨B, ok, fun v H1 B1 ok1 e1 b1 r1 => ⟨B, ok1, fun u H2 B2 ok2 e2 b2 r2 => by
    obtain rfl : B1 = H1 := b1
    obtain rfl : B2 = H2 := b2
    exact hr v u _ _ (r1.ext e2) r2 ⟨k, rfl, kk _ (ok1.ext e2 ok2.src) (e1.trans e2)⟩⟩⟩
section
variable {i j : Int}
theorem rc_lt : RC K sa (rI0 fun i j => .bl (decide (i < j))) (.p (.int i)) (.p (.int j)) (decide (i < j)) := ri_I0
theorem rc_le : RC K sa (rI0 fun i j => .bl (decide (i ≤ j))) (.p (.int i)) (.p (.int j)) (decide (i ≤ j)) := ri_I0
theorem rc_gt : RC K sa (rI0 fun i j => .bl (decide (j < i))) (.p (.int i)) (.p (.int j)) (decide (j < i)) := ri_I0
theorem rc_ge : RC K sa (rI0 fun i j => .bl (decide (j ≤ i))) (.p (.int i)) (.p (.int j)) (decide (j ≤ i)) := ri_I0
theorem rc_eqI : RC K sa rEq (.p (.int i)) (.p (.int j)) (decide (i = j)) := fun va vb H Q h1 h2 q => by
  obtain rfl := dpi h1
  obtain rfl := dpi h2
  refine ⟨rfl, ?_⟩
  rw [dec_int]
  have e : (i == j) = decide (i = j) := by rw [Bool.beq_eq_decide_eq]
  rw [e]; exact q
theorem rc_neI : RC K sa rNe (.p (.int i)) (.p (.int j)) (decide (i ≠ j)) := fun va vb H Q h1 h2 q => by
  obtain rfl := dpi h1
  obtain rfl := dpi h2
  refine ⟨rfl, ?_⟩
  rw [dec_int]
  have e : (!(i == j)) = decide (i ≠ j) := by rw [Bool.beq_eq_decide_eq, decide_not]
  rw [e]; exact q
theorem rc_eqS {x y : Str} : RC K sa rEq (.p (.str x)) (.p (.str y)) (decide (x = y)) := fun va vb H Q h1 h2 q => by
  obtain rfl := dps h1
  obtain rfl := dps h2
  refine ⟨rfl, ?_⟩
  have e : decide (V.str x = V.str y) = decide (x = y) := by
    by_cases h : x = y
    · subst h; simp
    · rw [decide_eq_false h, decide_eq_false (fun z => h (V.str.inj z))]
  rw [e]; exact q
theorem rc_neS {x y : Str} : RC K sa rNe (.p (.str x)) (.p (.str y)) (decide (x ≠ y)) := fun va vb H Q h1 h2 q => by
  obtain rfl := dps h1
  obtain rfl := dps h2
  refine ⟨rfl, ?_⟩
  have e : (!decide (V.str x = V.str y)) = decide (x ≠ y) := by
    by_cases h : x = y
    · subst h; simp
    · rw [decide_eq_true h, decide_eq_false (fun z => h (V.str.inj z))]; rfl
  rw [e]; exact q
theorem rc_eqB {x y : Bool} : RC K sa rEq (.p (.bool x)) (.p (.bool y)) (decide (x = y)) := fun va vb H Q h1 h2 q => by
  obtain rfl := dpb h1
  obtain rfl := dpb h2
  refine ⟨rfl, ?_⟩
  have e : decide (V.bl x = V.bl y) = decide (x = y) := by cases x <;> cases y <;> decide
  rw [e]; exact q
end
/-- data whose == is being the same; n: how deep -/
class EqD (α : Type) [Enc α] [DecidableEq α] (n : outParam Nat) : Prop where
  shp : ∀ x : α, (enc x).canLay0 = true
  dep : ∀ x : α, (enc x).depth ≤ n
  eqv : ∀ x y : α, PyData.eqv (enc x) (enc y) = decide (x = y)
section
variable {α β γ : Type} [Enc α] [DecidableEq α] [Enc β] [DecidableEq β] [Enc γ] [DecidableEq γ] {n m k : Nat}
theorem EqD.shaped [EqD α n] (h : Nat.ble n 60 = true) (x : α) : SeqAt.shaped (enc x) = true := by
  have h1 := Nat.le_of_ble_eq_true h
  have h2 := EqD.dep x
  exact Bool.and_eq_true_iff.mpr ⟨EqD.shp x, decide_eq_true (by omega)⟩
theorem canLayAll0_map [EqD α n] : ∀ xs : List α, PyData.canLayAll0 (encs xs) = true
  | [] => rfl
  | x :: xs => Bool.and_eq_true_iff.mpr ⟨EqD.shp x, canLayAll0_map xs⟩
theorem depthAll_map [EqD α n] : ∀ xs : List α, PyData.depthAll (encs xs) ≤ n
  | [] => Nat.zero_le _
  | x :: xs => Nat.max_le.mpr ⟨EqD.dep x, depthAll_map xs⟩
theorem eqvAll_map [EqD α n] : ∀ xs ys : List α, PyData.eqvAll (encs xs) (encs ys) = decide (xs = ys)
  | [], [] => rfl
  | [], y :: ys => by rw [decide_eq_false (by simp)]; rfl
  | x :: xs, [] => by rw [decide_eq_false (by simp)]; rfl
  | x :: xs, y :: ys => by
    show (PyData.eqv (enc x) (enc y) && PyData.eqvAll (encs xs) (encs ys)) = _
    rw [EqD.eqv, eqvAll_map xs ys]
    by_cases h : x = y <;> by_cases g : xs = ys <;> simp [h, g]
instance : EqD Int 0 := ⟨fun _ => rfl, fun _ => Nat.le_refl _, fun x y => by
  show (x == y) = _
  rw [Bool.beq_eq_decide_eq]⟩
instance : EqD Bool 0 := ⟨fun _ => rfl, fun _ => Nat.le_refl _, fun x y => by
  show (x == y) = _
  rw [Bool.beq_eq_decide_eq]⟩
instance [EqD α n] : EqD (List α) (n + 1) := ⟨fun xs => canLayAll0_map xs, fun xs => Nat.succ_le_succ (depthAll_map xs), fun x y => eqvAll_map x y⟩
instance [EqD α n] [EqD β m] : EqD (α × β) (max n m + 1) := ⟨fun x => by
    show (PyData.canLay0 (enc x.1) && (PyData.canLay0 (enc x.2) && true)) = true
    rw [EqD.shp, EqD.shp]; rfl, fun x => by
    show max (PyData.depth (enc x.1)) (max (PyData.depth (enc x.2)) 0) + 1 ≤ _
    have h1 := EqD.dep x.1
    have h2 := EqD.dep x.2
    omega, fun x y => by
    obtain ⟨x1, x2⟩ := x
    obtain ⟨y1, y2⟩ := y
    show (PyData.eqv (enc x1) (enc y1) && (PyData.eqv (enc x2) (enc y2) && true)) = _
    rw [EqD.eqv, EqD.eqv]
    by_cases h : x1 = y1 <;> by_cases g : x2 = y2 <;> simp [h, g]⟩
instance [EqD α n] : EqD (T1 α) (n + 1) := ⟨fun x => by
    show (PyData.canLay0 (enc x.1) && true) = true
    rw [EqD.shp]; rfl, fun x => by
    show max (PyData.depth (enc x.1)) 0 + 1 ≤ _
    have h1 := EqD.dep x.1
    omega, fun x y => by
    obtain ⟨x1⟩ := x
    obtain ⟨y1⟩ := y
    show (PyData.eqv (enc x1) (enc y1) && true) = _
    rw [EqD.eqv]
    by_cases h : x1 = y1 <;> simp [h]⟩
instance [EqD α n] [EqD β m] [EqD γ k] : EqD (T3 α β γ) (max n (max m k) + 1) := ⟨fun x => by
    show (PyData.canLay0 (enc x.1) && (PyData.canLay0 (enc x.2) && (PyData.canLay0 (enc x.3) && true))) = true
    rw [EqD.shp, EqD.shp, EqD.shp]; rfl, fun x => by
    show max (PyData.depth (enc x.1)) (max (PyData.depth (enc x.2)) (max (PyData.depth (enc x.3)) 0)) + 1 ≤ _
    have h1 := EqD.dep x.1
    have h2 := EqD.dep x.2
    have h3 := EqD.dep x.3
    omega, fun x y => by
    obtain ⟨x1, x2, x3⟩ := x
    obtain ⟨y1, y2, y3⟩ := y
    show (PyData.eqv (enc x1) (enc y1) && (PyData.eqv (enc x2) (enc y2) && (PyData.eqv (enc x3) (enc y3) && true))) = _
    rw [EqD.eqv, EqD.eqv, EqD.eqv]
    by_cases h : x1 = y1 <;> by_cases g : x2 = y2 <;> by_cases f : x3 = y3 <;> simp [h, g, f]⟩
end
end
end L2.Ev

set_option Elab.async false
set_option linter.all false
set_option maxRecDepth 100000
/-! Ev3: displays, places, ==, builtins, tests, calls. -/
namespace L2.Ev
open PySem PySem.Spec PyProof.Rows
section
variable {X : Cx} {sa : SA} {δ : Env} {S S1 S2 S3 S' : Src} {st : Bool} {e a b c : Expr} {sl sla slb : Sl} {pos : Pos} {K : PySem.W.Frag} {B H H' : Hp} {σ : St} {v : V}
theorem ble_line {n : Nat} (h : Nat.ble n 1000 = true) : n ≤ sizeLine := by
  have := Nat.le_of_ble_eq_true h
  rw [sizeLine_eq]; omega
theorem Dp.tup_iff {ds : List PyData} (h : SlRep K sa B H v (.p (.tuple ds)) []) : ∃ a xs, v = .ref a ∧ SqT K H a xs ∧ DpAll K H xs ds ∧ PuAll ds ∧ ds.length ≤ sizeLine := dpt h
/-- pure arguments, by their data -/
def Pures (ds : List PyData) : List Sl := ds.map .p
theorem ea_p {es : List Expr} {d : PyData} {ds : List PyData} (h1 : EG st X sa δ S e (.p d) S1) (h2 : EA st X sa δ S1 es (Pures ds) S2) (hs : starEach (e :: es) X.env = (false, eval e X.env) :: starEach es X.env := by rfl) :
    EA st X sa δ S (e :: es) (Pures (d :: ds)) S2 := ea_cons h1 h2 hs
theorem ea_p0 : EA st X sa δ S [] (Pures []) S := ea_nil
/-- (a, b) -/
theorem ev_tup {x1} {es : List Expr} {ds : List PyData} (h : EA false X sa δ S es (Pures ds) S') (hz : Nat.ble ds.length 1000 = true := by rfl) : EG st X sa δ S (.Tuple es x1 pos) (.p (.tuple ds)) S' := pe_imp (pe_tup h) fun σ H Q ⟨B, ok, k⟩ =>
  ⟨B, ok, fun vs H1 B1 ok1 e1 b1 r1 => by
    obtain rfl : B1 = H1 := b1
    obtain ⟨hd, hp⟩ := SlsRep.pures r1
    refine ⟨by rw [hd.length]; exact ble_line hz, fun p hn => ?_⟩
    have ex : Ext sa B1 (upd B1 p (.tup vs)) := .new hn
    exact give_p (v := .ref p) (d := .tuple ds) ok (e1.trans ex) (ok1.src.same (same_new hn)) (.tup (.of upd_same) (ex.tup.dpAll _ _ hp hd)) ⟨ble_line hz, hp⟩ fun B' ok' bb r => k _ _ B' ok' (e1.trans ex) bb r⟩
/-- [a, b] -/
theorem el_lst {es : List Expr} {ds : List PyData} (h : EA false X sa δ S es (Pures ds) S') (hz : Nat.ble ds.length 1000 = true := by rfl) : EL X sa δ S (.List es pos) ds S' := pe_imp (pe_lst h) fun σ H Q ⟨B, ok, k⟩ =>
  ⟨B, ok, fun vs H1 B1 ok1 e1 b1 r1 => by
    obtain rfl : B1 = H1 := b1
    obtain ⟨hd, hp⟩ := SlsRep.pures r1
    refine ⟨by rw [hd.length]; exact ble_line hz, fun p hn => ?_⟩
    have ex : Ext sa B1 (upd B1 p (.lst vs)) := .new hn
    have hn0 : H p = none := by
      cases q : H p with
      | none => rfl
      | some o =>
        have z := e1.cell p o q (ok1.away hn)
        rw [hn] at z; cases z
    exact k p _ hn0 (ok1.new hn) (e1.trans ex) ⟨vs, upd_same, ex.tup.dpAll _ _ hp hd, hp, ble_line hz⟩⟩
theorem Ext.none_of {p : Addr} (e : Ext sa H H') (ok : Ok K sa B H' σ δ S) (hn : H' p = none) : H p = none := by
  cases q : H p with
  | none => rfl
  | some o =>
    have z := e.cell p o q (ok.away hn)
    rw [hn] at z; cases z

/-! ### places -/
theorem atI_map {α β : Type} (f : α → β) (xs : List α) (i : Int) : atI (xs.map f) i = (atI xs i).map f := by
  unfold atI
  rw [List.length_map]
  cases ixN xs.length i with
  | none => rfl
  | some j => exact List.getElem?_map ..
theorem _root_.L2.DpAll.atI {vs : List V} {ds : List PyData} (h : DpAll K H vs ds) {i : Int} {d : PyData} (e : atI ds i = some d) : ∃ w, L2.atI vs i = some w ∧ Dp K H w d := by
  unfold L2.atI at e ⊢
  rw [h.length]
  cases q : ixN ds.length i with
  | none => rw [q] at e; cases e
  | some j =>
    rw [q] at e
    exact h.get' e
theorem PuAll.atI {ds : List PyData} (h : PuAll ds) {i : Int} {d : PyData} (e : L2.atI ds i = some d) : Pu d := by
  unfold L2.atI at e
  cases q : ixN ds.length i with
  | none => rw [q] at e; cases e
  | some j => rw [q] at e; exact h.get e
theorem ri_ixT {ds : List PyData} {i : Int} {d : PyData} (e : L2.atI ds i = some d) {Q : VK} {va vb : V} (h1 : SlRep K sa H H va (.p (.tuple ds)) []) (h2 : SlRep K sa H H vb (.p (.int i)) []) (q : ∀ w, Dp K H w d → Pu d → Q w H) : rIxT K va vb H Q := by
  obtain ⟨a, xs, rfl, hs, ha, hp, _⟩ := dpt h1
  obtain ⟨w, hw, hd⟩ := ha.atI e
  exact ⟨a, xs, i, w, rfl, dpi h2, hs, hw, q w hd (hp.atI e)⟩
/-- t[i], t a tuple -/
theorem ev_ixT {ds : List PyData} {i : Int} {d : PyData} (hi : L2.atI ds i = some d) (ha : EE X sa δ S a (.p (.tuple ds)) S1) (hb : EE X sa δ S1 b (.p (.int i)) S2) (hs : PlainIx b := by exact fun _ _ => rfl) : EG st X sa δ S (.Subscript a b pos) (.p d) S2 :=
  pe_imp (pe_ix ix_tup ha hb hs) fun σ H Q ⟨B, ok, k⟩ => ⟨B, ok, fun v H1 B1 ok1 e1 b1 r1 => ⟨B, ok1, fun u H2 B2 ok2 e2 b2 r2 => by
    obtain rfl : B1 = H1 := b1
    obtain rfl : B2 = H2 := b2
    exact ri_ixT (sa := sa) hi (r1.ext e2) r2 fun w hd hp => give_p ok (e1.trans e2) ok2.src hd hp fun B' ok' b r => k _ _ B' ok' (e1.trans e2) b r⟩⟩
/-- xs[i], xs a list that is read -/
theorem ev_ixB {ds : List PyData} {i : Int} {d : PyData} (hi : L2.atI ds i = some d) (ha : EE X sa δ S a (.b ds) S1) (hb : EE X sa δ S1 b (.p (.int i)) S2) (hs : PlainIx b := by exact fun _ _ => rfl) : EG st X sa δ S (.Subscript a b pos) (.p d) S2 :=
  pe_imp (pe_ix ix_list ha hb hs) fun σ H Q ⟨B, ok, k⟩ => ⟨B, ok, fun v H1 B1 ok1 e1 b1 r1 => ⟨B, ok1, fun u H2 B2 ok2 e2 b2 r2 => by
    obtain rfl : B1 = H1 := b1
    obtain rfl : B2 = H2 := b2
    obtain ⟨_, l, rfl, vs, hq, hw, hd, hp, hz⟩ := r1.ext e2
    obtain ⟨w, hw', hd'⟩ := hd.atI hi
    exact ⟨l, vs, i, w, rfl, dpi r2, hq, hw', give_p ok (e1.trans e2) ok2.src hd' (hp.atI hi) fun B' ok' b r => k _ _ B' ok' (e1.trans e2) b r⟩⟩⟩
/-- rows[i], rows a list of lists that is read -/
theorem ev_ixBB {dss : List (List PyData)} {i : Int} {ds : List PyData} (hi : L2.atI dss i = some ds) (ha : EE X sa δ S a (.bb dss) S1) (hb : EE X sa δ S1 b (.p (.int i)) S2) (hs : PlainIx b := by exact fun _ _ => rfl) : EE X sa δ S (.Subscript a b pos) (.b ds) S2 :=
  pe_imp (pe_ix ix_list ha hb hs) fun σ H Q ⟨B, ok, k⟩ => ⟨B, ok, fun v H1 B1 ok1 e1 b1 r1 => ⟨B, ok1, fun u H2 B2 ok2 e2 b2 r2 => by
    obtain rfl : B1 = H1 := b1
    obtain rfl : B2 = H2 := b2
    obtain ⟨_, l, vs, rfl, hq, hw, hr, hz⟩ := r1.ext e2
    unfold L2.atI at hi
    cases q : ixN dss.length i with
    | none => rw [q] at hi; cases hi
    | some j =>
      rw [q] at hi
      obtain ⟨bb, hb', hbb⟩ := hr.get hi
      refine ⟨l, vs, i, .ref bb, rfl, dpi r2, hq, ?_, k _ _ _ (ok1.ext e2 ok2.src) (e1.trans e2) rfl ⟨rfl, bb, rfl, hbb⟩⟩
      unfold L2.atI
      rw [hr.length, q]
      exact hb'⟩⟩
/-- by places that are there -/
def getI {α : Type} [Inhabited α] (xs : List α) (i : Int) : α := (L2.atI xs i).getD default
def InB {α : Type} (xs : List α) (i : Int) : Prop := -(xs.length : Int) ≤ i ∧ i < xs.length
theorem atI_some {α : Type} [Inhabited α] {xs : List α} {i : Int} (h : InB xs i) : L2.atI xs i = some (getI xs i) := by
  obtain ⟨h1, h2⟩ := h
  have : ∃ j, ixN xs.length i = some j ∧ j < xs.length := by
    unfold ixN
    by_cases c : 0 ≤ i
    · rw [if_pos c, if_pos (by exact_mod_cast h2)]
      exact ⟨_, rfl, by omega⟩
    · rw [if_neg c, if_pos h1]
      exact ⟨_, rfl, by omega⟩
  obtain ⟨j, e, hj⟩ := this
  have q : L2.atI xs i = some xs[j] := by unfold L2.atI; rw [e]; simp [hj]
  unfold getI
  rw [q]; rfl
theorem ev_ixL {α : Type} [Enc α] [Inhabited α] {xs : List α} {i : Int} (hi : InB xs i) (ha : EE X sa δ S a (.p (enc xs)) S1) (hb : EE X sa δ S1 b (.p (.int i)) S2) (hs : PlainIx b := by exact fun _ _ => rfl) : EG st X sa δ S (.Subscript a b pos) (.p (enc (getI xs i))) S2 :=
  ev_ixT (by rw [atI_map, atI_some hi]; rfl) ha hb hs
theorem ev_ixLB {α : Type} [Enc α] [Inhabited α] {xs : List α} {i : Int} (hi : InB xs i) (ha : EE X sa δ S a (.b (encs xs)) S1) (hb : EE X sa δ S1 b (.p (.int i)) S2) (hs : PlainIx b := by exact fun _ _ => rfl) : EG st X sa δ S (.Subscript a b pos) (.p (enc (getI xs i))) S2 :=
  ev_ixB (by rw [atI_map, atI_some hi]; rfl) ha hb hs
theorem ev_ixLBB {α : Type} [Enc α] {xss : List (List α)} {i : Int} (hi : InB xss i) (ha : EE X sa δ S a (.bb (encss xss)) S1) (hb : EE X sa δ S1 b (.p (.int i)) S2) (hs : PlainIx b := by exact fun _ _ => rfl) : EE X sa δ S (.Subscript a b pos) (.b (encs (getI xss i))) S2 :=
  ev_ixBB (by rw [atI_map, atI_some hi]; rfl) ha hb hs

/-! ### == of data -/
theorem BAt.dp {a : Addr} {ds : List PyData} (h : BAt K sa B a ds) : Dp K B (.ref a) (.list ds) := by
  obtain ⟨vs, h1, h2, h3, h4, h5⟩ := h
  exact .lst h1 h3
theorem RowsB.dp : ∀ {vs : List V} {dss : List (List PyData)}, RowsB K sa B vs dss → DpAll K B vs (dss.map .list)
  | [], [], _ => .nil
  | v :: vs, ds :: dss, h => .cons (by obtain ⟨b, rfl, q⟩ := h.1; exact q.dp) (RowsB.dp h.2)
  | [], _ :: _, h => h.elim
  | _ :: _, [], h => h.elim
/-- what a slot's value is as data -/
def Sl.data : Sl → PyData
  | .p d => d
  | .l ds => .list ds
  | .ll dss => .list (dss.map .list)
  | .b ds => .list ds
  | .bb dss => .list (dss.map .list)
  | .src => .none
theorem SlRep.data {sl : Sl} (h : SlRep K sa H H v sl []) (hs : sl ≠ .src) : Dp K H v sl.data := by
  cases sl with
  | p d => exact h.2.1
  | l ds => obtain ⟨_, _, hF, _⟩ := h; cases hF
  | ll ds => obtain ⟨_, _, _, hF, _⟩ := h; cases hF
  | b ds => obtain ⟨_, a, rfl, q⟩ := h; exact q.dp
  | bb dss => obtain ⟨_, a, vs, rfl, q, w, r, z⟩ := h; exact .lst q r.dp
  | src => exact absurd rfl hs
theorem rc_eqD {k : Bool} (h1 : SeqAt.shaped sla.data = true) (h2 : SeqAt.shaped slb.data = true) (hk : PyData.eqv sla.data slb.data = k) (n1 : sla ≠ .src) (n2 : slb ≠ .src) : RC K sa (rEqD K) sla slb k := fun va vb H Q r1 r2 q =>
  ⟨_, _, r1.data n1, r2.data n2, h1, h2, by rw [hk]; exact q⟩
theorem rc_neD {k : Bool} (h1 : SeqAt.shaped sla.data = true) (h2 : SeqAt.shaped slb.data = true) (hk : (!PyData.eqv sla.data slb.data) = k) (n1 : sla ≠ .src) (n2 : slb ≠ .src) : RC K sa (rNeD K) sla slb k := fun va vb H Q r1 r2 q =>
  ⟨_, _, r1.data n1, r2.data n2, h1, h2, by rw [hk]; exact q⟩
section
variable {α : Type} [Enc α] [DecidableEq α] {n : Nat}
theorem rc_eqT [EqD α n] (x y : α) (hn : Nat.ble n 60 = true := by rfl) : RC K sa (rEqD K) (.p (enc x)) (.p (enc y)) (decide (x = y)) :=
  rc_eqD (EqD.shaped hn x) (EqD.shaped hn y) (EqD.eqv x y) (by intro h; cases h) (by intro h; cases h)
theorem rc_neT [EqD α n] (x y : α) (hn : Nat.ble n 60 = true := by rfl) : RC K sa (rNeD K) (.p (enc x)) (.p (enc y)) (decide (x ≠ y)) :=
  rc_neD (EqD.shaped hn x) (EqD.shaped hn y) (by show (!PyData.eqv (enc x) (enc y)) = _; rw [EqD.eqv, decide_not]) (by intro h; cases h) (by intro h; cases h)
theorem shaped_list [EqD α n] (hn : Nat.ble n 60 = true) (xs : List α) : SeqAt.shaped (.list (encs xs)) = true := by
  have h1 := Nat.le_of_ble_eq_true hn
  have h2 := depthAll_map (n := n) xs
  refine Bool.and_eq_true_iff.mpr ⟨canLayAll0_map xs, decide_eq_true ?_⟩
  show PyData.depthAll (encs xs) + 1 ≤ 64
  omega
theorem rc_eqL [EqD α n] (xs ys : List α) (hn : Nat.ble n 60 = true := by rfl) : RC K sa (rEqD K) (.b (encs xs)) (.b (encs ys)) (decide (xs = ys)) :=
  rc_eqD (shaped_list hn xs) (shaped_list hn ys) (eqvAll_map xs ys) (by intro h; cases h) (by intro h; cases h)
theorem rc_neL [EqD α n] (xs ys : List α) (hn : Nat.ble n 60 = true := by rfl) : RC K sa (rNeD K) (.b (encs xs)) (.b (encs ys)) (decide (xs ≠ ys)) :=
  rc_neD (shaped_list hn xs) (shaped_list hn ys) (by show (!PyData.eqvAll (encs xs) (encs ys)) = _; rw [eqvAll_map, decide_not]) (by intro h; cases h) (by intro h; cases h)
end
/-! ### is None -/
theorem rc_isN {d : PyData} : RC K sa (fun x y H Q => y = .non ∧ Q (.bl (decide (x = .non))) H) (.p d) (.p .none) (match d with | .none => true | _ => false) := fun va vb H Q r1 r2 q => by
  refine ⟨dpn r2, ?_⟩
  obtain ⟨_, h, _⟩ := r1
  cases h <;> exact q
theorem rc_notN {d : PyData} : RC K sa (fun x y H Q => y = .non ∧ Q (.bl (!decide (x = .non))) H) (.p d) (.p .none) (match d with | .none => false | _ => true) := fun va vb H Q r1 r2 q => by
  refine ⟨dpn r2, ?_⟩
  obtain ⟨_, h, _⟩ := r1
  cases h <;> exact q

/-! ### tests -/
theorem et_val {k : Bool} (h : EE X sa δ S e (.p (.bool k)) S') (he : ∀ whole, isTrue e X.env whole = (do let v ← whole; standAt e.pos; holding [v] (truthy v)) := by intro _; rfl) : ET X sa δ S e k S' :=
  pt_imp (pt_val h he) fun σ H Q ⟨B, ok, kk⟩ => ⟨B, ok, fun v H1 B1 ok1 e1 b1 r1 => by
    obtain rfl : B1 = H1 := b1
    exact ⟨k, dpb r1, kk _ ok1 e1⟩⟩
theorem et_not {k : Bool} (h : ET X sa δ S e k S') : ET X sa δ S (.UnaryOp .Not e pos) (!k) S' := pt_imp (pt_not h) fun σ H Q ⟨B, ok, kk⟩ => ⟨B, ok, kk⟩
theorem et_pw {k : Bool} (h : EW X sa δ S e k S') : ET X sa δ S e k S' := h.pt
variable {rest : List Expr} {ka kb : Bool}
theorem ew_and1 (h : ET X sa δ S a ka S') : EW X sa δ S (.BoolOp .And [a] pos) ka S' := pw_and1 h
theorem ew_or1 (h : ET X sa δ S a ka S') : EW X sa δ S (.BoolOp .Or [a] pos) ka S' := pw_or1 h
/-- a and ..: b is asked if a holds -/
theorem ew_and (ha : ET X sa δ S a ka S1) (hb : ka = true → EW X sa δ S1 (.BoolOp .And (b :: rest) pos) kb S2) :
    EW X sa δ S (.BoolOp .And (a :: b :: rest) pos) (ka && kb) (if ka = true then S2 else S1) := by
  cases ka with
  | true => exact pw_imp (pw_and ha (hb rfl)) fun σ H Q ⟨B, ok, kk⟩ => ⟨B, ok, fun H1 ok1 e1 => iteT ⟨B, ok1, fun H2 ok2 e2 => kk H2 ok2 (e1.trans e2)⟩⟩
  | false => 
    have nv : PW X (.BoolOp .And (b :: rest) pos) (fun _ _ _ => False) := ⟨fun _ _ _ _ _ _ _ h => h.elim⟩
    exact pw_imp (pw_and ha nv) fun σ H Q ⟨B, ok, kk⟩ => ⟨B, ok, fun H1 ok1 e1 => iteF (kk H1 ok1 e1)⟩
theorem ew_or (ha : ET X sa δ S a ka S1) (hb : ka = false → EW X sa δ S1 (.BoolOp .Or (b :: rest) pos) kb S2) :
    EW X sa δ S (.BoolOp .Or (a :: b :: rest) pos) (ka || kb) (if ka = true then S1 else S2) := by
  cases ka with
  | false => exact pw_imp (pw_or ha (hb rfl)) fun σ H Q ⟨B, ok, kk⟩ => ⟨B, ok, fun H1 ok1 e1 => iteF ⟨B, ok1, fun H2 ok2 e2 => kk H2 ok2 (e1.trans e2)⟩⟩
  | true => 
    have nv : PW X (.BoolOp .Or (b :: rest) pos) (fun _ _ _ => False) := ⟨fun _ _ _ _ _ _ _ h => h.elim⟩
    exact pw_imp (pw_or ha nv) fun σ H Q ⟨B, ok, kk⟩ => ⟨B, ok, fun H1 ok1 e1 => iteT (kk H1 ok1 e1)⟩
/-- .. where nothing is drawn in what follows -/
theorem ew_andP (ha : ET X sa δ S a ka S1) (hb : ka = true → EW X sa δ S1 (.BoolOp .And (b :: rest) pos) kb S1) : EW X sa δ S (.BoolOp .And (a :: b :: rest) pos) (ka && kb) S1 := by
  have h := ew_and ha hb
  rw [ite_self] at h; exact h
theorem ew_orP (ha : ET X sa δ S a ka S1) (hb : ka = false → EW X sa δ S1 (.BoolOp .Or (b :: rest) pos) kb S1) : EW X sa δ S (.BoolOp .Or (a :: b :: rest) pos) (ka || kb) S1 := by
  have h := ew_or ha hb
  rw [ite_self] at h; exact h
/-! .. as values -/
theorem ev_one {op} (h : EG st X sa δ S a sl S') : EG st X sa δ S (.BoolOp op [a] pos) sl S' := pe_one h
theorem ev_and (ha : EE X sa δ S a (.p (.bool ka)) S1) (hb : ka = true → EE X sa δ S1 (.BoolOp .And (b :: rest) pos) (.p (.bool kb)) S2) :
    EE X sa δ S (.BoolOp .And (a :: b :: rest) pos) (.p (.bool (ka && kb))) (if ka = true then S2 else S1) := by
  cases ka with
  | true => exact pe_imp (pe_and ha (hb rfl)) fun σ H Q ⟨B, ok, kk⟩ => ⟨B, ok, fun v H1 B1 ok1 e1 b1 r1 => ⟨true, by
      obtain rfl : B1 = H1 := b1
      exact dpb r1, iteT ⟨B, ok1, fun w H2 B2 ok2 e2 b2 r2 => kk w H2 B2 ok2 (e1.trans e2) b2 r2⟩⟩⟩
  | false =>
    have nv : PE X (.BoolOp .And (b :: rest) pos) (fun _ _ _ => False) := ⟨fun _ _ _ _ _ _ h => h.elim⟩
    exact pe_imp (pe_and ha nv) fun σ H Q ⟨B, ok, kk⟩ => ⟨B, ok, fun v H1 B1 ok1 e1 b1 r1 => ⟨false, by
      obtain rfl : B1 = H1 := b1
      exact dpb r1, iteF (kk _ H1 H1 ok1 e1 rfl ⟨rfl, .bl _, trivial⟩)⟩⟩
theorem ev_or (ha : EE X sa δ S a (.p (.bool ka)) S1) (hb : ka = false → EE X sa δ S1 (.BoolOp .Or (b :: rest) pos) (.p (.bool kb)) S2) :
    EE X sa δ S (.BoolOp .Or (a :: b :: rest) pos) (.p (.bool (ka || kb))) (if ka = true then S1 else S2) := by
  cases ka with
  | false => exact pe_imp (pe_or ha (hb rfl)) fun σ H Q ⟨B, ok, kk⟩ => ⟨B, ok, fun v H1 B1 ok1 e1 b1 r1 => ⟨false, by
      obtain rfl : B1 = H1 := b1
      exact dpb r1, iteF ⟨B, ok1, fun w H2 B2 ok2 e2 b2 r2 => kk w H2 B2 ok2 (e1.trans e2) b2 r2⟩⟩⟩
  | true =>
    have nv : PE X (.BoolOp .Or (b :: rest) pos) (fun _ _ _ => False) := ⟨fun _ _ _ _ _ _ h => h.elim⟩
    exact pe_imp (pe_or ha nv) fun σ H Q ⟨B, ok, kk⟩ => ⟨B, ok, fun v H1 B1 ok1 e1 b1 r1 => ⟨true, by
      obtain rfl : B1 = H1 := b1
      exact dpb r1, iteT (kk _ H1 H1 ok1 e1 rfl ⟨rfl, .bl _, trivial⟩)⟩⟩
theorem ev_andP (ha : EE X sa δ S a (.p (.bool ka)) S1) (hb : ka = true → EE X sa δ S1 (.BoolOp .And (b :: rest) pos) (.p (.bool kb)) S1) : EE X sa δ S (.BoolOp .And (a :: b :: rest) pos) (.p (.bool (ka && kb))) S1 := by
  have h := ev_and ha hb
  rw [ite_self] at h; exact h
theorem ev_orP (ha : EE X sa δ S a (.p (.bool ka)) S1) (hb : ka = false → EE X sa δ S1 (.BoolOp .Or (b :: rest) pos) (.p (.bool kb)) S1) : EE X sa δ S (.BoolOp .Or (a :: b :: rest) pos) (.p (.bool (ka || kb))) S1 := by
  have h := ev_or ha hb
  rw [ite_self] at h; exact h
theorem ev_not (ha : EE X sa δ S a (.p (.bool ka)) S1) : EG st X sa δ S (.UnaryOp .Not a pos) (.p (.bool (!ka))) S1 := pe_imp (pe_not ha) fun σ H Q ⟨B, ok, kk⟩ => ⟨B, ok, fun v H1 B1 ok1 e1 b1 r1 => ⟨ka, by
    obtain rfl : B1 = H1 := b1
    exact dpb r1, give_p ok e1 ok1.src (.bl _) trivial fun B' ok' b r => kk _ _ B' ok' e1 b r⟩⟩
/-- a if c else b; g: how the answer is represented -/
theorem ev_if {β : Type} (g : β → Sl) {x y : β} (hc : ET X sa δ S c ka S1) (ha : ka = true → EG st X sa δ S1 a (g x) S2) (hb : ka = false → EG st X sa δ S1 b (g y) S3) : EG st X sa δ S (.IfExp c a b pos) (g (if ka = true then x else y)) (if ka = true then S2 else S3) := by
  have nv : ∀ e, PE X e (fun _ _ _ => False) := fun e => ⟨fun _ _ _ _ _ _ h => h.elim⟩
  cases ka with
  | true => exact pe_imp (pe_ifExp hc (ha rfl) (nv _)) fun σ H Q ⟨B, ok, kk⟩ => ⟨B, ok, fun H1 ok1 e1 => iteT ⟨B, ok1, fun w H2 B2 ok2 e2 b2 r2 => kk w H2 B2 ok2 (e1.trans e2) b2 r2⟩⟩
  | false => exact pe_imp (pe_ifExp hc (nv _) (hb rfl)) fun σ H Q ⟨B, ok, kk⟩ => ⟨B, ok, fun H1 ok1 e1 => iteF ⟨B, ok1, fun w H2 B2 ok2 e2 b2 r2 => kk w H2 B2 ok2 (e1.trans e2) b2 r2⟩⟩
theorem ev_ifP {β : Type} (g : β → Sl) {x y : β} (hc : ET X sa δ S c ka S1) (ha : ka = true → EG st X sa δ S1 a (g x) S1) (hb : ka = false → EG st X sa δ S1 b (g y) S1) : EG st X sa δ S (.IfExp c a b pos) (g (if ka = true then x else y)) S1 := by
  have h := ev_if (pos := pos) g hc ha hb
  rw [ite_self] at h; exact h

/-! ### chains of two comparisons -/
theorem ev_chain {op op' : CmpOp} {r r' : R2} {slc : Sl} (ho : OpR X (compareOp op) r) (ho' : OpR X (compareOp op') r') (h1 : RC X.K sa r sla slb ka) (h2 : RC X.K sa r' slb slc kb) (ha : EE X sa δ S a sla S1) (hb : EE X sa δ S1 b slb S2) (hc : EE X sa δ S2 c slc S2)
    (hp : PE X (.Compare a [op, op'] [b, c] pos) (tChain r r' (tEG false X.K sa δ S sla S1) (tEG false X.K sa δ S1 slb S2) (tEG false X.K sa δ S2 slc S2))) : EG st X sa δ S (.Compare a [op, op'] [b, c] pos) (.p (.bool (ka && kb))) S2 :=
  pe_imp hp fun σ H Q ⟨B, ok, k⟩ => ⟨B, ok, fun v H1 B1 ok1 e1 b1 r1 => ⟨B, ok1, fun u H2 B2 ok2 e2 b2 r2 => by
    obtain rfl : B1 = H1 := b1
    obtain rfl : B2 = H2 := b2
    refine h1 v u _ _ (r1.ext e2) r2 ⟨ka, rfl, ?_⟩
    cases ka with
    | false => exact give_p ok (e1.trans e2) ok2.src (.bl _) trivial fun B' ok' b r => k _ _ B' ok' (e1.trans e2) b r
    | true => exact ⟨B, ok1.ext e2 ok2.src, fun w H3 B3 ok3 e3 b3 r3 => by
        obtain rfl : B3 = H3 := b3
        exact h2 u w _ _ (r2.ext e3) r3 (give_p ok (e1.trans (e2.trans e3)) ok3.src (.bl _) trivial fun B' ok' b r => k _ _ B' ok' (e1.trans (e2.trans e3)) b r)⟩⟩⟩

end
end L2.Ev

set_option Elab.async false
set_option linter.all false
set_option maxRecDepth 100000
/-! Ev4: calls of defs, statements. -/
namespace L2.Ev
open PySem PySem.Spec PyProof.Rows

/-! ### defs, where nothing is being written as text (repr) around -/
structure FnG (P : Program) (w : World) (K : PySem.W.Frag) (mg : Str → Option Value) (base : Heap) (k : Nat) (f : Addr) (fd : FuncData) (ps : List Str) (sp : Sp) : Prop where
  len : ∀ vs H Q E, sp vs H Q E → vs.length = ps.length
  run : ∀ (A : Around) (outer : List PySem.Env) (s : Shared) (H : Hp) (args : Args) (us : List Value) (vs : List V) (Q : VK) (E : XK), Room k A → A.guards = some [] → Env0 P w K mg base A outer s H → BindsTo s fd args (ps.zip us) → Vals vs us → sp vs H Q E →
    codeAny (model P w) A (.call (.ref f) args) (CR CX0 outer P w H s Q E) s
/-- the context of a def's body -/
abbrev bx (P : Program) (w : World) (K : PySem.W.Frag) (mg : Str → Option Value) (base : Heap) (N : List Str) (qual : Str) (sc : Scope) (f : Addr) (cd : Value) (A : Around) (outer : List PySem.Env) (s : Shared) (H : Hp) (E : XK) : Cx :=
  (cxOf CX0 P w K mg base N qual sc f cd A outer s H E).nox
section
variable {P : Program} {w : World} {K : PySem.W.Frag} {mg : Str → Option Value} {base : Heap}
theorem fnG_of {x qual : Str} {st : Stmt} {f : Addr} {fd : FuncData} {N ps : List Str} {k : Nat} {sp : Sp} (F : Fun K x qual st f fd) (T : FnScope N ps (defScope st)) (len : ∀ vs H Q E, sp vs H Q E → vs.length = ps.length)
    (body : ∀ (cd : Value) (A : Around) (outer : List PySem.Env) (s : Shared) (H : Hp) (vs : List V) (Q : VK) (E : XK), Room k (A.deeper (envOfC qual (defScope st) s.heap.objs.size f cd)) → (A.deeper (envOfC qual (defScope st) s.heap.objs.size f cd)).guards = some [] → sp vs H Q E →
      ∃ t, PSs (bx P w K mg base N qual (defScope st) f cd A outer s H E) (defBody st) t ∧ t { nx := fun _ H' => Q .non H', rt := Q } (L2.start N vs) H) : FnG P w K mg base (k + 1) f fd ps sp := by
  obtain ⟨oc, od, kV, doc, pm, an, cd, ct, osl, rfl, lk, hcd⟩ := F.ex
  constructor
  · exact len
  intro A outer s H args us vs Q E hr hgd e0 hb r hsp
  have nl := len _ _ _ _ hsp
  have kin : K.In s.heap := e0.mod.kin.keeps fun b o e => (e0.bs b o e).1
  have kinds : ∀ y ∈ ps.zip us, (defScope st).names.lookup y.1 = some .local ∨ ((defScope st).names.lookup y.1 = some .cell ∧ ((cellsFrom (s.heap.objs.size + 1) (defScope st).names []).lookup y.1).isSome = true) := by
    intro y hy
    obtain ⟨n, v⟩ := y
    exact (T.par n (List.of_mem_zip hy).1).elim .inl fun q => .inr ⟨q, PySem.W.cellsFrom_some _ _ _ (.inl q)⟩
  refine codeAny_call_function hr.depth (kin _ _ lk) rfl T.co T.gen rfl (PySem.W.codeRec_of kin hcd) (hb _ _ _ _ ?_)
  refine wpAny_newFunctionEnv_cells T.kind kinds fun env he s1 inn => ?_
  subst he
  have lim : s.heap.NoLimit := e0.mod.nolimit.keeps fun b o e => (e0.bs b o e).1
  refine ⟨lim.keeps inn.toInCall.keep, codeAny_func ?_⟩
  obtain ⟨t, ht, hq⟩ := body cd A outer s H vs Q E (hr.deeper _) hgd hsp
  have I0 := inv_start (CX := CX0) (E := E) T hr.hd e0 nl r inn
  have done : ∀ {σ' : L2.St} {H' : Hp} {v : V} {u : Value} {s' : Shared}, Inv (cxOf CX0 P w K mg base N qual (defScope st) f cd A outer s H E) [] σ' H' s' → RelV v u → Q v H' → CE outer P w H s Q u s' := fun J rv q => ⟨_, _, J.os, J.bare, J.base, J.hok, rv, q⟩
  refine wpAny_mono (ht.nox.run [] s1 (L2.start N vs) H _ I0 hq) (fun fl s' hs => ?_) fun e s' hs => hs
  match fl, hs with
  | .ret u, ⟨v, σ', H', J, rv, q⟩ => exact done J rv q
  | .next, ⟨σ', H', J, q⟩ => exact done (v := V.non) (u := Value.none) J rfl q
  | .brk, ⟨_, _, _, q⟩ => exact q.elim
  | .cont, ⟨_, _, _, q⟩ => exact q.elim
end
/-! ### a def's promise by data -/
abbrev DR := List Sl → Src → Sl → Src → Prop
def Res : Sl → Prop
  | .p _ => True
  | .l _ => True
  | .ll _ => True
  | _ => False
theorem SlRep.base {K : PySem.W.Frag} {sa : SA} {B B' H : Hp} {v : V} {r : Sl} {F : List Addr} (hr : Res r) (h : SlRep K sa B H v r F) : SlRep K sa B' H v r F := by
  cases r with
  | p d => exact h
  | l d => exact h
  | ll d => exact h
  | b d => exact hr.elim
  | bb d => exact hr.elim
  | src => exact hr.elim
def spD (K : PySem.W.Frag) (n : Nat) (R : DR) : Sp := fun vs H Q _ => ∃ sa sls S r S', sls.length = n ∧ R sls S r S' ∧ SrcRep sa H S ∧ SlsRep K sa H vs sls ∧
  ∀ v H' F, Ext sa H H' → SrcRep sa H' S' → SlRep K sa H H' v r F → F.Nodup → (∀ a ∈ F, H a = none) → Q v H'
theorem SlsRep.length {K : PySem.W.Frag} {sa : SA} {B : Hp} : ∀ {vs : List V} {sls : List Sl}, SlsRep K sa B vs sls → vs.length = sls.length
  | [], [], _ => rfl
  | _ :: vs, _ :: sls, h => congrArg (· + 1) (SlsRep.length h.2)
  | [], _ :: _, h => h.elim
  | _ :: _, [], h => h.elim
theorem SlsRep.get {K : PySem.W.Frag} {sa : SA} {B : Hp} : ∀ {vs : List V} {sls : List Sl} {i : Nat} {sl : Sl}, SlsRep K sa B vs sls → sls[i]? = some sl → ∃ v, vs[i]? = some v ∧ SlRep K sa B B v sl []
  | v :: vs, s :: sls, 0, sl, h, e => by
    simp at e; subst e
    exact ⟨v, rfl, h.1⟩
  | v :: vs, s :: sls, i + 1, sl, h, e => SlsRep.get (i := i) h.2 (by simpa using e)
  | [], [], _, _, _, e => by simp at e
  | [], _ :: _, _, _, h, _ => h.elim
  | _ :: _, [], _, _, h, _ => h.elim

/-! ### statements -/
structure Spec where
  nx : Env → Src → Prop
  rt : Sl → Src → Prop
def tSB (K : PySem.W.Frag) (sa : SA) (δ : Env) (S : Src) (W : Spec) : TS := fun D σ H => ∃ B, Ok K sa B H σ δ S ∧
  (∀ B' σ' H' δ' S', W.nx δ' S' → Ext sa B B' → Ok K sa B' H' σ' δ' S' → D.nx σ' H') ∧
  ∀ B' v H' r S' F, W.rt r S' → Ext sa B B' → Ext sa B' H' → SrcRep sa H' S' → Res r → SlRep K sa B' H' v r F → F.Nodup → (∀ a ∈ F, B' a = none ∧ Away sa a) → D.rt v H'
def SB (X : Cx) (sa : SA) (δ : Env) (S : Src) (sts : List Stmt) (W : Spec) : Prop := PSs X sts (tSB X.K sa δ S W)
/-- returns r -/
def WR {ρ : Type} (rf : ρ → Sl × Src) (r : ρ) : Spec := ⟨fun _ _ => False, fun sl s => rf r = (sl, s)⟩
/-- falls through with n -/
def WN {ν : Type} (nf : ν → Env × Src) (n : ν) : Spec := ⟨fun δ s => nf n = (δ, s), fun _ _ => False⟩
/-- one of both -/
def WX {ρ ν : Type} (nf : ν → Env × Src) (rf : ρ → Sl × Src) (o : Except ρ ν) : Spec := ⟨fun δ s => ∃ n, o = .ok n ∧ nf n = (δ, s), fun sl s => ∃ r, o = .error r ∧ rf r = (sl, s)⟩

section
variable {P : Program} {w : World} {K : PySem.W.Frag} {mg : Str → Option Value} {base : Heap}
/-- THE RULE for a def -/
theorem fnD {x qual : Str} {st : Stmt} {f : Addr} {fd : FuncData} {N ps : List Str} {k n : Nat} {R : DR} (F : Fun K x qual st f fd) (T : FnScope N ps (defScope st)) (hn : n = ps.length) (hN : ps.length ≤ N.length)
    (body : ∀ (sa : SA) (sls : List Sl) (S : Src) (r : Sl) (S' : Src), R sls S r S' → ∀ (cd : Value) (A : Around) (outer : List PySem.Env) (s : Shared) (H : Hp) (E : XK), Room k (A.deeper (envOfC qual (defScope st) s.heap.objs.size f cd)) →
      (A.deeper (envOfC qual (defScope st) s.heap.objs.size f cd)).guards = some [] →
      SB (bx P w K mg base N qual (defScope st) f cd A outer s H E) sa (sls.map some ++ List.replicate (N.length - ps.length) none) S (defBody st) ⟨fun _ S'' => r = .p .none ∧ S'' = S', fun r' S'' => r' = r ∧ S'' = S'⟩) : FnG P w K mg base (k + 1) f fd ps (spD K n R) := by
  refine fnG_of F T (fun vs H Q E h => ?_) fun cd A outer s H vs Q E hr hg h => ?_
  · obtain ⟨sa, sls, S, r, S', hl, _, _, hs, _⟩ := h
    rw [hs.length, hl, hn]
  obtain ⟨sa, sls, S, r, S', hl, hR, hS, hs, q⟩ := h
  refine ⟨_, body sa sls S r S' hR cd A outer s H E hr hg, H, ⟨.refl _ _, ?_, ⟨fun _ => [], fun i sl e => ?_, fun _ => .nil, fun _ _ _ _ m => (nomatch m), fun _ _ m => (nomatch m)⟩, hS⟩, fun B' σ' H' δ' S'' hw eb ok => ?_, fun B' v H' r' S'' Fr hw eb eh hs' hres hrep hnd hfr => ?_⟩
  · unfold L2.start
    simp only [List.length_append, List.length_map, List.length_replicate]
    rw [hs.length, hl, hn]
  · have hi : i < sls.length := by
      rw [List.getElem?_append] at e
      split at e
      · rename_i h
        simpa using h
      · rw [List.getElem?_replicate] at e
        split at e <;> cases e
    have e' : sls[i]? = some sl := by
      rw [List.getElem?_append_left (by simpa using hi), List.getElem?_map] at e
      cases q : sls[i]? with
      | none => rw [q] at e; cases e
      | some z => rw [q] at e; cases e; rfl
    obtain ⟨v, h1, h2⟩ := hs.get e'
    refine ⟨v, ?_, h2⟩
    unfold L2.start
    rw [List.getElem?_append_left (by rw [List.length_map, hs.length]; exact hi), List.getElem?_map, h1]; rfl
  · obtain ⟨rfl, rfl⟩ := hw
    exact q _ H' [] (eb.trans ok.base) ok.src ⟨rfl, .non, trivial⟩ .nil fun _ m => nomatch m
  · obtain ⟨rfl, rfl⟩ := hw
    refine q v H' Fr (eb.trans eh) hs' (hrep.base hres) hnd fun a m => ?_
    obtain ⟨h1, h2⟩ := hfr a m
    cases z : H a with
    | none => rfl
    | some o =>
      have := eb.cell a o z h2
      rw [h1] at this; cases this
end

section
variable {X : Cx} {sa : SA} {δ δ' : Env} {S S1 S2 S' : Src} {e : Expr} {st : Stmt} {sts rest : List Stmt} {W : Spec} {pos : Pos} {d : PyData} {ds : List PyData} {dss : List (List PyData)} {sl : Sl} {i : Nat}
theorem ps_imp {t t' : TS} (h : PS X st t) (m : ∀ D σ H, t' D σ H → t D σ H) : PS X st t' := ⟨fun pins s σ H D I q => h.run pins s σ H D I (m D σ H q)⟩
theorem pss_imp {t t' : TS} (h : PSs X sts t) (m : ∀ D σ H, t' D σ H → t D σ H) : PSs X sts t' := ⟨fun pins s σ H D I q => h.run pins s σ H D I (m D σ H q)⟩
/-- one statement that falls through, then the rest -/
theorem sb_seq {t : TS} (h : PS X st t) (hr : SB X sa δ' S' rest W)
    (m : ∀ (D : Ends) (σ : L2.St) (H : Hp) (B : Hp), Ok X.K sa B H σ δ S → (∀ B' σ' H', Ext sa B B' → Ok X.K sa B' H' σ' δ' S' → D.nx σ' H') → t D σ H) : SB X sa δ S (st :: rest) W :=
  pss_imp (pss_cons h hr) fun D σ H ⟨B, ok, k1, k2⟩ => m _ σ H B ok fun B' σ' H' eb ok' =>
    ⟨B', ok', fun B2 σ2 H2 δ2 S2 hw e2 ok2 => k1 B2 σ2 H2 δ2 S2 hw (eb.trans e2) ok2, fun B2 v H2 r S2 F hw e2 e3 hs hres hrep hn hf => k2 B2 v H2 r S2 F hw (eb.trans e2) e3 hs hres hrep hn hf⟩
/-- the block's end -/
theorem sb_nil (hw : W.nx δ' S) (hs : Sub δ' δ) : SB X sa δ S [] W := pss_imp pss_nil fun D σ H ⟨B, ok, k1, _⟩ => k1 B σ H δ' S hw (.refl _ _) (ok.forget hs)
theorem sb_forget (hs : Sub δ' δ) (h : SB X sa δ' S sts W) : SB X sa δ S sts W := pss_imp h fun D σ H ⟨B, ok, k1, k2⟩ => ⟨B, ok.forget hs, k1, k2⟩
/-- x = e -/
theorem sb_set (h : PS X st (tAsg (tEG false X.K sa δ S (.p d) S1) (gName i))) (hr : SB X sa (δ.set i (some (.p d))) S1 rest W) (hi : Nat.blt i δ.length = true := by rfl) : SB X sa δ S (st :: rest) W :=
  sb_seq h hr fun D σ H B ok k => ⟨B, ok, fun v H' B' ok' e' b r => by
    obtain rfl : B' = H' := b
    exact k B _ B' (.refl _ _) (ok'.set ⟨r.1, r.2⟩ (Nat.blt_eq.mp hi))⟩
theorem sb_setB (hsl : sl = .b ds ∨ sl = .bb dss ∨ sl = .src) (h : PS X st (tAsg (tEG true X.K sa δ S sl S1) (gName i))) (hr : SB X sa (δ.set i (some sl)) S1 rest W) (hi : Nat.blt i δ.length = true := by rfl) : SB X sa δ S (st :: rest) W :=
  sb_seq h hr fun D σ H B ok k => ⟨B, ok, fun v H' B' ok' e' b r => by
    obtain ⟨eb, okb⟩ := b
    refine k B' _ H' eb (okb.set ?_ (Nat.blt_eq.mp hi))
    rcases hsl with rfl | rfl | rfl
    · exact r
    · exact r
    · exact r⟩
theorem sb_setL (h : PS X st (tAsg (tEL X.K sa δ S ds S1) (gName i))) (hr : SB X sa (δ.set i (some (.l ds))) S1 rest W) (hi : Nat.blt i δ.length = true := by rfl) : SB X sa δ S (st :: rest) W :=
  sb_seq h hr fun D σ H B ok k => ⟨B, ok, fun p H' hp ok' e' hl =>
    k B _ H' (.refl _ _) (ok.setNew e' ok'.src (Fn := [p]) ⟨p, rfl, rfl, hl⟩ (Nat.blt_eq.mp hi) (by simp) fun a m => by
      obtain rfl : a = p := by simpa using m
      exact hp)⟩
theorem sb_setM (h : PS X st (tAsg (tEM X.K sa δ S dss S1) (gName i))) (hr : SB X sa (δ.set i (some (.ll dss))) S1 rest W) (hi : Nat.blt i δ.length = true := by rfl) : SB X sa δ S (st :: rest) W :=
  sb_seq h hr fun D σ H B ok k => ⟨B, ok, fun p bs H' hp hn ok' e' hl hr hz =>
    k B _ H' (.refl _ _) (ok.setNew e' ok'.src (Fn := p :: bs) ⟨p, bs, rfl, rfl, hl, hr, hz⟩ (Nat.blt_eq.mp hi) hn hp)⟩
/-- a new list that nobody writes: kept as one that is read -/
theorem sb_setLB (h : PS X st (tAsg (tEL X.K sa δ S ds S1) (gName i))) (hr : SB X sa (δ.set i (some (.b ds))) S1 rest W) (hi : Nat.blt i δ.length = true := by rfl) : SB X sa δ S (st :: rest) W :=
  sb_seq h hr fun D σ H B ok k => ⟨B, ok, fun p H' hp ok' e' hl => by
    refine give_l (st := true) ok e' ok'.src hp hl fun B' ok'' b r => ?_
    obtain ⟨eb, okb⟩ := b
    exact k B' _ H' eb (okb.set r (Nat.blt_eq.mp hi))⟩
theorem sb_setMB (h : PS X st (tAsg (tEM X.K sa δ S dss S1) (gName i))) (hr : SB X sa (δ.set i (some (.bb dss))) S1 rest W) (hi : Nat.blt i δ.length = true := by rfl) : SB X sa δ S (st :: rest) W :=
  sb_seq h hr fun D σ H B ok k => ⟨B, ok, fun p bs H' hp hn ok' e' hl hr hz => by
    refine give_m (st := true) ok e' ok'.src hp hl hr hz fun B' ok'' b r => ?_
    obtain ⟨eb, okb⟩ := b
    exact k B' _ H' eb (okb.set r (Nat.blt_eq.mp hi))⟩
/-- an expression whose value is dropped -/
theorem sb_expr {sl : Sl} (h : PS X st (tDrop (tEG false X.K sa δ S sl S1))) (hr : SB X sa δ S1 rest W) : SB X sa δ S (st :: rest) W :=
  sb_seq h hr fun D σ H B ok k => ⟨B, ok, fun v H' B' ok' e' b r => k B _ H' (.refl _ _) ok'⟩

/-! return -/
theorem sb_ret (he : EE X sa δ S e (.p d) S1) (hw : W.rt (.p d) S1) : SB X sa δ S (.Return (some e) pos :: rest) W :=
  pss_imp (pss_cons (ps_ret he) (pss_never (sts := rest))) fun D σ H ⟨B, ok, k1, k2⟩ => ⟨B, ok, fun v H' B' ok' e' b r => by
    obtain rfl : B' = H' := b
    exact k2 B v B' _ _ [] hw (.refl _ _) ok'.base ok'.src trivial ⟨r.1, r.2⟩ .nil fun _ m => nomatch m⟩
theorem sb_retL (he : EL X sa δ S e ds S1) (hw : W.rt (.l ds) S1) : SB X sa δ S (.Return (some e) pos :: rest) W :=
  pss_imp (pss_cons (ps_ret he) (pss_never (sts := rest))) fun D σ H ⟨B, ok, k1, k2⟩ => ⟨B, ok, fun p H' hp ok' e' hl =>
    k2 B _ H' _ _ [p] hw (.refl _ _) ok'.base ok'.src trivial ⟨p, rfl, rfl, hl⟩ (by simp) fun a m => by
      obtain rfl : a = p := by simpa using m
      exact ⟨ok.basefree hp, ok.away hp⟩⟩
theorem sb_retM (he : EM X sa δ S e dss S1) (hw : W.rt (.ll dss) S1) : SB X sa δ S (.Return (some e) pos :: rest) W :=
  pss_imp (pss_cons (ps_ret he) (pss_never (sts := rest))) fun D σ H ⟨B, ok, k1, k2⟩ => ⟨B, ok, fun p bs H' hp hn ok' e' hl hr hz =>
    k2 B _ H' _ _ (p :: bs) hw (.refl _ _) ok'.base ok'.src trivial ⟨p, bs, rfl, rfl, hl, hr, hz⟩ hn fun a m => ⟨ok.basefree (hp a m), ok.away (hp a m)⟩⟩
/-- return of an own list -/
theorem sb_retOwn {x : Str} {p1 : Pos} {sl : Sl} (hd : δ[i]? = some (some sl)) (hsl : Res sl) (hv : PE X (.Name x p1) (tVar i)) (hw : W.rt sl S) : SB X sa δ S (.Return (some (.Name x p1)) pos :: rest) W :=
  pss_imp (pss_cons (ps_ret hv) (pss_never (sts := rest))) fun D σ H ⟨B, ok, k1, k2⟩ => by
    obtain ⟨F, o⟩ := ok.owns
    obtain ⟨v, h1, h2⟩ := o.rep i _ hd
    exact ⟨v, h1, k2 B v H _ _ (F i) hw (.refl _ _) ok.base ok.src hsl h2 (o.nodup i) fun a m => ⟨(o.own i a m).1, (o.own i a m).2.1⟩⟩

/-! if -/
variable {c : Expr} {sa1 sa2 : List Stmt} {k : Bool}
/-- if c: A (that doesn't fall through), rest -/
theorem sb_if {β : Type} {Wf : β → Spec} {x y : β} (hc : ET X sa δ S c k S1) (ha : k = true → SB X sa δ S1 sa1 ⟨fun _ _ => False, (Wf x).rt⟩) (hr : k = false → SB X sa δ S1 rest (Wf y)) : SB X sa δ S (.If c sa1 [] pos :: rest) (Wf (if k = true then x else y)) := by
  cases k with
  | true =>
    exact pss_imp (pss_cons (ps_if hc (ha rfl) (pss_never (sts := []))) (pss_never (sts := rest))) fun D σ H ⟨B, ok, k1, k2⟩ => ⟨B, ok, fun H1 ok1 e1 => iteT ⟨B, ok1, fun _ _ _ _ _ hf => hf.elim, fun B2 v H2 r S2 F hw => k2 B2 v H2 r S2 F hw⟩⟩
  | false =>
    exact pss_imp (pss_cons (ps_if hc (pss_never (sts := sa1)) pss_nil) (hr rfl)) fun D σ H ⟨B, ok, k1, k2⟩ => ⟨B, ok, fun H1 ok1 e1 => iteF ⟨B, ok1, k1, k2⟩⟩
/-- if c: A else: B, nothing behind -/
theorem sb_ifE {β : Type} {Wf : β → Spec} {x y : β} (hc : ET X sa δ S c k S1) (ha : k = true → SB X sa δ S1 sa1 (Wf x)) (hb : k = false → SB X sa δ S1 sa2 (Wf y)) : SB X sa δ S [.If c sa1 sa2 pos] (Wf (if k = true then x else y)) := by
  cases k with
  | true => exact pss_imp (pss_one (ps_if hc (ha rfl) (pss_never (sts := sa2)))) fun D σ H ⟨B, ok, k1, k2⟩ => ⟨B, ok, fun H1 ok1 e1 => iteT ⟨B, ok1, k1, k2⟩⟩
  | false => exact pss_imp (pss_one (ps_if hc (pss_never (sts := sa1)) (hb rfl))) fun D σ H ⟨B, ok, k1, k2⟩ => ⟨B, ok, fun H1 ok1 e1 => iteF ⟨B, ok1, k1, k2⟩⟩
/-- if c: A else: B, both fall through, then the rest -/
theorem sb_ifJ {ν : Type} {nf : ν → Env × Src} {x y : ν} (hc : ET X sa δ S c k S1) (ha : k = true → SB X sa δ S1 sa1 (WN nf x)) (hb : k = false → SB X sa δ S1 sa2 (WN nf y)) (hr : SB X sa (nf (if k = true then x else y)).1 (nf (if k = true then x else y)).2 rest W) :
    SB X sa δ S (.If c sa1 sa2 pos :: rest) W := by
  cases k with
  | true =>
    refine sb_seq (ps_if hc (ha rfl) (pss_never (sts := sa2))) hr fun D σ H B ok kk => ⟨B, ok, fun H1 ok1 e1 => iteT ⟨B, ok1, fun B' σ' H' δ' S' hw eb ok' => kk B' σ' H' eb ?_, fun _ _ _ _ _ _ hf => hf.elim⟩⟩
    have e1 : (nf (if true = true then x else y)) = (δ', S') := hw
    rw [e1]; exact ok'
  | false =>
    refine sb_seq (ps_if hc (pss_never (sts := sa1)) (hb rfl)) hr fun D σ H B ok kk => ⟨B, ok, fun H1 ok1 e1 => iteF ⟨B, ok1, fun B' σ' H' δ' S' hw eb ok' => kk B' σ' H' eb ?_, fun _ _ _ _ _ _ hf => hf.elim⟩⟩
    have e1 : (nf (if false = true then x else y)) = (δ', S') := hw
    rw [e1]; exact ok'
end

/-! ### calls -/
section
variable {X : Cx} {sa : SA} {δ : Env} {S S1 S2 : Src} {st : Bool} {k n : Nat} {f : Addr} {fd : FuncData} {ps : List Str} {R : DR} {x : Str} {p pos : Pos} {e : Expr} {es : List Expr} {sls : List Sl} {t : TA} {E : XK}
theorem run_g {pins : List (Addr × Obj)} {σ : L2.St} {H : Hp} {s : Shared} {Q : VK} {us : List Value} {vs : List V} {sp : Sp} (G : FnG X.prog X.w X.K X.mg X.base k f fd ps sp) (hr : Room k X.A) (hg : X.A.guards = some []) (hb : Binds X.K fd ps [])
    (I : Inv X pins σ H s) (r : Vals vs us) (h : sp vs H Q E) : wpAny (model X.prog X.w) X.A (call (.ref f) us) (EP X pins σ Q) X.xe s := by
  have hl : (us ++ []).length = ps.length := by rw [List.append_nil, ← r.length]; exact G.len _ _ _ _ h
  have bd := hb s us I.kIn hl
  rw [List.append_nil] at bd
  refine wpAny_call (codeAny_mono (G.run X.A X.stack s H ⟨us, []⟩ us vs Q E hr hg I.env0 bd r h) fun r s' hq => ?_)
  match r, hq with
  | .error e, hq => exact False.elim hq
  | .ok (.ret u), hq => exact I.after hq
  | .ok .next, hq => exact False.elim hq
  | .ok .brk, hq => exact False.elim hq
  | .ok .cont, hq => exact False.elim hq
/-- f(e, ..) -/
theorem pe_callG {sp : Sp} (G : FnG X.prog X.w X.K X.mg X.base k f fd ps sp) (hr : Room k X.A) (hgd : X.A.guards = some []) (hg : Gl X x) (hm : X.mg x = some (.ref f)) (hk : PySem.W.keepIn X.K (.ref f) = true) (hb : Binds X.K fd ps [])
    (ha : PA X (e :: es) t) (hdb : (x == ("__debug__" : Str)) = false := by decide) (he : starEach (e :: es) X.env = (false, eval e X.env) :: starEach es X.env := by rfl) (hpl : (backTo pos (starEach es X.env)).any (·.1) = false := by rfl) :
    PE X (.Call (.Name x p) (e :: es) [] pos) (fun σ H Q => t σ H fun vs H1 => sp vs H1 Q E) := by
  refine ⟨fun pins s σ H Q I h => wpAny_Call_Name_kw (ld_glob I hg hm (PySem.W.callWith_K (h₀ := X.base) I.ok.mod.kin hk (thn (ha.run pos pins s σ H _ I h) fun us s1 hh => ?_) he hpl) hdb)⟩
  obtain ⟨vs, H1, I1, r, q⟩ := hh
  exact ⟨I1.kIn, run_g G hr hgd hb I1 r q⟩
/-- what stands behind the call -/
structure Callee (X : Cx) (x : Str) (k : Nat) (f : Addr) (fd : FuncData) (ps : List Str) (n : Nat) (R : DR) : Prop where
  ok : FnG X.prog X.w X.K X.mg X.base k f fd ps (spD X.K n R)
  mg : X.mg x = some (.ref f)
  kp : PySem.W.keepIn X.K (.ref f) = true
  bd : Binds X.K fd ps []
section
variable {d : PyData} {ds : List PyData} {dss : List (List PyData)}
theorem ev_call (C : Callee X x k f fd ps n R) (hr : Room k X.A) (hgd : X.A.guards = some []) (hg : Gl X x) (ha : EA false X sa δ S (e :: es) sls S1) (hn : sls.length = n) (hR : R sls S1 (.p d) S2)
    (hdb : (x == ("__debug__" : Str)) = false := by decide) (he : starEach (e :: es) X.env = (false, eval e X.env) :: starEach es X.env := by rfl) (hpl : (backTo pos (starEach es X.env)).any (·.1) = false := by rfl) :
    EG st X sa δ S (.Call (.Name x p) (e :: es) [] pos) (.p d) S2 := pe_imp (pe_callG (E := E0) C.ok hr hgd hg C.mg C.kp C.bd ha hdb he hpl) fun σ H Q ⟨B, ok, kk⟩ =>
  ⟨B, ok, fun vs H1 B1 ok1 e1 b1 r1 => by
    obtain rfl : B1 = H1 := b1
    exact ⟨sa, sls, S1, .p d, S2, hn, hR, ok1.src, r1, fun v H' F eh hs hrep hnd hfr => give_p ok (e1.trans eh) hs hrep.2.1 hrep.2.2 fun B' ok' b r => kk v H' B' ok' (e1.trans eh) b r⟩⟩
theorem el_call (C : Callee X x k f fd ps n R) (hr : Room k X.A) (hgd : X.A.guards = some []) (hg : Gl X x) (ha : EA false X sa δ S (e :: es) sls S1) (hn : sls.length = n) (hR : R sls S1 (.l ds) S2)
    (hdb : (x == ("__debug__" : Str)) = false := by decide) (he : starEach (e :: es) X.env = (false, eval e X.env) :: starEach es X.env := by rfl) (hpl : (backTo pos (starEach es X.env)).any (·.1) = false := by rfl) :
    EL X sa δ S (.Call (.Name x p) (e :: es) [] pos) ds S2 := pe_imp (pe_callG (E := E0) C.ok hr hgd hg C.mg C.kp C.bd ha hdb he hpl) fun σ H Q ⟨B, ok, kk⟩ =>
  ⟨B, ok, fun vs H1 B1 ok1 e1 b1 r1 => by
    obtain rfl : B1 = H1 := b1
    refine ⟨sa, sls, S1, .l ds, S2, hn, hR, ok1.src, r1, fun v H' F eh hs hrep hnd hfr => ?_⟩
    obtain ⟨a, rfl, rfl, hl⟩ := hrep
    exact kk a H' (e1.none_of ok1 (hfr a (by simp))) (ok1.ext eh hs) (e1.trans eh) hl⟩
theorem em_call (C : Callee X x k f fd ps n R) (hr : Room k X.A) (hgd : X.A.guards = some []) (hg : Gl X x) (ha : EA false X sa δ S (e :: es) sls S1) (hn : sls.length = n) (hR : R sls S1 (.ll dss) S2)
    (hdb : (x == ("__debug__" : Str)) = false := by decide) (he : starEach (e :: es) X.env = (false, eval e X.env) :: starEach es X.env := by rfl) (hpl : (backTo pos (starEach es X.env)).any (·.1) = false := by rfl) :
    EM X sa δ S (.Call (.Name x p) (e :: es) [] pos) dss S2 := pe_imp (pe_callG (E := E0) C.ok hr hgd hg C.mg C.kp C.bd ha hdb he hpl) fun σ H Q ⟨B, ok, kk⟩ =>
  ⟨B, ok, fun vs H1 B1 ok1 e1 b1 r1 => by
    obtain rfl : B1 = H1 := b1
    refine ⟨sa, sls, S1, .ll dss, S2, hn, hR, ok1.src, r1, fun v H' F eh hs hrep hnd hfr => ?_⟩
    obtain ⟨a, bs, rfl, rfl, hl, hr', hz⟩ := hrep
    exact kk a bs H' (fun b m => e1.none_of ok1 (hfr b m)) hnd (ok1.ext eh hs) (e1.trans eh) hl hr' hz⟩
end
end
end L2.Ev

set_option Elab.async false
set_option linter.all false
set_option maxRecDepth 100000
/-! Ev5: what is walked, targets, comprehensions, for. -/
namespace L2.Ev
open PySem PySem.Spec PyProof.Rows

/-- an item: a value, or a new tuple of values -/
inductive Itm where
  | one (sl : Sl)
  | tup (sls : List Sl)
def SlsR (K : PySem.W.Frag) (sa : SA) (B H : Hp) : List V → List Sl → Prop
  | [], [] => True
  | v :: vs, sl :: sls => SlRep K sa B H v sl [] ∧ SlsR K sa B H vs sls
  | _, _ => False
def ItmRep (K : PySem.W.Frag) (sa : SA) (B H : Hp) (v : V) : Itm → Prop
  | .one sl => SlRep K sa B H v sl []
  | .tup sls => ∃ a xs, v = .ref a ∧ SqT K H a xs ∧ SlsR K sa B H xs sls
def JY (K : PySem.W.Frag) (sa : SA) (B : Hp) (J : It) (items : List Itm) : Prop := ∀ i H, Ext sa B H →
  (∀ it, items[i]? = some it → J.go i H ∧ ∀ x H', J.yld i H x H' → Same H H' ∧ ItmRep K sa B H' x it) ∧ (items.length = i → J.stop i H)
def tIJ (st : Bool) (K : PySem.W.Frag) (sa : SA) (δ : Env) (S : Src) (items : List Itm) (S' : Src) : TI := fun σ H R =>
  ∃ B, Ok K sa B H σ δ S ∧ ∀ J H1 B', Ok K sa B H1 σ δ S' → Ext sa H H1 → BOk st K sa B H1 σ δ S' B' → JY K sa B' J items → items.length ≤ sizeLine → R J H1
def IJ (st : Bool) (X : Cx) (sa : SA) (δ : Env) (S : Src) (tg iter : Expr) (items : List Itm) (S' : Src) : Prop := PI X tg iter (tIJ st X.K sa δ S items S')
def onesP (ds : List PyData) : List Itm := ds.map fun d => .one (.p d)
def onesB (dss : List (List PyData)) : List Itm := dss.map fun ds => .one (.b ds)
/-- the items of typed data -/
def its {α : Type} [Enc α] (xs : List α) : List Itm := xs.map fun x => .one (.p (enc x))
def itsB {α : Type} [Enc α] (xss : List (List α)) : List Itm := xss.map fun xs => .one (.b (encs xs))
theorem its_eq {α : Type} [Enc α] (xs : List α) : onesP (encs xs) = its xs := by
  unfold onesP its encs
  rw [List.map_map]; rfl
theorem itsB_eq {α : Type} [Enc α] (xss : List (List α)) : onesB (encss xss) = itsB xss := by
  unfold onesB itsB encss
  rw [List.map_map]; rfl

section
variable {X : Cx} {sa : SA} {δ δ' : Env} {S S1 S2 S' : Src} {st : Bool} {e a b c tg iter : Expr} {pos p pos' : Pos} {K : PySem.W.Frag} {B H H' : Hp} {items : List Itm}
theorem pi_imp {t t' : TI} (h : PI X tg iter t) (m : ∀ σ H R, t' σ H R → t σ H R) : PI X tg iter t' := ⟨fun pins s σ H R I q => h.run pins s σ H R I (m σ H R q)⟩
theorem jy_tup {x : Addr} {xs : List V} {ds : List PyData} (hs : SqT K B x xs) (hd : DpAll K B xs ds) (hp : PuAll ds) : JY K sa B (Itt K x) (onesP ds) := fun i H e => by
  have hq : SqT K H x xs := e.tup.sqt hs
  refine ⟨fun it hi => ?_, fun hi => ⟨xs, hq, by rw [hd.length]; exact Nat.le_of_eq (by simpa [onesP] using hi)⟩⟩
  unfold onesP at hi
  rw [List.getElem?_map] at hi
  cases q : ds[i]? with
  | none => rw [q] at hi; cases hi
  | some d =>
    rw [q] at hi; cases hi
    obtain ⟨v, h1, h2⟩ := hd.get' q
    refine ⟨⟨xs, v, hq, h1⟩, fun y H' hy => ?_⟩
    obtain ⟨rfl, hy⟩ := hy
    have := hy xs hq
    rw [h1] at this; cases this
    exact ⟨Same.refl _, rfl, e.tup.dp _ _ (hp.get q) h2, hp.get q⟩
theorem jy_list {x : Addr} {ds : List PyData} (h : BAt K sa B x ds) : JY K sa B (Itl K x) (onesP ds) := fun i H e => by
  obtain ⟨xs, hs, hw, hd, hp, hz⟩ := h
  have hq : SqL K H x xs := e.sql hw hs
  refine ⟨fun it hi => ?_, fun hi => ⟨xs, hq, by rw [hd.length]; exact Nat.le_of_eq (by simpa [onesP] using hi)⟩⟩
  unfold onesP at hi
  rw [List.getElem?_map] at hi
  cases q : ds[i]? with
  | none => rw [q] at hi; cases hi
  | some d =>
    rw [q] at hi; cases hi
    obtain ⟨v, h1, h2⟩ := hd.get' q
    refine ⟨⟨xs, v, hq, h1⟩, fun y H' hy => ?_⟩
    obtain ⟨rfl, hy⟩ := hy
    have := hy xs hq
    rw [h1] at this; cases this
    exact ⟨Same.refl _, rfl, e.tup.dp _ _ (hp.get q) h2, hp.get q⟩
theorem jy_rows {x : Addr} {vs : List V} {dss : List (List PyData)} (hs : SqL K B x vs) (hw : Away sa x) (hr : RowsB K sa B vs dss) : JY K sa B (Itl K x) (onesB dss) := fun i H e => by
  have hq : SqL K H x vs := e.sql hw hs
  refine ⟨fun it hi => ?_, fun hi => ⟨vs, hq, by rw [hr.length]; exact Nat.le_of_eq (by simpa [onesB] using hi)⟩⟩
  unfold onesB at hi
  rw [List.getElem?_map] at hi
  cases q : dss[i]? with
  | none => rw [q] at hi; cases hi
  | some ds =>
    rw [q] at hi; cases hi
    obtain ⟨bb, h1, h2⟩ := hr.get q
    refine ⟨⟨vs, _, hq, h1⟩, fun y H' hy => ?_⟩
    obtain ⟨rfl, hy⟩ := hy
    have := hy vs hq
    rw [h1] at this; cases this
    exact ⟨Same.refl _, rfl, bb, rfl, h2⟩
def rngI (lo : Int) (n : Nat) : List Int := (List.range n).map fun (i : Nat) => lo + (i : Int)
theorem jy_rng {lo : Int} {n : Nat} : JY K sa B (Itr lo n) (its (rngI lo n)) := fun i H e => by
  refine ⟨fun it hi => ?_, fun hi => by
    have h : n = i := by simpa [its, rngI] using hi
    exact Nat.le_of_eq h⟩
  unfold its rngI at hi
  rw [List.getElem?_map, List.getElem?_map] at hi
  by_cases hn : i < n
  · rw [List.getElem?_range hn] at hi
    cases hi
    refine ⟨hn, fun y H' hy => ?_⟩
    obtain ⟨rfl, rfl⟩ := hy
    exact ⟨Same.refl _, rfl, .int _, trivial⟩
  · rw [List.getElem?_eq_none (by simpa using hn)] at hi
    cases hi
theorem Ok.tup_there {σ : L2.St} {v : V} {ds : List PyData} (h : SlRep K sa B B v (.p (.tuple ds)) []) : ∃ x xs, v = .ref x ∧ SqT K B x xs ∧ DpAll K B xs ds ∧ PuAll ds ∧ ds.length ≤ sizeLine := dpt h
theorem bok_ext {σ : L2.St} (ok : Ok K sa B H σ δ S') (b : BOk st K sa B H σ δ S' B') : Ext sa B' H := by
  cases st with
  | false =>
    obtain rfl : B' = H := b
    exact .refl _ _
  | true => exact b.2.base
theorem ij_tup {ds : List PyData} (h : EG st X sa δ S iter (.p (.tuple ds)) S') : IJ st X sa δ S tg iter (onesP ds) S' := pi_imp (pi_tup h) fun σ H R ⟨B, ok, k⟩ => ⟨B, ok, fun v H1 B1 ok1 e1 b1 r1 => by
  obtain ⟨x, xs, rfl, hs, hd, hp, hz⟩ := Ok.tup_there (σ := σ) r1
  exact ⟨x, rfl, ⟨xs, (bok_ext ok1 b1).tup.sqt hs⟩, k _ H1 B1 ok1 e1 b1 (jy_tup hs hd hp) (by unfold onesP; rw [List.length_map]; exact hz)⟩⟩
theorem ij_list {ds : List PyData} (h : EG st X sa δ S iter (.b ds) S') : IJ st X sa δ S tg iter (onesP ds) S' := pi_imp (pi_list h) fun σ H R ⟨B, ok, k⟩ => ⟨B, ok, fun v H1 B1 ok1 e1 b1 r1 => by
  obtain ⟨_, x, rfl, hb⟩ := r1
  obtain ⟨xs, hs, hw, _, _, hz⟩ := id hb
  exact ⟨x, rfl, ⟨xs, (bok_ext ok1 b1).sql hw hs⟩, k _ H1 B1 ok1 e1 b1 (jy_list hb) (by unfold onesP; rw [List.length_map]; exact hz)⟩⟩
theorem ij_rows {dss : List (List PyData)} (h : EG st X sa δ S iter (.bb dss) S') : IJ st X sa δ S tg iter (onesB dss) S' := pi_imp (pi_list h) fun σ H R ⟨B, ok, k⟩ => ⟨B, ok, fun v H1 B1 ok1 e1 b1 r1 => by
  obtain ⟨_, x, vs, rfl, hs, hw, hr, hz⟩ := r1
  exact ⟨x, rfl, ⟨vs, (bok_ext ok1 b1).sql hw hs⟩, k _ H1 B1 ok1 e1 b1 (jy_rows hs hw hr) (by unfold onesB; rw [List.length_map]; exact hz)⟩⟩
theorem ij_T {α : Type} [Enc α] {xs : List α} (h : EG st X sa δ S iter (.p (enc xs)) S') : IJ st X sa δ S tg iter (its xs) S' := by rw [← its_eq]; exact ij_tup h
theorem ij_L {α : Type} [Enc α] {xs : List α} (h : EG st X sa δ S iter (.b (encs xs)) S') : IJ st X sa δ S tg iter (its xs) S' := by rw [← its_eq]; exact ij_list h
theorem ij_LL {α : Type} [Enc α] {xss : List (List α)} (h : EG st X sa δ S iter (.bb (encss xss)) S') : IJ st X sa δ S tg iter (itsB xss) S' := by rw [← itsB_eq]; exact ij_rows h
theorem sls1 {v1 : List V} {sl : Sl} (h : SlsRep K sa B v1 [sl]) : ∃ v, v1 = [v] ∧ SlRep K sa B B v sl [] := by
  cases v1 with
  | nil => exact h.elim
  | cons v vs =>
    cases vs with
    | nil => exact ⟨v, rfl, h.1⟩
    | cons w ws => exact h.2.elim
theorem sls2 {v1 : List V} {sl sl2 : Sl} (h : SlsRep K sa B v1 [sl, sl2]) : ∃ v w, v1 = [v, w] ∧ SlRep K sa B B v sl [] ∧ SlRep K sa B B w sl2 [] := by
  cases v1 with
  | nil => exact h.elim
  | cons v vs =>
    obtain ⟨w, rfl, h2⟩ := sls1 h.2
    exact ⟨v, w, rfl, h.1, h2⟩
def RngOk (n : Int) : Prop := -(2 ^ 62) ≤ n ∧ n ≤ 16777216
theorem ij_range1 {n : Int} (hn : RngOk n) (hg : Gl X "range") (hm : X.mg "range" = none) (ha : EA st X sa δ S [a] [.p (.int n)] S') (hs : starEach [a] X.env = [(false, eval a X.env)] := by rfl) :
    IJ st X sa δ S tg (.Call (.Name "range" p) [a] [] pos) (its (rngI 0 n.toNat)) S' := pi_imp (pi_range1 hg hm ha hs) fun σ H R ⟨B, ok, k⟩ => ⟨B, ok, fun vs H1 B1 ok1 e1 b1 r1 => by
  obtain ⟨v, rfl, h1⟩ := sls1 r1
  obtain rfl := dpi h1
  exact ⟨n, rfl, hn.1, by have := hn.2; omega, k _ H1 B1 ok1 e1 b1 jy_rng (by have := hn.2; rw [sizeLine_eq]; simp [its, rngI]; omega)⟩⟩
theorem ij_range2 {m n : Int} (hm0 : RngOk m) (hn : RngOk n) (hmn : n - m ≤ 16777216) (hg : Gl X "range") (hm : X.mg "range" = none) (ha : EA st X sa δ S [a, b] [.p (.int m), .p (.int n)] S')
    (hs : starEach [a, b] X.env = [(false, eval a X.env), (false, eval b X.env)] := by rfl) (hs2 : starEach [b] X.env = [(false, eval b X.env)] := by rfl) :
    IJ st X sa δ S tg (.Call (.Name "range" p) [a, b] [] pos) (its (rngI m (n - m).toNat)) S' := pi_imp (pi_range2 hg hm ha hs hs2) fun σ H R ⟨B, ok, k⟩ => ⟨B, ok, fun vs H1 B1 ok1 e1 b1 r1 => by
  obtain ⟨v, w, rfl, h1, h2⟩ := sls2 r1
  obtain rfl := dpi h1
  obtain rfl := dpi h2
  exact ⟨m, n, rfl, ⟨hm0.1, by have := hm0.2; omega, hn.1, by have := hn.2; omega⟩, k _ H1 B1 ok1 e1 b1 jy_rng (by rw [sizeLine_eq]; simp [its, rngI]; omega)⟩⟩

/-! ### targets -/
def SlsPure (sls : List Sl) : Prop := True
/-- the target is stored: δ' the slots behind, is: the places that are written -/
def tTg (K : PySem.W.Frag) (sa : SA) (δ : Env) (it : Itm) (δ' : Env) (js : List Nat) : TG := fun v σ H Q => ∃ B S, Ok K sa B H σ δ S ∧ ItmRep K sa B H v it ∧
  ∀ σ', Ok K sa B H σ' δ' S → σ'.length = σ.length → (∀ j, j ∉ js → σ'[j]? = σ[j]?) → Q σ' H
def tTgs (K : PySem.W.Frag) (sa : SA) (δ : Env) (sls : List Sl) (δ' : Env) (js : List Nat) : TGs := fun vs σ H Q => ∃ B S, Ok K sa B H σ δ S ∧ SlsR K sa B H vs sls ∧
  ∀ σ', Ok K sa B H σ' δ' S → σ'.length = σ.length → (∀ j, j ∉ js → σ'[j]? = σ[j]?) → Q σ' H
def TGt (X : Cx) (sa : SA) (δ : Env) (tg : Expr) (it : Itm) (δ' : Env) (js : List Nat) : Prop := PG X tg (tTg X.K sa δ it δ' js)
def TGts (X : Cx) (sa : SA) (δ : Env) (tgs : List Expr) (sls : List Sl) (δ' : Env) (js : List Nat) : Prop := PGs X tgs (tTgs X.K sa δ sls δ' js)
theorem pg_imp {t t' : TG} (h : PG X tg t) (m : ∀ v σ H Q, t' v σ H Q → t v σ H Q) : PG X tg t' := ⟨fun pins s σ H v u Q I r q => h.run pins s σ H v u Q I r (m v σ H Q q)⟩
theorem pgs_imp {tgs : List Expr} {t t' : TGs} (h : PGs X tgs t) (m : ∀ v σ H Q, t' v σ H Q → t v σ H Q) : PGs X tgs t' := ⟨fun pins s σ H v u Q I r q => h.run pins s σ H v u Q I r (m v σ H Q q)⟩
theorem tg_name {i : Nat} {x : Str} {sl : Sl} (h : PG X (.Name x p) (gName i)) (hi : Nat.blt i δ.length = true := by rfl) : TGt X sa δ (.Name x p) (.one sl) (δ.set i (some sl)) [i] :=
  pg_imp h fun v σ H Q ⟨B, S, ok, r, k⟩ => k _ (ok.set r (Nat.blt_eq.mp hi)) (by rw [List.length_set]) fun j hj => by rw [List.getElem?_set_ne (fun z => hj (by rw [z]; simp))]
theorem tgs_nil : TGts X sa δ [] [] δ [] := pgs_imp pgs_nil fun vs σ H Q ⟨B, S, ok, r, k⟩ => by
  cases vs with
  | nil => exact ⟨rfl, k σ ok rfl fun _ _ => rfl⟩
  | cons v vs => exact r.elim
theorem tgs_cons {tgs : List Expr} {sl : Sl} {sls : List Sl} {δ1 : Env} {js js2 : List Nat} (h1 : TGt X sa δ tg (.one sl) δ1 js) (h2 : TGts X sa δ1 tgs sls δ' js2)
    (hs : (assignEach (tg :: tgs) X.env).map (·.2) = assign tg X.env :: (assignEach tgs X.env).map (·.2) := by rfl) : TGts X sa δ (tg :: tgs) (sl :: sls) δ' (js ++ js2) := pgs_imp (pgs_cons h1 h2 hs) fun vs σ H Q ⟨B, S, ok, r, k⟩ => by
  cases vs with
  | nil => exact r.elim
  | cons v vs => exact ⟨v, vs, rfl, B, S, ok, r.1, fun σ1 ok1 l1 k1 => ⟨B, S, ok1, r.2, fun σ2 ok2 l2 k2 => k σ2 ok2 (l2.trans l1) fun j hj => by
      rw [k2 j fun z => hj (List.mem_append_right _ z), k1 j fun z => hj (List.mem_append_left _ z)]⟩⟩
theorem slsR_pures : ∀ {ds : List PyData} {vs : List V}, DpAll K H vs ds → PuAll ds → SlsR K sa B H vs (Pures ds)
  | _, _, .nil, _ => trivial
  | _, _, .cons r t, p => ⟨⟨rfl, r, p.1⟩, slsR_pures t p.2⟩
theorem slsR_length : ∀ {vs : List V} {sls : List Sl}, SlsR K sa B H vs sls → vs.length = sls.length
  | [], [], _ => rfl
  | _ :: vs, _ :: sls, h => congrArg (· + 1) (slsR_length h.2)
  | [], _ :: _, h => h.elim
  | _ :: _, [], h => h.elim
theorem tg_tup {tgs : List Expr} {k : Nat} {ds : List PyData} {js : List Nat} (hc : X.calm = true) (h : TGts X sa δ tgs (Pures ds) δ' js)
    (hn : (assignEach tgs X.env).length = ds.length := by rfl) (hst : (assignEach tgs X.env).findIdx? (·.1) = none := by rfl) : TGt X sa δ (.Tuple tgs k p) (.one (.p (.tuple ds))) δ' js :=
  pg_imp (pg_tup hc h hn hst) fun v σ H Q ⟨B, S, ok, r, kk⟩ => by
    obtain ⟨_, hd, hp⟩ := r
    cases hd with
    | tup hs ha => exact ⟨_, _, rfl, hs, ha.length, B, S, ok, slsR_pures ha hp.2, kk⟩
theorem tg_tupN {tgs : List Expr} {k : Nat} {sls : List Sl} {js : List Nat} (hc : X.calm = true) (h : TGts X sa δ tgs sls δ' js)
    (hn : (assignEach tgs X.env).length = sls.length := by rfl) (hst : (assignEach tgs X.env).findIdx? (·.1) = none := by rfl) : TGt X sa δ (.Tuple tgs k p) (.tup sls) δ' js :=
  pg_imp (pg_tup hc h hn hst) fun v σ H Q ⟨B, S, ok, r, kk⟩ => by
    obtain ⟨a, xs, rfl, hs, hr⟩ := r
    exact ⟨a, xs, rfl, hs, slsR_length hr, B, S, ok, hr, kk⟩

/-! ### comprehensions: within, all that is owned is only read -/
def frzS : Sl → Sl
  | .l ds => .b ds
  | .ll dss => .bb dss
  | s => s
def frz (δ : Env) : Env := δ.map (Option.map frzS)
theorem SlRep.frz {v : V} {sl : Sl} {F : List Addr} (h : SlRep K sa B H v sl F) (eb : Ext sa B H) (w : ∀ a ∈ F, Away sa a) : SlRep K sa H H v (frzS sl) [] := by
  cases sl with
  | p d => exact ⟨rfl, h.2⟩
  | l ds =>
    obtain ⟨a, e, hF, vs, q, q2⟩ := h
    subst hF
    exact ⟨rfl, a, e, vs, .of q, w a (by simp), q2⟩
  | ll dss =>
    obtain ⟨a, bs, e, hF, q, r, z⟩ := h
    subst hF
    exact ⟨rfl, a, _, e, .of q, w a (by simp), RowsB.of (fun b m => w b (List.mem_cons_of_mem _ m)) r, z⟩
  | b ds => obtain ⟨_, a, e, q⟩ := h; exact ⟨rfl, a, e, q.mono eb⟩
  | bb dss => obtain ⟨_, a, vs, e, q, w', r, z⟩ := h; exact ⟨rfl, a, vs, e, eb.sql w' q, w', r.mono eb, z⟩
  | src => exact ⟨rfl, h.2⟩
/-- the block of a comprehension: slots by vs forgotten, the rest only read -/
theorem Ok.block {σ σ' : L2.St} (ok : Ok K sa B H σ δ S) (e : Ext sa H H') (s : SrcRep sa H' S') (hl : δ'.length = σ'.length) (h : ∀ (i : Nat) sl, δ'[i]? = some (some sl) → (frz δ)[i]? = some (some sl) ∧ ∀ v, σ[i]? = some (some v) → σ'[i]? = some (some v)) : Ok K sa H H' σ' δ' S' := by
  obtain ⟨F, o⟩ := ok.owns
  refine ⟨e, hl, ⟨fun _ => [], fun i sl hi => ?_, fun _ => .nil, fun _ _ _ _ m => (nomatch m), fun _ _ m => (nomatch m)⟩, s⟩
  obtain ⟨h1, h2⟩ := h i sl hi
  unfold Ev.frz at h1
  rw [List.getElem?_map] at h1
  cases q : δ[i]? with
  | none => rw [q] at h1; cases h1
  | some x =>
    rw [q] at h1
    cases x with
    | none => cases h1
    | some sl0 =>
      cases h1
      obtain ⟨v, g1, g2⟩ := o.rep i sl0 q
      exact ⟨v, h2 v g1, (g2.frz ok.base fun a m => (o.own i a m).2.1).mono (.refl _ _) e.tup fun _ m => nomatch m⟩
theorem wipe_get {σ : L2.St} : ∀ {vs : List Nat} {j : Nat}, j ∉ vs → (wipe σ vs)[j]? = σ[j]?
  | [], _, _ => rfl
  | v :: vs, j, h => by
    unfold wipe
    rw [List.getElem?_set_ne (fun z => h (by rw [z]; simp)), wipe_get fun z => h (List.mem_cons_of_mem _ z)]
theorem wipe_eq {σ τ : L2.St} {vs : List Nat} (hl : τ.length = σ.length) (h : ∀ j, j ∉ vs → τ[j]? = σ[j]?) : wipe τ vs = wipe σ vs := by
  induction vs generalizing σ τ with
  | nil => exact List.ext_getElem? fun j => h j (by simp)
  | cons v vs ih =>
    have key : ∀ (σ : L2.St), wipe σ (v :: vs) = wipe (σ.set v none) vs := fun σ => by
      show (wipe σ vs).set v none = _
      clear ih h hl
      induction vs generalizing σ with
      | nil => rfl
      | cons w ws ih2 =>
        show ((wipe σ ws).set w none).set v none = (wipe (σ.set v none) ws).set w none
        rw [← ih2 σ]
        by_cases e : w = v
        · subst e; rw [List.set_set]
        · rw [List.set_comm _ _ e]
    rw [key τ, key σ]
    refine ih (by rw [List.length_set, List.length_set]; exact hl) fun j hj => ?_
    by_cases e : j = v
    · subst e
      rw [List.getElem?_set, List.getElem?_set, hl, if_pos (Eq.refl j), if_pos (Eq.refl j)]
    · rw [List.getElem?_set_ne (Ne.symm e), List.getElem?_set_ne (Ne.symm e)]
      exact h j (by simp only [List.mem_cons, not_or]; exact ⟨e, hj⟩)
/-- places forgotten -/
def wipeE (δ : Env) : List Nat → Env
  | [] => δ
  | v :: vs => (wipeE δ vs).set v none
theorem wipeE_get {δ : Env} : ∀ {vs : List Nat} {i : Nat} {sl : Sl}, (wipeE δ vs)[i]? = some (some sl) → δ[i]? = some (some sl) ∧ i ∉ vs
  | [], _, _, h => ⟨h, by simp⟩
  | v :: vs, i, sl, h => by
    unfold wipeE at h
    by_cases hi : v = i
    · subst hi
      by_cases hv : v < (wipeE δ vs).length
      · rw [List.getElem?_set_self hv] at h; cases h
      · rw [List.getElem?_eq_none (by simpa using hv)] at h; cases h
    · rw [List.getElem?_set_ne hi] at h
      obtain ⟨h1, h2⟩ := wipeE_get h
      exact ⟨h1, by simp only [List.mem_cons, not_or]; exact ⟨fun e => hi e.symm, h2⟩⟩
theorem wipeE_length {δ : Env} : ∀ vs : List Nat, (wipeE δ vs).length = δ.length
  | [] => rfl
  | v :: vs => by unfold wipeE; rw [List.length_set, wipeE_length vs]
theorem Ok.blk {σ : L2.St} (ok : Ok K sa B H σ δ S) (e : Ext sa H H') (s : SrcRep sa H' S') (vs : List Nat) : Ok K sa H H' (wipe σ vs) (wipeE (Ev.frz δ) vs) S' :=
  ok.block e s (by rw [wipeE_length, wipe_length]; unfold Ev.frz; rw [List.length_map]; exact ok.len) fun i sl h => by
    obtain ⟨h1, h2⟩ := wipeE_get h
    exact ⟨h1, fun v hv => by rw [wipe_get h2]; exact hv⟩

theorem pe_ex {ι : Type} {P : ι → Prop} {T : ι → TE} (h : ∀ x, P x → PE X e (T x)) : PE X e (fun σ H Q => ∃ x, P x ∧ T x σ H Q) := ⟨fun pins s σ H Q I ⟨x, p, q⟩ => (h x p).run pins s σ H Q I q⟩
theorem pt_ex {ι : Type} {P : ι → Prop} {T : ι → TT} (h : ∀ x, P x → PT X e (T x)) : PT X e (fun σ H Q => ∃ x, P x ∧ T x σ H Q) := ⟨fun pins s σ H Q I ⟨x, p, q⟩ => (h x p).run pins s σ H Q I q⟩
theorem pg_ex {ι : Type} {P : ι → Prop} {T : ι → TG} (h : ∀ x, P x → PG X e (T x)) : PG X e (fun v σ H Q => ∃ x, P x ∧ T x v σ H Q) := ⟨fun pins s σ H v u Q I r ⟨x, p, q⟩ => (h x p).run pins s σ H v u Q I r q⟩
theorem pss_ex {ι : Type} {P : ι → Prop} {T : ι → TS} {sts : List Stmt} (h : ∀ x, P x → PSs X sts (T x)) : PSs X sts (fun D σ H => ∃ x, P x ∧ T x D σ H) := ⟨fun pins s σ H D I ⟨x, p, q⟩ => (h x p).run pins s σ H D I q⟩
theorem SrcRep.updA {p : Addr} {o : HO} (s : SrcRep sa H S) (w : Away sa p) : SrcRep sa (upd H p o) S := fun q h => by
  obtain ⟨q1, q2, q3, q4⟩ := s q h
  exact ⟨by rw [upd_ne (Ne.symm (w q h).1)]; exact q1, by rw [upd_ne (Ne.symm (w q h).2)]; exact q2, q3, q4⟩
/-- a comprehension's list gets one more item -/
theorem Ext.grow {H1 H4 : Hp} {D : Addr} {acc : List V} {ys : List V} (e : Ext sa H1 H4) (hD : H1 D = none) (h4 : H4 D = some (.lst acc)) : Ext sa H1 (upd H4 D (.lst ys)) :=
  ⟨fun a o q w => by rw [upd_ne (ne_of_none q hD)]; exact e.cell a o q w, e.tup.trans (tupX_upd (.inr ⟨acc, h4⟩))⟩
variable {α : Type} {g : TG} {tt : TT} {te : TE} {vs js : List Nat} {S0 : Src}
theorem lc_read (xs : List α) (itm : α → Itm) (P : α → Prop) (δb : α → Env) (cnd : α → Bool) (f : α → PyData) (hP : ∀ x ∈ xs, P x) (hjs : ∀ j ∈ js, j ∈ vs)
    (htt : ∀ x σ (H : Hp) Q B, P x → Ok K sa B H σ (δb x) S0 → (∀ H', Ok K sa B H' σ (δb x) S0 → Ext sa H H' → Q (cnd x) H') → tt σ H Q) {σ : L2.St} {Q : VK}
    (h : tEL K sa δ S ((xs.filter cnd).map f) S0 σ H Q) :
    tLc (tIJ false K sa δ S (xs.map itm) S0) (fun v σ H Q => ∃ x, P x ∧ tTg K sa (wipeE (Ev.frz δ) vs) (itm x) (δb x) js v σ H Q) tt (fun σ H Q => ∃ x, (P x ∧ cnd x = true) ∧ tEG false K sa (δb x) S0 (.p (f x)) S0 σ H Q) vs σ H Q := by
  obtain ⟨B, ok, k⟩ := h
  refine ⟨B, ok, fun J H1 B1 ok1 e1 b1 jy hz D hD => ?_⟩
  obtain rfl : B1 = H1 := b1
  have hlen : xs.length ≤ sizeLine := by rw [List.length_map] at hz; exact hz
  have aw : Away sa D := ok1.away hD
  refine ⟨fun i m H' => m = xs.length - i ∧ i ≤ xs.length ∧ SrcRep sa H' S0 ∧ Ext sa B1 H' ∧ ∃ acc, H' D = some (.lst acc) ∧ DpAll K H' acc (((xs.take i).filter cnd).map f) ∧ PuAll (((xs.take i).filter cnd).map f),
    ⟨_, rfl, Nat.zero_le _, ok1.src.updA aw, .new hD, [], upd_same, .nil, trivial⟩, ?_⟩
  rintro i m H' ⟨rfl, hi, hs, he, acc, hacc, hd, hp⟩
  by_cases hlt : i < xs.length
  · right
    have hx : xs[i]? = some xs[i] := List.getElem?_eq_getElem hlt
    have hxm : P xs[i] := hP _ (List.getElem_mem hlt)
    obtain ⟨go, yl⟩ := (jy i H' he).1 (itm xs[i]) (by rw [List.getElem?_map, hx]; rfl)
    have htk : (xs.take (i + 1)).filter cnd = (xs.take i).filter cnd ++ (if cnd xs[i] = true then [xs[i]] else []) := by
      rw [List.take_add_one, hx, List.filter_append]
      show _ ++ List.filter cnd [xs[i]] = _
      rw [List.filter_cons, List.filter_nil]
    refine ⟨go, fun H2 => SrcRep sa H2 S0 ∧ Ext sa B1 H2 ∧ ∃ acc, H2 D = some (.lst acc) ∧ DpAll K H2 acc (((xs.take (i + 1)).filter cnd).map f) ∧ PuAll (((xs.take (i + 1)).filter cnd).map f), fun H2 n => ⟨_, by omega, rfl, hlt, n⟩, fun x H2 hy => ?_⟩
    obtain ⟨sm, rep⟩ := yl x H2 hy
    have e2 : Ext sa H' H2 := .of_same sm
    refine ⟨xs[i], hxm, B1, S0, ok1.blk (he.trans e2) (hs.same sm) vs, rep, fun σ2 ok2 l2 u2 => ⟨?_, ?_⟩⟩
    · have w1 : wipe σ2 vs = wipe (wipe σ vs) vs := wipe_eq l2 fun j hj => u2 j fun z => hj (hjs j z)
      rw [w1]
      exact wipe_eq (wipe_length _ _) fun j hj => wipe_get hj
    · refine htt xs[i] σ2 H2 _ B1 hxm ok2 fun H3 ok3 e3 => ?_
      cases hc : cnd xs[i] with
      | true =>
        refine iteT ⟨xs[i], ⟨hxm, hc⟩, B1, ok3, fun y H4 B4 ok4 e4 b4 r4 => ?_⟩
        obtain rfl : B4 = H4 := b4
        have h3 := e3.cell D _ (sm D _ hacc) aw
        have h4 := e4.cell D _ h3 aw
        have tx : TupX H' B4 := e2.tup.trans (e3.tup.trans e4.tup)
        have hal : acc.length ≤ i := by
          rw [hd.length, List.length_map]
          exact Nat.le_trans (List.length_filter_le _ _) (by rw [List.length_take]; exact Nat.min_le_left _ _)
        refine ⟨acc, h4, by omega, ok4.src.updA aw, (he.trans (e2.trans (e3.trans e4))).grow hD h4, acc ++ [y], upd_same, ?_, ?_⟩
        · rw [htk, hc, List.map_append]
          have tx2 : TupX B4 (upd B4 D (.lst (acc ++ [y]))) := tupX_upd (.inr ⟨acc, h4⟩)
          exact DpAll.append ((tx.trans tx2).dpAll _ _ hp hd) (.one (tx2.dp _ _ r4.2.2 r4.2.1))
        · rw [htk, hc, List.map_append]
          exact hp.append (puAll_one r4.2.2)
      | false =>
        refine iteF ⟨ok3.src, he.trans (e2.trans e3), acc, e3.cell D _ (sm D _ hacc) aw, ?_, ?_⟩
        · rw [htk, hc, List.map_append]
          show DpAll K H3 acc (_ ++ [])
          rw [List.append_nil]
          exact (e2.tup.trans e3.tup).dpAll _ _ hp hd
        · rw [htk, hc, List.map_append]
          show PuAll (_ ++ [])
          rw [List.append_nil]
          exact hp
  · left
    obtain rfl : i = xs.length := by omega
    rw [List.take_length] at hd hp
    refine ⟨(jy _ H' he).2 (List.length_map ..), k D H' (e1.none_of ok1 hD) (ok.ext (e1.trans he) hs) (e1.trans he) ⟨acc, hacc, hd, hp, ?_⟩⟩
    rw [List.length_map]
    exact Nat.le_trans (List.length_filter_le _ _) hlen
/-- a comprehension that draws: the items' values, the source behind -/
def mapS {α β : Type} (f : Src → α → β × Src) : Src → List α → List β × Src
  | s, [] => ([], s)
  | s, x :: xs => ((f s x).1 :: (mapS f (f s x).2 xs).1, (mapS f (f s x).2 xs).2)
theorem mapS_snoc {α β : Type} (f : Src → α → β × Src) : ∀ (xs : List α) (s : Src) (x : α), mapS f s (xs ++ [x]) = ((mapS f s xs).1 ++ [(f (mapS f s xs).2 x).1], (f (mapS f s xs).2 x).2)
  | [], s, x => rfl
  | y :: ys, s, x => by
    show ((f s y).1 :: (mapS f (f s y).2 (ys ++ [x])).1, (mapS f (f s y).2 (ys ++ [x])).2) = _
    rw [mapS_snoc f ys]; rfl
theorem mapS_length {α β : Type} (f : Src → α → β × Src) : ∀ (xs : List α) (s : Src), (mapS f s xs).1.length = xs.length
  | [], _ => rfl
  | x :: xs, s => congrArg (· + 1) (mapS_length f xs _)
/-- a guard at each turn -/
def GS {α β : Type} (f : Src → α → β × Src) (G : Src → α → Prop) : Src → List α → Prop
  | _, [] => True
  | s, x :: xs => G s x ∧ GS f G (f s x).2 xs
theorem GS.at {α β : Type} {f : Src → α → β × Src} {G : Src → α → Prop} : ∀ {xs : List α} {s : Src} {i : Nat} {x : α}, GS f G s xs → xs[i]? = some x → G (mapS f s (xs.take i)).2 x
  | y :: ys, s, 0, x, h, e => by
    simp at e; subst e; exact h.1
  | y :: ys, s, i + 1, x, h, e => GS.at (xs := ys) (i := i) h.2 (by simpa using e)
  | [], _, _, _, _, e => by simp at e
theorem lc_readS {β : Type} (xs : List α) (itm : α → Itm) (P : Src → α → Prop) (δb : α → Env) (f : Src → α → β × Src) (en : β → PyData) (hP : GS f P S0 xs) (hjs : ∀ j ∈ js, j ∈ vs) {σ : L2.St} {Q : VK}
    (h : tEL K sa δ S ((mapS f S0 xs).1.map en) (mapS f S0 xs).2 σ H Q) :
    tLc (tIJ false K sa δ S (xs.map itm) S0) (fun v σ H Q => ∃ x, True ∧ tTg K sa (wipeE (Ev.frz δ) vs) (itm x) (δb x) js v σ H Q) (fun σ H Q => Q true H) (fun σ H Q => ∃ x : Src × α, P x.1 x.2 ∧ tEG false K sa (δb x.2) x.1 (.p (en (f x.1 x.2).1)) (f x.1 x.2).2 σ H Q) vs σ H Q := by
  obtain ⟨B, ok, k⟩ := h
  refine ⟨B, ok, fun J H1 B1 ok1 e1 b1 jy hz D hD => ?_⟩
  obtain rfl : B1 = H1 := b1
  have hlen : xs.length ≤ sizeLine := by rw [List.length_map] at hz; exact hz
  have aw : Away sa D := ok1.away hD
  refine ⟨fun i m H' => m = xs.length - i ∧ i ≤ xs.length ∧ SrcRep sa H' (mapS f S0 (xs.take i)).2 ∧ Ext sa B1 H' ∧ ∃ acc, H' D = some (.lst acc) ∧ DpAll K H' acc ((mapS f S0 (xs.take i)).1.map en) ∧ PuAll ((mapS f S0 (xs.take i)).1.map en),
    ⟨_, rfl, Nat.zero_le _, ok1.src.updA aw, .new hD, [], upd_same, .nil, trivial⟩, ?_⟩
  rintro i m H' ⟨rfl, hi, hs, he, acc, hacc, hd, hp⟩
  by_cases hlt : i < xs.length
  · right
    have hx : xs[i]? = some xs[i] := List.getElem?_eq_getElem hlt
    have hxm := hP.at hx
    obtain ⟨go, yl⟩ := (jy i H' he).1 (itm xs[i]) (by rw [List.getElem?_map, hx]; rfl)
    have htk : xs.take (i + 1) = xs.take i ++ [xs[i]] := by rw [List.take_add_one, hx]; rfl
    refine ⟨go, fun H2 => SrcRep sa H2 (mapS f S0 (xs.take (i + 1))).2 ∧ Ext sa B1 H2 ∧ ∃ acc, H2 D = some (.lst acc) ∧ DpAll K H2 acc ((mapS f S0 (xs.take (i + 1))).1.map en) ∧ PuAll ((mapS f S0 (xs.take (i + 1))).1.map en), fun H2 n => ⟨_, by omega, rfl, hlt, n⟩, fun x H2 hy => ?_⟩
    obtain ⟨sm, rep⟩ := yl x H2 hy
    have e2 : Ext sa H' H2 := .of_same sm
    refine ⟨xs[i], trivial, B1, (mapS f S0 (xs.take i)).2, ok1.blk (he.trans e2) (hs.same sm) vs, rep, fun σ2 ok2 l2 u2 => ⟨?_, ?_⟩⟩
    · have w1 : wipe σ2 vs = wipe (wipe σ vs) vs := wipe_eq l2 fun j hj => u2 j fun z => hj (hjs j z)
      rw [w1]
      exact wipe_eq (wipe_length _ _) fun j hj => wipe_get hj
    · refine iteT ⟨((mapS f S0 (xs.take i)).2, xs[i]), hxm, B1, ok2, fun y H4 B4 ok4 e4 b4 r4 => ?_⟩
      obtain rfl : B4 = H4 := b4
      have h4 := e4.cell D _ (sm D _ hacc) aw
      have tx : TupX H' B4 := e2.tup.trans e4.tup
      have hal : acc.length ≤ i := by
        rw [hd.length, List.length_map, mapS_length, List.length_take]
        exact Nat.min_le_left _ _
      rw [htk, mapS_snoc]
      refine ⟨acc, h4, by omega, ok4.src.updA aw, (he.trans (e2.trans e4)).grow hD h4, acc ++ [y], upd_same, ?_, ?_⟩
      · rw [List.map_append]
        have tx2 : TupX B4 (upd B4 D (.lst (acc ++ [y]))) := tupX_upd (.inr ⟨acc, h4⟩)
        exact DpAll.append ((tx.trans tx2).dpAll _ _ hp hd) (.one (tx2.dp _ _ r4.2.2 r4.2.1))
      · rw [List.map_append]
        exact hp.append (puAll_one r4.2.2)
  · left
    obtain rfl : i = xs.length := by omega
    rw [List.take_length] at hd hp hs
    refine ⟨(jy _ H' he).2 (List.length_map ..), k D H' (e1.none_of ok1 hD) (ok.ext (e1.trans he) hs) (e1.trans he) ⟨acc, hacc, hd, hp, ?_⟩⟩
    rw [List.length_map, mapS_length]
    exact hlen
end
end L2.Ev

set_option Elab.async false
set_option linter.all false
set_option maxRecDepth 100000
/-! Ev6: loops, stores. -/
namespace L2.Ev
open PySem PySem.Spec PyProof.Rows
section
variable {X : Cx} {sa : SA} {δ δ' : Env} {S S0 S1 S2 S' : Src} {st : Bool} {e a b c tg iter : Expr} {pos p pos' : Pos} {K : PySem.W.Frag} {B B' H H' : Hp} {σ : L2.St} {rest body : List Stmt} {W : Spec} {sm : Stmt}

/-! ### comprehensions, whole -/
section
variable {α β : Type} {own : List (Str × Nat)} {scope : Scope} {elt : Expr} {js : List Nat} {ifs : List Expr}
abbrev ixs (own : List (Str × Nat)) : List Nat := own.map fun q => q.2
abbrev blkX (X : Cx) (scope : Scope) (s : Shared) (H : Hp) (C : Addr) (cl : List (Str × Addr)) (fp : List Addr) : Cx := X.blk s H scope (compEnvC scope cl C X.env) fp
theorem filter_all (xs : List α) : xs.filter (fun _ => true) = xs := List.filter_eq_self.mpr fun _ _ => rfl
/-- [elt for tg in iter]: what it reads as -/
theorem lcr {xs : List α} {itm : α → Itm} (P : α → Prop) (δb : α → Env) (f : α → PyData) (hP : ∀ x ∈ xs, P x) (hjs : ∀ j ∈ js, j ∈ ixs own) {H : Hp} {Q : VK} (h : tEL X.K sa δ S (xs.map f) S0 σ H Q) :
    tLc (tIJ false X.K sa δ S (xs.map itm) S0) (fun v σ H Q => ∃ x, P x ∧ tTg X.K sa (wipeE (Ev.frz δ) (ixs own)) (itm x) (δb x) js v σ H Q) tYes (fun σ H Q => ∃ x, (P x ∧ true = true) ∧ tEG false X.K sa (δb x) S0 (.p (f x)) S0 σ H Q) (ixs own) σ H Q :=
  lc_read xs itm P δb (fun _ => true) f hP hjs (fun x σ H Q B _ ok k => k H ok (.refl _ _)) (by
    have e : xs.filter (fun _ => true) = xs := List.filter_eq_self.mpr fun _ _ => rfl
    rw [e]; exact h)
theorem el_lc {xs : List α} {itm : α → Itm} (P : α → Prop) (δb : α → Env) (f : α → PyData) (hi : IJ false X sa δ S tg iter (xs.map itm) S0) (hP : ∀ x ∈ xs, P x)
    (hg : ∀ x s H C cl fp, TGt (blkX X scope s H C cl fp) sa (wipeE (Ev.frz δ) (ixs own)) tg (itm x) (δb x) js)
    (he : ∀ x, P x → ∀ s H C cl fp, EE (blkX X scope s H C cl fp) sa (δb x) S0 elt (.p (f x)) S0)
    (hc : X.calm = true) (hN : X.N.Nodup) (ok : BlkOk X.N X.env.scope scope own) (hjs : ∀ j ∈ js, j ∈ ixs own) (hs : ∀ x, foldedSetIterable iter X.env x = pure x := by intro _; rfl) :
    EL X sa δ S (.ListComp elt [⟨tg, iter, [], 0⟩] scope pos) (xs.map f) S0 :=
  pe_imp (pe_lc (own := own) hc hN hi ok (fun s H C cl fp => pg_ex (P := P) (T := fun x => tTg X.K sa (wipeE (Ev.frz δ) (ixs own)) (itm x) (δb x) js) fun x _ => hg x s H C cl fp) (fun s H C cl fp => pts_nil) (fun s H C cl fp => pe_ex (P := fun x => P x ∧ true = true) (T := fun x => tEG false X.K sa (δb x) S0 (.p (f x)) S0) fun x p => he x p.1 s H C cl fp) hs)
    fun σ H Q h => lcr P δb f hP hjs h
/-- y = [elt for ..] on one line -/
theorem ps_lc {xs : List α} {itm : α → Itm} {i : Nat} {y : Str} {py spos : Pos} (P : α → Prop) (δb : α → Env) (f : α → PyData) (hi : IJ false X sa δ S tg iter (xs.map itm) S0) (hP : ∀ x ∈ xs, P x)
    (hg : ∀ x s H C cl fp, TGt (blkX X scope s H C cl fp) sa (wipeE (Ev.frz δ) (ixs own)) tg (itm x) (δb x) js)
    (he : ∀ x, P x → ∀ s H C cl fp, EE (blkX X scope s H C cl fp) sa (δb x) S0 elt (.p (f x)) S0)
    (hc : X.calm = true) (hN : X.N.Nodup) (ok : BlkOk X.N X.env.scope scope own) (hjs : ∀ j ∈ js, j ∈ ixs own) (hy : X.N[i]? = some y) (hyl : X.env.scope.names.lookup y = some .local)
    (hsw : swapsWith (.ListComp elt [⟨tg, iter, [], 0⟩] scope pos) (some (.Name y py)) spos.line X.env = pure true) (hs : ∀ x, foldedSetIterable iter X.env x = pure x := by intro _; rfl) :
    PS X (.Assign [.Name y py] (.ListComp elt [⟨tg, iter, [], 0⟩] scope pos) spos) (tAsg (tEL X.K sa δ S (xs.map f) S0) (gName i)) :=
  ps_imp (ps_setLc (own := own) hc hN hy hyl hsw hi ok (fun s H C cl fp => pg_ex (P := P) (T := fun x => tTg X.K sa (wipeE (Ev.frz δ) (ixs own)) (itm x) (δb x) js) fun x _ => hg x s H C cl fp) (fun s H C cl fp => pts_nil) (fun s H C cl fp => pe_ex (P := fun x => P x ∧ true = true) (T := fun x => tEG false X.K sa (δb x) S0 (.p (f x)) S0) fun x p => he x p.1 s H C cl fp) hs)
    fun D σ H h => lcr P δb f hP hjs h
/-- .. with a test -/
theorem el_lcf {xs : List α} {itm : α → Itm} {q : Expr} (P : α → Prop) (δb : α → Env) (cnd : α → Bool) (f : α → PyData) (hi : IJ false X sa δ S tg iter (xs.map itm) S0) (hP : ∀ x ∈ xs, P x)
    (hg : ∀ x s H C cl fp, TGt (blkX X scope s H C cl fp) sa (wipeE (Ev.frz δ) (ixs own)) tg (itm x) (δb x) js)
    (hq : ∀ x, P x → ∀ s H C cl fp, ET (blkX X scope s H C cl fp) sa (δb x) S0 q (cnd x) S0)
    (he : ∀ x, P x → cnd x = true → ∀ s H C cl fp, EE (blkX X scope s H C cl fp) sa (δb x) S0 elt (.p (f x)) S0)
    (hc : X.calm = true) (hN : X.N.Nodup) (ok : BlkOk X.N X.env.scope scope own) (hjs : ∀ j ∈ js, j ∈ ixs own) (hs : ∀ x, foldedSetIterable iter X.env x = pure x := by intro _; rfl) :
    EL X sa δ S (.ListComp elt [⟨tg, iter, [q], 0⟩] scope pos) ((xs.filter cnd).map f) S0 :=
  pe_imp (pe_lc (own := own) hc hN hi ok (fun s H C cl fp => pg_ex (P := P) (T := fun x => tTg X.K sa (wipeE (Ev.frz δ) (ixs own)) (itm x) (δb x) js) fun x _ => hg x s H C cl fp) (fun s H C cl fp => pts_one (pt_ex (P := P) (T := fun x => tET X.K sa (δb x) S0 (cnd x) S0) fun x p => hq x p s H C cl fp)) (fun s H C cl fp => pe_ex (P := fun x => P x ∧ cnd x = true) (T := fun x => tEG false X.K sa (δb x) S0 (.p (f x)) S0) fun x p => he x p.1 p.2 s H C cl fp) hs)
    fun σ H Q h => lc_read xs itm P δb cnd f hP hjs (fun x σ H Q B p ok k => ⟨x, p, B, ok, fun H' ok' e' => k H' ok' e'⟩) h
theorem ps_lcf {xs : List α} {itm : α → Itm} {q : Expr} {i : Nat} {y : Str} {py spos : Pos} (P : α → Prop) (δb : α → Env) (cnd : α → Bool) (f : α → PyData) (hi : IJ false X sa δ S tg iter (xs.map itm) S0) (hP : ∀ x ∈ xs, P x)
    (hg : ∀ x s H C cl fp, TGt (blkX X scope s H C cl fp) sa (wipeE (Ev.frz δ) (ixs own)) tg (itm x) (δb x) js)
    (hq : ∀ x, P x → ∀ s H C cl fp, ET (blkX X scope s H C cl fp) sa (δb x) S0 q (cnd x) S0)
    (he : ∀ x, P x → cnd x = true → ∀ s H C cl fp, EE (blkX X scope s H C cl fp) sa (δb x) S0 elt (.p (f x)) S0)
    (hc : X.calm = true) (hN : X.N.Nodup) (ok : BlkOk X.N X.env.scope scope own) (hjs : ∀ j ∈ js, j ∈ ixs own) (hy : X.N[i]? = some y) (hyl : X.env.scope.names.lookup y = some .local)
    (hsw : swapsWith (.ListComp elt [⟨tg, iter, [q], 0⟩] scope pos) (some (.Name y py)) spos.line X.env = pure true) (hs : ∀ x, foldedSetIterable iter X.env x = pure x := by intro _; rfl) :
    PS X (.Assign [.Name y py] (.ListComp elt [⟨tg, iter, [q], 0⟩] scope pos) spos) (tAsg (tEL X.K sa δ S ((xs.filter cnd).map f) S0) (gName i)) :=
  ps_imp (ps_setLc (own := own) hc hN hy hyl hsw hi ok (fun s H C cl fp => pg_ex (P := P) (T := fun x => tTg X.K sa (wipeE (Ev.frz δ) (ixs own)) (itm x) (δb x) js) fun x _ => hg x s H C cl fp) (fun s H C cl fp => pts_one (pt_ex (P := P) (T := fun x => tET X.K sa (δb x) S0 (cnd x) S0) fun x p => hq x p s H C cl fp)) (fun s H C cl fp => pe_ex (P := fun x => P x ∧ cnd x = true) (T := fun x => tEG false X.K sa (δb x) S0 (.p (f x)) S0) fun x p => he x p.1 p.2 s H C cl fp) hs)
    fun D σ H h => lc_read xs itm P δb cnd f hP hjs (fun x σ H Q B p ok k => ⟨x, p, B, ok, fun H' ok' e' => k H' ok' e'⟩) h
/-- .. that draws -/
theorem el_lcS {γ : Type} {xs : List α} {itm : α → Itm} (P : Src → α → Prop) (δb : α → Env) (f : Src → α → γ × Src) (en : γ → PyData) (hi : IJ false X sa δ S tg iter (xs.map itm) S0) (hP : GS f P S0 xs)
    (hg : ∀ x s H C cl fp, TGt (blkX X scope s H C cl fp) sa (wipeE (Ev.frz δ) (ixs own)) tg (itm x) (δb x) js)
    (he : ∀ T x, P T x → ∀ s H C cl fp, EE (blkX X scope s H C cl fp) sa (δb x) T elt (.p (en (f T x).1)) (f T x).2)
    (hc : X.calm = true) (hN : X.N.Nodup) (ok : BlkOk X.N X.env.scope scope own) (hjs : ∀ j ∈ js, j ∈ ixs own) (hs : ∀ x, foldedSetIterable iter X.env x = pure x := by intro _; rfl) :
    EL X sa δ S (.ListComp elt [⟨tg, iter, [], 0⟩] scope pos) ((mapS f S0 xs).1.map en) (mapS f S0 xs).2 :=
  pe_imp (pe_lc (own := own) hc hN hi ok (fun s H C cl fp => pg_ex (P := fun _ => True) (T := fun x => tTg X.K sa (wipeE (Ev.frz δ) (ixs own)) (itm x) (δb x) js) fun x _ => hg x s H C cl fp) (fun s H C cl fp => pts_nil) (fun s H C cl fp => pe_ex (P := fun x : Src × α => P x.1 x.2) (T := fun x => tEG false X.K sa (δb x.2) x.1 (.p (en (f x.1 x.2).1)) (f x.1 x.2).2) fun x p => he x.1 x.2 p s H C cl fp) hs)
    fun σ H Q h => lc_readS xs itm P δb f en hP hjs h
theorem ps_lcS {γ : Type} {xs : List α} {itm : α → Itm} {i : Nat} {y : Str} {py spos : Pos} (P : Src → α → Prop) (δb : α → Env) (f : Src → α → γ × Src) (en : γ → PyData) (hi : IJ false X sa δ S tg iter (xs.map itm) S0) (hP : GS f P S0 xs)
    (hg : ∀ x s H C cl fp, TGt (blkX X scope s H C cl fp) sa (wipeE (Ev.frz δ) (ixs own)) tg (itm x) (δb x) js)
    (he : ∀ T x, P T x → ∀ s H C cl fp, EE (blkX X scope s H C cl fp) sa (δb x) T elt (.p (en (f T x).1)) (f T x).2)
    (hc : X.calm = true) (hN : X.N.Nodup) (ok : BlkOk X.N X.env.scope scope own) (hjs : ∀ j ∈ js, j ∈ ixs own) (hy : X.N[i]? = some y) (hyl : X.env.scope.names.lookup y = some .local)
    (hsw : swapsWith (.ListComp elt [⟨tg, iter, [], 0⟩] scope pos) (some (.Name y py)) spos.line X.env = pure true) (hs : ∀ x, foldedSetIterable iter X.env x = pure x := by intro _; rfl) :
    PS X (.Assign [.Name y py] (.ListComp elt [⟨tg, iter, [], 0⟩] scope pos) spos) (tAsg (tEL X.K sa δ S ((mapS f S0 xs).1.map en) (mapS f S0 xs).2) (gName i)) :=
  ps_imp (ps_setLc (own := own) hc hN hy hyl hsw hi ok (fun s H C cl fp => pg_ex (P := fun _ => True) (T := fun x => tTg X.K sa (wipeE (Ev.frz δ) (ixs own)) (itm x) (δb x) js) fun x _ => hg x s H C cl fp) (fun s H C cl fp => pts_nil) (fun s H C cl fp => pe_ex (P := fun x : Src × α => P x.1 x.2) (T := fun x => tEG false X.K sa (δb x.2) x.1 (.p (en (f x.1 x.2).1)) (f x.1 x.2).2) fun x p => he x.1 x.2 p s H C cl fp) hs)
    fun D σ H h => lc_readS xs itm P δb f en hP hjs h
end

/-! ### for -/
theorem ItmRep.mono {x : V} {it : Itm} (h : ItmRep K sa B H x it) (e : Ext sa B B') : ItmRep K sa B' H x it := by
  have key : ∀ {vs : List V} {sls : List Sl}, SlsR K sa B H vs sls → SlsR K sa B' H vs sls := fun {vs} => by
    induction vs with
    | nil => intro sls h; cases sls with
      | nil => trivial
      | cons _ _ => exact h.elim
    | cons v vs ih => intro sls h; cases sls with
      | nil => exact h.elim
      | cons sl sls => exact ⟨h.1.mono e (TupX.refl _) (fun _ m => nomatch m), ih h.2⟩
  cases it with
  | one sl => exact SlRep.mono h e (TupX.refl _) fun _ m => nomatch m
  | tup sls => obtain ⟨a, xs, h1, h2, h3⟩ := h; exact ⟨a, xs, h1, h2, key h3⟩
variable {α ν ρ : Type}
/-- the guard along a fold -/
def FG (P : ν → α → Prop) (f : ν → α → ν) : List α → ν → Prop
  | [], _ => True
  | x :: xs, n => P n x ∧ FG P f xs (f n x)
theorem FG.at {P : ν → α → Prop} {f : ν → α → ν} : ∀ {xs : List α} {n : ν} {i : Nat} {x : α}, FG P f xs n → xs[i]? = some x → P ((xs.take i).foldl f n) x
  | y :: ys, n, 0, x, h, e => by simp at e; subst e; exact h.1
  | y :: ys, n, i + 1, x, h, e => FG.at (xs := ys) (i := i) h.2 (by simpa using e)
  | [], _, _, _, _, e => by simp at e
/-- a fold that may end early -/
def foldX (f : ν → α → Except ρ ν) : List α → ν → Except ρ ν
  | [], n => .ok n
  | x :: xs, n => match f n x with
    | .ok n' => foldX f xs n'
    | .error r => .error r
def FX (P : ν → α → Prop) (f : ν → α → Except ρ ν) : List α → ν → Prop
  | [], _ => True
  | x :: xs, n => P n x ∧ match f n x with
    | .ok n' => FX P f xs n'
    | .error _ => True
/-- what a loop that may return is worth -/
def bindX (o : Except ρ ν) (k : ν → ρ) : ρ := match o with
  | .ok n => k n
  | .error r => r
def bindXX {μ : Type} (o : Except ρ ν) (k : ν → Except ρ μ) : Except ρ μ := match o with
  | .ok n => k n
  | .error r => .error r
def okX (o : Except ρ ν) (g : ν → Prop) : Prop := match o with
  | .ok n => g n
  | .error _ => True
theorem sb_for {xs : List α} {itm : α → Itm} (nf : ν → Env × Src) (n0 : ν) (P : ν → α → Prop) (δb : ν → α → Env) (f : ν → α → ν) {js : List Nat} (hi : IJ true X sa δ S tg iter (xs.map itm) (nf n0).2) (h0 : Sub (nf n0).1 δ)
    (hg : ∀ n x, TGt X sa (nf n).1 tg (itm x) (δb n x) js) (hb : ∀ n x, P n x → SB X sa (δb n x) (nf n).2 body (WN nf (f n x))) (hP : FG P f xs n0)
    (hr : SB X sa (nf (xs.foldl f n0)).1 (nf (xs.foldl f n0)).2 rest W) (hp : PassesOwn (model X.prog X.w) X.A X.env X.xe) (hc : X.calm = true) (hs : ∀ x, foldedSetIterable iter X.env x = pure x := by intro _; rfl) :
    SB X sa δ S (.For tg iter body [] pos :: rest) W := by
  refine sb_seq (ps_for hp hc hi (pg_ex (P := fun _ : ν × α => True) fun nx _ => hg nx.1 nx.2) (pss_ex (P := fun nx : ν × α => P nx.1 nx.2) fun nx q => hb nx.1 nx.2 q) hs) hr fun D σ H B ok k => ⟨B, ok, fun J H1 B1 ok1 e1 b1 jy hz => ?_⟩
  obtain ⟨eb, okb⟩ := b1
  refine ⟨fun i m σ H => m = xs.length - i ∧ i ≤ xs.length ∧ ∃ B2, Ext sa B1 B2 ∧ Ok X.K sa B2 H σ (nf ((xs.take i).foldl f n0)).1 (nf ((xs.take i).foldl f n0)).2, ⟨_, rfl, Nat.zero_le _, B1, .refl _ _, okb.forget h0⟩, ?_⟩
  rintro i m σ' H' ⟨rfl, hi, B2, eb2, ok2⟩
  have eh : Ext sa B1 H' := eb2.trans ok2.base
  by_cases hlt : i < xs.length
  · right
    have hx : xs[i]? = some xs[i] := List.getElem?_eq_getElem hlt
    obtain ⟨go, yl⟩ := (jy i H' eh).1 (itm xs[i]) (by rw [List.getElem?_map, hx]; rfl)
    have htk : (xs.take (i + 1)).foldl f n0 = f ((xs.take i).foldl f n0) xs[i] := by rw [List.take_add_one, hx, List.foldl_append]; rfl
    refine ⟨go, fun σ H => ∃ B2, Ext sa B1 B2 ∧ Ok X.K sa B2 H σ (nf ((xs.take (i + 1)).foldl f n0)).1 (nf ((xs.take (i + 1)).foldl f n0)).2, fun σ3 H3 n => ⟨_, by omega, rfl, hlt, n⟩, fun x H2 hy => ?_⟩
    obtain ⟨sm, rep⟩ := yl x H2 hy
    refine ⟨((xs.take i).foldl f n0, xs[i]), trivial, B2, _, ok2.same sm, rep.mono eb2, fun σ3 ok3 _ _ => ⟨((xs.take i).foldl f n0, xs[i]), hP.at hx, B2, ok3, fun B4 σ4 H4 δ4 S4 hw e4 ok4 => ⟨B4, eb2.trans e4, ?_⟩, fun _ _ _ _ _ _ hf => hf.elim⟩⟩
    have hw' : nf (f ((xs.take i).foldl f n0) xs[i]) = (δ4, S4) := hw
    rw [htk, hw']; exact ok4
  · left
    obtain rfl : i = xs.length := by omega
    rw [List.take_length] at ok2
    exact ⟨(jy _ H' eh).2 (List.length_map ..), k B2 σ' H' (eb.trans eb2) ok2⟩
theorem foldX_take {f : ν → α → Except ρ ν} : ∀ {xs : List α} {n m : ν} {i : Nat} {x : α}, foldX f (xs.take i) n = .ok m → xs[i]? = some x → foldX f (xs.take (i + 1)) n = (match f m x with | .ok n' => .ok n' | .error r => .error r) ∧ foldX f xs n = (match f m x with | .ok n' => foldX f (xs.drop (i + 1)) n' | .error r => .error r)
  | y :: ys, n, m, 0, x, h, e => by
    simp at e; subst e
    have h' : (Except.ok n : Except ρ ν) = .ok m := h
    cases h'
    exact ⟨by show (match f n y with | .ok n' => foldX f (ys.take 0) n' | .error r => .error r) = _; cases f n y <;> rfl, rfl⟩
  | y :: ys, n, m, i + 1, x, h, e => by
    have h' : (match f n y with | .ok n' => foldX f (ys.take i) n' | .error r => .error r) = .ok m := h
    have e' : ys[i]? = some x := by simpa using e
    show (match f n y with | .ok n' => foldX f (ys.take (i + 1)) n' | .error r => .error r) = _ ∧ (match f n y with | .ok n' => foldX f ys n' | .error r => .error r) = _
    cases q : f n y with
    | error r => rw [q] at h'; cases h'
    | ok n' =>
      rw [q] at h'
      exact foldX_take (xs := ys) h' e'
  | [], _, _, _, _, _, e => by simp at e
theorem FX.drop {P : ν → α → Prop} {f : ν → α → Except ρ ν} {m : ν} {xs : List α} {i : Nat} {x : α} (h : FX P f (xs.drop i) m) (e : xs[i]? = some x) : P m x ∧ ∀ n', f m x = .ok n' → FX P f (xs.drop (i + 1)) n' := by
  have hd : xs.drop i = x :: xs.drop (i + 1) := by
    obtain ⟨h1, h2⟩ := List.getElem?_eq_some_iff.mp e
    rw [List.drop_eq_getElem_cons h1, h2]
  rw [hd] at h
  exact ⟨h.1, fun n' q => by have := h.2; rw [q] at this; exact this⟩
/-- .. that may return -/
theorem sb_forX {xs : List α} {itm : α → Itm} (nf : ν → Env × Src) (rf : ρ → Sl × Src) (n0 : ν) (P : ν → α → Prop) (δb : ν → α → Env) (f : ν → α → Except ρ ν) {js : List Nat} (hi : IJ true X sa δ S tg iter (xs.map itm) (nf n0).2) (h0 : Sub (nf n0).1 δ)
    (hg : ∀ n x, TGt X sa (nf n).1 tg (itm x) (δb n x) js) (hb : ∀ n x, P n x → SB X sa (δb n x) (nf n).2 body (WX nf rf (f n x))) (hP : FX P f xs n0)
    (hrt : ∀ r sl s, foldX f xs n0 = .error r → rf r = (sl, s) → W.rt sl s)
    (hr : ∀ n, foldX f xs n0 = .ok n → SB X sa (nf n).1 (nf n).2 rest W) (hp : PassesOwn (model X.prog X.w) X.A X.env X.xe) (hc : X.calm = true) (hs : ∀ x, foldedSetIterable iter X.env x = pure x := by intro _; rfl) :
    SB X sa δ S (.For tg iter body [] pos :: rest) W := by
  have rest' : PSs X rest (fun D σ H => ∃ n, foldX f xs n0 = .ok n ∧ tSB X.K sa (nf n).1 (nf n).2 W D σ H) := pss_ex (P := fun n => foldX f xs n0 = .ok n) fun n q => hr n q
  refine pss_imp (pss_cons (ps_for hp hc hi (pg_ex (P := fun _ : ν × α => True) fun nx _ => hg nx.1 nx.2) (pss_ex (P := fun nx : ν × α => P nx.1 nx.2) fun nx q => hb nx.1 nx.2 q) hs) rest') fun D σ H ⟨B, ok, k1, k2⟩ => ⟨B, ok, fun J H1 B1 ok1 e1 b1 jy hz => ?_⟩
  obtain ⟨eb, okb⟩ := b1
  refine ⟨fun i m σ H => m = xs.length - i ∧ i ≤ xs.length ∧ ∃ B2 n, foldX f (xs.take i) n0 = .ok n ∧ FX P f (xs.drop i) n ∧ Ext sa B1 B2 ∧ Ok X.K sa B2 H σ (nf n).1 (nf n).2, ⟨_, rfl, Nat.zero_le _, B1, n0, rfl, hP, .refl _ _, okb.forget h0⟩, ?_⟩
  rintro i m σ' H' ⟨rfl, hi, B2, n, hn, hfx, eb2, ok2⟩
  have eh : Ext sa B1 H' := eb2.trans ok2.base
  by_cases hlt : i < xs.length
  · right
    have hx : xs[i]? = some xs[i] := List.getElem?_eq_getElem hlt
    obtain ⟨go, yl⟩ := (jy i H' eh).1 (itm xs[i]) (by rw [List.getElem?_map, hx]; rfl)
    obtain ⟨t1, t2⟩ := foldX_take hn hx
    obtain ⟨p1, p2⟩ := hfx.drop hx
    refine ⟨go, fun σ H => ∃ B2 n, foldX f (xs.take (i + 1)) n0 = .ok n ∧ FX P f (xs.drop (i + 1)) n ∧ Ext sa B1 B2 ∧ Ok X.K sa B2 H σ (nf n).1 (nf n).2, fun σ3 H3 n => ⟨_, by omega, rfl, hlt, n⟩, fun x H2 hy => ?_⟩
    obtain ⟨sm, rep⟩ := yl x H2 hy
    refine ⟨(n, xs[i]), trivial, B2, _, ok2.same sm, rep.mono eb2, fun σ3 ok3 _ _ => ⟨(n, xs[i]), p1, B2, ok3, fun B4 σ4 H4 δ4 S4 hw e4 ok4 => ?_, fun B4 v H4 r S4 F hw e4 e5 hs4 hres hrep hnd hfr => ?_⟩⟩
    · obtain ⟨n', q1, q2⟩ := hw
      refine ⟨B4, n', ?_, p2 n' q1, eb2.trans e4, ?_⟩
      · rw [t1, q1]
      · rw [q2]; exact ok4
    · obtain ⟨r', q1, q2⟩ := hw
      exact k2 B4 v H4 r S4 F (hrt r' _ _ (by rw [t2, q1]) q2) (eb.trans (eb2.trans e4)) e5 hs4 hres hrep hnd hfr
  · left
    obtain rfl : i = xs.length := by omega
    rw [List.take_length] at hn
    exact ⟨(jy _ H' eh).2 (List.length_map ..), n, hn, B2, ok2, fun B3 σ3 H3 δ3 S3 hw e3 ok3 => k1 B3 σ3 H3 δ3 S3 hw (eb.trans (eb2.trans e3)) ok3, fun B3 v H3 r S3 F hw e3 => k2 B3 v H3 r S3 F hw (eb.trans (eb2.trans e3))⟩
/-- .. in a def's body -/
theorem sb_forR {xs : List α} {itm : α → Itm} {m : ν → ρ} (nf : ν → Env × Src) (rf : ρ → Sl × Src) (n0 : ν) (P : ν → α → Prop) (δb : ν → α → Env) (f : ν → α → Except ρ ν) {js : List Nat} (hi : IJ true X sa δ S tg iter (xs.map itm) (nf n0).2) (h0 : Sub (nf n0).1 δ)
    (hg : ∀ n x, TGt X sa (nf n).1 tg (itm x) (δb n x) js) (hb : ∀ n x, P n x → SB X sa (δb n x) (nf n).2 body (WX nf rf (f n x))) (hP : FX P f xs n0)
    (hr : ∀ n, foldX f xs n0 = .ok n → SB X sa (nf n).1 (nf n).2 rest (WR rf (m n))) (hp : PassesOwn (model X.prog X.w) X.A X.env X.xe) (hc : X.calm = true) (hs : ∀ x, foldedSetIterable iter X.env x = pure x := by intro _; rfl) :
    SB X sa δ S (.For tg iter body [] pos :: rest) (WR rf (bindX (foldX f xs n0) m)) :=
  sb_forX nf rf n0 P δb f hi h0 hg hb hP (fun r sl s q1 q2 => by show rf (bindX _ _) = _; rw [q1]; exact q2) (fun n q => by rw [q]; exact hr n q) hp hc hs
/-- .. in another loop's body -/
theorem sb_forXX {μ : Type} {xs : List α} {itm : α → Itm} {nf' : μ → Env × Src} {m : ν → Except ρ μ} (nf : ν → Env × Src) (rf : ρ → Sl × Src) (n0 : ν) (P : ν → α → Prop) (δb : ν → α → Env) (f : ν → α → Except ρ ν) {js : List Nat} (hi : IJ true X sa δ S tg iter (xs.map itm) (nf n0).2) (h0 : Sub (nf n0).1 δ)
    (hg : ∀ n x, TGt X sa (nf n).1 tg (itm x) (δb n x) js) (hb : ∀ n x, P n x → SB X sa (δb n x) (nf n).2 body (WX nf rf (f n x))) (hP : FX P f xs n0)
    (hr : ∀ n, foldX f xs n0 = .ok n → SB X sa (nf n).1 (nf n).2 rest (WX nf' rf (m n))) (hp : PassesOwn (model X.prog X.w) X.A X.env X.xe) (hc : X.calm = true) (hs : ∀ x, foldedSetIterable iter X.env x = pure x := by intro _; rfl) :
    SB X sa δ S (.For tg iter body [] pos :: rest) (WX nf' rf (bindXX (foldX f xs n0) m)) :=
  sb_forX nf rf n0 P δb f hi h0 hg hb hP (fun r sl s q1 q2 => by rw [q1]; exact ⟨r, rfl, q2⟩) (fun n q => by rw [q]; exact hr n q) hp hc hs

/-! ### while -/
def whileN (c : ν → Bool) (f : ν → ν) : Nat → ν → ν
  | 0, n => n
  | k + 1, n => if c n = true then whileN c f k (f n) else n
def FW (Pc P : ν → Prop) (c : ν → Bool) (f : ν → ν) : Nat → ν → Prop
  | 0, n => Pc n ∧ c n = false
  | k + 1, n => Pc n ∧ (c n = true → P n ∧ FW Pc P c f k (f n))
theorem sb_while {test : Expr} (nf : ν → Env × Src) (n0 : ν) (Pc P : ν → Prop) (cnd : ν → Bool) (f : ν → ν) (fuel : Nat) (h0 : Sub (nf n0).1 δ) (hS : (nf n0).2 = S)
    (ht : ∀ n, Pc n → ET X sa (nf n).1 (nf n).2 test (cnd n) (nf n).2) (hb : ∀ n, P n → cnd n = true → SB X sa (nf n).1 (nf n).2 body (WN nf (f n))) (hP : FW Pc P cnd f fuel n0)
    (hr : SB X sa (nf (whileN cnd f fuel n0)).1 (nf (whileN cnd f fuel n0)).2 rest W) (hp : PassesOwn (model X.prog X.w) X.A X.env X.xe) : SB X sa δ S (.While test body [] pos :: rest) W := by
  refine sb_seq (ps_while hp (pt_ex (P := Pc) fun n q => ht n q) (pss_ex (P := fun n => P n ∧ cnd n = true) fun n q => hb n q.1 q.2)) hr fun D σ H B ok k => ?_
  refine ⟨fun m σ H => ∃ n B2, Ext sa B B2 ∧ Ok X.K sa B2 H σ (nf n).1 (nf n).2 ∧ FW Pc P cnd f m n ∧ whileN cnd f m n = whileN cnd f fuel n0, ⟨fuel, n0, B, .refl _ _, by rw [hS]; exact ok.forget h0, hP, rfl⟩, ?_⟩
  rintro m σ1 H1 ⟨n, B2, eb, ok1, fw, ew⟩
  have hpc : Pc n := by cases m with
    | zero => exact fw.1
    | succ m => exact fw.1
  refine ⟨n, hpc, B2, ok1, fun H2 ok2 e2 => ?_⟩
  cases hc : cnd n with
  | true =>
    cases m with
    | zero => have := fw.2; rw [hc] at this; cases this
    | succ m =>
      obtain ⟨p1, p2⟩ := fw.2 hc
      refine iteT ⟨fun σ H => ∃ n B2, Ext sa B B2 ∧ Ok X.K sa B2 H σ (nf n).1 (nf n).2 ∧ FW Pc P cnd f m n ∧ whileN cnd f m n = whileN cnd f fuel n0, fun σ' H' q => ⟨m, Nat.lt_succ_self _, q⟩, n, ⟨p1, hc⟩, B2, ok2, fun B3 σ3 H3 δ3 S3 hw e3 ok3 => ⟨f n, B3, eb.trans e3, ?_, p2, ?_⟩, fun _ _ _ _ _ _ hf => hf.elim⟩
      · have hw' : nf (f n) = (δ3, S3) := hw
        rw [hw']; exact ok3
      · rw [← ew]
        show _ = if cnd n = true then _ else _
        rw [if_pos hc]
  | false =>
    refine iteF ?_
    have hn : whileN cnd f m n = n := by
      cases m with
      | zero => rfl
      | succ m => show (if cnd n = true then _ else _) = _; rw [hc, if_neg Bool.false_ne_true]
    rw [← ew, hn] at k
    exact k B2 σ1 H2 eb ok2
end
end L2.Ev

set_option Elab.async false
set_option linter.all false
set_option maxRecDepth 100000
/-! Ev7: lists of lists, stores, built-ins. -/
namespace L2.Ev
open PySem PySem.Spec PyProof.Rows
section
variable {X : Cx} {sa : SA} {δ δ' : Env} {S S0 S1 S2 S' : Src} {st : Bool} {e a b c tg iter elt : Expr} {pos p pos' : Pos} {K : PySem.W.Frag} {B B' H H' : Hp} {σ : L2.St} {rest body : List Stmt} {W : Spec} {sm : Stmt}
variable {α : Type} {own : List (Str × Nat)} {scope : Scope} {js : List Nat}

/-! ### [[..] for ..] -/
theorem RowsAt.snoc : ∀ {bs : List Addr} {dss : List (List PyData)} {b : Addr} {ds : List PyData}, RowsAt K H bs dss → LsAt K H b ds → RowsAt K H (bs ++ [b]) (dss ++ [ds])
  | [], [], _, _, _, h => ⟨h, trivial⟩
  | _ :: bs, _ :: dss, _, _, h, g => ⟨h.1, RowsAt.snoc h.2 g⟩
  | [], _ :: _, _, _, h, _ => h.elim
  | _ :: _, [], _, _, h, _ => h.elim
theorem tyes {R : Bool → Hp → Prop} (h : R true H) : tYes σ H R := h
theorem lc_readM (xs : List α) (itm : α → Itm) (P : α → Prop) (δb : α → Env) (f : α → List PyData) {vs : List Nat} (hP : ∀ x ∈ xs, P x) (hjs : ∀ j ∈ js, j ∈ vs) {Q : VK}
    (h : tEM K sa δ S (xs.map f) S0 σ H Q) :
    tLc (tIJ false K sa δ S (xs.map itm) S0) (fun v σ H Q => ∃ x, P x ∧ tTg K sa (wipeE (Ev.frz δ) vs) (itm x) (δb x) js v σ H Q) tYes (fun σ H Q => ∃ x, P x ∧ tEL K sa (δb x) S0 (f x) S0 σ H Q) vs σ H Q := by
  obtain ⟨B, ok, k⟩ := h
  refine ⟨B, ok, fun J H1 B1 ok1 e1 b1 jy hz D hD => ?_⟩
  obtain rfl : B1 = H1 := b1
  have hlen : xs.length ≤ sizeLine := by rw [List.length_map] at hz; exact hz
  have aw : Away sa D := ok1.away hD
  refine ⟨fun i m H' => m = xs.length - i ∧ i ≤ xs.length ∧ SrcRep sa H' S0 ∧ Ext sa B1 H' ∧ ∃ bs, H' D = some (.lst (bs.map .ref)) ∧ RowsAt K H' bs ((xs.take i).map f) ∧ (D :: bs).Nodup ∧ ∀ b ∈ bs, B1 b = none,
    ⟨_, rfl, Nat.zero_le _, ok1.src.updA aw, .new hD, [], upd_same, trivial, by simp, fun _ m => nomatch m⟩, ?_⟩
  rintro i m H' ⟨rfl, hi, hs, he, bs, hacc, hr, hnd, hbs⟩
  by_cases hlt : i < xs.length
  · right
    have hx : xs[i]? = some xs[i] := List.getElem?_eq_getElem hlt
    have hxm : P xs[i] := hP _ (List.getElem_mem hlt)
    obtain ⟨go, yl⟩ := (jy i H' he).1 (itm xs[i]) (by rw [List.getElem?_map, hx]; rfl)
    have htk : (xs.take (i + 1)).map f = (xs.take i).map f ++ [f xs[i]] := by rw [List.take_add_one, hx, List.map_append]; rfl
    refine ⟨go, fun H2 => SrcRep sa H2 S0 ∧ Ext sa B1 H2 ∧ ∃ bs, H2 D = some (.lst (bs.map .ref)) ∧ RowsAt K H2 bs ((xs.take (i + 1)).map f) ∧ (D :: bs).Nodup ∧ ∀ b ∈ bs, B1 b = none, fun H2 n => ⟨_, by omega, rfl, hlt, n⟩, fun x H2 hy => ?_⟩
    obtain ⟨sm, rep⟩ := yl x H2 hy
    have e2 : Ext sa H' H2 := .of_same sm
    refine ⟨xs[i], hxm, B1, S0, ok1.blk (he.trans e2) (hs.same sm) vs, rep, fun σ2 ok2 l2 u2 => ⟨?_, ?_⟩⟩
    · have w1 : wipe σ2 vs = wipe (wipe σ vs) vs := wipe_eq l2 fun j hj => u2 j fun z => hj (hjs j z)
      rw [w1]
      exact wipe_eq (wipe_length _ _) fun j hj => wipe_get hj
    · refine tyes (iteT ⟨xs[i], hxm, B1, ok2, fun q H4 hq ok4 e4 hl => ?_⟩)
      have h2 := sm D _ hacc
      have h4 := e4.cell D _ h2 aw
      have tx : TupX H' H4 := e2.tup.trans e4.tup
      have nD : q ≠ D := fun z => by rw [z, h2] at hq; cases hq
      have same4 : ∀ b ∈ bs, H4 b = H' b := fun b m => by
        obtain ⟨vs, hv⟩ := hr.cell b m
        rw [hv]
        exact e4.cell b _ (sm b _ hv) (ok1.away (hbs b m))
      have nbs : q ∉ bs := fun z => by
        obtain ⟨vs, hv⟩ := hr.cell q z
        rw [sm q _ hv] at hq; cases hq
      have Dbs : D ∉ bs := (List.nodup_cons.mp hnd).1
      have q1 : B1 q = none := (he.trans e2).none_of ok2 hq
      refine ⟨bs.map .ref, h4, by rw [List.length_map, hr.length, List.length_map, List.length_take]; omega, ok4.src.updA aw, (he.trans (e2.trans e4)).grow hD h4, bs ++ [q], ?_, ?_, ?_, ?_⟩
      · rw [upd_same, List.map_append]; rfl
      · rw [htk]
        have tx2 : TupX H4 (upd H4 D (.lst (bs.map .ref ++ [.ref q]))) := tupX_upd (.inr ⟨_, h4⟩)
        refine RowsAt.snoc (hr.mono (tx.trans tx2) fun b m => ?_) (hl.mono (upd_ne nD) tx2)
        rw [upd_ne (fun z => Dbs (by rw [← z]; exact m))]
        exact same4 b m
      · rw [List.nodup_cons] at hnd ⊢
        refine ⟨fun z => (List.mem_append.mp z).elim hnd.1 fun z => nD (List.mem_singleton.mp z).symm, ?_⟩
        rw [List.nodup_append]
        exact ⟨hnd.2, by simp, fun x hx y hy => by
          obtain rfl : y = q := by simpa using hy
          exact fun z => nbs (z ▸ hx)⟩
      · intro b m
        rcases List.mem_append.mp m with m | m
        · exact hbs b m
        · obtain rfl : b = q := by simpa using m
          exact q1
  · left
    obtain rfl : i = xs.length := by omega
    rw [List.take_length] at hr
    refine ⟨(jy _ H' he).2 (List.length_map ..), k D bs H' (fun b m => ?_) hnd (ok.ext (e1.trans he) hs) (e1.trans he) hacc hr (by rw [List.length_map]; exact hlen)⟩
    rcases List.mem_cons.mp m with rfl | m
    · exact e1.none_of ok1 hD
    · exact e1.none_of ok1 (hbs b m)
theorem em_lc {xs : List α} {itm : α → Itm} (P : α → Prop) (δb : α → Env) (f : α → List PyData) (hi : IJ false X sa δ S tg iter (xs.map itm) S0) (hP : ∀ x ∈ xs, P x)
    (hg : ∀ x s H C cl fp, TGt (blkX X scope s H C cl fp) sa (wipeE (Ev.frz δ) (ixs own)) tg (itm x) (δb x) js)
    (he : ∀ x, P x → ∀ s H C cl fp, EL (blkX X scope s H C cl fp) sa (δb x) S0 elt (f x) S0)
    (hc : X.calm = true) (hN : X.N.Nodup) (ok : BlkOk X.N X.env.scope scope own) (hjs : ∀ j ∈ js, j ∈ ixs own) (hs : ∀ x, foldedSetIterable iter X.env x = pure x := by intro _; rfl) :
    EM X sa δ S (.ListComp elt [⟨tg, iter, [], 0⟩] scope pos) (xs.map f) S0 :=
  pe_imp (pe_lc (own := own) hc hN hi ok (fun s H C cl fp => pg_ex (P := P) (T := fun x => tTg X.K sa (wipeE (Ev.frz δ) (ixs own)) (itm x) (δb x) js) fun x _ => hg x s H C cl fp) (fun s H C cl fp => pts_nil) (fun s H C cl fp => pe_ex (P := P) (T := fun x => tEL X.K sa (δb x) S0 (f x) S0) fun x p => he x p s H C cl fp) hs)
    fun σ H Q h => lc_readM xs itm P δb f hP hjs h
theorem ps_lcM {xs : List α} {itm : α → Itm} {i : Nat} {y : Str} {py spos : Pos} (P : α → Prop) (δb : α → Env) (f : α → List PyData) (hi : IJ false X sa δ S tg iter (xs.map itm) S0) (hP : ∀ x ∈ xs, P x)
    (hg : ∀ x s H C cl fp, TGt (blkX X scope s H C cl fp) sa (wipeE (Ev.frz δ) (ixs own)) tg (itm x) (δb x) js)
    (he : ∀ x, P x → ∀ s H C cl fp, EL (blkX X scope s H C cl fp) sa (δb x) S0 elt (f x) S0)
    (hc : X.calm = true) (hN : X.N.Nodup) (ok : BlkOk X.N X.env.scope scope own) (hjs : ∀ j ∈ js, j ∈ ixs own) (hy : X.N[i]? = some y) (hyl : X.env.scope.names.lookup y = some .local)
    (hsw : swapsWith (.ListComp elt [⟨tg, iter, [], 0⟩] scope pos) (some (.Name y py)) spos.line X.env = pure true) (hs : ∀ x, foldedSetIterable iter X.env x = pure x := by intro _; rfl) :
    PS X (.Assign [.Name y py] (.ListComp elt [⟨tg, iter, [], 0⟩] scope pos) spos) (tAsg (tEM X.K sa δ S (xs.map f) S0) (gName i)) :=
  ps_imp (ps_setLc (own := own) hc hN hy hyl hsw hi ok (fun s H C cl fp => pg_ex (P := P) (T := fun x => tTg X.K sa (wipeE (Ev.frz δ) (ixs own)) (itm x) (δb x) js) fun x _ => hg x s H C cl fp) (fun s H C cl fp => pts_nil) (fun s H C cl fp => pe_ex (P := P) (T := fun x => tEL X.K sa (δb x) S0 (f x) S0) fun x p => he x p s H C cl fp) hs)
    fun D σ H h => lc_readM xs itm P δb f hP hjs h

/-! ### stores into own lists -/
theorem own_at {i : Nat} {ds : List PyData} (ok : Ok K sa B H σ δ S) (hd : δ[i]? = some (some (.l ds))) : ∃ l vs, σ[i]? = some (some (.ref l)) ∧ H l = some (.lst vs) ∧ DpAll K H vs ds ∧ PuAll ds ∧ ds.length ≤ sizeLine ∧ Away sa l := by
  obtain ⟨F, o⟩ := ok.owns
  obtain ⟨v, h1, l, rfl, hF, vs, q, q2, q3, q4⟩ := o.rep i _ hd
  exact ⟨l, vs, h1, q, q2, q3, q4, (o.own i l (by rw [hF]; simp)).2.1⟩
theorem dpk {vs : List V} {ds : List PyData} (h : DpAll K H vs ds) (p : PuAll ds) (e : Ext sa H H') : DpAll K H' vs ds := e.tup.dpAll _ _ p h
/-- x.append(e) -/
theorem sb_append {i : Nat} {x : Str} {ds : List PyData} {d : PyData} {p1 p2 p3 p4 : Pos} (hd : δ[i]? = some (some (.l ds))) (hv : PE X (.Name x p1) (tVar i)) (he : EE X sa δ S e (.p d) S1) (hz : ds.length < 16777216)
    (hr : SB X sa (δ.set i (some (.l (ds ++ [d])))) S1 rest W)
    (hps : ∀ {te : TE}, PE X (.Call (.Attribute (.Name x p1) "append" p2) [e] [] p3) te → PS X (.Expr (.Call (.Attribute (.Name x p1) "append" p2) [e] [] p3) p4) (tDrop te))
    (hpe : ∀ {to : TE} {t : TA}, PE X (.Name x p1) to → PA X [e] t → PE X (.Call (.Attribute (.Name x p1) "append" p2) [e] [] p3) (tBM X.K "list" rAppend to t))
    (hs : starEach [e] X.env = [(false, eval e X.env)] := by rfl) : SB X sa δ S (.Expr (.Call (.Attribute (.Name x p1) "append" p2) [e] [] p3) p4 :: rest) W :=
  sb_seq (hps (hpe hv (pa_cons he pa_nil hs))) hr fun D σ H B ok k => by
    obtain ⟨l, vs, h1, h2, h3, h4, h5, h6⟩ := own_at ok hd
    refine ⟨_, h1, .inl ⟨rfl, _, .of h2⟩, B, ok, fun v H' B' ok' e' b r => ?_⟩
    obtain rfl : B' = H' := b
    have g2 := e'.cell l _ h2 h6
    refine ⟨l, vs, v, rfl, rfl, g2, by rw [h3.length, sizeLine_eq]; exact hz, k B σ _ (.refl _ _) (ok'.write hd h1 (DpAll.append (dpk h3 h4 e') (.one r.2.1)) (h4.append (puAll_one r.2.2)) ?_)⟩
    rw [List.length_append, sizeLine_eq]; show ds.length + 1 ≤ _; omega
/-- x.extend(a new list) -/
theorem sb_extend {i : Nat} {x : Str} {ds es : List PyData} {p1 p2 p3 p4 : Pos} (hd : δ[i]? = some (some (.l ds))) (hv : PE X (.Name x p1) (tVar i)) (he : EL X sa δ S e es S1) (hz : ds.length + es.length ≤ 16777216)
    (hr : SB X sa (δ.set i (some (.l (ds ++ es)))) S1 rest W)
    (hps : ∀ {te : TE}, PE X (.Call (.Attribute (.Name x p1) "extend" p2) [e] [] p3) te → PS X (.Expr (.Call (.Attribute (.Name x p1) "extend" p2) [e] [] p3) p4) (tDrop te))
    (hpe : ∀ {to : TE} {t : TA}, PE X (.Name x p1) to → PA X [e] t → PE X (.Call (.Attribute (.Name x p1) "extend" p2) [e] [] p3) (tBM X.K "list" rExtend to t))
    (hs : starEach [e] X.env = [(false, eval e X.env)] := by rfl) : SB X sa δ S (.Expr (.Call (.Attribute (.Name x p1) "extend" p2) [e] [] p3) p4 :: rest) W :=
  sb_seq (hps (hpe hv (pa_cons he pa_nil hs))) hr fun D σ H B ok k => by
    obtain ⟨l, vs, h1, h2, h3, h4, h5, h6⟩ := own_at ok hd
    refine ⟨_, h1, .inl ⟨rfl, _, .of h2⟩, B, ok, fun q H' hq ok' e' hl => ?_⟩
    obtain ⟨zs, g1, g2, g3, g4⟩ := hl
    have gl := e'.cell l _ h2 h6
    refine ⟨l, q, vs, zs, rfl, rfl, gl, g1, by rw [h3.length, g2.length, sizeLine_eq]; exact hz, k B σ _ (.refl _ _) (ok'.write hd h1 (DpAll.append (dpk h3 h4 e') g2) (h4.append g3) ?_)⟩
    rw [List.length_append, sizeLine_eq]; exact hz
def setAt {β : Type} (xs : List β) (i : Int) (y : β) : List β := match ixN xs.length i with
  | some j => xs.set j y
  | none => xs
theorem setAt_length {β : Type} (xs : List β) (i : Int) (y : β) : (setAt xs i y).length = xs.length := by
  unfold setAt
  split
  · exact List.length_set
  · rfl
theorem setAt_map {β γ : Type} (f : β → γ) (xs : List β) (i : Int) (y : β) : setAt (xs.map f) i (f y) = (setAt xs i y).map f := by
  unfold setAt
  rw [List.length_map]
  split
  · rw [List.map_set]
  · rfl
theorem ixN_some {n : Nat} {i : Int} (h : -(n : Int) ≤ i ∧ i < n) : ∃ j, ixN n i = some j ∧ j < n := by
  unfold ixN
  by_cases c : 0 ≤ i
  · rw [if_pos c, if_pos h.2]
    exact ⟨_, rfl, by omega⟩
  · rw [if_neg c, if_pos h.1]
    exact ⟨_, rfl, by omega⟩
theorem PuAll.set {ds : List PyData} {d : PyData} (h : PuAll ds) (g : Pu d) (j : Nat) : PuAll (ds.set j d) := puAll_iff.mpr fun x m => by
  rcases List.mem_or_eq_of_mem_set m with m | rfl
  · exact puAll_iff.mp h x m
  · exact g
/-- x[i] = e -/
theorem sb_store {i : Nat} {x : Str} {ds : List PyData} {d : PyData} {j : Int} {ix : Expr} {p1 p2 p3 : Pos} (hd : δ[i]? = some (some (.l ds))) (hv : PE X (.Name x p1) (tVar i)) (he : EE X sa δ S e (.p d) S1) (hx : EE X sa δ S1 ix (.p (.int j)) S2) (hj : InB ds j)
    (hr : SB X sa (δ.set i (some (.l (setAt ds j d)))) S2 rest W)
    (hps : ∀ {te to ti : TE}, PE X e te → PE X (.Name x p1) to → PE X ix ti → PS X (.Assign [.Subscript (.Name x p1) ix p2] e p3) (tAsg te (gSub to ti rSetL))) : SB X sa δ S (.Assign [.Subscript (.Name x p1) ix p2] e p3 :: rest) W :=
  sb_seq (hps he hv hx) hr fun D σ H B ok k => ⟨B, ok, fun v H1 B1 ok1 e1 b1 r1 => by
    obtain rfl : B1 = H1 := b1
    obtain ⟨l, vs, h1, h2, h3, h4, h5, h6⟩ := own_at ok1 hd
    refine ⟨_, h1, B, ok1, fun u H2 B2 ok2 e2 b2 r2 => ?_⟩
    obtain rfl : B2 = H2 := b2
    obtain rfl := dpi r2
    obtain ⟨jj, q1, q2⟩ := ixN_some hj
    have gl := e2.cell l _ h2 h6
    refine ⟨l, vs, j, jj, rfl, rfl, gl, by rw [h3.length]; exact q1, k B σ _ (.refl _ _) ?_⟩
    have es : setAt ds j d = ds.set jj d := by unfold setAt; rw [q1]
    rw [es]
    exact ok2.write hd h1 (DpAll.set (e2.tup.dp _ _ r1.2.2 r1.2.1) jj (dpk h3 h4 e2)) (h4.set r1.2.2 jj) (by rw [List.length_set]; exact h5)⟩
theorem rows_at {i : Nat} {dss : List (List PyData)} (ok : Ok K sa B H σ δ S) (hd : δ[i]? = some (some (.ll dss))) : ∃ l bs, σ[i]? = some (some (.ref l)) ∧ H l = some (.lst (bs.map .ref)) ∧ RowsAt K H bs dss ∧ dss.length ≤ sizeLine ∧ (l :: bs).Nodup ∧ ∀ q ∈ l :: bs, Away sa q := by
  obtain ⟨F, o⟩ := ok.owns
  obtain ⟨v, h1, l, bs, rfl, hF, q, q2, q3⟩ := o.rep i _ hd
  exact ⟨l, bs, h1, q, q2, q3, hF ▸ o.nodup i, fun z m => (o.own i z (by rw [hF]; exact m)).2.1⟩
theorem RowsAt.put {b : Addr} {ds : List PyData} (hb : LsAt K H b ds) : ∀ {bs : List Addr} {dss : List (List PyData)} {j : Nat} (h : ∀ (k : Nat) (q : Addr), k ≠ j → bs[k]? = some q → ∃ es, dss[k]? = some es ∧ LsAt K H q es) (hl : bs.length = dss.length) (hj : bs[j]? = some b), RowsAt K H bs (dss.set j ds)
  | [], [], _, _, _, hj => by simp at hj
  | q :: bs, es :: dss, 0, h, hl, hj => by
    have e : q = b := by simpa using hj
    subst e
    refine ⟨hb, ?_⟩
    have go : ∀ {bs : List Addr} {dss : List (List PyData)}, bs.length = dss.length → (∀ (k : Nat) (q : Addr), bs[k]? = some q → ∃ es, dss[k]? = some es ∧ LsAt K H q es) → RowsAt K H bs dss := fun {bs} => by
      induction bs with
      | nil => intro dss hl _; cases dss with
        | nil => trivial
        | cons _ _ => cases hl
      | cons c bs ih => intro dss hl h; cases dss with
        | nil => cases hl
        | cons es dss =>
          obtain ⟨es', q1, q2⟩ := h 0 c rfl
          obtain rfl : es = es' := by simpa using q1
          exact ⟨q2, ih (by simpa using hl) fun k q hk => by simpa using h (k + 1) q (by simpa using hk)⟩
    exact go (by simpa using hl) fun k q hk => by simpa using h (k + 1) q (by omega) (by simpa using hk)
  | q :: bs, es :: dss, j + 1, h, hl, hj => by
    obtain ⟨es', q1, q2⟩ := h 0 q (by omega) rfl
    obtain rfl : es = es' := by simpa using q1
    exact ⟨q2, RowsAt.put hb (j := j) (fun k q hk e => by simpa using h (k + 1) q (by omega) (by simpa using e)) (by simpa using hl) (by simpa using hj)⟩
  | [], _ :: _, _, _, hl, _ => by cases hl
  | _ :: _, [], _, _, hl, _ => by cases hl
theorem RowsAt.get2 : ∀ {bs : List Addr} {dss : List (List PyData)} {i : Nat} {q : Addr}, RowsAt K H bs dss → bs[i]? = some q → ∃ ds, dss[i]? = some ds ∧ LsAt K H q ds
  | b :: bs, d :: dss, 0, q, h, e => by simp at e; subst e; exact ⟨d, rfl, h.1⟩
  | b :: bs, d :: dss, i + 1, q, h, e => RowsAt.get2 (i := i) h.2 (by simpa using e)
  | [], [], _, _, _, e => by simp at e
  | [], _ :: _, _, _, h, _ => h.elim
  | _ :: _, [], _, _, h, _ => h.elim
theorem map_ref_inj : ∀ {xs ys : List Addr}, xs.map V.ref = ys.map V.ref → xs = ys
  | [], [], _ => rfl
  | [], _ :: _, h => by cases h
  | _ :: _, [], h => by cases h
  | x :: xs, y :: ys, h => by
    rw [List.map_cons, List.map_cons] at h
    injection h with h1 h2
    injection h1 with h1
    rw [h1, map_ref_inj h2]
/-- an own row is written -/
theorem Ok.writeRow (ok : Ok K sa B H σ δ S) {i j : Nat} {dss : List (List PyData)} {l b : Addr} {bs : List Addr} {ds' : List PyData} {vs' : List V} (hi : δ[i]? = some (some (.ll dss))) (hσ : σ[i]? = some (some (.ref l))) (hl : H l = some (.lst (bs.map .ref))) (hb : bs[j]? = some b)
    (hd : DpAll K H vs' ds') (hp : PuAll ds') (hz : ds'.length ≤ sizeLine) : Ok K sa B (upd H b (.lst vs')) σ (δ.set i (some (.ll (dss.set j ds')))) S := by
  obtain ⟨F, o⟩ := ok.owns
  obtain ⟨v, h1, l', bs', h2, hF, q, hr, q3⟩ := o.rep i _ hi
  rw [hσ] at h1
  obtain rfl : V.ref l = v := Option.some.inj (Option.some.inj h1)
  obtain rfl : l = l' := by injection h2
  rw [hl] at q
  obtain rfl : bs = bs' := by
    have e : bs.map V.ref = bs'.map V.ref := by injection (Option.some.inj q)
    exact map_ref_inj e
  have mb : b ∈ F i := by rw [hF]; exact List.mem_cons_of_mem _ (List.mem_of_getElem? hb)
  obtain ⟨hbB, w, ws, hws⟩ := o.own i b mb
  have tx : TupX H (upd H b (.lst vs')) := tupX_upd (.inr ⟨ws, hws⟩)
  have il : i < δ.length := (List.getElem?_eq_some_iff.mp hi).1
  have nd : (l :: bs).Nodup := hF ▸ o.nodup i
  have lb : l ≠ b := fun z => (List.nodup_cons.mp nd).1 (z ▸ List.mem_of_getElem? hb)
  refine ⟨⟨fun c ob e wc => ?_, ok.base.tup.trans tx⟩, by rw [List.length_set]; exact ok.len, ⟨F, fun k sl' h => ?_, o.nodup, o.apart, fun k c m => ?_⟩, ok.src.updA w⟩
  · rw [upd_ne (fun z => by rw [z, hbB] at e; cases e)]
    exact ok.base.cell c ob e wc
  · by_cases hk : k = i
    · subst hk
      rw [List.getElem?_set_self il] at h
      cases h
      refine ⟨.ref l, hσ, l, bs, rfl, hF, by rw [upd_ne lb]; exact hl, RowsAt.put ⟨vs', upd_same, tx.dpAll _ _ hp hd, hp, hz⟩ (fun k q hk e => ?_) hr.length hb, by rw [List.length_set]; exact q3⟩
      obtain ⟨es, g1, g2⟩ := hr.get2 e
      refine ⟨es, g1, g2.mono (upd_ne fun z => ?_) tx⟩
      have nb := (List.nodup_cons.mp nd).2
      obtain ⟨k1, e1⟩ := List.getElem?_eq_some_iff.mp e
      obtain ⟨k2, e2⟩ := List.getElem?_eq_some_iff.mp hb
      exact hk ((List.getElem_inj nb).mp (e1.trans (z.trans e2.symm)))
    · rw [List.getElem?_set_ne (Ne.symm hk)] at h
      obtain ⟨u, g1, g2⟩ := o.rep k sl' h
      exact ⟨u, g1, g2.mono (.refl _ _) tx fun c m => upd_ne fun z => o.apart k i c hk m (z ▸ mb)⟩
  · obtain ⟨g1, g2, ws', g3⟩ := o.own k c m
    refine ⟨g1, g2, ?_⟩
    by_cases hc : c = b
    · exact ⟨vs', by rw [hc, upd_same]⟩
    · exact ⟨ws', by rw [upd_ne hc]; exact g3⟩
/-- rows with one place otherwise -/
def setAt2 {β : Type} (xss : List (List β)) (u v : Int) (y : β) : List (List β) := match ixN xss.length u with
  | some j => xss.set j (setAt (xss.getD j []) v y)
  | none => xss
theorem setAt2_map {β γ : Type} (f : β → γ) (xss : List (List β)) (u v : Int) (y : β) : setAt2 (xss.map (List.map f)) u v (f y) = (setAt2 xss u v y).map (List.map f) := by
  unfold setAt2
  rw [List.length_map]
  split
  · rename_i j h
    rw [List.map_set]
    congr 1
    have e : (xss.map (List.map f)).getD j [] = (xss.getD j []).map f := by
      rw [List.getD_eq_getElem?_getD, List.getD_eq_getElem?_getD, List.getElem?_map]
      cases xss[j]? <;> rfl
    rw [e, setAt_map]
  · rfl
def InB2 {β : Type} (xss : List (List β)) (u v : Int) : Prop := InB xss u ∧ ∀ xs, L2.atI xss u = some xs → InB xs v
/-- what a store into rows does, by values: the target's own reading -/
def tRow (K : PySem.W.Frag) (sa : SA) (δ : Env) (S : Src) (i : Nat) (dss : List (List PyData)) (d : PyData) (u v : Int) : TG := fun w σ H Q => ∃ B, Ok K sa B H σ δ S ∧ Dp K H w d ∧ Pu d ∧
  ∀ H', Ok K sa B H' σ (δ.set i (some (.ll (setAt2 dss u v d)))) S → TupX H H' → Q σ H'
theorem tg_row {i : Nat} {x : Str} {dss : List (List PyData)} {d : PyData} {u v : Int} {eu ev : Expr} {p1 p2 : Pos} {S : Src} (hd : δ[i]? = some (some (.ll dss))) (hv : PE X (.Name x p1) (tVar i)) (hu : EE X sa δ S eu (.p (.int u)) S) (hvv : EE X sa δ S ev (.p (.int v)) S) (hj : InB2 dss u v)
    (hpu : PlainIx eu := by exact fun _ _ => rfl)
    (hpg : ∀ {to ti : TE} {t : TSet}, PE X (.Subscript (.Name x p1) eu p2) to → PE X ev ti → PSet X t → PG X (.Subscript (.Subscript (.Name x p1) eu p2) ev p) (gSub to ti t)) :
    PG X (.Subscript (.Subscript (.Name x p1) eu p2) ev p) (tRow X.K sa δ S i dss d u v) :=
  pg_imp (hpg (pe_ix ix_list hv hu hpu) hvv set_list) fun w σ H Q ⟨B, ok, hw, hpw, k⟩ => by
    obtain ⟨l, bs, h1, h2, h3, h4, h5, h6⟩ := rows_at ok hd
    refine ⟨_, h1, B, ok, fun z H1 B1 ok1 e1 b1 r1 => ?_⟩
    obtain rfl : B1 = H1 := b1
    obtain rfl := dpi r1
    have al := h6 l List.mem_cons_self
    have g2 := e1.cell l _ h2 al
    obtain ⟨j, j1, j2⟩ := ixN_some hj.1
    have r3 : RowsAt X.K B1 bs dss := h3.mono e1.tup fun b m => by
      obtain ⟨vs, q⟩ := h3.cell b m
      rw [q]; exact e1.cell b _ q (h6 b (List.mem_cons_of_mem _ m))
    have hds : dss[j]? = some dss[j] := List.getElem?_eq_getElem j2
    obtain ⟨b, hb, ds2⟩ := r3.get hds
    refine ⟨l, bs.map .ref, u, .ref b, rfl, rfl, .of g2, ?_, B, ok1, fun z2 H2 B2 ok2 e2 b2 r2 => ?_⟩
    · unfold L2.atI
      rw [List.length_map, r3.length, j1]
      show (bs.map V.ref)[j]? = _
      rw [List.getElem?_map, hb]; rfl
    obtain rfl : B2 = H2 := b2
    obtain rfl := dpi r2
    have ab := h6 b (List.mem_cons_of_mem _ (List.mem_of_getElem? hb))
    obtain ⟨vs, q1, q2, q3, q4⟩ := ds2
    have hat : L2.atI dss u = some dss[j] := by unfold L2.atI; rw [j1]; exact hds
    obtain ⟨jj, k1, k2⟩ := ixN_some (hj.2 _ hat)
    refine ⟨b, vs, v, jj, rfl, rfl, e2.cell b _ q1 ab, by rw [q2.length]; exact k1, ?_⟩
    have es : setAt2 dss u v d = dss.set j (dss[j].set jj d) := by
      unfold setAt2
      rw [j1]
      show dss.set j (setAt (dss.getD j []) v d) = _
      have eg : dss.getD j [] = dss[j] := by rw [List.getD_eq_getElem?_getD, hds]; rfl
      rw [eg]
      unfold setAt
      rw [k1]
    have tx : TupX H B2 := e1.tup.trans e2.tup
    refine k _ ?_ (tx.trans (tupX_upd (.inr ⟨vs, e2.cell b _ q1 ab⟩)))
    rw [es]
    exact ok2.writeRow hd h1 (e2.cell l _ g2 al) hb (DpAll.set (tx.dp _ _ hpw hw) jj (e2.tup.dpAll _ _ q3 q2)) (q3.set hpw jj) (by rw [List.length_set]; exact q4)
/-- rows[u][v] = e -/
theorem sb_store2 {i : Nat} {tge : Expr} {dss : List (List PyData)} {d : PyData} {u v : Int} {p3 : Pos} (ht : PG X tge (tRow X.K sa δ S1 i dss d u v)) (he : EE X sa δ S e (.p d) S1)
    (hr : SB X sa (δ.set i (some (.ll (setAt2 dss u v d)))) S1 rest W) (hps : ∀ {te : TE} {g : TG}, PE X e te → PG X tge g → PS X (.Assign [tge] e p3) (tAsg te g)) : SB X sa δ S (.Assign [tge] e p3 :: rest) W :=
  sb_seq (hps he ht) hr fun D σ H B ok k => ⟨B, ok, fun w H1 B1 ok1 e1 b1 r1 => by
    obtain rfl : B1 = H1 := b1
    exact ⟨B, ok1, r1.2.1, r1.2.2, fun H' ok' _ => k B σ H' (.refl _ _) ok'⟩⟩
end
end L2.Ev

set_option Elab.async false
set_option linter.all false
set_option maxRecDepth 100000
/-! Ev8: enumerate, zip of lists and tuples in any mix. -/
namespace PySem
open Sem (wp)
set_option maxHeartbeats 2000000 in
theorem evMeetsEnum {v : Value} {o : Obj} {H : Heap → Prop} (B : Begins v o H) :
    Meets (Builtin.«enumerate.__new__» ⟨[.type "enumerate", v], []⟩) (fun _ R s => H s.heap ∧
      R (.ok (.ret (.ref (s.heap.push o).objs.size))) { s with heap := (s.heap.push o).push { cls := .type "enumerate", data := .fields #[.none, .bool false, .ref s.heap.objs.size, rawInt 0, .none, .none] } }) :=
  .of_wp fun prog w A R s h => by
    obtain ⟨hp, g, d, tk, os⟩ := s
    obtain ⟨h1, h⟩ := h
    have hsub := sub_enumerate
    have q1 : ∀ {A' : Around} {E : Value → Shared → Prop} {Q : Value → Shared → Prop}, Q (.ref hp.objs.size) ⟨hp.push o, g, d, tk, os⟩ → wpAny (model prog w) A' (pyIter v) Q E ⟨hp, g, d, tk, os⟩ :=
      fun q => B.iter prog w _ _ ⟨hp, g, d, tk, os⟩ _ h1 q
    wp_walk using q1
    first
      | exact ⟨_, rfl, h⟩
      | (refine wpAny_stack_any fun st => wpAny_pure ?_
         split
         · rename_i c _ _ _ _ _
           cases (c == Value.type "enumerate")
           · wp_walk using q1
             exact ⟨_, rfl, h⟩
           · wp_walk using q1
             exact ⟨_, rfl, h⟩
         · wp_walk using q1
           exact ⟨_, rfl, h⟩)
section
variable {prog : Program} {w : World} {A : Around} {E : Value → Shared → Prop} {s : Shared}
theorem evEnumBegins {v : Value} {o : Obj} {H : Heap → Prop} {Q : Value → Shared → Prop} (B : Begins v o H) (h1 : H s.heap)
    (h : ∀ h', IsEnum h' (s.heap.objs.size + 1) s.heap.objs.size 0 .none → h'.get? s.heap.objs.size = some o → (∀ b ob, s.heap.get? b = some ob → h'.get? b = some ob) → Q (.ref (s.heap.objs.size + 1)) { s with heap := h' }) :
    wpAny (model prog w) A (call (.type "enumerate") [v]) Q E s := by
  refine callType_new F.called_enumerate (by decide) (F.typeCall_enumerate_1 _) (F.newCall_enumerate_1 _) (fun obj => F.args_object_init_2 obj _) F.entry_enumerate_new (evMeetsEnum B) ⟨h1, ?_⟩
  have hz : (s.heap.push o).objs.size = s.heap.objs.size + 1 := Heap.size_push ..
  show _ ∧ _
  rw [hz]
  have he : IsEnum ((s.heap.push o).push { cls := .type "enumerate", data := .fields #[.none, .bool false, .ref s.heap.objs.size, rawInt 0, .none, .none] }) (s.heap.objs.size + 1) s.heap.objs.size 0 .none := by
    have g := Heap.get?_push_size (s.heap.push o) (o := { cls := .type "enumerate", data := .fields #[.none, .bool false, .ref s.heap.objs.size, rawInt 0, .none, .none] }) rfl
    rw [hz] at g
    exact g
  exact ⟨⟨_, he, rfl⟩, h _ he (Heap.get?_push_of_some _ (Heap.get?_push_size _ B.free)) fun b ob x => Heap.get?_push_of_some _ (Heap.get?_push_of_some _ x)⟩
end
end PySem
namespace L2.Ev
open PySem PySem.Spec PyProof.Rows

/-- a list or a tuple that is walked, in a base -/
inductive SrcV (K : PySem.W.Frag) (sa : SA) (B : Hp) (l : Addr) (vs : List V) : Prop where
  | lst (h : SqL K B l vs) (w : Away sa l)
  | tup (h : SqT K B l vs)
/-- its object, its iterator's state -/
def SrcO (ty : Bool) (h : Heap) (l : Addr) (its : Array Value) : Prop := if ty = true then h.IsTuple l its else h.IsList l its
def SrcI (ty : Bool) (h : Heap) (it l : Addr) (i : Nat) : Prop := if ty = true then h.IsTupleIter it l i else h.IsListIter it l i
def srcIt (ty : Bool) (l : Addr) : Obj := if ty = true then { cls := .type "tuple_iterator", data := .fields #[.ref l, .int 0 0] } else { cls := .type "list_iterator", data := .fields #[.ref l, .int 0 0] }
theorem src_draws {prog : Program} {w : World} {A : Around} (ty : Bool) (hh : A.handled = none) (it l : Addr) (hne : l ≠ it) (items : Array Value) : Draws prog w A it [it, l] items.size (fun i v => items[i]? = some v) (fun i h => SrcI ty h it l i ∧ SrcO ty h l items) := by
  cases ty with
  | true => exact Draws.tuple hh it l hne items
  | false => exact Draws.list hh it l hne items
theorem src_begins (ty : Bool) (l : Addr) (items : Array Value) : Begins (.ref l) (srcIt ty l) fun h => SrcO ty h l items := by
  cases ty with
  | true => exact begins_tuple l items
  | false => exact begins_list l items
theorem src_iter0 {ty : Bool} {h : Heap} {it l : Addr} (e : h.get? it = some (srcIt ty l)) : SrcI ty h it l 0 := by
  cases ty with
  | true => exact ⟨_, e, rfl, rfl⟩
  | false => exact ⟨_, e, rfl, rfl⟩
theorem src_iterObj {ty : Bool} {h : Heap} {it l : Addr} {i : Nat} (e : SrcI ty h it l i) : ∃ o, h.get? it = some o ∧ ∀ v, o.data ≠ .cell v := by
  cases ty with
  | true => obtain ⟨o, h1, _, h2⟩ := e; exact ⟨o, h1, fun v z => by rw [h2] at z; cases z⟩
  | false => obtain ⟨o, h1, _, h2⟩ := e; exact ⟨o, h1, fun v z => by rw [h2] at z; cases z⟩
theorem src_iterAt {ty : Bool} {h h' : Heap} {it l : Addr} {i : Nat} (e : SrcI ty h it l i) (k : ∀ o, h.get? it = some o → h'.get? it = some o) : SrcI ty h' it l i := by
  cases ty with
  | true => obtain ⟨o, h1, h2⟩ := e; exact ⟨o, k o h1, h2⟩
  | false => obtain ⟨o, h1, h2⟩ := e; exact ⟨o, k o h1, h2⟩
/-- told by the kind: the base's own row -/
def SrcB (ty : Bool) (K : PySem.W.Frag) (sa : SA) (B : Hp) (l : Addr) (vs : List V) : Prop := if ty = true then SqT K B l vs else SqL K B l vs ∧ Away sa l
section
variable {X : Cx} {sa : SA} {K : PySem.W.Frag} {B H : Hp} {σ : L2.St} {s : Shared} {pins : List (Addr × Obj)} {ty : Bool} {l : Addr} {vs : List V}
theorem SrcB.ext (h : SrcB ty K sa B l vs) (e : Ext sa B H) : SrcB ty K sa H l vs := by
  cases ty with
  | true => exact e.tup.sqt h
  | false => exact ⟨e.sql h.2 h.1, h.2⟩
theorem SrcB.obj (I : Inv X pins σ H s) (h : SrcB ty X.K sa H l vs) : ∃ us : List Value, Vals vs us ∧ SrcO ty s.heap l us.toArray := by
  cases ty with
  | true =>
    obtain ⟨us, r, t, _⟩ := I.tuple h
    exact ⟨us, r, t⟩
  | false =>
    obtain ⟨us, r, t, _⟩ := I.list h.1
    exact ⟨us, r, t.isList⟩
theorem SrcO.lt {h : Heap} {its : Array Value} (e : SrcO ty h l its) : l < h.objs.size := by
  cases ty with
  | true => obtain ⟨o, h1, _⟩ := e; exact Heap.lt_size h1
  | false => obtain ⟨o, h1, _⟩ := e; exact Heap.lt_size h1
end
/-- new tuples by rows of values -/
def Jn (sa : SA) (B : Hp) (rows : List (List V)) : It :=
  ⟨fun i H => Ext sa B H ∧ i < rows.length, fun i H x H' => ∃ T r, rows[i]? = some r ∧ x = .ref T ∧ H T = none ∧ H' = upd H T (.tup r), fun i H => Ext sa B H ∧ rows.length = i⟩
theorem turn_gn {P : Program} {w : World} {K : PySem.W.Frag} {elts : List Expr} {kk : Nat} {tpos : Pos} {sa : SA} {B : Hp} {rows : List (List V)} {fp wr : List Addr} {it : Addr} {tn : Nat → Heap → Prop}
    (mem : it ∈ fp) (wrf : ∀ b ∈ wr, b ∈ fp) (short : ∀ r ∈ rows, r.length ≤ 100) (obj : ∀ i h, tn i h → ∀ b ∈ fp, ∃ o, h.get? b = some o ∧ ∀ v, o.data ≠ .cell v)
    (keep : ∀ i h h', tn i h → (∀ b ∈ fp, ∀ o, h.get? b = some o → h'.get? b = some o) → tn i h')
    (self : ∀ (A : Around) (i : Nat) (s : Shared) (Q : Value → Shared → Prop) (E : Value → Shared → Prop), tn i s.heap → Q (.ref it) s → wpAny (model P w) A (pyIter (.ref it)) Q E s)
    (go : ∀ (X : Cx), X.prog = P → X.w = w → X.K = K → X.A.handled = none → ∀ (i : Nat) (pins : List (Addr × Obj)) (s : Shared) (σ : L2.St) (H : Hp), Inv X pins σ H s → Ext sa B H → tn i s.heap →
      ∃ (fpx : List Addr) (n : Nat) (Y : Nat → Heap → Value → Heap → Prop) (St : Nat → Heap → Prop), GoesN P w X.A (.Tuple elts kk tpos) it fpx wr n Y St ∧ n = rows.length ∧ St i s.heap ∧ (∀ h', St (i + 1) h' → tn (i + 1) h') ∧
        ∀ v h', Y i s.heap v h' → ∃ T r us, v = .ref T ∧ s.heap.objs.size ≤ T ∧ rows[i]? = some r ∧ Vals r us ∧ h'.IsTuple T us.toArray) :
    Turn P w K (.Tuple elts kk tpos) (Jn sa B rows) fp it tn where
  mem := mem
  obj := obj
  keep := keep
  item := by
    intro X hP hw hK hc i pins s σ H E I hf st hg
    subst hP hw hK
    obtain ⟨he, hi⟩ := hg
    obtain ⟨fpx, n, Y, St, G, hn, hSt, hSt', hY⟩ := go X rfl rfl rfl (I.ok.hd hc) i pins s σ H I he st
    subst hn
    refine wpAny_mono (G.goes i s (fun v s2 => ∃ x H', Inv X pins σ H' s2 ∧ RelV x v ∧ (Jn sa B rows).yld i H x H' ∧ tn (i + 1) s2.heap ∧ ∀ b ∈ fp, H' b = none) E hi hSt fun v h' tk y st' hk htk => ?_) (fun r s1 h => h) fun _ _ z => z
    obtain ⟨T, r, us, rfl, hT, hr, hv, htup⟩ := hY v h' y
    have short' : r.length ≤ sizeLine := by
      have := short r (List.mem_of_getElem? hr)
      rw [sizeLine_eq]; omega
    have I2 : Inv X pins σ (upd H T (.tup r)) { s with heap := h', toks := tk } := I.turnedNew (ch := wr) (fun b o hb e => hk b o hb e) (fun b hb => hf b (wrf b hb)) hT ⟨short', us, hv, htup⟩
    refine ⟨.ref T, _, I2, rfl, ⟨T, r, hr, rfl, I.hok.fresh hT, rfl⟩, hSt' _ st', fun b hb => ?_⟩
    obtain ⟨o, e, _⟩ := obj i _ st b hb
    rw [upd_ne (Nat.ne_of_lt (Nat.lt_of_lt_of_le (Heap.lt_size e) hT))]
    exact (hf b hb).1
  done := by
    intro X hP hw hK hc i pins s σ H E I hf st hg
    subst hP hw hK
    obtain ⟨he, hi⟩ := hg
    obtain ⟨fpx, n, Y, St, G, hn, hSt, hSt', hY⟩ := go X rfl rfl rfl (I.ok.hd hc) i pins s σ H I he st
    rw [← hi, ← hn] at hSt
    exact G.stops s (fun s1 => Inv X pins σ H s1) E hSt fun h' tk hk htk => I.turnedL (ch := wr) (fun b o hb e => hk b o hb e) fun b hb => hf b (wrf b hb)
  self := self
theorem fp_ok {X : Cx} {pins : List (Addr × Obj)} {σ : L2.St} {H : Hp} {s : Shared} {n : Nat} (I : Inv X pins σ H s) : ∀ b, s.heap.objs.size ≤ b → FpOk X pins H b := fun b h => I.fpOk h (I.hok.fresh h)
theorem natE {N b : Nat} (h : b = N + 1 ∨ b = N) : N ≤ b := by omega
theorem natZ {N b : Nat} (h : b = N + 4 ∨ b = N + 2 ∨ b = N + 3 ∨ b = N ∨ b = N + 1) : N ≤ b := by omega
theorem natZ3 {N b : Nat} (h : b = N + 5 ∨ b = N + 3 ∨ b = N + 4 ∨ b = N ∨ b = N + 1 ∨ b = N + 2) : N ≤ b := by omega
theorem natZw {N b : Nat} (h : b = N + 4 ∨ b = N + 3 ∨ b = N ∨ b = N + 1) : b = N + 4 ∨ b = N + 2 ∨ b = N + 3 ∨ b = N ∨ b = N + 1 := by omega
theorem natZ3w {N b : Nat} (h : b = N + 5 ∨ b = N + 4 ∨ b = N ∨ b = N + 1 ∨ b = N + 2) : b = N + 5 ∨ b = N + 3 ∨ b = N + 4 ∨ b = N ∨ b = N + 1 ∨ b = N + 2 := by omega
theorem natNe {N l : Nat} (h : l < N) : ¬ (N + 1 = N) ∧ ¬ (N + 1 = l) := by omega
/-! ### enumerate -/
def enumRows (xs : List V) : List (List V) := xs.mapIdx fun i x => [.int i, x]
def tnE (ty : Bool) (e it l : Addr) (i : Nat) (h : Heap) : Prop := (∃ old, IsEnum h e it (0 + (i : Int)) old) ∧ SrcI ty h it l i
theorem turn_enumG {P : Program} {w : World} {K : PySem.W.Frag} {elts : List Expr} {kk : Nat} {tpos : Pos} {sa : SA} {B : Hp} {ty : Bool} {l N : Addr} {xs : List V} (hs : SrcB ty K sa B l xs) (hl : l < N) :
    Turn P w K (.Tuple elts kk tpos) (Jn sa B (enumRows xs)) [N + 1, N] (N + 1) (tnE ty (N + 1) N l) := by
  refine turn_gn (wr := [N + 1, N]) (by simp) (fun b hb => hb) (fun r hr => ?_) (fun i h st b hb => ?_) (fun i h h' st k => ?_) (fun A i s Q E st q => ?_) fun X hP hw hK hc i pins s σ H I he st => ?_
  · unfold enumRows at hr
    obtain ⟨j, x, rfl⟩ := List.mem_mapIdx.mp hr
    simp
  · obtain ⟨⟨old, h1⟩, h2⟩ := st
    have hb : b = N + 1 ∨ b = N := by simpa using hb
    rcases hb with rfl | rfl
    · exact ⟨_, h1, fun v z => by have z' : Data.fields _ = Data.cell v := z; cases z'⟩
    · exact src_iterObj h2
  · obtain ⟨⟨old, h1⟩, h2⟩ := st
    exact ⟨⟨old, k (N + 1) (by simp) _ h1⟩, src_iterAt h2 fun o e => k N (by simp) o e⟩
  · obtain ⟨⟨old, h1⟩, h2⟩ := st
    exact wpAny_pyIter_enum h1 q
  · subst hP hw hK
    obtain ⟨us, rv, ho⟩ := (hs.ext he).obj I
    refine ⟨_, _, _, _, GoesN.enumFrom 0 (src_draws ty (A := X.A.in1) hc N l (Nat.ne_of_lt hl) us.toArray) (N + 1) (Nat.succ_ne_self _) (by simp only [List.mem_cons, List.not_mem_nil, or_false, not_or]; exact natNe hl) (by simp), ?_, ⟨st.1, st.2, ho⟩, fun h' q => ⟨q.1, q.2.1⟩, fun v h' q => ?_⟩
    · rw [List.size_toArray, ← rv.length]
      unfold enumRows
      rw [List.length_mapIdx]
    · obtain ⟨T, t, x, rfl, hT, hx, htup⟩ := q
      have hx' : us[i]? = some x := by simpa using hx
      have hlt : i < xs.length := by rw [rv.length]; exact (List.getElem?_eq_some_iff.mp hx').1
      obtain ⟨u, hu, ru⟩ := rv.get (List.getElem?_eq_getElem hlt)
      rw [hx'] at hu
      cases hu
      refine ⟨T, [.int i, xs[i]], [.int (0 + (i : Int)) t, x], rfl, hT, ?_, .cons ⟨t, by rw [Int.zero_add]⟩ (.cons ru .nil), htup⟩
      unfold enumRows
      rw [List.getElem?_mapIdx, List.getElem?_eq_getElem hlt]; rfl
def iEnumG (K : PySem.W.Frag) (sa : SA) (ta : TA) : TI := fun σ H R => ta σ H fun vs H1 => ∃ B ty l xs, vs = [.ref l] ∧ SrcB ty K sa B l xs ∧ Ext sa B H1 ∧ R (Jn sa B (enumRows xs)) H1
theorem pi_enumG {X : Cx} {sa : SA} {e : Expr} {ta : TA} {p pos tpos : Pos} {elts : List Expr} {kk : Nat} (hg : Gl X "enumerate") (hm : X.mg "enumerate" = none) (ha : PA X [e] ta) (hs : starEach [e] X.env = [(false, eval e X.env)] := by rfl) :
    PI X (.Tuple elts kk tpos) (.Call (.Name "enumerate" p) [e] [] pos) (iEnumG X.K sa ta) := by
  refine ⟨fun pins s σ H R I h => Call_ (ld_blt I hg hm PyProof.Rows.boot_enumerate (PyProof.Rows.callWith_type1 (thn (ha.run pos pins s σ H _ I h) fun us s1 hh => ?_) hs rfl))⟩
  obtain ⟨vs, H1, I1, r1, B, ty, l, xs, rfl, hsrc, he, q⟩ := hh
  rw [Vals.ref1 r1]
  obtain ⟨us, rv, ho⟩ := (hsrc.ext he).obj I1
  have hlt : l < s1.heap.objs.size := SrcO.lt ho
  refine evEnumBegins (src_begins ty l us.toArray) ho fun h' h1 h2 hk => wpAny_pyIter_enum h1 ⟨_, [s1.heap.objs.size + 1, s1.heap.objs.size], _, _, H1, rfl, I1.kept (t' := s1.toks) hk, turn_enumG hsrc hlt, ⟨⟨_, h1⟩, src_iter0 h2⟩, fun b hb => ?_, q⟩
  have hb' : b = s1.heap.objs.size + 1 ∨ b = s1.heap.objs.size := by simpa using hb
  exact fp_ok (n := 0) I1 b (natE hb')

/-! ### zip of two -/
def zipRows (xs ys : List V) : List (List V) := List.zipWith (fun x y => [x, y]) xs ys
def tnZ (ty1 ty2 : Bool) (N l1 l2 : Addr) (i : Nat) (h : Heap) : Prop := IsZip h (N + 4) (N + 2) (N + 3) .none ∧ IsTupOf2 h (N + 2) (.ref N) (.ref (N + 1)) ∧ (∃ a1 a2, IsTupOf2 h (N + 3) a1 a2) ∧ SrcI ty1 h N l1 i ∧ SrcI ty2 h (N + 1) l2 i
theorem turn_zipG {P : Program} {w : World} {K : PySem.W.Frag} {elts : List Expr} {kk : Nat} {tpos : Pos} {sa : SA} {B : Hp} {ty1 ty2 : Bool} {l1 l2 N : Addr} {xs ys : List V} (hs1 : SrcB ty1 K sa B l1 xs) (hs2 : SrcB ty2 K sa B l2 ys) (hl1 : l1 < N) (hl2 : l2 < N) :
    Turn P w K (.Tuple elts kk tpos) (Jn sa B (zipRows xs ys)) [N + 4, N + 2, N + 3, N, N + 1] (N + 4) (tnZ ty1 ty2 N l1 l2) := by
  refine turn_gn (wr := [N + 4, N + 3, N, N + 1]) (by simp) (fun b hb => ?_) (fun r hr => ?_) (fun i h st b hb => ?_) (fun i h h' st k => ?_) (fun A i s Q E st q => ?_) fun X hP hw hK hc i pins s σ H I he st => ?_
  · simp only [List.mem_cons, List.not_mem_nil, or_false] at hb ⊢
    exact natZw hb
  · unfold zipRows at hr
    obtain ⟨j, hj⟩ := List.getElem?_of_mem hr
    rw [List.getElem?_zipWith] at hj
    split at hj
    · cases hj; simp
    · cases hj
  · obtain ⟨h1, h2, ⟨a1, a2, h3⟩, h4, h5⟩ := st
    have hb : b = N + 4 ∨ b = N + 2 ∨ b = N + 3 ∨ b = N ∨ b = N + 1 := by simpa using hb
    rcases hb with rfl | rfl | rfl | rfl | rfl
    · exact ⟨_, h1, fun v z => by have z' : Data.fields _ = Data.cell v := z; cases z'⟩
    · exact ⟨_, h2, fun v z => by have z' : Data.seq _ _ = Data.cell v := z; cases z'⟩
    · exact ⟨_, h3, fun v z => by have z' : Data.seq _ _ = Data.cell v := z; cases z'⟩
    · exact src_iterObj h4
    · exact src_iterObj h5
  · obtain ⟨h1, h2, ⟨a1, a2, h3⟩, h4, h5⟩ := st
    exact ⟨k _ (by simp) _ h1, k _ (by simp) _ h2, ⟨a1, a2, k _ (by simp) _ h3⟩, src_iterAt h4 fun o e => k _ (by simp) o e, src_iterAt h5 fun o e => k _ (by simp) o e⟩
  · exact wpAny_pyIter_zip st.1 q
  · subst hP hw hK
    obtain ⟨us, rv, ho⟩ := (hs1.ext he).obj I
    obtain ⟨ws, rw', ho2⟩ := (hs2.ext he).obj I
    refine ⟨_, _, _, _, GoesN.zip2 (zip_sep2 (N := N) (fp1 := [l1]) (fp2 := [l2]) (by simpa using hl1) (by simpa using hl2)) (src_draws ty1 (A := X.A.in1) hc N l1 (Nat.ne_of_lt hl1) us.toArray) (src_draws ty2 (A := X.A.in1) hc (N + 1) l2 (Nat.ne_of_lt (Nat.lt_succ_of_lt hl2)) ws.toArray), ?_, ⟨st.1, st.2.1, st.2.2.1, ⟨st.2.2.2.1, ho⟩, ⟨st.2.2.2.2, ho2⟩⟩, fun h' q => ⟨q.1, q.2.1, q.2.2.1, q.2.2.2.1.1, q.2.2.2.2.1⟩, fun v h' q => ?_⟩
    · rw [List.size_toArray, List.size_toArray, ← rv.length, ← rw'.length]
      unfold zipRows
      rw [List.length_zipWith]
    · obtain ⟨T, x, y, rfl, hT, hx, hy, htup⟩ := q
      have hx' : us[i]? = some x := by simpa using hx
      have hy' : ws[i]? = some y := by simpa using hy
      have lx : i < xs.length := by rw [rv.length]; exact (List.getElem?_eq_some_iff.mp hx').1
      have ly : i < ys.length := by rw [rw'.length]; exact (List.getElem?_eq_some_iff.mp hy').1
      obtain ⟨u, hu, ru⟩ := rv.get (List.getElem?_eq_getElem lx)
      obtain ⟨u2, hu2, ru2⟩ := rw'.get (List.getElem?_eq_getElem ly)
      rw [hx'] at hu; cases hu
      rw [hy'] at hu2; cases hu2
      refine ⟨T, [xs[i], ys[i]], [x, y], rfl, hT, ?_, .cons ru (.cons ru2 .nil), htup⟩
      unfold zipRows
      rw [List.getElem?_zipWith, List.getElem?_eq_getElem lx, List.getElem?_eq_getElem ly]
def iZipG (K : PySem.W.Frag) (sa : SA) (ta : TA) : TI := fun σ H R => ta σ H fun vs H1 => ∃ B ty1 l1 xs ty2 l2 ys, vs = [.ref l1, .ref l2] ∧ SrcB ty1 K sa B l1 xs ∧ SrcB ty2 K sa B l2 ys ∧ Ext sa B H1 ∧ R (Jn sa B (zipRows xs ys)) H1
theorem pi_zipG {X : Cx} {sa : SA} {e e2 : Expr} {ta : TA} {p pos tpos : Pos} {elts : List Expr} {kk : Nat} (hg : Gl X "zip") (hm : X.mg "zip" = none) (ha : PA X [e, e2] ta)
    (hs : starEach [e, e2] X.env = (false, eval e X.env) :: starEach [e2] X.env := by rfl) (hpl : (backTo pos (starEach [e2] X.env)).any (·.1) = false := by rfl) :
    PI X (.Tuple elts kk tpos) (.Call (.Name "zip" p) [e, e2] [] pos) (iZipG X.K sa ta) := by
  refine ⟨fun pins s σ H R I h => Call_ (ld_blt I hg hm PyProof.Rows.boot_zip (PyProof.Rows.callWith_type1 (thn (ha.run pos pins s σ H _ I h) fun us s1 hh => ?_) hs hpl))⟩
  obtain ⟨vs, H1, I1, r1, B, ty1, l1, xs, ty2, l2, ys, rfl, hs1, hs2, he, q⟩ := hh
  obtain ⟨u1, u2, rfl, ru1, ru2⟩ := Vals.two r1
  cases ru1
  cases ru2
  obtain ⟨us, rv, ho⟩ := (hs1.ext he).obj I1
  obtain ⟨ws, rw', ho2⟩ := (hs2.ext he).obj I1
  refine zip_begins2 (src_begins ty1 l1 us.toArray) (src_begins ty2 l2 ws.toArray) ho ho2 fun h' h1 h2 h3 h4 h5 hsz hk => wpAny_pyIter_zip h1 ⟨_, [s1.heap.objs.size + 4, s1.heap.objs.size + 2, s1.heap.objs.size + 3, s1.heap.objs.size, s1.heap.objs.size + 1], _, _, H1, rfl, I1.kept (t' := s1.toks) hk,
    turn_zipG hs1 hs2 (SrcO.lt ho) (SrcO.lt ho2), ⟨h1, h2, ⟨_, _, h3⟩, src_iter0 h4, src_iter0 h5⟩, fun b hb => ?_, q⟩
  simp only [List.mem_cons, List.not_mem_nil, or_false] at hb
  exact fp_ok (n := 0) I1 b (natZ hb)

/-! ### zip of three -/
def zipRows3 (xs ys zs : List V) : List (List V) := List.zipWith (fun (q : V × V) z => [q.1, q.2, z]) (List.zip xs ys) zs
def tnZ3 (ty1 ty2 ty3 : Bool) (N l1 l2 l3 : Addr) (i : Nat) (h : Heap) : Prop := IsZip h (N + 5) (N + 3) (N + 4) .none ∧ IsTupOf3 h (N + 3) (.ref N) (.ref (N + 1)) (.ref (N + 2)) ∧ (∃ a1 a2 a3, IsTupOf3 h (N + 4) a1 a2 a3) ∧ SrcI ty1 h N l1 i ∧ SrcI ty2 h (N + 1) l2 i ∧ SrcI ty3 h (N + 2) l3 i
theorem turn_zipG3 {P : Program} {w : World} {K : PySem.W.Frag} {elts : List Expr} {kk : Nat} {tpos : Pos} {sa : SA} {B : Hp} {ty1 ty2 ty3 : Bool} {l1 l2 l3 N : Addr} {xs ys zs : List V} (hs1 : SrcB ty1 K sa B l1 xs) (hs2 : SrcB ty2 K sa B l2 ys) (hs3 : SrcB ty3 K sa B l3 zs) (hl1 : l1 < N) (hl2 : l2 < N) (hl3 : l3 < N) :
    Turn P w K (.Tuple elts kk tpos) (Jn sa B (zipRows3 xs ys zs)) [N + 5, N + 3, N + 4, N, N + 1, N + 2] (N + 5) (tnZ3 ty1 ty2 ty3 N l1 l2 l3) := by
  refine turn_gn (wr := [N + 5, N + 4, N, N + 1, N + 2]) (by simp) (fun b hb => ?_) (fun r hr => ?_) (fun i h st b hb => ?_) (fun i h h' st k => ?_) (fun A i s Q E st q => ?_) fun X hP hw hK hc i pins s σ H I he st => ?_
  · simp only [List.mem_cons, List.not_mem_nil, or_false] at hb ⊢
    exact natZ3w hb
  · unfold zipRows3 at hr
    obtain ⟨j, hj⟩ := List.getElem?_of_mem hr
    rw [List.getElem?_zipWith] at hj
    split at hj
    · cases hj; simp
    · cases hj
  · obtain ⟨h1, h2, ⟨a1, a2, a3, h3⟩, h4, h5, h6⟩ := st
    have hb : b = N + 5 ∨ b = N + 3 ∨ b = N + 4 ∨ b = N ∨ b = N + 1 ∨ b = N + 2 := by simpa using hb
    rcases hb with rfl | rfl | rfl | rfl | rfl | rfl
    · exact ⟨_, h1, fun v z => by have z' : Data.fields _ = Data.cell v := z; cases z'⟩
    · exact ⟨_, h2, fun v z => by have z' : Data.seq _ _ = Data.cell v := z; cases z'⟩
    · exact ⟨_, h3, fun v z => by have z' : Data.seq _ _ = Data.cell v := z; cases z'⟩
    · exact src_iterObj h4
    · exact src_iterObj h5
    · exact src_iterObj h6
  · obtain ⟨h1, h2, ⟨a1, a2, a3, h3⟩, h4, h5, h6⟩ := st
    exact ⟨k _ (by simp) _ h1, k _ (by simp) _ h2, ⟨a1, a2, a3, k _ (by simp) _ h3⟩, src_iterAt h4 fun o e => k _ (by simp) o e, src_iterAt h5 fun o e => k _ (by simp) o e, src_iterAt h6 fun o e => k _ (by simp) o e⟩
  · exact wpAny_pyIter_zip st.1 q
  · subst hP hw hK
    obtain ⟨us, rv, ho⟩ := (hs1.ext he).obj I
    obtain ⟨ws, rw', ho2⟩ := (hs2.ext he).obj I
    obtain ⟨ts, rt', ho3⟩ := (hs3.ext he).obj I
    refine ⟨_, _, _, _, GoesN.zip3 (zip_sep3 (N := N) (fp1 := [l1]) (fp2 := [l2]) (fp3 := [l3]) (by simpa using hl1) (by simpa using hl2) (by simpa using hl3)) (src_draws ty1 (A := X.A.in1) hc N l1 (Nat.ne_of_lt hl1) us.toArray)
      (src_draws ty2 (A := X.A.in1) hc (N + 1) l2 (Nat.ne_of_lt (Nat.lt_succ_of_lt hl2)) ws.toArray) (src_draws ty3 (A := X.A.in1) hc (N + 2) l3 (Nat.ne_of_lt (Nat.lt_succ_of_lt (Nat.lt_succ_of_lt hl3))) ts.toArray), ?_,
      ⟨st.1, st.2.1, st.2.2.1, ⟨st.2.2.2.1, ho⟩, ⟨st.2.2.2.2.1, ho2⟩, ⟨st.2.2.2.2.2, ho3⟩⟩, fun h' q => ⟨q.1, q.2.1, q.2.2.1, q.2.2.2.1.1, q.2.2.2.2.1.1, q.2.2.2.2.2.1⟩, fun v h' q => ?_⟩
    · rw [List.size_toArray, List.size_toArray, List.size_toArray, ← rv.length, ← rw'.length, ← rt'.length]
      unfold zipRows3
      rw [List.length_zipWith, List.length_zip]
    · obtain ⟨T, x, y, z, rfl, hT, hx, hy, hz, htup⟩ := q
      have hx' : us[i]? = some x := by simpa using hx
      have hy' : ws[i]? = some y := by simpa using hy
      have hz' : ts[i]? = some z := by simpa using hz
      have lx : i < xs.length := by rw [rv.length]; exact (List.getElem?_eq_some_iff.mp hx').1
      have ly : i < ys.length := by rw [rw'.length]; exact (List.getElem?_eq_some_iff.mp hy').1
      have lz : i < zs.length := by rw [rt'.length]; exact (List.getElem?_eq_some_iff.mp hz').1
      obtain ⟨u, hu, ru⟩ := rv.get (List.getElem?_eq_getElem lx)
      obtain ⟨u2, hu2, ru2⟩ := rw'.get (List.getElem?_eq_getElem ly)
      obtain ⟨u3, hu3, ru3⟩ := rt'.get (List.getElem?_eq_getElem lz)
      rw [hx'] at hu; cases hu
      rw [hy'] at hu2; cases hu2
      rw [hz'] at hu3; cases hu3
      refine ⟨T, [xs[i], ys[i], zs[i]], [x, y, z], rfl, hT, ?_, .cons ru (.cons ru2 (.cons ru3 .nil)), htup⟩
      unfold zipRows3
      have e1 : (List.zip xs ys)[i]? = some (xs[i], ys[i]) := by
        rw [List.getElem?_zip_eq_some]
        exact ⟨List.getElem?_eq_getElem lx, List.getElem?_eq_getElem ly⟩
      rw [List.getElem?_zipWith, e1, List.getElem?_eq_getElem lz]
def iZipG3 (K : PySem.W.Frag) (sa : SA) (ta : TA) : TI := fun σ H R => ta σ H fun vs H1 => ∃ B ty1 l1 xs ty2 l2 ys ty3 l3 zs, vs = [.ref l1, .ref l2, .ref l3] ∧ SrcB ty1 K sa B l1 xs ∧ SrcB ty2 K sa B l2 ys ∧ SrcB ty3 K sa B l3 zs ∧ Ext sa B H1 ∧ R (Jn sa B (zipRows3 xs ys zs)) H1
theorem pi_zipG3 {X : Cx} {sa : SA} {e e2 e3 : Expr} {ta : TA} {p pos tpos : Pos} {elts : List Expr} {kk : Nat} (hg : Gl X "zip") (hm : X.mg "zip" = none) (ha : PA X [e, e2, e3] ta)
    (hs : starEach [e, e2, e3] X.env = (false, eval e X.env) :: starEach [e2, e3] X.env := by rfl) (hpl : (backTo pos (starEach [e2, e3] X.env)).any (·.1) = false := by rfl) :
    PI X (.Tuple elts kk tpos) (.Call (.Name "zip" p) [e, e2, e3] [] pos) (iZipG3 X.K sa ta) := by
  refine ⟨fun pins s σ H R I h => Call_ (ld_blt I hg hm PyProof.Rows.boot_zip (PyProof.Rows.callWith_type1 (thn (ha.run pos pins s σ H _ I h) fun us s1 hh => ?_) hs hpl))⟩
  obtain ⟨vs, H1, I1, r1, B, ty1, l1, xs, ty2, l2, ys, ty3, l3, zs, rfl, hs1, hs2, hs3, he, q⟩ := hh
  obtain ⟨u1, u2, u3, rfl, ru1, ru2, ru3⟩ : ∃ u1 u2 u3, us = [u1, u2, u3] ∧ RelV (.ref l1) u1 ∧ RelV (.ref l2) u2 ∧ RelV (.ref l3) u3 := by
    cases r1 with
    | cons a r =>
      obtain ⟨u, v, rfl, b, c⟩ := Vals.two r
      exact ⟨_, _, _, rfl, a, b, c⟩
  cases ru1
  cases ru2
  cases ru3
  obtain ⟨us, rv, ho⟩ := (hs1.ext he).obj I1
  obtain ⟨ws, rw', ho2⟩ := (hs2.ext he).obj I1
  obtain ⟨ts, rt', ho3⟩ := (hs3.ext he).obj I1
  refine zip_begins3 (src_begins ty1 l1 us.toArray) (src_begins ty2 l2 ws.toArray) (src_begins ty3 l3 ts.toArray) ho ho2 ho3 fun h' h1 h2 h3 h4 h5 h6 hsz hk => wpAny_pyIter_zip h1 ⟨_, [s1.heap.objs.size + 5, s1.heap.objs.size + 3, s1.heap.objs.size + 4, s1.heap.objs.size, s1.heap.objs.size + 1, s1.heap.objs.size + 2], _, _, H1, rfl, I1.kept (t' := s1.toks) hk,
    turn_zipG3 hs1 hs2 hs3 (SrcO.lt ho) (SrcO.lt ho2) (SrcO.lt ho3), ⟨h1, h2, ⟨_, _, _, h3⟩, src_iter0 h4, src_iter0 h5, src_iter0 h6⟩, fun b hb => ?_, q⟩
  simp only [List.mem_cons, List.not_mem_nil, or_false] at hb
  exact fp_ok (n := 0) I1 b (natZ3 hb)
end L2.Ev

set_option Elab.async false
set_option linter.all false
set_option maxRecDepth 100000
/-! Ev9: enumerate and zip by data; built-ins. -/
namespace L2.Ev
open PySem PySem.Spec PyProof.Rows
section
variable {X : Cx} {sa : SA} {δ δ' : Env} {S S0 S1 S2 S' : Src} {st : Bool} {e a b c d' tg iter elt e1 e2 e3 : Expr} {es : List Expr} {pos p pos' tpos : Pos} {elts : List Expr} {kk : Nat} {K : PySem.W.Frag} {B B' H H' : Hp} {σ : L2.St} {rest body : List Stmt} {W : Spec} {sm : Stmt}

/-! ### what is walked, by its items' slots -/
def Sl.items : Sl → List Sl
  | .p (.tuple ds) => ds.map .p
  | .b ds => ds.map .p
  | .bb dss => dss.map .b
  | _ => []
def Walk : Sl → Prop
  | .p (.tuple _) => True
  | .b _ => True
  | .bb _ => True
  | _ => False
theorem slsRep_pures : ∀ {ds : List PyData} {vs : List V}, DpAll K B vs ds → PuAll ds → SlsRep K sa B vs (ds.map .p)
  | _, _, .nil, _ => trivial
  | _, _, .cons r t, p => ⟨⟨rfl, r, p.1⟩, slsRep_pures t p.2⟩
theorem slsRep_rows : ∀ {vs : List V} {dss : List (List PyData)}, RowsB K sa B vs dss → SlsRep K sa B vs (dss.map .b)
  | [], [], _ => trivial
  | v :: vs, ds :: dss, h => ⟨⟨rfl, h.1⟩, slsRep_rows h.2⟩
  | [], _ :: _, h => h.elim
  | _ :: _, [], h => h.elim
theorem walk_src {v : V} {sl : Sl} (h : SlRep K sa B B v sl []) (hw : Walk sl) : ∃ ty l vs, v = .ref l ∧ SrcB ty K sa B l vs ∧ SlsRep K sa B vs sl.items ∧ sl.items.length ≤ sizeLine := by
  cases sl with
  | p d =>
    cases d with
    | tuple ds =>
      obtain ⟨l, vs, rfl, h1, h2, h3, h4⟩ := dpt h
      exact ⟨true, l, vs, rfl, h1, slsRep_pures h2 h3, by show (ds.map Sl.p).length ≤ _; rw [List.length_map]; exact h4⟩
    | none => exact hw.elim
    | bool _ => exact hw.elim
    | int _ => exact hw.elim
    | str _ => exact hw.elim
    | list _ => exact hw.elim
    | dict _ => exact hw.elim
  | b ds =>
    obtain ⟨_, l, rfl, vs, h1, h2, h3, h4, h5⟩ := h
    exact ⟨false, l, vs, rfl, ⟨h1, h2⟩, slsRep_pures h3 h4, by show (ds.map Sl.p).length ≤ _; rw [List.length_map]; exact h5⟩
  | bb dss =>
    obtain ⟨_, l, vs, rfl, h1, h2, h3, h4⟩ := h
    exact ⟨false, l, vs, rfl, ⟨h1, h2⟩, slsRep_rows h3, by show (dss.map Sl.b).length ≤ _; rw [List.length_map]; exact h4⟩
  | l _ => exact hw.elim
  | ll _ => exact hw.elim
  | src => exact hw.elim
theorem SlsRep.get2 : ∀ {vs : List V} {sls : List Sl} {i : Nat} {v : V}, SlsRep K sa B vs sls → vs[i]? = some v → ∃ sl, sls[i]? = some sl ∧ SlRep K sa B B v sl []
  | w :: vs, s :: sls, 0, v, h, e => by simp at e; subst e; exact ⟨s, rfl, h.1⟩
  | w :: vs, s :: sls, i + 1, v, h, e => SlsRep.get2 (i := i) h.2 (by simpa using e)
  | [], [], _, _, _, e => by simp at e
  | [], _ :: _, _, _, h, _ => h.elim
  | _ :: _, [], _, _, h, _ => h.elim
theorem slsR_of : ∀ {vs : List V} {sls : List Sl}, SlsRep K sa B vs sls → TupX B H → SlsR K sa B H vs sls
  | [], [], _, _ => trivial
  | v :: vs, sl :: sls, h, t => ⟨h.1.mono (.refl _ _) t (fun _ m => nomatch m), slsR_of h.2 t⟩
  | [], _ :: _, h, _ => h.elim
  | _ :: _, [], h, _ => h.elim
theorem jy_n {rows : List (List V)} {items : List Itm} (hl : rows.length = items.length) (hr : ∀ (i : Nat) (r : List V), rows[i]? = some r → ∃ sls : List Sl, items[i]? = some (Itm.tup sls) ∧ SlsRep K sa B r sls) : JY K sa B (Jn sa B rows) items := fun i H e => by
  refine ⟨fun it hi => ?_, fun hi => ⟨e, hl.trans hi⟩⟩
  have hlt : i < rows.length := by rw [hl]; exact (List.getElem?_eq_some_iff.mp hi).1
  obtain ⟨sls, h1, h2⟩ := hr i _ (List.getElem?_eq_getElem hlt)
  rw [h1] at hi
  cases hi
  refine ⟨⟨e, hlt⟩, fun x H' hy => ?_⟩
  obtain ⟨T, r, q1, rfl, q2, rfl⟩ := hy
  rw [List.getElem?_eq_getElem hlt] at q1
  cases q1
  exact ⟨same_new q2, T, _, rfl, .of upd_same, slsR_of h2 (e.tup.trans (Ext.new (sa := sa) q2).tup)⟩
theorem sls3 {v1 : List V} {sl sl2 sl3 : Sl} (h : SlsRep K sa B v1 [sl, sl2, sl3]) : ∃ v w u, v1 = [v, w, u] ∧ SlRep K sa B B v sl [] ∧ SlRep K sa B B w sl2 [] ∧ SlRep K sa B B u sl3 [] := by
  cases v1 with
  | nil => exact h.elim
  | cons v vs =>
    obtain ⟨w, u, rfl, h2, h3⟩ := sls2 h.2
    exact ⟨v, w, u, rfl, h.1, h2, h3⟩
def enumI (xs : List Sl) : List Itm := xs.mapIdx fun i sl => .tup [.p (.int i), sl]
theorem ij_enumG {sl : Sl} (hw : Walk sl) (hg : Gl X "enumerate") (hm : X.mg "enumerate" = none) (ha : EA st X sa δ S [e] [sl] S') (hs : starEach [e] X.env = [(false, eval e X.env)] := by rfl) :
    IJ st X sa δ S (.Tuple elts kk tpos) (.Call (.Name "enumerate" p) [e] [] pos) (enumI sl.items) S' := pi_imp (pi_enumG (sa := sa) hg hm ha hs) fun σ H R ⟨B, ok, k⟩ => ⟨B, ok, fun vs H1 B1 ok1 e1 b1 r1 => by
  obtain ⟨v, rfl, h1⟩ := sls1 r1
  obtain ⟨ty, l, xs, rfl, hs, hr, hz⟩ := walk_src h1 hw
  refine ⟨B1, ty, l, xs, rfl, hs, bok_ext ok1 b1, k _ H1 B1 ok1 e1 b1 (jy_n ?_ fun i r hi => ?_) ?_⟩
  · unfold enumRows enumI
    rw [List.length_mapIdx, List.length_mapIdx, hr.length]
  · unfold enumRows at hi
    rw [List.getElem?_mapIdx] at hi
    cases q : xs[i]? with
    | none => rw [q] at hi; cases hi
    | some x =>
      rw [q] at hi
      cases hi
      obtain ⟨sl', q1, q2⟩ := hr.get2 q
      refine ⟨[.p (.int i), sl'], ?_, ⟨rfl, .int _, trivial⟩, q2, trivial⟩
      unfold enumI
      rw [List.getElem?_mapIdx, q1]; rfl
  · unfold enumI
    rw [List.length_mapIdx]; exact hz⟩
def zipI (xs ys : List Sl) : List Itm := List.zipWith (fun x y => .tup [x, y]) xs ys
theorem ij_zipG {sl sl2 : Sl} (hw : Walk sl) (hw2 : Walk sl2) (hg : Gl X "zip") (hm : X.mg "zip" = none) (ha : EA st X sa δ S [e1, e2] [sl, sl2] S')
    (hs : starEach [e1, e2] X.env = (false, eval e1 X.env) :: starEach [e2] X.env := by rfl) (hpl : (backTo pos (starEach [e2] X.env)).any (·.1) = false := by rfl) :
    IJ st X sa δ S (.Tuple elts kk tpos) (.Call (.Name "zip" p) [e1, e2] [] pos) (zipI sl.items sl2.items) S' := pi_imp (pi_zipG (sa := sa) hg hm ha hs hpl) fun σ H R ⟨B, ok, k⟩ => ⟨B, ok, fun vs H1 B1 ok1 e1 b1 r1 => by
  obtain ⟨v, v2, rfl, h1, h2⟩ := sls2 r1
  obtain ⟨ty, l, xs, rfl, hs, hr, hz⟩ := walk_src h1 hw
  obtain ⟨ty2, l2, ys, rfl, hs2, hr2, hz2⟩ := walk_src h2 hw2
  refine ⟨B1, ty, l, xs, ty2, l2, ys, rfl, hs, hs2, bok_ext ok1 b1, k _ H1 B1 ok1 e1 b1 (jy_n ?_ fun i r hi => ?_) ?_⟩
  · unfold zipRows zipI
    rw [List.length_zipWith, List.length_zipWith, hr.length, hr2.length]
  · unfold zipRows at hi
    rw [List.getElem?_zipWith] at hi
    split at hi
    · rename_i x y q q'
      cases hi
      obtain ⟨s1, q1, q2⟩ := hr.get2 q
      obtain ⟨s2, q3, q4⟩ := hr2.get2 q'
      refine ⟨[s1, s2], ?_, q2, q4, trivial⟩
      unfold zipI
      rw [List.getElem?_zipWith, q1, q3]
    · cases hi
  · unfold zipI
    rw [List.length_zipWith]; exact Nat.le_trans (Nat.min_le_left _ _) hz⟩
def zipI3 (xs ys zs : List Sl) : List Itm := List.zipWith (fun (q : Sl × Sl) z => .tup [q.1, q.2, z]) (List.zip xs ys) zs
theorem ij_zipG3 {sl sl2 sl3 : Sl} (hw : Walk sl) (hw2 : Walk sl2) (hw3 : Walk sl3) (hg : Gl X "zip") (hm : X.mg "zip" = none) (ha : EA st X sa δ S [e1, e2, e3] [sl, sl2, sl3] S')
    (hs : starEach [e1, e2, e3] X.env = (false, eval e1 X.env) :: starEach [e2, e3] X.env := by rfl) (hpl : (backTo pos (starEach [e2, e3] X.env)).any (·.1) = false := by rfl) :
    IJ st X sa δ S (.Tuple elts kk tpos) (.Call (.Name "zip" p) [e1, e2, e3] [] pos) (zipI3 sl.items sl2.items sl3.items) S' := pi_imp (pi_zipG3 (sa := sa) hg hm ha hs hpl) fun σ H R ⟨B, ok, k⟩ => ⟨B, ok, fun vs H1 B1 ok1 e1 b1 r1 => by
  obtain ⟨v, v2, v3, rfl, h1, h2, h3⟩ := sls3 r1
  obtain ⟨ty, l, xs, rfl, hs, hr, hz⟩ := walk_src h1 hw
  obtain ⟨ty2, l2, ys, rfl, hs2, hr2, hz2⟩ := walk_src h2 hw2
  obtain ⟨ty3, l3, zs, rfl, hs3, hr3, hz3⟩ := walk_src h3 hw3
  refine ⟨B1, ty, l, xs, ty2, l2, ys, ty3, l3, zs, rfl, hs, hs2, hs3, bok_ext ok1 b1, k _ H1 B1 ok1 e1 b1 (jy_n ?_ fun i r hi => ?_) ?_⟩
  · unfold zipRows3 zipI3
    rw [List.length_zipWith, List.length_zipWith, List.length_zip, List.length_zip, hr.length, hr2.length, hr3.length]
  · unfold zipRows3 at hi
    rw [List.getElem?_zipWith] at hi
    split at hi
    · rename_i x y q q'
      cases hi
      obtain ⟨x1, x2⟩ := x
      obtain ⟨q5, q6⟩ := List.getElem?_zip_eq_some.mp q
      obtain ⟨s1, q1, q2⟩ := hr.get2 q5
      obtain ⟨s2, q3, q4⟩ := hr2.get2 q6
      obtain ⟨s3, q7, q8⟩ := hr3.get2 q'
      refine ⟨[s1, s2, s3], ?_, q2, q4, q8, trivial⟩
      unfold zipI3
      have e1 : (List.zip sl.items sl2.items)[i]? = some (s1, s2) := List.getElem?_zip_eq_some.mpr ⟨q1, q3⟩
      rw [List.getElem?_zipWith, e1, q7]
    · cases hi
  · unfold zipI3
    rw [List.length_zipWith, List.length_zip]; exact Nat.le_trans (Nat.min_le_left _ _) (Nat.le_trans (Nat.min_le_left _ _) hz)⟩
/-! .. typed: α a kind of items: pure data, or rows -/
/-- a walked thing of items of type α -/
class Wk (α : Type) where
  sl : α → Sl
@[reducible] def wk {α : Type} [Wk α] (x : α) : Sl := Wk.sl x
structure Wlk {α : Type} [Wk α] (s : Sl) (xs : List α) : Prop where
  walk : Walk s
  eq : s.items = xs.map wk
instance (priority := 100) wkP {α : Type} [Enc α] : Wk α := ⟨fun x => .p (enc x)⟩
/-- a row of an own or borrowed list of lists -/
structure Row (α : Type) where
  l : List α
instance {α : Type} [Enc α] : Wk (Row α) := ⟨fun x => .b (encs x.l)⟩
theorem wlk_t {α : Type} [Enc α] (xs : List α) : Wlk (.p (enc xs)) xs := ⟨trivial, by show (xs.map enc).map Sl.p = _; rw [List.map_map]; rfl⟩
theorem wlk_l {α : Type} [Enc α] (xs : List α) : Wlk (.b (encs xs)) xs := ⟨trivial, by show (xs.map enc).map Sl.p = _; rw [List.map_map]; rfl⟩
theorem wlk_r {α : Type} [Enc α] (xss : List (List α)) : Wlk (.bb (encss xss)) (xss.map (fun l => (Row.mk l : Row α))) := ⟨trivial, by show (xss.map encs).map Sl.b = _; rw [List.map_map, List.map_map]; rfl⟩
def enumL {α : Type} (xs : List α) : List (Int × α) := xs.mapIdx fun i x => ((i : Int), x)
def itP2 {α β : Type} [Wk α] [Wk β] (q : α × β) : Itm := .tup [wk q.1, wk q.2]
def itP3 {α β γ : Type} [Wk α] [Wk β] [Wk γ] (q : (α × β) × γ) : Itm := .tup [wk q.1.1, wk q.1.2, wk q.2]
theorem enumI_eq {α : Type} [Wk α] {s : Sl} {xs : List α} (h : Wlk s xs) : enumI s.items = (enumL xs).map itP2 := by
  rw [h.eq]
  unfold enumI enumL itP2
  apply List.ext_getElem?
  intro i
  rw [List.getElem?_mapIdx, List.getElem?_map, List.getElem?_map, List.getElem?_mapIdx]
  cases xs[i]? <;> rfl
theorem zipI_eq {α β : Type} [Wk α] [Wk β] {s t : Sl} {xs : List α} {ys : List β} (h : Wlk s xs) (g : Wlk t ys) : zipI s.items t.items = (List.zip xs ys).map itP2 := by
  rw [h.eq, g.eq]
  unfold zipI itP2
  rw [List.zipWith_map, List.zip_eq_zipWith, List.map_zipWith]
theorem zipI3_eq {α β γ : Type} [Wk α] [Wk β] [Wk γ] {s t u : Sl} {xs : List α} {ys : List β} {zs : List γ} (h : Wlk s xs) (g : Wlk t ys) (f : Wlk u zs) : zipI3 s.items t.items u.items = (List.zip (List.zip xs ys) zs).map itP3 := by
  rw [h.eq, g.eq, f.eq]
  unfold zipI3 itP3
  rw [List.zip_map, List.zipWith_map, List.zip_eq_zipWith (l₁ := List.zip xs ys), List.map_zipWith]
  rfl
theorem ij_enum {α : Type} [Wk α] {s : Sl} {xs : List α} (h : Wlk s xs) (hg : Gl X "enumerate") (hm : X.mg "enumerate" = none) (ha : EA st X sa δ S [e] [s] S') (hs : starEach [e] X.env = [(false, eval e X.env)] := by rfl) :
    IJ st X sa δ S (.Tuple elts kk tpos) (.Call (.Name "enumerate" p) [e] [] pos) ((enumL xs).map itP2) S' := by
  rw [← enumI_eq h]
  exact ij_enumG h.walk hg hm ha hs
theorem ij_zip {α β : Type} [Wk α] [Wk β] {s t : Sl} {xs : List α} {ys : List β} (h : Wlk s xs) (g : Wlk t ys) (hg : Gl X "zip") (hm : X.mg "zip" = none) (ha : EA st X sa δ S [e1, e2] [s, t] S')
    (hs : starEach [e1, e2] X.env = (false, eval e1 X.env) :: starEach [e2] X.env := by rfl) (hpl : (backTo pos (starEach [e2] X.env)).any (·.1) = false := by rfl) :
    IJ st X sa δ S (.Tuple elts kk tpos) (.Call (.Name "zip" p) [e1, e2] [] pos) ((List.zip xs ys).map itP2) S' := by
  rw [← zipI_eq h g]
  exact ij_zipG h.walk g.walk hg hm ha hs hpl
theorem ij_zip3 {α β γ : Type} [Wk α] [Wk β] [Wk γ] {s t u : Sl} {xs : List α} {ys : List β} {zs : List γ} (h : Wlk s xs) (g : Wlk t ys) (f : Wlk u zs) (hg : Gl X "zip") (hm : X.mg "zip" = none) (ha : EA st X sa δ S [e1, e2, e3] [s, t, u] S')
    (hs : starEach [e1, e2, e3] X.env = (false, eval e1 X.env) :: starEach [e2, e3] X.env := by rfl) (hpl : (backTo pos (starEach [e2, e3] X.env)).any (·.1) = false := by rfl) :
    IJ st X sa δ S (.Tuple elts kk tpos) (.Call (.Name "zip" p) [e1, e2, e3] [] pos) ((List.zip (List.zip xs ys) zs).map itP3) S' := by
  rw [← zipI3_eq h g f]
  exact ij_zipG3 h.walk g.walk f.walk hg hm ha hs hpl

/-! ### built-ins -/
theorem ev_cb {id : String} {x : Str} {r : List V → Hp → VK → Prop} {sls : List Sl} {w : V} {d : PyData} (hc : CallR X (.builtin id) r) (hr : ∀ vs H Q, SlsRep X.K sa H vs sls → Q w H → r vs H Q) (hd : ∀ K H, Dp K H w d) (hp : Pu d) (hg : Gl X x) (hm : X.mg x = none) (hv : bootBuiltins x = some (.builtin id))
    (ha : EA false X sa δ S (e :: es) sls S1) (hn : x ≠ "__name__" := by decide) (hdb : (x == ("__debug__" : Str)) = false := by decide) (he : starEach (e :: es) X.env = (false, eval e X.env) :: starEach es X.env := by rfl) (hpl : (backTo pos (starEach es X.env)).any (·.1) = false := by rfl) :
    EG st X sa δ S (.Call (.Name x p) (e :: es) [] pos) (.p d) S1 := pe_imp (pe_callB hc hg hm hv ha hn hdb he hpl) fun σ H Q ⟨B, ok, k⟩ => ⟨B, ok, fun vs H1 B1 ok1 e1 b1 r1 => by
      obtain rfl : B1 = H1 := b1
      exact hr vs B1 Q r1 (give_p ok e1 ok1.src (hd _ _) hp fun B' ok' b r => k _ _ B' ok' e1 b r)⟩
theorem ev_ct {id : String} {x : Str} {r : List V → Hp → VK → Prop} {sls : List Sl} {w : V} {d : PyData} (hc : CallR X (.type id) r) (hr : ∀ vs H Q, SlsRep X.K sa H vs sls → Q w H → r vs H Q) (hd : ∀ K H, Dp K H w d) (hp : Pu d) (hg : Gl X x) (hm : X.mg x = none) (hv : bootBuiltins x = some (.type id))
    (ha : EA false X sa δ S (e :: es) sls S1) (hn : x ≠ "__name__" := by decide) (hdb : (x == ("__debug__" : Str)) = false := by decide) (he : starEach (e :: es) X.env = (false, eval e X.env) :: starEach es X.env := by rfl) (hpl : (backTo pos (starEach es X.env)).any (·.1) = false := by rfl) :
    EG st X sa δ S (.Call (.Name x p) (e :: es) [] pos) (.p d) S1 := pe_imp (pe_callTy hc hg hm hv ha hn hdb he hpl) fun σ H Q ⟨B, ok, k⟩ => ⟨B, ok, fun vs H1 B1 ok1 e1 b1 r1 => by
      obtain rfl : B1 = H1 := b1
      exact hr vs B1 Q r1 (give_p ok e1 ok1.src (hd _ _) hp fun B' ok' b r => k _ _ B' ok' e1 b r)⟩
section
variable (hs1 : starEach [e] X.env = [(false, eval e X.env)])
/-- len of what is walked -/
theorem ev_len {α : Type} [Wk α] {s : Sl} {xs : List α} (h : Wlk s xs) (hg : Gl X "len") (hm : X.mg "len" = none) (ha : EE X sa δ S e s S1) (he : starEach [e] X.env = (false, eval e X.env) :: starEach [] X.env := by rfl) (hpl : (backTo pos (starEach [] X.env)).any (·.1) = false := by rfl) :
    EG st X sa δ S (.Call (.Name "len" p) [e] [] pos) (.p (.int xs.length)) S1 :=
  ev_cb (w := .int xs.length) call_len_seq (fun vs H Q r q => by
    obtain ⟨v, rfl, h1⟩ := sls1 r
    obtain ⟨ty, l, ys, rfl, hs, hr, hz⟩ := walk_src h1 h.walk
    have hl : ys.length = xs.length := by rw [hr.length, h.eq, List.length_map]
    refine ⟨l, ys, rfl, ?_, by rw [hl]; exact q⟩
    cases ty with
    | true => exact .inr hs
    | false => exact .inl hs.1) (fun _ _ => .int _) trivial hg hm PySem.boot_len (ea_cons ha ea_nil he) (by decide) (by decide) he hpl
theorem ev_abs {i : Int} (hg : Gl X "abs") (hm : X.mg "abs" = none) (ha : EE X sa δ S e (.p (.int i)) S1) (he : starEach [e] X.env = (false, eval e X.env) :: starEach [] X.env := by rfl) (hpl : (backTo pos (starEach [] X.env)).any (·.1) = false := by rfl) :
    EG st X sa δ S (.Call (.Name "abs" p) [e] [] pos) (.p (.int (if i < 0 then -i else i))) S1 :=
  ev_cb (w := .int (if i < 0 then -i else i)) call_abs (fun vs H Q r q => by
    obtain ⟨v, rfl, h1⟩ := sls1 r
    exact ⟨i, by rw [dpi h1], q⟩) (fun _ _ => .int _) trivial hg hm PyProof.Rows.boot_abs (ea_cons ha ea_nil he) (by decide) (by decide) he hpl
theorem ev_intI {i : Int} (hg : Gl X "int") (hm : X.mg "int" = none) (ha : EE X sa δ S e (.p (.int i)) S1) (he : starEach [e] X.env = (false, eval e X.env) :: starEach [] X.env := by rfl) (hpl : (backTo pos (starEach [] X.env)).any (·.1) = false := by rfl) :
    EG st X sa δ S (.Call (.Name "int" p) [e] [] pos) (.p (.int i)) S1 :=
  ev_ct (w := .int i) call_int1 (fun vs H Q r q => by
    obtain ⟨v, rfl, h1⟩ := sls1 r
    exact .inl ⟨i, by rw [dpi h1], q⟩) (fun _ _ => .int _) trivial hg hm PyProof.Rows.boot_int (ea_cons ha ea_nil he) (by decide) (by decide) he hpl
theorem ev_intB {k : Bool} (hg : Gl X "int") (hm : X.mg "int" = none) (ha : EE X sa δ S e (.p (.bool k)) S1) (he : starEach [e] X.env = (false, eval e X.env) :: starEach [] X.env := by rfl) (hpl : (backTo pos (starEach [] X.env)).any (·.1) = false := by rfl) :
    EG st X sa δ S (.Call (.Name "int" p) [e] [] pos) (.p (.int (if k then 1 else 0))) S1 :=
  ev_ct (w := .int (if k then 1 else 0)) call_int1 (fun vs H Q r q => by
    obtain ⟨v, rfl, h1⟩ := sls1 r
    exact .inr ⟨k, by rw [dpb h1], q⟩) (fun _ _ => .int _) trivial hg hm PyProof.Rows.boot_int (ea_cons ha ea_nil he) (by decide) (by decide) he hpl
theorem dp_ints : ∀ {ns : List Int} {vs : List V}, DpAll K H vs (encs ns) → vs = ns.map .int
  | [], _, h => by cases h; rfl
  | n :: ns, _, h => by
    cases h with
    | cons h1 h2 =>
      cases h1
      rw [dp_ints h2]; rfl
theorem dp_bls : ∀ {ns : List Bool} {vs : List V}, DpAll K H vs (encs ns) → vs = ns.map .bl
  | [], _, h => by cases h; rfl
  | n :: ns, _, h => by
    cases h with
    | cons h1 h2 =>
      cases h1
      rw [dp_bls h2]; rfl
/-- sum of a list of ints -/
theorem ev_sum {ns : List Int} (hc : X.calm = true) (hg : Gl X "sum") (hm : X.mg "sum" = none) (ha : EE X sa δ S e (.b (encs ns)) S1) (he : starEach [e] X.env = (false, eval e X.env) :: starEach [] X.env := by rfl) (hpl : (backTo pos (starEach [] X.env)).any (·.1) = false := by rfl) :
    EG st X sa δ S (.Call (.Name "sum" p) [e] [] pos) (.p (.int ns.sum)) S1 :=
  ev_cb (w := .int ns.sum) (cr_sum hc) (fun vs H Q r q => by
    obtain ⟨v, rfl, h1⟩ := sls1 r
    obtain ⟨_, l, rfl, ys, g1, g2, g3, g4, g5⟩ := h1
    rw [dp_ints g3] at g1
    exact ⟨l, ns, rfl, g1, q⟩) (fun _ _ => .int _) trivial hg hm PyProof.Rows.boot_sum (ea_cons ha ea_nil he) (by decide) (by decide) he hpl
theorem ev_all {ns : List Bool} (hc : X.calm = true) (hg : Gl X "all") (hm : X.mg "all" = none) (ha : EE X sa δ S e (.b (encs ns)) S1) (he : starEach [e] X.env = (false, eval e X.env) :: starEach [] X.env := by rfl) (hpl : (backTo pos (starEach [] X.env)).any (·.1) = false := by rfl) :
    EG st X sa δ S (.Call (.Name "all" p) [e] [] pos) (.p (.bool (ns.all id))) S1 :=
  ev_cb (w := .bl (ns.all id)) (cr_all hc) (fun vs H Q r q => by
    obtain ⟨v, rfl, h1⟩ := sls1 r
    obtain ⟨_, l, rfl, ys, g1, g2, g3, g4, g5⟩ := h1
    rw [dp_bls g3] at g1
    exact ⟨l, ns, rfl, g1, q⟩) (fun _ _ => .bl _) trivial hg hm PyProof.Rows.boot_all (ea_cons ha ea_nil he) (by decide) (by decide) he hpl
theorem ev_any {ns : List Bool} (hc : X.calm = true) (hg : Gl X "any") (hm : X.mg "any" = none) (ha : EE X sa δ S e (.b (encs ns)) S1) (he : starEach [e] X.env = (false, eval e X.env) :: starEach [] X.env := by rfl) (hpl : (backTo pos (starEach [] X.env)).any (·.1) = false := by rfl) :
    EG st X sa δ S (.Call (.Name "any" p) [e] [] pos) (.p (.bool (ns.any id))) S1 :=
  ev_cb (w := .bl (ns.any id)) (cr_any hc) (fun vs H Q r q => by
    obtain ⟨v, rfl, h1⟩ := sls1 r
    obtain ⟨_, l, rfl, ys, g1, g2, g3, g4, g5⟩ := h1
    rw [dp_bls g3] at g1
    exact ⟨l, ns, rfl, g1, q⟩) (fun _ _ => .bl _) trivial hg hm PyProof.Rows.boot_any (ea_cons ha ea_nil he) (by decide) (by decide) he hpl
/-- tuple(a list) -/
theorem ev_tupleD {ds : List PyData} (hg : Gl X "tuple") (hm : X.mg "tuple" = none) (ha : EE X sa δ S e (.b ds) S1) (he : starEach [e] X.env = (false, eval e X.env) :: starEach [] X.env := by rfl) (hpl : (backTo pos (starEach [] X.env)).any (·.1) = false := by rfl) :
    EG st X sa δ S (.Call (.Name "tuple" p) [e] [] pos) (.p (.tuple ds)) S1 := pe_imp (pe_callTy call_tuple_of hg hm PyProof.Rows.boot_tuple (ea_cons ha ea_nil he) (by decide) (by decide) he hpl) fun σ H Q ⟨B, ok, k⟩ => ⟨B, ok, fun vs H1 B1 ok1 e1 b1 r1 => by
      obtain rfl : B1 = H1 := b1
      obtain ⟨v, rfl, h1⟩ := sls1 r1
      obtain ⟨_, l, rfl, ys, g1, g2, g3, g4, g5⟩ := h1
      refine ⟨l, ys, rfl, .inl ⟨g1, fun q hq => ?_⟩⟩
      have ex : Ext sa B1 (upd B1 q (.tup ys)) := .new hq
      exact give_p (v := .ref q) (d := .tuple ds) ok (e1.trans ex) (ok1.src.same (same_new hq)) (.tup (.of upd_same) (ex.tup.dpAll _ _ g4 g3)) ⟨g5, g4⟩ fun B' ok' bb r => k _ _ B' ok' (e1.trans ex) bb r⟩
theorem ev_tuple {α : Type} [Enc α] {xs : List α} (hg : Gl X "tuple") (hm : X.mg "tuple" = none) (ha : EE X sa δ S e (.b (encs xs)) S1) (he : starEach [e] X.env = (false, eval e X.env) :: starEach [] X.env := by rfl) (hpl : (backTo pos (starEach [] X.env)).any (·.1) = false := by rfl) :
    EG st X sa δ S (.Call (.Name "tuple" p) [e] [] pos) (.p (enc xs)) S1 := ev_tupleD hg hm ha he hpl
/-- list(a list or a tuple) -/
theorem el_listG {s : Sl} {ds : List PyData} (hw : Walk s) (hi : s.items = ds.map .p) (hg : Gl X "list") (hm : X.mg "list" = none) (ha : EE X sa δ S e s S1) (he : starEach [e] X.env = (false, eval e X.env) :: starEach [] X.env := by rfl) (hpl : (backTo pos (starEach [] X.env)).any (·.1) = false := by rfl) :
    EL X sa δ S (.Call (.Name "list" p) [e] [] pos) ds S1 := pe_imp (pe_callTy call_list_of hg hm PyProof.Rows.boot_list (ea_cons ha ea_nil he) (by decide) (by decide) he hpl) fun σ H Q ⟨B, ok, k⟩ => ⟨B, ok, fun vs H1 B1 ok1 e1 b1 r1 => by
      obtain rfl : B1 = H1 := b1
      obtain ⟨v, rfl, h1⟩ := sls1 r1
      obtain ⟨ty, l, ys, rfl, hs, hr, hz⟩ := walk_src h1 hw
      rw [hi] at hr hz
      obtain ⟨hd, hp⟩ := SlsRep.pures hr
      refine ⟨l, ys, rfl, ?_, fun q hq => ?_⟩
      · cases ty with
        | true => exact .inr hs
        | false => exact .inl hs.1
      have ex : Ext sa B1 (upd B1 q (.lst ys)) := .new hq
      exact k q _ (e1.none_of ok1 hq) (ok1.new hq) (e1.trans ex) ⟨ys, upd_same, ex.tup.dpAll _ _ hp hd, hp, by rw [List.length_map] at hz; exact hz⟩⟩
theorem el_listT {α : Type} [Enc α] {xs : List α} (hg : Gl X "list") (hm : X.mg "list" = none) (ha : EE X sa δ S e (.p (enc xs)) S1) (he : starEach [e] X.env = (false, eval e X.env) :: starEach [] X.env := by rfl) (hpl : (backTo pos (starEach [] X.env)).any (·.1) = false := by rfl) :
    EL X sa δ S (.Call (.Name "list" p) [e] [] pos) (encs xs) S1 := el_listG (s := .p (enc xs)) (ds := encs xs) trivial rfl hg hm ha he hpl
theorem el_listB {ds : List PyData} (hg : Gl X "list") (hm : X.mg "list" = none) (ha : EE X sa δ S e (.b ds) S1) (he : starEach [e] X.env = (false, eval e X.env) :: starEach [] X.env := by rfl) (hpl : (backTo pos (starEach [] X.env)).any (·.1) = false := by rfl) :
    EL X sa δ S (.Call (.Name "list" p) [e] [] pos) ds S1 := el_listG (s := .b ds) trivial rfl hg hm ha he hpl
end

/-! ### lists put together -/
theorem el_bin {r : R2} {ds : List PyData} {ta tb : TE} (h : PE X e (tOp r ta tb)) (hh : ∀ σ H Q, tEL X.K sa δ S ds S' σ H Q → tOp r ta tb σ H Q) : EL X sa δ S e ds S' := pe_imp h hh
/-- a new list + a new list -/
theorem el_cat {xs ys : List PyData} (hz : xs.length + ys.length ≤ 16777216) (ha : EL X sa δ S a xs S1) (hb : EL X sa δ S1 b ys S2) : EL X sa δ S (.BinOp a .Add b pos) (xs ++ ys) S2 := pe_imp (pe_op op_cat ha hb) fun σ H Q ⟨B, ok, k⟩ =>
  ⟨B, ok, fun l H1 hl ok1 e1 q1 => ⟨B, ok1, fun m H2 hm ok2 e2 q2 => by
    obtain ⟨vs, g1, g2, g3, g4⟩ := q1
    obtain ⟨ws, f1, f2, f3, f4⟩ := q2
    have aw : Away sa l := ok.away hl
    refine ⟨l, m, vs, ws, rfl, rfl, e2.cell l _ g1 aw, f1, by rw [g2.length, f2.length, sizeLine_eq]; exact hz, fun q hq => ?_⟩
    have ex : Ext sa H2 (upd H2 q (.lst (vs ++ ws))) := .new hq
    exact k q _ ((e1.trans e2).none_of ok2 hq) (ok2.new hq) ((e1.trans e2).trans ex) ⟨_, upd_same, ex.tup.dpAll _ _ (g3.append f3) (DpAll.append (e2.tup.dpAll _ _ g3 g2) f2), g3.append f3, by rw [List.length_append, sizeLine_eq]; exact hz⟩⟩⟩
/-- an own list + a new list -/
theorem el_catOwn {i : Nat} {x : Str} {xs ys : List PyData} {p1 : Pos} (hd : δ[i]? = some (some (.l xs))) (hv : PE X (.Name x p1) (tVar i)) (hz : xs.length + ys.length ≤ 16777216) (hb : EL X sa δ S b ys S2) : EL X sa δ S (.BinOp (.Name x p1) .Add b pos) (xs ++ ys) S2 := pe_imp (pe_op op_cat hv hb) fun σ H Q ⟨B, ok, k⟩ => by
    obtain ⟨l, vs, h1, g1, g2, g3, g4, aw⟩ := own_at ok hd
    refine ⟨_, h1, B, ok, fun m H2 hm ok2 e2 q2 => ?_⟩
    obtain ⟨ws, f1, f2, f3, f4⟩ := q2
    refine ⟨l, m, vs, ws, rfl, rfl, e2.cell l _ g1 aw, f1, by rw [g2.length, f2.length, sizeLine_eq]; exact hz, fun q hq => ?_⟩
    have ex : Ext sa H2 (upd H2 q (.lst (vs ++ ws))) := .new hq
    exact k q _ (e2.none_of ok2 hq) (ok2.new hq) (e2.trans ex) ⟨_, upd_same, ex.tup.dpAll _ _ (g3.append f3) (DpAll.append (e2.tup.dpAll _ _ g3 g2) f2), g3.append f3, by rw [List.length_append, sizeLine_eq]; exact hz⟩
/-- [..] * k -/
def RepOk (n : Nat) (k : Int) : Prop := -(2 ^ 63) ≤ k ∧ k < 2 ^ 63 ∧ n * k.toNat ≤ 16777216
def repL {α : Type} (k : Int) (xs : List α) : List α := (List.replicate k.toNat xs).flatten
theorem repL_map {α β : Type} (f : α → β) (k : Int) (xs : List α) : repL k (xs.map f) = (repL k xs).map f := by
  unfold repL
  rw [List.map_flatten, List.map_replicate]
theorem repL_length {α : Type} (k : Int) (xs : List α) : (repL k xs).length = xs.length * k.toNat := by
  unfold repL
  simp [List.length_flatten, Nat.mul_comm]
theorem PuAll.rep {xs : List PyData} (h : PuAll xs) (k : Int) : PuAll (repL k xs) := puAll_iff.mpr fun d m => by
  unfold repL at m
  rw [List.mem_flatten] at m
  obtain ⟨l, hl, hm⟩ := m
  rw [List.eq_of_mem_replicate hl] at hm
  exact puAll_iff.mp h d hm
theorem el_rep {xs : List PyData} {k : Int} (hz : RepOk xs.length k) (ha : EL X sa δ S a xs S1) (hb : EE X sa δ S1 b (.p (.int k)) S2) : EL X sa δ S (.BinOp a .Mult b pos) (repL k xs) S2 := pe_imp (pe_op op_rep ha hb) fun σ H Q ⟨B, ok, kk⟩ =>
  ⟨B, ok, fun l H1 hl ok1 e1 q1 => ⟨B, ok1, fun v H2 B2 ok2 e2 b2 r2 => by
    obtain rfl : B2 = H2 := b2
    obtain rfl := dpi r2
    obtain ⟨vs, g1, g2, g3, g4⟩ := q1
    have aw : Away sa l := ok.away hl
    refine ⟨l, k, vs, rfl, rfl, e2.cell l _ g1 aw, hz.1, hz.2.1, by rw [g2.length, sizeLine_eq]; exact hz.2.2, fun q hq => ?_⟩
    have ex : Ext sa B2 (upd B2 q (.lst (List.replicate k.toNat vs).flatten)) := .new hq
    exact kk q _ ((e1.trans e2).none_of ok2 hq) (ok2.new hq) ((e1.trans e2).trans ex) ⟨_, upd_same, ex.tup.dpAll _ _ (g3.rep k) ((e2.tup.dpAll _ _ g3 g2).flat k.toNat), g3.rep k, by rw [repL_length, sizeLine_eq]; exact hz.2.2⟩⟩⟩
end
end L2.Ev

set_option Elab.async false
set_option linter.all false
set_option maxRecDepth 100000
/-! Ev10: typed comprehensions, statements whose values get names. -/
namespace L2.Ev
open PySem PySem.Spec PyProof.Rows
section
variable {X : Cx} {sa : SA} {δ δ' : Env} {S S0 S1 S2 S' : Src} {st : Bool} {e a b c d' tg iter elt e1 e2 e3 : Expr} {es : List Expr} {pos p pos' tpos : Pos} {elts : List Expr} {kk : Nat} {K : PySem.W.Frag} {B B' H H' : Hp} {σ : L2.St} {rest body : List Stmt} {W : Spec} {sm : Stmt}

/-! ### comprehensions by types -/
section
variable {α β γ : Type} [Enc β] {own : List (Str × Nat)} {scope : Scope} {js : List Nat} {xs : List α} {itm : α → Itm} {q : Expr} {i : Nat} {y : Str} {py spos : Pos}
theorem map_enc (f : α → β) (xs : List α) : xs.map (fun x => enc (f x)) = encs (xs.map f) := (List.map_map ..).symm
theorem map_encs (f : α → List β) (xs : List α) : xs.map (fun x => encs (f x)) = encss (xs.map f) := (List.map_map ..).symm
theorem elc (P : α → Prop) (δb : α → Env) (f : α → β) (hi : IJ false X sa δ S tg iter (xs.map itm) S0) (hP : ∀ x ∈ xs, P x)
    (hg : ∀ x s H C cl fp, TGt (blkX X scope s H C cl fp) sa (wipeE (Ev.frz δ) (ixs own)) tg (itm x) (δb x) js)
    (he : ∀ x, P x → ∀ s H C cl fp, EE (blkX X scope s H C cl fp) sa (δb x) S0 elt (.p (enc (f x))) S0)
    (hc : X.calm = true) (hN : X.N.Nodup) (ok : BlkOk X.N X.env.scope scope own) (hjs : ∀ j ∈ js, j ∈ ixs own) (hs : ∀ x, foldedSetIterable iter X.env x = pure x := by intro _; rfl) :
    EL X sa δ S (.ListComp elt [⟨tg, iter, [], 0⟩] scope pos) (encs (xs.map f)) S0 := by
  rw [← map_enc]; exact el_lc P δb (fun x => enc (f x)) hi hP hg he hc hN ok hjs hs
theorem plc (P : α → Prop) (δb : α → Env) (f : α → β) (hi : IJ false X sa δ S tg iter (xs.map itm) S0) (hP : ∀ x ∈ xs, P x)
    (hg : ∀ x s H C cl fp, TGt (blkX X scope s H C cl fp) sa (wipeE (Ev.frz δ) (ixs own)) tg (itm x) (δb x) js)
    (he : ∀ x, P x → ∀ s H C cl fp, EE (blkX X scope s H C cl fp) sa (δb x) S0 elt (.p (enc (f x))) S0)
    (hc : X.calm = true) (hN : X.N.Nodup) (ok : BlkOk X.N X.env.scope scope own) (hjs : ∀ j ∈ js, j ∈ ixs own) (hy : X.N[i]? = some y) (hyl : X.env.scope.names.lookup y = some .local)
    (hsw : swapsWith (.ListComp elt [⟨tg, iter, [], 0⟩] scope pos) (some (.Name y py)) spos.line X.env = pure true) (hs : ∀ x, foldedSetIterable iter X.env x = pure x := by intro _; rfl) :
    PS X (.Assign [.Name y py] (.ListComp elt [⟨tg, iter, [], 0⟩] scope pos) spos) (tAsg (tEL X.K sa δ S (encs (xs.map f)) S0) (gName i)) := by
  rw [← map_enc]; exact ps_lc P δb (fun x => enc (f x)) hi hP hg he hc hN ok hjs hy hyl hsw hs
theorem elcf (P : α → Prop) (δb : α → Env) (cnd : α → Bool) (f : α → β) (hi : IJ false X sa δ S tg iter (xs.map itm) S0) (hP : ∀ x ∈ xs, P x)
    (hg : ∀ x s H C cl fp, TGt (blkX X scope s H C cl fp) sa (wipeE (Ev.frz δ) (ixs own)) tg (itm x) (δb x) js)
    (hq : ∀ x, P x → ∀ s H C cl fp, ET (blkX X scope s H C cl fp) sa (δb x) S0 q (cnd x) S0)
    (he : ∀ x, P x → cnd x = true → ∀ s H C cl fp, EE (blkX X scope s H C cl fp) sa (δb x) S0 elt (.p (enc (f x))) S0)
    (hc : X.calm = true) (hN : X.N.Nodup) (ok : BlkOk X.N X.env.scope scope own) (hjs : ∀ j ∈ js, j ∈ ixs own) (hs : ∀ x, foldedSetIterable iter X.env x = pure x := by intro _; rfl) :
    EL X sa δ S (.ListComp elt [⟨tg, iter, [q], 0⟩] scope pos) (encs ((xs.filter cnd).map f)) S0 := by
  rw [← map_enc]; exact el_lcf P δb cnd (fun x => enc (f x)) hi hP hg hq he hc hN ok hjs hs
theorem plcf (P : α → Prop) (δb : α → Env) (cnd : α → Bool) (f : α → β) (hi : IJ false X sa δ S tg iter (xs.map itm) S0) (hP : ∀ x ∈ xs, P x)
    (hg : ∀ x s H C cl fp, TGt (blkX X scope s H C cl fp) sa (wipeE (Ev.frz δ) (ixs own)) tg (itm x) (δb x) js)
    (hq : ∀ x, P x → ∀ s H C cl fp, ET (blkX X scope s H C cl fp) sa (δb x) S0 q (cnd x) S0)
    (he : ∀ x, P x → cnd x = true → ∀ s H C cl fp, EE (blkX X scope s H C cl fp) sa (δb x) S0 elt (.p (enc (f x))) S0)
    (hc : X.calm = true) (hN : X.N.Nodup) (ok : BlkOk X.N X.env.scope scope own) (hjs : ∀ j ∈ js, j ∈ ixs own) (hy : X.N[i]? = some y) (hyl : X.env.scope.names.lookup y = some .local)
    (hsw : swapsWith (.ListComp elt [⟨tg, iter, [q], 0⟩] scope pos) (some (.Name y py)) spos.line X.env = pure true) (hs : ∀ x, foldedSetIterable iter X.env x = pure x := by intro _; rfl) :
    PS X (.Assign [.Name y py] (.ListComp elt [⟨tg, iter, [q], 0⟩] scope pos) spos) (tAsg (tEL X.K sa δ S (encs ((xs.filter cnd).map f)) S0) (gName i)) := by
  rw [← map_enc]; exact ps_lcf P δb cnd (fun x => enc (f x)) hi hP hg hq he hc hN ok hjs hy hyl hsw hs
theorem elcS (P : Src → α → Prop) (δb : α → Env) (f : Src → α → β × Src) (hi : IJ false X sa δ S tg iter (xs.map itm) S0) (hP : GS f P S0 xs)
    (hg : ∀ x s H C cl fp, TGt (blkX X scope s H C cl fp) sa (wipeE (Ev.frz δ) (ixs own)) tg (itm x) (δb x) js)
    (he : ∀ T x, P T x → ∀ s H C cl fp, EE (blkX X scope s H C cl fp) sa (δb x) T elt (.p (enc (f T x).1)) (f T x).2)
    (hc : X.calm = true) (hN : X.N.Nodup) (ok : BlkOk X.N X.env.scope scope own) (hjs : ∀ j ∈ js, j ∈ ixs own) (hs : ∀ x, foldedSetIterable iter X.env x = pure x := by intro _; rfl) :
    EL X sa δ S (.ListComp elt [⟨tg, iter, [], 0⟩] scope pos) (encs (mapS f S0 xs).1) (mapS f S0 xs).2 := el_lcS P δb f enc hi hP hg he hc hN ok hjs hs
theorem plcS (P : Src → α → Prop) (δb : α → Env) (f : Src → α → β × Src) (hi : IJ false X sa δ S tg iter (xs.map itm) S0) (hP : GS f P S0 xs)
    (hg : ∀ x s H C cl fp, TGt (blkX X scope s H C cl fp) sa (wipeE (Ev.frz δ) (ixs own)) tg (itm x) (δb x) js)
    (he : ∀ T x, P T x → ∀ s H C cl fp, EE (blkX X scope s H C cl fp) sa (δb x) T elt (.p (enc (f T x).1)) (f T x).2)
    (hc : X.calm = true) (hN : X.N.Nodup) (ok : BlkOk X.N X.env.scope scope own) (hjs : ∀ j ∈ js, j ∈ ixs own) (hy : X.N[i]? = some y) (hyl : X.env.scope.names.lookup y = some .local)
    (hsw : swapsWith (.ListComp elt [⟨tg, iter, [], 0⟩] scope pos) (some (.Name y py)) spos.line X.env = pure true) (hs : ∀ x, foldedSetIterable iter X.env x = pure x := by intro _; rfl) :
    PS X (.Assign [.Name y py] (.ListComp elt [⟨tg, iter, [], 0⟩] scope pos) spos) (tAsg (tEL X.K sa δ S (encs (mapS f S0 xs).1) (mapS f S0 xs).2) (gName i)) := ps_lcS P δb f enc hi hP hg he hc hN ok hjs hy hyl hsw hs
theorem elcM (P : α → Prop) (δb : α → Env) (f : α → List β) (hi : IJ false X sa δ S tg iter (xs.map itm) S0) (hP : ∀ x ∈ xs, P x)
    (hg : ∀ x s H C cl fp, TGt (blkX X scope s H C cl fp) sa (wipeE (Ev.frz δ) (ixs own)) tg (itm x) (δb x) js)
    (he : ∀ x, P x → ∀ s H C cl fp, EL (blkX X scope s H C cl fp) sa (δb x) S0 elt (encs (f x)) S0)
    (hc : X.calm = true) (hN : X.N.Nodup) (ok : BlkOk X.N X.env.scope scope own) (hjs : ∀ j ∈ js, j ∈ ixs own) (hs : ∀ x, foldedSetIterable iter X.env x = pure x := by intro _; rfl) :
    EM X sa δ S (.ListComp elt [⟨tg, iter, [], 0⟩] scope pos) (encss (xs.map f)) S0 := by
  rw [← map_encs]; exact em_lc P δb (fun x => encs (f x)) hi hP hg he hc hN ok hjs hs
theorem plcM (P : α → Prop) (δb : α → Env) (f : α → List β) (hi : IJ false X sa δ S tg iter (xs.map itm) S0) (hP : ∀ x ∈ xs, P x)
    (hg : ∀ x s H C cl fp, TGt (blkX X scope s H C cl fp) sa (wipeE (Ev.frz δ) (ixs own)) tg (itm x) (δb x) js)
    (he : ∀ x, P x → ∀ s H C cl fp, EL (blkX X scope s H C cl fp) sa (δb x) S0 elt (encs (f x)) S0)
    (hc : X.calm = true) (hN : X.N.Nodup) (ok : BlkOk X.N X.env.scope scope own) (hjs : ∀ j ∈ js, j ∈ ixs own) (hy : X.N[i]? = some y) (hyl : X.env.scope.names.lookup y = some .local)
    (hsw : swapsWith (.ListComp elt [⟨tg, iter, [], 0⟩] scope pos) (some (.Name y py)) spos.line X.env = pure true) (hs : ∀ x, foldedSetIterable iter X.env x = pure x := by intro _; rfl) :
    PS X (.Assign [.Name y py] (.ListComp elt [⟨tg, iter, [], 0⟩] scope pos) spos) (tAsg (tEM X.K sa δ S (encss (xs.map f)) S0) (gName i)) := by
  rw [← map_encs]; exact ps_lcM P δb (fun x => encs (f x)) hi hP hg he hc hN ok hjs hy hyl hsw hs
end

/-! ### values made new, of any kind -/
def tEO (K : PySem.W.Frag) (sa : SA) (δ : Env) (S : Src) (sl : Sl) (S' : Src) : TE := fun σ H Q =>
  ∃ B, Ok K sa B H σ δ S ∧ ∀ v H' F, (∀ a ∈ F, H a = none) → F.Nodup → Ok K sa B H' σ δ S' → Ext sa H H' → SlRep K sa B H' v sl F → Q v H'
def EO (X : Cx) (sa : SA) (δ : Env) (S : Src) (e : Expr) (sl : Sl) (S' : Src) : Prop := PE X e (tEO X.K sa δ S sl S')
theorem eo_p {d : PyData} (h : EE X sa δ S e (.p d) S') : EO X sa δ S e (.p d) S' := pe_imp h fun σ H Q ⟨B, ok, k⟩ => ⟨B, ok, fun v H1 B1 ok1 e1 b1 r1 => k v H1 [] (fun _ m => nomatch m) .nil ok1 e1 (by
  obtain rfl : B1 = H1 := b1
  exact ⟨rfl, r1.2⟩)⟩
theorem eo_l {ds : List PyData} (h : EL X sa δ S e ds S') : EO X sa δ S e (.l ds) S' := pe_imp h fun σ H Q ⟨B, ok, k⟩ => ⟨B, ok, fun p H1 hp ok1 e1 q => k _ H1 [p] (fun a m => by rw [List.mem_singleton.mp m]; exact hp) (by simp) ok1 e1 ⟨p, rfl, rfl, q⟩⟩
theorem eo_m {dss : List (List PyData)} (h : EM X sa δ S e dss S') : EO X sa δ S e (.ll dss) S' := pe_imp h fun σ H Q ⟨B, ok, k⟩ => ⟨B, ok, fun p bs H1 hp hn ok1 e1 q r z => k _ H1 (p :: bs) hp hn ok1 e1 ⟨p, bs, rfl, rfl, q, r, z⟩⟩

/-! ### statements, by what they leave -/
def Step (X : Cx) (sa : SA) (δ : Env) (S : Src) (st : Stmt) (δ' : Env) (S' : Src) : Prop := ∀ rest W, SB X sa δ' S' rest W → SB X sa δ S (st :: rest) W
section
variable {sm : Stmt} {β γ ρ : Type} {i j : Nat} {d : PyData} {ds : List PyData} {dss : List (List PyData)} {sl sl1 sl2 sl3 : Sl}
theorem st_p (h : PS X sm (tAsg (tEG false X.K sa δ S (.p d) S1) (gName i))) (hi : Nat.blt i δ.length = true := by rfl) : Step X sa δ S sm (δ.set i (some (.p d))) S1 := fun _ _ hr => sb_set h hr hi
theorem st_b (h : PS X sm (tAsg (tEG true X.K sa δ S (.b ds) S1) (gName i))) (hi : Nat.blt i δ.length = true := by rfl) : Step X sa δ S sm (δ.set i (some (.b ds))) S1 := fun _ _ hr => sb_setB (dss := []) (.inl rfl) h hr hi
theorem st_bb (h : PS X sm (tAsg (tEG true X.K sa δ S (.bb dss) S1) (gName i))) (hi : Nat.blt i δ.length = true := by rfl) : Step X sa δ S sm (δ.set i (some (.bb dss))) S1 := fun _ _ hr => sb_setB (ds := []) (.inr (.inl rfl)) h hr hi
theorem st_l (h : PS X sm (tAsg (tEL X.K sa δ S ds S1) (gName i))) (hi : Nat.blt i δ.length = true := by rfl) : Step X sa δ S sm (δ.set i (some (.l ds))) S1 := fun _ _ hr => sb_setL h hr hi
theorem st_m (h : PS X sm (tAsg (tEM X.K sa δ S dss S1) (gName i))) (hi : Nat.blt i δ.length = true := by rfl) : Step X sa δ S sm (δ.set i (some (.ll dss))) S1 := fun _ _ hr => sb_setM h hr hi
theorem st_lB (h : PS X sm (tAsg (tEL X.K sa δ S ds S1) (gName i))) (hi : Nat.blt i δ.length = true := by rfl) : Step X sa δ S sm (δ.set i (some (.b ds))) S1 := fun _ _ hr => sb_setLB h hr hi
theorem st_mB (h : PS X sm (tAsg (tEM X.K sa δ S dss S1) (gName i))) (hi : Nat.blt i δ.length = true := by rfl) : Step X sa δ S sm (δ.set i (some (.bb dss))) S1 := fun _ _ hr => sb_setMB h hr hi
theorem st_expr (h : PS X sm (tDrop (tEG false X.K sa δ S sl S1))) : Step X sa δ S sm δ S1 := fun _ _ hr => sb_expr h hr
/-- targets = a pure value -/
theorem st_asg {js : List Nat} (he : EE X sa δ S e (.p d) S1) (ht : TGt X sa δ tg (.one (.p d)) δ' js) (hs : swapsWithSole [tg] e pos.line X.env = pure false := by rfl) (hw : swappedStores [tg] e X.env = pure none := by rfl)
    (h1 : (assignEach [tg] X.env).map (·.2) = [assign tg X.env] := by rfl) : Step X sa δ S (.Assign [tg] e pos) δ' S1 := fun rest W hr =>
  sb_seq (ps_asg he ht hs hw h1) hr fun D σ H B ok k => ⟨B, ok, fun v H' B' ok' e' b r => by
    obtain rfl : B' = H' := b
    exact ⟨B, S1, ok', ⟨r.1, r.2⟩, fun σ' ok2 _ _ => k B σ' B' (.refl _ _) ok2⟩⟩
/-- a, b = x, y -/
theorem st_par {x y : Str} {px py pt : Pos} {kt k2 pt2} (h1 : EO X sa δ S a sl1 S1) (h2 : EO X sa δ S1 b sl2 S2) (hc : X.calm = true) (hN : X.N.Nodup) (hi : X.N[i]? = some x) (hj : X.N[j]? = some y) (hij : i ≠ j)
    (hx : X.env.scope.names.lookup x = some .local) (hy : X.env.scope.names.lookup y = some .local)
    (hw : swappedStores [.Tuple [.Name x px, .Name y py] kt pt] (.Tuple [a, b] k2 pt2) X.env = pure (some [x, y])) (hil : Nat.blt i δ.length = true := by rfl) (hjl : Nat.blt j δ.length = true := by rfl)
    (hsa : starEach [a, b] X.env = (false, eval a X.env) :: starEach [b] X.env := by rfl) (hsb : starEach [b] X.env = [(false, eval b X.env)] := by rfl)
    (hs : swapsWithSole [.Tuple [.Name x px, .Name y py] kt pt] (.Tuple [a, b] k2 pt2) pos.line X.env = pure false := by rfl) :
    Step X sa δ S (.Assign [.Tuple [.Name x px, .Name y py] kt pt] (.Tuple [a, b] k2 pt2) pos) ((δ.set i (some sl1)).set j (some sl2)) S2 := fun rest W hr =>
  sb_seq (ps_par hc hN hi hj hij hx hy (pa_cons h1 (pa_cons h2 pa_nil hsb) hsa) hw hs) hr fun D σ H B ok k => ⟨B, ok, fun v H1 F1 f1 n1 ok1 e1 r1 => ⟨B, ok1, fun u H2 F2 f2 n2 ok2 e2 r2 => ⟨v, u, rfl, by
    have i1 : i < δ.length := Nat.blt_eq.mp hil
    have j1 : j < δ.length := Nat.blt_eq.mp hjl
    exact k B _ H2 (.refl _ _) ((ok.setNew e1 ok1.src r1 i1 n1 f1).setNew e2 ok2.src r2 (by rw [List.length_set]; exact j1) n2 f2)⟩⟩⟩
end
end
end L2.Ev

set_option Elab.async false
set_option linter.all false
set_option maxRecDepth 100000
/-! Ev11: statements whose values get names; casts; stores by types. -/
namespace L2.Ev
open PySem PySem.Spec PyProof.Rows
section
variable {X : Cx} {sa : SA} {δ δ' : Env} {S S0 S1 S2 S' : Src} {st : Bool} {e a b c d' tg iter elt e1 e2 e3 : Expr} {es : List Expr} {pos p pos' tpos : Pos} {elts : List Expr} {kk : Nat} {K : PySem.W.Frag} {B B' H H' : Hp} {σ : L2.St} {rest body : List Stmt} {W : Spec} {sm : Stmt}
variable {α β γ ρ ν μ : Type} {i j : Nat} {d : PyData} {ds : List PyData} {dss : List (List PyData)} {sl sl1 sl2 sl3 : Sl}

/-! ### an own list becomes one that is read -/
theorem Ok.frzAt (ok : Ok K sa B H σ δ S) (hd : δ[i]? = some (some sl)) : ∃ B', Ext sa B B' ∧ Ok K sa B' H σ (δ.set i (some (frzS sl))) S := by
  obtain ⟨F, o⟩ := ok.owns
  classical
  obtain ⟨F', hF'⟩ : ∃ F' : Nat → List Addr, ∀ j, F' j = if j = i then [] else F j := ⟨_, fun _ => rfl⟩
  have f1 : ∀ j a, a ∈ F' j → j ≠ i ∧ a ∈ F j := fun j a m => by
    rw [hF'] at m
    by_cases h : j = i
    · rw [if_pos h] at m; cases m
    · rw [if_neg h] at m; exact ⟨h, m⟩
  obtain ⟨B', hB'⟩ : ∃ B' : Hp, ∀ b, B' b = if ∃ j, b ∈ F' j then none else H b := ⟨_, fun _ => rfl⟩
  have b1 : ∀ b, (∃ j, b ∈ F' j) → B' b = none := fun b h => by rw [hB', if_pos h]
  have b2 : ∀ b, ¬ (∃ j, b ∈ F' j) → B' b = H b := fun b h => by rw [hB', if_neg h]
  have tx : TupX H B' := fun a xs r => by
    have nm : ¬ ∃ j, a ∈ F' j := fun ⟨j, m⟩ => by
      obtain ⟨_, _, vs, q⟩ := o.own j a (f1 j a m).2
      rcases r with r | ⟨_, r⟩ <;> (rw [q] at r; cases r)
    rcases r with r | ⟨u, r⟩
    · exact .inl (by rw [b2 a nm]; exact r)
    · exact .inr ⟨u, by rw [b2 a nm]; exact r⟩
  have eb : Ext sa B B' := ⟨fun a ob q w => by
    have nm : ¬ ∃ j, a ∈ F' j := fun ⟨j, m⟩ => by
      rw [(o.own j a (f1 j a m).2).1] at q; cases q
    rw [b2 a nm]
    exact ok.base.cell a ob q w, ok.base.tup.trans tx⟩
  have eh : Ext sa B' H := ⟨fun a ob q w => by
    by_cases hm : ∃ j, a ∈ F' j
    · rw [b1 a hm] at q; cases q
    · rw [b2 a hm] at q; exact q, fun a xs r => by
    by_cases hm : ∃ j, a ∈ F' j
    · rcases r with r | ⟨_, r⟩ <;> (rw [b1 a hm] at r; cases r)
    · rcases r with r | ⟨u, r⟩
      · exact .inl (by rw [b2 a hm] at r; exact r)
      · exact .inr ⟨u, by rw [b2 a hm] at r; exact r⟩⟩
  have il : i < δ.length := (List.getElem?_eq_some_iff.mp hd).1
  have ni : ∀ a ∈ F i, B' a = H a := fun a m => b2 a fun ⟨j, mj⟩ => o.apart j i a (f1 j a mj).1 (f1 j a mj).2 m
  refine ⟨B', eb, ⟨eh, by rw [List.length_set]; exact ok.len, ⟨F', fun j sl' h => ?_, fun j => ?_, fun j k a ne m => ?_, fun j a m => ?_⟩, ok.src⟩⟩
  · by_cases hj : j = i
    · subst hj
      rw [List.getElem?_set_self il] at h
      cases h
      obtain ⟨v, h1, h2⟩ := o.rep j _ hd
      refine ⟨v, h1, ?_⟩
      rw [hF', if_pos rfl]
      have key : ∀ {q : Addr} {es : List PyData}, q ∈ F j → LsAt K H q es → BAt K sa B' q es := fun {q es} m ⟨vs, g1, g2, g3, g4⟩ => ⟨vs, .of (by rw [ni q m]; exact g1), (o.own j q m).2.1, tx.dpAll _ _ g3 g2, g3, g4⟩
      cases sl with
      | p d => exact ⟨rfl, h2.2⟩
      | l es =>
        obtain ⟨q, rfl, hF, hl⟩ := h2
        exact ⟨rfl, q, rfl, key (by rw [hF]; simp) hl⟩
      | ll ess =>
        obtain ⟨q, bs, rfl, hF, hl, hr, hz⟩ := h2
        have mq : ∀ z ∈ q :: bs, z ∈ F j := fun z m => by rw [hF]; exact m
        refine ⟨rfl, q, _, rfl, .of (by rw [ni q (mq q List.mem_cons_self)]; exact hl), (o.own j q (mq q List.mem_cons_self)).2.1, ?_, hz⟩
        have sub : ∀ z ∈ bs, z ∈ F j := fun z m => mq z (List.mem_cons_of_mem _ m)
        clear hF mq hl hz hd
        induction bs generalizing ess with
        | nil => cases ess with
          | nil => trivial
          | cons _ _ => exact hr.elim
        | cons z bs ih => cases ess with
          | nil => exact hr.elim
          | cons es ess => exact ⟨⟨z, rfl, key (sub z List.mem_cons_self) hr.1⟩, ih ess hr.2 fun y m => sub y (List.mem_cons_of_mem _ m)⟩
      | b es => obtain ⟨_, q, e, w⟩ := h2; exact ⟨rfl, q, e, w.mono eb⟩
      | bb ess => obtain ⟨_, q, vs, e, w1, w2, w3, w4⟩ := h2; exact ⟨rfl, q, vs, e, eb.sql w2 w1, w2, w3.mono eb, w4⟩
      | src => exact ⟨rfl, h2.2⟩
    · rw [List.getElem?_set_ne (Ne.symm hj)] at h
      obtain ⟨v, h1, h2⟩ := o.rep j sl' h
      exact ⟨v, h1, by rw [hF', if_neg hj]; exact h2.mono eb (TupX.refl _) fun _ _ => rfl⟩
  · rw [hF']
    by_cases hj : j = i
    · rw [if_pos hj]; exact .nil
    · rw [if_neg hj]; exact o.nodup j
  · exact fun z => o.apart j k a ne (f1 j a m).2 (f1 k a z).2
  · obtain ⟨_, w, q⟩ := o.own j a (f1 j a m).2
    exact ⟨b1 a ⟨j, m⟩, w, q⟩
theorem sb_frz (i : Nat) (hd : δ[i]? = some (some sl)) (h : SB X sa (δ.set i (some (frzS sl))) S rest W) : SB X sa δ S rest W := pss_imp h fun D σ H ⟨B, ok, k1, k2⟩ => by
  obtain ⟨B', eb, ok'⟩ := ok.frzAt hd
  exact ⟨B', ok', fun B2 σ' H' δ' S' hw e2 => k1 B2 σ' H' δ' S' hw (eb.trans e2), fun B2 v H' r S' F hw e2 => k2 B2 v H' r S' F hw (eb.trans e2)⟩
theorem Step.frz {δ1 : Env} (i : Nat) (h : Step X sa δ S sm δ1 S1) (hd : δ1[i]? = some (some sl)) : Step X sa δ S sm (δ1.set i (some (frzS sl))) S1 := fun rest W hr => h rest W (sb_frz i hd hr)

/-! ### values get names -/
theorem stepV {Wf : ρ → Spec} {δf : β → Env} (v : β) (M : β → ρ) (G : β → Prop) (h : Step X sa δ S sm (δf v) S1) (hg : G v) (hr : ∀ v, G v → SB X sa (δf v) S1 rest (Wf (M v))) : SB X sa δ S (sm :: rest) (Wf (M v)) := h _ _ (hr v hg)
theorem stepVS {Wf : ρ → Spec} {δf : β → Env} (v : β) (M : β → Src → ρ) (G : β → Src → Prop) (h : Step X sa δ S sm (δf v) S1) (hg : G v S1) (hr : ∀ v S, G v S → SB X sa (δf v) S rest (Wf (M v S))) : SB X sa δ S (sm :: rest) (Wf (M v S1)) := h _ _ (hr v S1 hg)
theorem step0 {Wf : ρ → Spec} {m : ρ} (h : Step X sa δ S sm δ' S1) (hr : SB X sa δ' S1 rest (Wf m)) : SB X sa δ S (sm :: rest) (Wf m) := h _ _ hr
theorem step0S {Wf : ρ → Spec} (M : Src → ρ) (G : Src → Prop) (h : Step X sa δ S sm δ' S1) (hg : G S1) (hr : ∀ S, G S → SB X sa δ' S rest (Wf (M S))) : SB X sa δ S (sm :: rest) (Wf (M S1)) := h _ _ (hr _ hg)
theorem forV {Wf : ρ → Spec} {xs : List α} {itm : α → Itm} (M : ν → ρ) (G : ν → Prop) (nf : ν → Env × Src) (n0 : ν) (P : ν → α → Prop) (δb : ν → α → Env) (f : ν → α → ν) {js : List Nat} (hi : IJ true X sa δ S tg iter (xs.map itm) (nf n0).2) (h0 : Sub (nf n0).1 δ)
    (hg : ∀ n x, TGt X sa (nf n).1 tg (itm x) (δb n x) js) (hb : ∀ n x, P n x → SB X sa (δb n x) (nf n).2 body (WN nf (f n x))) (hP : FG P f xs n0) (hG : G (xs.foldl f n0))
    (hr : ∀ n, G n → SB X sa (nf n).1 (nf n).2 rest (Wf (M n))) (hp : PassesOwn (model X.prog X.w) X.A X.env X.xe := by exact PassesOwn.never) (hc : X.calm = true := by rfl) (hs : ∀ x, foldedSetIterable iter X.env x = pure x := by intro _; rfl) :
    SB X sa δ S (.For tg iter body [] pos :: rest) (Wf (M (xs.foldl f n0))) := sb_for nf n0 P δb f hi h0 hg hb hP (hr _ hG) hp hc hs
theorem forR {xs : List α} {itm : α → Itm} (M : ν → ρ) (G : ν → Prop) (nf : ν → Env × Src) (rf : ρ → Sl × Src) (n0 : ν) (P : ν → α → Prop) (δb : ν → α → Env) (f : ν → α → Except ρ ν) {js : List Nat} (hi : IJ true X sa δ S tg iter (xs.map itm) (nf n0).2) (h0 : Sub (nf n0).1 δ)
    (hg : ∀ n x, TGt X sa (nf n).1 tg (itm x) (δb n x) js) (hb : ∀ n x, P n x → SB X sa (δb n x) (nf n).2 body (WX nf rf (f n x))) (hP : FX P f xs n0) (hG : okX (foldX f xs n0) G)
    (hr : ∀ n, G n → SB X sa (nf n).1 (nf n).2 rest (WR rf (M n))) (hp : PassesOwn (model X.prog X.w) X.A X.env X.xe := by exact PassesOwn.never) (hc : X.calm = true := by rfl) (hs : ∀ x, foldedSetIterable iter X.env x = pure x := by intro _; rfl) :
    SB X sa δ S (.For tg iter body [] pos :: rest) (WR rf (bindX (foldX f xs n0) M)) := sb_forR nf rf n0 P δb f hi h0 hg hb hP (fun n q => hr n (by rw [q] at hG; exact hG)) hp hc hs
theorem forX {xs : List α} {itm : α → Itm} {nf' : μ → Env × Src} (M : ν → Except ρ μ) (G : ν → Prop) (nf : ν → Env × Src) (rf : ρ → Sl × Src) (n0 : ν) (P : ν → α → Prop) (δb : ν → α → Env) (f : ν → α → Except ρ ν) {js : List Nat} (hi : IJ true X sa δ S tg iter (xs.map itm) (nf n0).2) (h0 : Sub (nf n0).1 δ)
    (hg : ∀ n x, TGt X sa (nf n).1 tg (itm x) (δb n x) js) (hb : ∀ n x, P n x → SB X sa (δb n x) (nf n).2 body (WX nf rf (f n x))) (hP : FX P f xs n0) (hG : okX (foldX f xs n0) G)
    (hr : ∀ n, G n → SB X sa (nf n).1 (nf n).2 rest (WX nf' rf (M n))) (hp : PassesOwn (model X.prog X.w) X.A X.env X.xe := by exact PassesOwn.never) (hc : X.calm = true := by rfl) (hs : ∀ x, foldedSetIterable iter X.env x = pure x := by intro _; rfl) :
    SB X sa δ S (.For tg iter body [] pos :: rest) (WX nf' rf (bindXX (foldX f xs n0) M)) := sb_forXX nf rf n0 P δb f hi h0 hg hb hP (fun n q => hr n (by rw [q] at hG; exact hG)) hp hc hs
section
variable {sa1 sa2 : List Stmt} {k : Bool}
theorem ifJ {Wf : ρ → Spec} {nf : ν → Env × Src} {x y : ν} (M : ν → ρ) (G : ν → Prop) (hc : ET X sa δ S c k S1) (ha : k = true → SB X sa δ S1 sa1 (WN nf x)) (hb : k = false → SB X sa δ S1 sa2 (WN nf y)) (hG : G (if k = true then x else y))
    (hr : ∀ n, G n → SB X sa (nf n).1 (nf n).2 rest (Wf (M n))) : SB X sa δ S (.If c sa1 sa2 pos :: rest) (Wf (M (if k = true then x else y))) := sb_ifJ hc ha hb (hr _ hG)
theorem sb_ifXg {nf : ν → Env × Src} {rf : ρ → Sl × Src} {x y : Except ρ ν} (hc : ET X sa δ S c k S1) (ha : k = true → SB X sa δ S1 sa1 (WX nf rf x)) (hb : k = false → SB X sa δ S1 sa2 (WX nf rf y))
    (hrt : ∀ r sl s, (if k = true then x else y) = .error r → rf r = (sl, s) → W.rt sl s)
    (hr : ∀ n, (if k = true then x else y) = .ok n → SB X sa (nf n).1 (nf n).2 rest W) : SB X sa δ S (.If c sa1 sa2 pos :: rest) W := by
  have rest' : ∀ o : Except ρ ν, o = (if k = true then x else y) → PSs X rest (fun D σ H => ∃ n, o = .ok n ∧ tSB X.K sa (nf n).1 (nf n).2 W D σ H) := fun o ho => pss_ex (P := fun n => o = .ok n) fun n q => hr n (ho.symm.trans q)
  cases k with
  | true =>
    refine pss_imp (pss_cons (ps_if hc (ha rfl) (pss_never (sts := sa2))) (rest' x rfl)) fun D σ H ⟨B, ok, k1, k2⟩ => ⟨B, ok, fun H1 ok1 e1 => iteT ⟨B, ok1, fun B' σ' H' δ' S' hw eb ok' => ?_, fun B' v H' r S' F hw eb eh hs hres hrep hnd hfr => ?_⟩⟩
    · obtain ⟨n, q1, q2⟩ := hw
      exact ⟨n, q1, B', by rw [q2]; exact ok', fun B3 σ3 H3 δ3 S3 hw e3 => k1 B3 σ3 H3 δ3 S3 hw (eb.trans e3), fun B3 v H3 r S3 F hw e3 => k2 B3 v H3 r S3 F hw (eb.trans e3)⟩
    · obtain ⟨r', q1, q2⟩ := hw
      exact k2 B' v H' r S' F (hrt r' _ _ q1 q2) eb eh hs hres hrep hnd hfr
  | false =>
    refine pss_imp (pss_cons (ps_if hc (pss_never (sts := sa1)) (hb rfl)) (rest' y rfl)) fun D σ H ⟨B, ok, k1, k2⟩ => ⟨B, ok, fun H1 ok1 e1 => iteF ⟨B, ok1, fun B' σ' H' δ' S' hw eb ok' => ?_, fun B' v H' r S' F hw eb eh hs hres hrep hnd hfr => ?_⟩⟩
    · obtain ⟨n, q1, q2⟩ := hw
      exact ⟨n, q1, B', by rw [q2]; exact ok', fun B3 σ3 H3 δ3 S3 hw e3 => k1 B3 σ3 H3 δ3 S3 hw (eb.trans e3), fun B3 v H3 r S3 F hw e3 => k2 B3 v H3 r S3 F hw (eb.trans e3)⟩
    · obtain ⟨r', q1, q2⟩ := hw
      exact k2 B' v H' r S' F (hrt r' _ _ q1 q2) eb eh hs hres hrep hnd hfr
theorem ifR {nf : ν → Env × Src} {rf : ρ → Sl × Src} {x y : Except ρ ν} (M : ν → ρ) (G : ν → Prop) (hc : ET X sa δ S c k S1) (ha : k = true → SB X sa δ S1 sa1 (WX nf rf x)) (hb : k = false → SB X sa δ S1 sa2 (WX nf rf y)) (hG : okX (if k = true then x else y) G)
    (hr : ∀ n, G n → SB X sa (nf n).1 (nf n).2 rest (WR rf (M n))) : SB X sa δ S (.If c sa1 sa2 pos :: rest) (WR rf (bindX (if k = true then x else y) M)) :=
  sb_ifXg hc ha hb (fun r sl s q1 q2 => by show rf (bindX _ _) = _; rw [q1]; exact q2) (fun n q => by rw [q]; exact hr n (by rw [q] at hG; exact hG))
theorem ifX {nf : ν → Env × Src} {nf' : μ → Env × Src} {rf : ρ → Sl × Src} {x y : Except ρ ν} (M : ν → Except ρ μ) (G : ν → Prop) (hc : ET X sa δ S c k S1) (ha : k = true → SB X sa δ S1 sa1 (WX nf rf x)) (hb : k = false → SB X sa δ S1 sa2 (WX nf rf y)) (hG : okX (if k = true then x else y) G)
    (hr : ∀ n, G n → SB X sa (nf n).1 (nf n).2 rest (WX nf' rf (M n))) : SB X sa δ S (.If c sa1 sa2 pos :: rest) (WX nf' rf (bindXX (if k = true then x else y) M)) :=
  sb_ifXg hc ha hb (fun r sl s q1 q2 => by rw [q1]; exact ⟨r, rfl, q2⟩) (fun n q => by rw [q]; exact hr n (by rw [q] at hG; exact hG))
end

/-! ### casts -/
theorem ev_cast [Enc α] [Enc β] {x : α} {y : β} (h : enc x = enc y) (he : EG st X sa δ S e (.p (enc x)) S') : EG st X sa δ S e (.p (enc y)) S' := h ▸ he
theorem ev_castB [Enc α] [Enc β] {x : List α} {y : List β} (h : encs x = encs y) (he : EG st X sa δ S e (.b (encs x)) S') : EG st X sa δ S e (.b (encs y)) S' := h ▸ he
theorem el_cast [Enc α] [Enc β] {x : List α} {y : List β} (h : encs x = encs y) (he : EL X sa δ S e (encs x) S') : EL X sa δ S e (encs y) S' := h ▸ he
theorem enc_opt [Enc α] [Inhabited α] {o : Option α} (h : o.isSome = true) : enc o = enc (o.getD default) := by
  cases o with
  | none => cases h
  | some x => rfl
theorem encs_map [Enc α] [Enc β] {xs : List α} {f : α → β} (h : ∀ x ∈ xs, enc x = enc (f x)) : encs xs = encs (xs.map f) := by
  show xs.map enc = (xs.map f).map enc
  rw [List.map_map]
  exact List.map_congr_left h
theorem enc_map [Enc α] [Enc β] {xs : List α} {f : α → β} (h : ∀ x ∈ xs, enc x = enc (f x)) : enc xs = enc (xs.map f) := congrArg PyData.tuple (encs_map h)
theorem enc_s1 [Enc α] [Inhabited α] {xs : List α} (h : xs.length = 1) : enc xs = enc (T1.mk (getI xs 0)) := by
  match xs, h with
  | [a], _ => rfl
theorem enc_s2 [Enc α] [Inhabited α] {xs : List α} (h : xs.length = 2) : enc xs = enc (getI xs 0, getI xs 1) := by
  match xs, h with
  | [a, b], _ => rfl
theorem enc_s3 [Enc α] [Inhabited α] {xs : List α} (h : xs.length = 3) : enc xs = enc (T3.mk (getI xs 0) (getI xs 1) (getI xs 2)) := by
  match xs, h with
  | [a, b, c], _ => rfl
theorem enc_s4 [Enc α] [Inhabited α] {xs : List α} (h : xs.length = 4) : enc xs = enc (T4.mk (getI xs 0) (getI xs 1) (getI xs 2) (getI xs 3)) := by
  match xs, h with
  | [a, b, c, d], _ => rfl
theorem enc_t2 {α' β' : Type} [Enc α] [Enc β] [Enc α'] [Enc β'] {x : α × β} {f : α → α'} {g : β → β'} (h1 : enc x.1 = enc (f x.1)) (h2 : enc x.2 = enc (g x.2)) : enc x = enc (f x.1, g x.2) := by
  show PyData.tuple [enc x.1, enc x.2] = PyData.tuple [enc (f x.1), enc (g x.2)]
  rw [h1, h2]

/-! ### blocks -/
def blkB (N : List Str) (sc scope : Scope) (own : List (Str × Nat)) : Bool :=
  (match scope.kind with | .function => true | _ => false) && scope.names.all (fun y => decide (scope.names.lookup y.1 = some y.2)) && own.all (fun q => decide (N[q.2]? = some q.1))
    && scope.names.all (fun y => decide (y.2 = .free → sc.names.lookup y.1 = some .cell ∨ sc.names.lookup y.1 = some .free))
    && scope.names.all (fun y => decide (y.2 = .local ∨ y.2 = .cell → y.1 ∈ own.map (·.1) ∨ y.1 ∉ N))
theorem blk_of {N : List Str} {sc scope : Scope} {own : List (Str × Nat)} (h : blkB N sc scope own = true) : BlkOk N sc scope own := by
  unfold blkB at h
  simp only [Bool.and_eq_true, List.all_eq_true, decide_eq_true_eq] at h
  obtain ⟨⟨⟨⟨h1, h2⟩, h3⟩, h4⟩, h5⟩ := h
  refine ⟨?_, h2, h3, h4, h5⟩
  cases q : scope.kind <;> rw [q] at h1 <;> first | rfl | cases h1

/-! ### stores by types -/
theorem encs_snoc [Enc β] (xs : List β) (v : β) : encs xs ++ [enc v] = encs (xs ++ [v]) := by
  show xs.map enc ++ [enc v] = (xs ++ [v]).map enc
  rw [List.map_append]; rfl
theorem encs_app [Enc β] (xs ys : List β) : encs xs ++ encs ys = encs (xs ++ ys) := (List.map_append ..).symm
def SzOk (n : Int) : Prop := n < 16777216
theorem st_app [Enc β] {x : Str} {xs : List β} {v : β} {p1 p2 p3 p4 : Pos} (hd : δ[i]? = some (some (.l (encs xs)))) (hv : PE X (.Name x p1) (tVar i)) (he : EE X sa δ S e (.p (enc v)) S1) (hz : xs.length < 16777216)
    (hpe : ∀ {to : TE} {t : TA}, PE X (.Name x p1) to → PA X [e] t → PE X (.Call (.Attribute (.Name x p1) "append" p2) [e] [] p3) (tBM X.K "list" rAppend to t)) (hs : starEach [e] X.env = [(false, eval e X.env)] := by rfl) : Step X sa δ S (.Expr (.Call (.Attribute (.Name x p1) "append" p2) [e] [] p3) p4) (δ.set i (some (.l (encs (xs ++ [v]))))) S1 := fun rest W hr =>
  sb_append hd hv he (by rw [List.length_map]; exact hz) (by rw [encs_snoc]; exact hr) (fun h => ps_expr h) hpe hs
theorem st_ext [Enc β] {x : Str} {xs ys : List β} {p1 p2 p3 p4 : Pos} (hd : δ[i]? = some (some (.l (encs xs)))) (hv : PE X (.Name x p1) (tVar i)) (he : EL X sa δ S e (encs ys) S1) (hz : xs.length + ys.length ≤ 16777216)
    (hpe : ∀ {to : TE} {t : TA}, PE X (.Name x p1) to → PA X [e] t → PE X (.Call (.Attribute (.Name x p1) "extend" p2) [e] [] p3) (tBM X.K "list" rExtend to t)) (hs : starEach [e] X.env = [(false, eval e X.env)] := by rfl) : Step X sa δ S (.Expr (.Call (.Attribute (.Name x p1) "extend" p2) [e] [] p3) p4) (δ.set i (some (.l (encs (xs ++ ys))))) S1 := fun rest W hr =>
  sb_extend hd hv he (by rw [List.length_map, List.length_map]; exact hz) (by rw [encs_app]; exact hr) (fun h => ps_expr h) hpe hs
theorem encs_setAt [Enc β] (xs : List β) (j : Int) (y : β) : setAt (encs xs) j (enc y) = encs (setAt xs j y) := setAt_map enc xs j y
theorem encss_setAt2 [Enc β] (xss : List (List β)) (u v : Int) (y : β) : setAt2 (encss xss) u v (enc y) = encss (setAt2 xss u v y) := setAt2_map enc xss u v y
theorem inB_map (f : α → β) {xs : List α} {i : Int} (h : InB xs i) : InB (xs.map f) i := by
  unfold InB at h ⊢
  rw [List.length_map]; exact h
theorem inB2_map [Enc β] {xss : List (List β)} {u v : Int} (h : InB2 xss u v) : InB2 (encss xss) u v := ⟨inB_map _ h.1, fun xs q => by
  rw [atI_map] at q
  cases z : L2.atI xss u with
  | none => rw [z] at q; cases q
  | some ys => rw [z] at q; cases q; exact inB_map _ (h.2 ys z)⟩
/-- x[j] = v -/
theorem st_sto [Enc β] {x : Str} {xs : List β} {v : β} {j : Int} {ix : Expr} {p1 p2 p3 : Pos} (hd : δ[i]? = some (some (.l (encs xs)))) (hv : PE X (.Name x p1) (tVar i)) (he : EE X sa δ S e (.p (enc v)) S1) (hx : EE X sa δ S1 ix (.p (.int j)) S2) (hj : InB xs j)
    (hps : ∀ {te to ti : TE}, PE X e te → PE X (.Name x p1) to → PE X ix ti → PS X (.Assign [.Subscript (.Name x p1) ix p2] e p3) (tAsg te (gSub to ti rSetL))) : Step X sa δ S (.Assign [.Subscript (.Name x p1) ix p2] e p3) (δ.set i (some (.l (encs (setAt xs j v))))) S2 := fun rest W hr =>
  sb_store hd hv he hx (inB_map _ hj) (by rw [encs_setAt]; exact hr) hps
/-- rows[u][v] = w -/
theorem st_sto2 [Enc β] {tge : Expr} {xss : List (List β)} {w : β} {u v : Int} {p3 : Pos} (ht : PG X tge (tRow X.K sa δ S1 i (encss xss) (enc w) u v)) (he : EE X sa δ S e (.p (enc w)) S1)
    (hps : ∀ {te : TE} {g : TG}, PE X e te → PG X tge g → PS X (.Assign [tge] e p3) (tAsg te g)) : Step X sa δ S (.Assign [tge] e p3) (δ.set i (some (.ll (encss (setAt2 xss u v w))))) S1 := fun rest W hr =>
  sb_store2 ht he (by rw [encss_setAt2]; exact hr) hps
/-- a row's place as a target -/
theorem tg_rowT [Enc β] {x : Str} {xss : List (List β)} {w : β} {u v : Int} {eu ev : Expr} {p1 p2 : Pos} (hd : δ[i]? = some (some (.ll (encss xss)))) (hv : PE X (.Name x p1) (tVar i)) (hu : EE X sa δ S eu (.p (.int u)) S) (hvv : EE X sa δ S ev (.p (.int v)) S) (hj : InB2 xss u v)
    (hpu : PlainIx eu := by exact fun _ _ => rfl)
    (hpg : ∀ {to ti : TE} {t : TSet}, PE X (.Subscript (.Name x p1) eu p2) to → PE X ev ti → PSet X t → PG X (.Subscript (.Subscript (.Name x p1) eu p2) ev p) (gSub to ti t)) : PG X (.Subscript (.Subscript (.Name x p1) eu p2) ev p) (tRow X.K sa δ S i (encss xss) (enc w) u v) := tg_row hd hv hu hvv (inB2_map hj) hpu hpg
/-- rows[u][v], rows[u2][v2] = a pair -/
theorem st_sto22 [Enc β] {t1 t2 : Expr} {xss : List (List β)} {w w2 : β} {u v u2 v2 : Int} (hc : X.calm = true) (he : EE X sa δ S e (.p (enc (w, w2))) S1) (h1 : PG X t1 (tRow X.K sa δ S1 i (encss xss) (enc w) u v))
    (h2 : PG X t2 (tRow X.K sa (δ.set i (some (.ll (encss (setAt2 xss u v w))))) S1 i (encss (setAt2 xss u v w)) (enc w2) u2 v2))
    (hs : swapsWithSole [.Tuple [t1, t2] kk p] e pos.line X.env = pure false := by rfl) (hw : swappedStores [.Tuple [t1, t2] kk p] e X.env = pure none := by rfl) (ha : (assignEach [.Tuple [t1, t2] kk p] X.env).map (·.2) = [assign (.Tuple [t1, t2] kk p) X.env] := by rfl)
    (hs1 : (assignEach [t1, t2] X.env).map (·.2) = assign t1 X.env :: (assignEach [t2] X.env).map (·.2) := by rfl) (hs2 : (assignEach [t2] X.env).map (·.2) = assign t2 X.env :: (assignEach [] X.env).map (·.2) := by rfl)
    (hn : (assignEach [t1, t2] X.env).length = 2 := by rfl) (hst : (assignEach [t1, t2] X.env).findIdx? (·.1) = none := by rfl) :
    Step X sa δ S (.Assign [.Tuple [t1, t2] kk p] e pos) ((δ.set i (some (.ll (encss (setAt2 xss u v w))))).set i (some (.ll (encss (setAt2 (setAt2 xss u v w) u2 v2 w2))))) S1 := fun rest W hr =>
  sb_seq (ps_asg he (pg_tup hc (pgs_cons h1 (pgs_cons h2 pgs_nil hs2) hs1) hn hst) hs hw ha) hr fun D σ H B ok k => ⟨B, ok, fun z H1 B1 ok1 e1 b1 r1 => by
    obtain rfl : B1 = H1 := b1
    obtain ⟨a, xs, rfl, hq, hd, hp, _⟩ := dpt r1
    cases hd with
    | cons d1 t =>
      cases t with
      | cons d2 t =>
        cases t
        refine ⟨a, _, rfl, hq, rfl, _, _, rfl, B, ok1, d1, hp.1, fun H2 ok2 tx => ⟨_, _, rfl, B, ?_, tx.dp _ _ hp.2.1 d2, hp.2.1, fun H3 ok3 tx3 => ⟨rfl, k B σ H3 (.refl _ _) ?_⟩⟩⟩
        · rw [encss_setAt2] at ok2; exact ok2
        · rw [encss_setAt2] at ok3; exact ok3⟩
end
end L2.Ev

set_option Elab.async false
set_option linter.all false
set_option maxRecDepth 100000
/-! Ev12: the start of a def's proof; small rules that the generator names. -/
namespace L2.Ev
open PySem PySem.Spec PyProof.Rows
section
variable {X : Cx} {sa : SA} {δ δ' : Env} {S S0 S1 S2 S' : Src} {st : Bool} {e a b c d' tg iter elt e1 e2 e3 : Expr} {es : List Expr} {pos p pos' tpos : Pos} {elts : List Expr} {kk : Nat} {K : PySem.W.Frag} {B B' H H' : Hp} {σ : L2.St} {rest body sts : List Stmt} {W : Spec} {sm : Stmt}
variable {α β γ ρ ν μ : Type} {i j : Nat} {d : PyData} {ds : List PyData} {dss : List (List PyData)} {sl sl1 sl2 sl3 r : Sl}
theorem SB.start {rf : ρ → Sl × Src} {m : ρ} (he : δ = δ') (hm : rf m = (r, S')) (h : SB X sa δ' S sts (WR rf m)) : SB X sa δ S sts ⟨fun _ S'' => r = .p .none ∧ S'' = S', fun r' S'' => r' = r ∧ S'' = S'⟩ := by
  subst he
  refine pss_imp h fun D σ H ⟨B, ok, k1, k2⟩ => ⟨B, ok, fun _ _ _ _ _ hf => hf.elim, fun B' v H' r' S'' F hw => k2 B' v H' r' S'' F ?_⟩
  have hw' : rf m = (r', S'') := hw
  rw [hm] at hw'
  cases hw'
  exact ⟨rfl, rfl⟩
def itP1 [Enc α] (x : α) : Itm := .one (.p (enc x))
def itB1 [Enc α] (x : List α) : Itm := .one (.b (encs x))
theorem _root_.L2.Room.un64 {k : Nat} {A : Around} (r : Room k A) (h : 0 ≤ k) : A.units + 64 < cLine := r.units
theorem _root_.L2.Room.un65 {k : Nat} {A : Around} (r : Room k A) (h : 0 ≤ k) : A.units + 65 < cLine := by have := r.un; omega
theorem enc_p2 {α' β' : Type} [Enc α] [Enc β] [Enc α'] [Enc β'] {a : α} {b : β} {a' : α'} {b' : β'} (h1 : enc a = enc a') (h2 : enc b = enc b') : enc (a, b) = enc (a', b') := by
  show PyData.tuple [enc a, enc b] = PyData.tuple [enc a', enc b']
  rw [h1, h2]
theorem enc_p3 {α' β' γ' : Type} [Enc α] [Enc β] [Enc γ] [Enc α'] [Enc β'] [Enc γ'] {a : α} {b : β} {c : γ} {a' : α'} {b' : β'} {c' : γ'} (h1 : enc a = enc a') (h2 : enc b = enc b') (h3 : enc c = enc c') : enc (T3.mk a b c) = enc (T3.mk a' b' c') := by
  show PyData.tuple [enc a, enc b, enc c] = PyData.tuple [enc a', enc b', enc c']
  rw [h1, h2, h3]
end
end L2.Ev

set_option Elab.async false
set_option linter.all false
set_option maxRecDepth 100000
/-! Ev13: more operators: * and + and slices of tuples, lists; is, in; repr; unpacking. -/
namespace L2.Ev
open PySem PySem.Spec PyProof.Rows
section
variable {X : Cx} {sa : SA} {δ δ' : Env} {S S0 S1 S2 S3 S' : Src} {st : Bool} {e a b c d' tg iter elt e1 e2 e3 : Expr} {es : List Expr} {pos p pos' tpos : Pos} {elts : List Expr} {kk : Nat} {K : PySem.W.Frag} {B B' H H' : Hp} {σ : L2.St} {rest body sts : List Stmt} {W : Spec} {sm : Stmt}
variable {α β γ ρ ν μ : Type} {i j : Nat} {d : PyData} {ds : List PyData} {dss : List (List PyData)} {sl sl1 sl2 sl3 r : Sl}
/-! ### [..] * k, + -/
theorem el_repT [Enc β] {xs : List β} {k : Int} (hz : RepOk xs.length k) (ha : EL X sa δ S a (encs xs) S1) (hb : EE X sa δ S1 b (.p (.int k)) S2) : EL X sa δ S (.BinOp a .Mult b pos) (encs (repL k xs)) S2 := by
  have h := el_rep (pos := pos) (xs := encs xs) (by rw [List.length_map]; exact hz) ha hb
  rw [show encs (repL k xs) = repL k (encs xs) from (repL_map enc k xs).symm]
  exact h
/-- a list, its own cell -/
def tEC (K : PySem.W.Frag) (sa : SA) (δ : Env) (S : Src) (ds : List PyData) (S' : Src) : TE := fun σ H Q =>
  ∃ B, Ok K sa B H σ δ S ∧ ∀ p H', Ok K sa B H' σ δ S' → Ext sa H H' → LsAt K H' p ds → Away sa p → Q (.ref p) H'
def EC (X : Cx) (sa : SA) (δ : Env) (S : Src) (e : Expr) (ds : List PyData) (S' : Src) : Prop := PE X e (tEC X.K sa δ S ds S')
theorem ec_new (h : EL X sa δ S e ds S') : EC X sa δ S e ds S' := pe_imp h fun σ H Q ⟨B, ok, k⟩ => ⟨B, ok, fun p H' hp ok' e' hl => k p H' ok' e' hl (ok.away hp)⟩
theorem ec_var (i : Nat) {x : Str} (hd : δ[i]? = some (some (.l ds))) (hv : PE X (.Name x pos) (tVar i)) : EC X sa δ S (.Name x pos) ds S := pe_imp hv fun σ H Q ⟨B, ok, k⟩ => by
  obtain ⟨l, vs, h1, h2, h3, h4, h5, h6⟩ := own_at ok hd
  exact ⟨.ref l, h1, k l H ok (.refl _ _) ⟨vs, h2, h3, h4, h5⟩ h6⟩
theorem el_catB [Enc β] {xs ys : List β} (hz : (xs.length : Int) + (ys.length : Int) ≤ 16777216) (ha : EC X sa δ S a (encs xs) S1) (hb : EC X sa δ S1 b (encs ys) S2) : EL X sa δ S (.BinOp a .Add b pos) (encs (xs ++ ys)) S2 := pe_imp (pe_op op_cat ha hb) fun σ H Q ⟨B, ok, k⟩ => ⟨B, ok, fun l H1 ok1 e1 q1 a1 => ⟨B, ok1, fun m H2 ok2 e2 q2 a2 => by
    obtain ⟨vs, g1, g3, g4, g5⟩ := q1
    obtain ⟨ws, f1, f3, f4, f5⟩ := q2
    have hl : (encs xs).length + (encs ys).length ≤ sizeLine := by rw [List.length_map, List.length_map, sizeLine_eq]; omega
    refine ⟨l, m, vs, ws, rfl, rfl, e2.cell l _ g1 a1, f1, by rw [g3.length, f3.length]; exact hl, fun q hq => ?_⟩
    have ex : Ext sa H2 (upd H2 q (.lst (vs ++ ws))) := .new hq
    refine k q _ ((e1.trans e2).none_of ok2 hq) (ok2.new hq) ((e1.trans e2).trans ex) ⟨_, upd_same, ?_, ?_, ?_⟩
    · rw [← encs_app]; exact ex.tup.dpAll _ _ (g4.append f4) (DpAll.append (e2.tup.dpAll _ _ g4 g3) f3)
    · rw [← encs_app]; exact g4.append f4
    · rw [← encs_app, List.length_append]; exact hl⟩⟩
theorem ev_catT [Enc β] {xs ys : List β} (hz : (xs.length : Int) + (ys.length : Int) ≤ 16777216) (ha : EE X sa δ S a (.p (enc xs)) S1) (hb : EE X sa δ S1 b (.p (enc ys)) S2) : EG st X sa δ S (.BinOp a .Add b pos) (.p (enc (xs ++ ys))) S2 := pe_imp (pe_op op_catA ha hb) fun σ H Q ⟨B, ok, k⟩ => ⟨B, ok, fun v H1 B1 ok1 e1 b1 r1 => ⟨B, ok1, fun u H2 B2 ok2 e2 b2 r2 => by
    obtain rfl : B1 = H1 := b1
    obtain rfl : B2 = H2 := b2
    have r1' := r1.ext e2
    obtain ⟨l, vs, rfl, g1, g2, g3, g4⟩ := dpt r1'
    obtain ⟨m, ws, rfl, f1, f2, f3, f4⟩ := dpt r2
    have hl : (encs xs).length + (encs ys).length ≤ sizeLine := by rw [List.length_map, List.length_map, sizeLine_eq]; omega
    have lv : vs.length = xs.length := by rw [g2.length, List.length_map]
    have lw : ws.length = ys.length := by rw [f2.length, List.length_map]
    refine ⟨l, m, vs, ws, rfl, rfl, g1, f1, by rw [g2.length, f2.length]; exact hl, fun h0 => ?_, fun _ h0 => ?_, fun _ _ q hq => ?_⟩
    · obtain rfl : xs = [] := List.eq_nil_of_length_eq_zero (by rw [← lv, h0]; rfl)
      exact give_p ok (e1.trans e2) ok2.src r2.2.1 r2.2.2 fun B' ok' b r => k _ _ B' ok' (e1.trans e2) b r
    · obtain rfl : ys = [] := List.eq_nil_of_length_eq_zero (by rw [← lw, h0]; rfl)
      rw [List.append_nil] at k
      exact give_p ok (e1.trans e2) ok2.src r1'.2.1 r1'.2.2 fun B' ok' b r => k _ _ B' ok' (e1.trans e2) b r
    · have ex : Ext sa B2 (upd B2 q (.tup (vs ++ ws))) := .new hq
      refine give_p (v := .ref q) (d := .tuple (encs (xs ++ ys))) ok ((e1.trans e2).trans ex) (ok2.src.same (same_new hq)) (.tup (.of upd_same) ?_) ⟨?_, ?_⟩ fun B' ok' bb r => k _ _ B' ok' ((e1.trans e2).trans ex) bb r
      · rw [← encs_app]; exact ex.tup.dpAll _ _ (g3.append f3) (DpAll.append g2 f2)
      · rw [← encs_app, List.length_append]; exact hl
      · rw [← encs_app]; exact g3.append f3⟩⟩
/-! ### slices -/
def cutL {α : Type} (xs : List α) (lo hi : Option Int) : List α := (xs.drop (HT.sIx xs.length 0 lo)).take (HT.sIx xs.length xs.length hi - HT.sIx xs.length 0 lo)
theorem cutL_map {α β : Type} (f : α → β) (xs : List α) (lo hi : Option Int) : cutL (xs.map f) lo hi = (cutL xs lo hi).map f := by
  unfold cutL
  rw [List.length_map, ← List.map_drop, ← List.map_take]
theorem DpAll.cut {vs : List V} {ds : List PyData} (h : DpAll K H vs ds) (lo hi : Option Int) : DpAll K H (cutV vs lo hi) (cutL ds lo hi) := by
  unfold cutV cutL
  rw [h.length]
  exact (h.drop _).take _
theorem PuAll.cut {ds : List PyData} (h : PuAll ds) (lo hi : Option Int) : PuAll (cutL ds lo hi) := h.sub fun d m => List.mem_of_mem_drop (List.mem_of_mem_take m)
theorem cutL_length {α : Type} (xs : List α) (lo hi : Option Int) : (cutL xs lo hi).length ≤ xs.length := by
  unfold cutL
  rw [List.length_take, List.length_drop]; omega
def tEP (K : PySem.W.Frag) (sa : SA) (δ : Env) (S : Src) (o : Option Int) (S' : Src) : TO := fun σ H Q => ∃ B, Ok K sa B H σ δ S ∧ ∀ H', Ok K sa B H' σ δ S' → Ext sa H H' → Q o H'
def EP (X : Cx) (sa : SA) (δ : Env) (S : Src) (e : Option Expr) (o : Option Int) (S' : Src) : Prop := PO X e (tEP X.K sa δ S o S')
theorem po_imp {e : Option Expr} {t t' : TO} (h : PO X e t) (m : ∀ σ H Q, t' σ H Q → t σ H Q) : PO X e t' := ⟨fun pins s σ H Q I q => h.run pins s σ H Q I (m σ H Q q)⟩
theorem ep_none : EP X sa δ S none none S := po_imp po_none fun σ H Q ⟨B, ok, k⟩ => k H ok (.refl _ _)
theorem ep_some {i : Int} (h : EE X sa δ S e (.p (.int i)) S') : EP X sa δ S (some e) (some i) S' := po_imp (po_some h) fun σ H Q ⟨B, ok, k⟩ => ⟨B, ok, fun v H1 B1 ok1 e1 b1 r1 => ⟨i, by
  obtain rfl : B1 = H1 := b1
  exact dpi r1, k _ ok1 e1⟩⟩
theorem ev_slT [Enc β] {xs : List β} {lo hi : Option Expr} {l h : Option Int} {p2 : Pos} (ha : EE X sa δ S a (.p (enc xs)) S1) (hl : EP X sa δ S1 lo l S2) (hh : EP X sa δ S2 hi h S3) : EG st X sa δ S (.Subscript a (.Slice lo hi none p2) pos) (.p (enc (cutL xs l h))) S3 :=
  pe_imp (pe_slice sl_tupA ha hl hh) fun σ H Q ⟨B, ok, k⟩ => ⟨B, ok, fun v H1 B1 ok1 e1 b1 r1 => ⟨B, ok1, fun H2 ok2 e2 => ⟨B, ok2, fun H3 ok3 e3 => by
    obtain rfl : B1 = H1 := b1
    have r1' := r1.ext (e2.trans e3)
    obtain ⟨q, vs, rfl, g1, g2, g3, g4⟩ := dpt r1'
    have lv : vs.length = xs.length := by rw [g2.length, List.length_map]
    have ex0 := e1.trans (e2.trans e3)
    refine ⟨q, vs, rfl, g1, fun hw => ?_, fun _ z hz => ?_⟩
    · have : cutL xs l h = xs := by
        unfold cutL
        rw [lv] at hw
        rw [hw.1, hw.2, List.drop_zero, Nat.sub_zero, List.take_length]
      rw [this] at k
      exact give_p ok ex0 ok3.src r1'.2.1 r1'.2.2 fun B' ok' b r => k _ _ B' ok' ex0 b r
    · have ex : Ext sa H3 (upd H3 z (.tup (cutV vs l h))) := .new hz
      have en : encs (cutL xs l h) = cutL (encs xs) l h := (cutL_map enc xs l h).symm
      refine give_p (v := .ref z) (d := .tuple (encs (cutL xs l h))) ok (ex0.trans ex) (ok3.src.same (same_new hz)) (.tup (.of upd_same) ?_) ⟨?_, ?_⟩ fun B' ok' bb r => k _ _ B' ok' (ex0.trans ex) bb r
      · rw [en]; exact ex.tup.dpAll _ _ (g3.cut l h) (DpAll.cut g2 l h)
      · rw [en]; exact Nat.le_trans (cutL_length _ _ _) g4
      · rw [en]; exact g3.cut l h⟩⟩⟩
theorem el_slL [Enc β] {xs : List β} {lo hi : Option Expr} {l h : Option Int} {p2 : Pos} (ha : EE X sa δ S a (.b (encs xs)) S1) (hl : EP X sa δ S1 lo l S2) (hh : EP X sa δ S2 hi h S3) : EL X sa δ S (.Subscript a (.Slice lo hi none p2) pos) (encs (cutL xs l h)) S3 :=
  pe_imp (pe_slice sl_list ha hl hh) fun σ H Q ⟨B, ok, k⟩ => ⟨B, ok, fun v H1 B1 ok1 e1 b1 r1 => ⟨B, ok1, fun H2 ok2 e2 => ⟨B, ok2, fun H3 ok3 e3 => by
    obtain rfl : B1 = H1 := b1
    obtain ⟨_, q, rfl, vs, g1, g2, g3, g4, g5⟩ := r1.ext (e2.trans e3)
    have ex0 := e1.trans (e2.trans e3)
    refine ⟨q, vs, rfl, g1, fun z hz => ?_⟩
    have ex : Ext sa H3 (upd H3 z (.lst (cutV vs l h))) := .new hz
    have en : encs (cutL xs l h) = cutL (encs xs) l h := (cutL_map enc xs l h).symm
    refine k z _ (ex0.none_of ok3 hz) (ok3.new hz) (ex0.trans ex) ⟨_, upd_same, ?_, ?_, ?_⟩
    · rw [en]; exact ex.tup.dpAll _ _ (g4.cut l h) (DpAll.cut g3 l h)
    · rw [en]; exact g4.cut l h
    · rw [en]; exact Nat.le_trans (cutL_length _ _ _) g5⟩⟩⟩
theorem DpAll.rev' {vs : List V} {ds : List PyData} (h : DpAll K H vs ds) : DpAll K H vs.reverse ds.reverse := h.rev
/-- xs[::-1] of a list -/
theorem el_revL [Enc β] {xs : List β} {k : Nat} {p1 p2 p3 : Pos} (ha : EE X sa δ S a (.b (encs xs)) S1) : EL X sa δ S (.Subscript a (.Slice none none (some (.UnaryOp .USub (.Constant (.int 1) k p1) p2)) p3) pos) (encs xs.reverse) S1 :=
  pe_imp (pe_revL ha) fun σ H Q ⟨B, ok, kk⟩ => ⟨B, ok, fun v H1 B1 ok1 e1 b1 r1 => by
    obtain rfl : B1 = H1 := b1
    obtain ⟨_, q, rfl, vs, g1, g2, g3, g4, g5⟩ := r1
    refine ⟨q, vs, rfl, g1, fun z hz => ?_⟩
    have ex : Ext sa B1 (upd B1 z (.lst vs.reverse)) := .new hz
    have en : encs xs.reverse = (encs xs).reverse := List.map_reverse
    refine kk z _ (e1.none_of ok1 hz) (ok1.new hz) (e1.trans ex) ⟨_, upd_same, ?_, ?_, ?_⟩
    · rw [en]; exact ex.tup.dpAll _ _ (g4.sub fun d m => List.mem_reverse.mp m) g3.rev
    · rw [en]; exact g4.sub fun d m => List.mem_reverse.mp m
    · rw [en, List.length_reverse]; exact g5⟩

/-! ### is, in -/
theorem rc_isNO [Enc α] {o : Option α} (hn : ∀ x : α, enc x ≠ .none) : RC K sa (fun x y H Q => y = .non ∧ Q (.bl (decide (x = .non))) H) (.p (enc o)) (.p (enc ())) o.isNone := by
  have h := rc_isN (K := K) (sa := sa) (d := enc o)
  cases o with
  | none => exact h
  | some x =>
    have z := hn x
    cases q : enc x with
    | none => exact absurd q z
    | _ => simp only [show enc (some x) = enc x from rfl, q] at h ⊢; exact h
theorem rc_notNO [Enc α] {o : Option α} (hn : ∀ x : α, enc x ≠ .none) : RC K sa (fun x y H Q => y = .non ∧ Q (.bl (!decide (x = .non))) H) (.p (enc o)) (.p (enc ())) o.isSome := by
  have h := rc_notN (K := K) (sa := sa) (d := enc o)
  cases o with
  | none => exact h
  | some x =>
    have z := hn x
    cases q : enc x with
    | none => exact absurd q z
    | _ => simp only [show enc (some x) = enc x from rfl, q] at h ⊢; exact h
theorem rc_isBl {x y : Bool} : RC K sa rIsB (.p (.bool x)) (.p (.bool y)) (decide (x = y)) := fun va vb H Q r1 r2 q => ⟨x, y, dpb r1, dpb r2, q⟩
theorem rc_notBl {x y : Bool} : RC K sa rNotB (.p (.bool x)) (.p (.bool y)) (decide (x ≠ y)) := fun va vb H Q r1 r2 q => ⟨x, y, dpb r1, dpb r2, by rw [decide_not] at q; exact q⟩
def rInT (K : PySem.W.Frag) : R2 := fun x y H Q => ∃ d ds, Dp K H x d ∧ Dp K H y (.tuple ds) ∧ SeqAt.shaped d = true ∧ SeqAt.shaped (.list ds) = true ∧ Q (.bl (ds.any fun z => PyData.eqv z d)) H
def rNotInT (K : PySem.W.Frag) : R2 := fun x y H Q => ∃ d ds, Dp K H x d ∧ Dp K H y (.tuple ds) ∧ SeqAt.shaped d = true ∧ SeqAt.shaped (.list ds) = true ∧ Q (.bl (!ds.any fun z => PyData.eqv z d)) H
theorem op_inT (hu : X.A.units + 65 < cLine) : OpR X (compareOp .In) (rInT X.K) := by
  intro pins s σ H x y v u Q I rx ry h
  obtain ⟨d, ds, hd, he, sd, se, q⟩ := h
  obtain ⟨as, r1⟩ := Dp.reads I d x v hd rx
  obtain ⟨bs, r2⟩ := Dp.reads I (.tuple ds) y u he ry
  exact SeqAt.in_tuple_reads r2 r1 (SeqAt.canLay_of_shaped se) (SeqAt.canLay_of_shaped sd) (room_in_shaped sd hu) ⟨.bl _, H, I, rfl, q⟩
theorem op_notInT (hu : X.A.units + 65 < cLine) : OpR X (compareOp .NotIn) (rNotInT X.K) := by
  intro pins s σ H x y v u Q I rx ry h
  obtain ⟨d, ds, hd, he, sd, se, q⟩ := h
  obtain ⟨as, r1⟩ := Dp.reads I d x v hd rx
  obtain ⟨bs, r2⟩ := Dp.reads I (.tuple ds) y u he ry
  exact SeqAt.notIn_tuple_reads r2 r1 (SeqAt.canLay_of_shaped se) (SeqAt.canLay_of_shaped sd) (room_in_shaped sd hu) ⟨.bl _, H, I, rfl, q⟩
/-- x in xs -/
def mem {α : Type} [DecidableEq α] (x : α) (xs : List α) : Bool := decide (x ∈ xs)
theorem any_eqv [Enc α] [DecidableEq α] {n : Nat} [EqD α n] (x : α) (xs : List α) : ((encs xs).any fun z => PyData.eqv z (enc x)) = mem x xs := by
  unfold mem
  induction xs with
  | nil => simp
  | cons y ys ih =>
    show (PyData.eqv (enc y) (enc x) || (encs ys).any fun z => PyData.eqv z (enc x)) = _
    rw [ih, EqD.eqv]
    by_cases h : y = x
    · subst h; simp
    · rw [decide_eq_false h, Bool.false_or]
      have : x ≠ y := fun z => h z.symm
      simp [this]
section
variable [Enc α] [DecidableEq α] {n : Nat}
theorem rc_inT [EqD α n] (x : α) (xs : List α) (hn : Nat.ble n 60 = true := by rfl) : RC K sa (rInT K) (.p (enc x)) (.p (enc xs)) (mem x xs) := fun va vb H Q r1 r2 q =>
  ⟨enc x, encs xs, r1.2.1, r2.2.1, EqD.shaped hn x, shaped_list hn xs, by rw [any_eqv]; exact q⟩
theorem rc_niT [EqD α n] (x : α) (xs : List α) (hn : Nat.ble n 60 = true := by rfl) : RC K sa (rNotInT K) (.p (enc x)) (.p (enc xs)) (!mem x xs) := fun va vb H Q r1 r2 q =>
  ⟨enc x, encs xs, r1.2.1, r2.2.1, EqD.shaped hn x, shaped_list hn xs, by rw [any_eqv]; exact q⟩
theorem rc_inL [EqD α n] (x : α) (xs : List α) (hn : Nat.ble n 60 = true := by rfl) : RC K sa (rInD K) (.p (enc x)) (.b (encs xs)) (mem x xs) := fun va vb H Q r1 r2 q =>
  ⟨enc x, encs xs, r1.2.1, r2.data (by intro h; cases h), EqD.shaped hn x, shaped_list hn xs, by rw [any_eqv]; exact q⟩
theorem rc_niL [EqD α n] (x : α) (xs : List α) (hn : Nat.ble n 60 = true := by rfl) : RC K sa (rNotInD K) (.p (enc x)) (.b (encs xs)) (!mem x xs) := fun va vb H Q r1 r2 q =>
  ⟨enc x, encs xs, r1.2.1, r2.data (by intro h; cases h), EqD.shaped hn x, shaped_list hn xs, by rw [any_eqv]; exact q⟩
end
theorem ev_lenR {β : Type} [Enc β] {xss : List (List β)} (hg : Gl X "len") (hm : X.mg "len" = none) (ha : EE X sa δ S e (.bb (encss xss)) S1) (he : starEach [e] X.env = (false, eval e X.env) :: starEach [] X.env := by rfl) (hpl : (backTo pos (starEach [] X.env)).any (·.1) = false := by rfl) :
    EG st X sa δ S (.Call (.Name "len" p) [e] [] pos) (.p (.int xss.length)) S1 := by
  have h := ev_len (st := st) (p := p) (pos := pos) (wlk_r xss) hg hm ha he hpl
  rw [List.length_map] at h
  exact h

/-! ### repr -/
def RpOk (d : PyData) : Prop := d.showable = true ∧ d.hasDict = false ∧ d.depth ≤ 60 ∧ d.shown.length ≤ sizeLine
@[irreducible] def rp (d : PyData) : Str := d.shown
theorem rp_eq (d : PyData) : rp d = d.shown := by unfold rp; rfl
def rRepr (K : PySem.W.Frag) : List V → Hp → VK → Prop := fun vs H Q => ∃ v d, vs = [v] ∧ Dp K H v d ∧ RpOk d ∧ Q (.str (rp d)) H
theorem call_reprD {k : Nat} (hr : Room k X.A) (hgd : X.A.guards = some []) : CallR X (.builtin "repr") (rRepr X.K) := by
  intro pins s σ H xs us Q I r h
  obtain ⟨v, d, rfl, hd, ⟨h1, h2, h3, h4⟩, q⟩ := h
  rw [rp_eq] at q
  obtain ⟨u, rfl, ru⟩ := vals1 r
  have key : ∀ (l : Addr), v = .ref l → wpAny (model X.prog X.w) X.A (call (.builtin "repr") [u]) (L2.EP X pins σ Q) X.xe s := fun l e => by
    subst e
    obtain ⟨as, rd⟩ := Dp.reads I d _ u hd ru
    cases ru
    exact PySem.repr_of_reads' rd h1 (fun z => by rw [h2] at z; cases z) hgd (by have := hr.un; omega) (fun _ _ z => z) (fun h' t tk hk => ⟨.str d.shown, H, I.kept hk, ⟨_, rfl⟩, q⟩) h4
  cases hd with
  | lst => exact key _ rfl
  | tup => exact key _ rfl
  | non =>
    cases ru
    exact PySem.P.repr_of_none ⟨.str _, H, I.tok _, ⟨_, rfl⟩, q⟩
  | bl b =>
    obtain rfl : u = .bool b := ru
    exact PySem.P.repr_of_bool ⟨.str _, H, I.tok _, ⟨_, rfl⟩, q⟩
  | int i =>
    obtain ⟨t, rfl⟩ := ru
    exact PySem.P.repr_of_int (of_decide_eq_true h1) ⟨.str _, H, I.tok _, ⟨_, rfl⟩, q⟩
  | str x =>
    obtain ⟨t, rfl⟩ := ru
    exact PySem.P.repr_of_str ⟨.str _, H, I.tok _, ⟨_, rfl⟩, q⟩ h4
/-- data that is read only: lists too -/
def DSt (K : PySem.W.Frag) (sa : SA) (H : Hp) (v : V) (d : PyData) : Prop := ∀ H', Ext sa H H' → Dp K H' v d
def DSts (K : PySem.W.Frag) (sa : SA) (H : Hp) (vs : List V) (ds : List PyData) : Prop := ∀ H', Ext sa H H' → DpAll K H' vs ds
theorem DSt.ext {v : V} (h : DSt K sa H v d) (e : Ext sa H H') : DSt K sa H' v d := fun H2 e2 => h H2 (e.trans e2)
theorem DSts.ext {vs : List V} (h : DSts K sa H vs ds) (e : Ext sa H H') : DSts K sa H' vs ds := fun H2 e2 => h H2 (e.trans e2)
def tED (K : PySem.W.Frag) (sa : SA) (δ : Env) (S : Src) (d : PyData) (S' : Src) : TE := fun σ H Q => ∃ B, Ok K sa B H σ δ S ∧ ∀ v H', Ok K sa B H' σ δ S' → Ext sa H H' → DSt K sa H' v d → Q v H'
def ED (X : Cx) (sa : SA) (δ : Env) (S : Src) (e : Expr) (d : PyData) (S' : Src) : Prop := PE X e (tED X.K sa δ S d S')
def tEDA (K : PySem.W.Frag) (sa : SA) (δ : Env) (S : Src) (ds : List PyData) (S' : Src) : TA := fun σ H Q => ∃ B, Ok K sa B H σ δ S ∧ ∀ vs H', Ok K sa B H' σ δ S' → Ext sa H H' → DSts K sa H' vs ds → Q vs H'
def EDA (X : Cx) (sa : SA) (δ : Env) (S : Src) (es : List Expr) (ds : List PyData) (S' : Src) : Prop := PA X es (tEDA X.K sa δ S ds S')
theorem ed_p (h : EE X sa δ S e (.p d) S') : ED X sa δ S e d S' := pe_imp h fun σ H Q ⟨B, ok, k⟩ => ⟨B, ok, fun v H1 B1 ok1 e1 b1 r1 => by
  obtain rfl : B1 = H1 := b1
  exact k v B1 ok1 e1 fun H2 e2 => e2.tup.dp _ _ r1.2.2 r1.2.1⟩
theorem ed_b (h : EE X sa δ S e (.b ds) S') : ED X sa δ S e (.list ds) S' := pe_imp h fun σ H Q ⟨B, ok, k⟩ => ⟨B, ok, fun v H1 B1 ok1 e1 b1 r1 => by
  obtain rfl : B1 = H1 := b1
  exact k v B1 ok1 e1 fun H2 e2 => (r1.ext e2).data (by intro h; cases h)⟩
theorem ed_bb (h : EE X sa δ S e (.bb dss) S') : ED X sa δ S e (.list (dss.map .list)) S' := pe_imp h fun σ H Q ⟨B, ok, k⟩ => ⟨B, ok, fun v H1 B1 ok1 e1 b1 r1 => by
  obtain rfl : B1 = H1 := b1
  exact k v B1 ok1 e1 fun H2 e2 => (r1.ext e2).data (by intro h; cases h)⟩
theorem eda_nil : EDA X sa δ S [] [] S := pa_imp pa_nil fun σ H Q ⟨B, ok, k⟩ => k [] H ok (.refl _ _) fun _ _ => .nil
theorem eda_cons (h1 : ED X sa δ S e d S1) (h2 : EDA X sa δ S1 es ds S2) (hs : starEach (e :: es) X.env = (false, eval e X.env) :: starEach es X.env := by rfl) : EDA X sa δ S (e :: es) (d :: ds) S2 := pa_imp (pa_cons h1 h2 hs) fun σ H Q ⟨B, ok, k⟩ =>
  ⟨B, ok, fun v H1 ok1 e1 r1 => ⟨B, ok1, fun vs H2 ok2 e2 r2 => k _ H2 ok2 (e1.trans e2) fun H3 e3 => .cons (r1 H3 (e2.trans e3)) (r2 H3 e3)⟩⟩
theorem ed_lst (h : EDA X sa δ S es ds S') (hz : Nat.ble ds.length 1000 = true := by rfl) : ED X sa δ S (.List es pos) (.list ds) S' := pe_imp (pe_lst h) fun σ H Q ⟨B, ok, k⟩ => ⟨B, ok, fun vs H1 ok1 e1 r1 => by
  have hd := r1 H1 (.refl _ _)
  refine ⟨by rw [hd.length]; exact ble_line hz, fun p hn => ?_⟩
  have ex : Ext sa H1 (upd H1 p (.lst vs)) := .new hn
  exact k _ _ (ok1.new hn) (e1.trans ex) fun H2 e2 => .lst (.of (e2.cell p _ upd_same (ok1.away hn))) (r1 H2 (ex.trans e2))⟩
theorem ed_tup {x1} (h : EDA X sa δ S es ds S') (hz : Nat.ble ds.length 1000 = true := by rfl) : ED X sa δ S (.Tuple es x1 pos) (.tuple ds) S' := pe_imp (pe_tup h) fun σ H Q ⟨B, ok, k⟩ => ⟨B, ok, fun vs H1 ok1 e1 r1 => by
  have hd := r1 H1 (.refl _ _)
  refine ⟨by rw [hd.length]; exact ble_line hz, fun p hn => ?_⟩
  have ex : Ext sa H1 (upd H1 p (.tup vs)) := .new hn
  exact k _ _ (ok1.new hn) (e1.trans ex) fun H2 e2 => .tup (e2.tup _ _ (.of upd_same) |> .inl) (r1 H2 (ex.trans e2))⟩
theorem ev_repr {k : Nat} (hr : Room k X.A) (hgd : X.A.guards = some []) (hd : RpOk d) (hg : Gl X "repr") (hm : X.mg "repr" = none) (ha : ED X sa δ S e d S1) (he : starEach [e] X.env = (false, eval e X.env) :: starEach [] X.env := by rfl) (hpl : (backTo pos (starEach [] X.env)).any (·.1) = false := by rfl) :
    EG st X sa δ S (.Call (.Name "repr" p) [e] [] pos) (.p (.str (rp d))) S1 := pe_imp (pe_callB (call_reprD hr hgd) hg hm PyProof.Rows.boot_repr (pa_cons ha pa_nil he) (by decide) (by decide) he hpl) fun σ H Q ⟨B, ok, kk⟩ => ⟨B, ok, fun v H1 ok1 e1 r1 =>
    ⟨v, d, rfl, r1 H1 (.refl _ _), hd, give_p ok e1 ok1.src (.str _) (by show (rp d).length ≤ _; rw [rp_eq]; exact hd.2.2.2) fun B' ok' b r => kk _ _ B' ok' e1 b r⟩⟩
end
end L2.Ev

set_option Elab.async false
set_option linter.all false
set_option maxRecDepth 100000
/-! Ev14: the law's own source of numbers: what is drawn. -/
namespace L2.Ev
open PySem PySem.Spec PyProof.Rows
/-- cells are taken from the end till one is more than 1 -/
def pull : Nat → List Int → Int → List Int × Int
  | 0, cs, l => (cs, l)
  | k + 1, cs, l => if l < 2 ∧ cs ≠ [] then pull k cs.dropLast (cs.getLast?.getD 0) else (cs, l)
def pulled (S : Src) : List Int × Int := pull S.cells.length S.cells S.left
/-- the numbers of _law_pick, where the source's mixed number stays -/
def pickA (S : Src) (m : Int) : Int × Src :=
  if m < 2 then (0, S) else
  if 1 < (pulled S).2 then ((pulled S).2 % m, ⟨(pulled S).1, (pulled S).2 / m, S.mixed, S.turn⟩) else
  ((((S.mixed + (S.turn + 1) * 104729) % 998244353 * ((S.mixed + (S.turn + 1) * 104729) % 998244353) + (S.turn + 1) * 17) % 2147483647 / 16) % m, ⟨(pulled S).1, (pulled S).2, S.mixed, S.turn + 1⟩)
/-- .. and where it is exchanged -/
def pickB (S : Src) (m : Int) : Int × Src :=
  let q := if 1 < m then pulled S else (S.cells, S.left)
  if m < 2 ∨ 1 < q.2 then (q.2 % max 1 m, ⟨q.1, q.2 / max 1 m, S.mixed, S.turn⟩) else
  let x := ((S.mixed + (S.turn + 1) * 104729) % 998244353 * ((S.mixed + (S.turn + 1) * 104729) % 998244353) + (S.turn + 1) * 17) % 2147483647
  ((x / 16) % m, ⟨q.1, q.2, x, S.turn + 1⟩)
def srcD (S : Src) (L : Addr) : HO := .dK [(.inr "cells", .ref L), (.inr "left", .int S.left), (.inr "mixed", .int S.mixed), (.inr "turn", .int S.turn)]
theorem put_left (a : V) (b c d e : V) : putK ([(.inr "cells", a), (.inr "left", b), (.inr "mixed", c), (.inr "turn", d)] : List (Key × V)) (.inr "left") e = [(.inr "cells", a), (.inr "left", e), (.inr "mixed", c), (.inr "turn", d)] := by rfl
theorem put_turn (a : V) (b c d e : V) : putK ([(.inr "cells", a), (.inr "left", b), (.inr "mixed", c), (.inr "turn", d)] : List (Key × V)) (.inr "turn") e = [(.inr "cells", a), (.inr "left", b), (.inr "mixed", c), (.inr "turn", e)] := by rfl
theorem put_mixed (a : V) (b c d e : V) : putK ([(.inr "cells", a), (.inr "left", b), (.inr "mixed", c), (.inr "turn", d)] : List (Key × V)) (.inr "mixed") e = [(.inr "cells", a), (.inr "left", b), (.inr "mixed", e), (.inr "turn", d)] := by rfl
/-- the heap where the source stands as S -/
def srcH (H : Hp) (D L : Addr) (S : Src) : Hp := upd (upd H L (.lst (S.cells.map .int))) D (srcD S L)
section
variable {H : Hp} {D L : Addr} {S : Src} {K : PySem.W.Frag}
theorem srcH_d : srcH H D L S D = some (srcD S L) := upd_same
theorem srcH_l (h : D ≠ L) : srcH H D L S L = some (.lst (S.cells.map .int)) := by unfold srcH; rw [upd_ne h.symm, upd_same]
theorem srcH_o {a : Addr} (h : a ≠ D) (h2 : a ≠ L) : srcH H D L S a = H a := by unfold srcH; rw [upd_ne h, upd_ne h2]
theorem srcH_at (h : SrcAt H S (D, L)) : srcH H D L S = H := by
  obtain ⟨h1, h2, h3, h4⟩ := h
  funext a
  by_cases e : a = D
  · subst e; rw [srcH_d]; exact h1.symm
  · by_cases e2 : a = L
    · subst e2; rw [srcH_l h3]; exact h2.symm
    · exact srcH_o e e2
theorem srcH_put (l : Int) (h : D ≠ L) : upd (srcH H D L S) D (srcD { S with left := l } L) = srcH H D L { S with left := l } := by
  unfold srcH
  funext a
  by_cases e : a = D
  · subst e; rw [upd_same, upd_same]
  · rw [upd_ne e, upd_ne e, upd_ne e]
theorem srcH_d2 {S' : Src} (h : D ≠ L) (e : S'.cells = S.cells) : upd (srcH H D L S) D (srcD S' L) = srcH H D L S' := by
  unfold srcH
  rw [e]
  funext a
  by_cases e : a = D
  · subst e; rw [upd_same, upd_same]
  · rw [upd_ne e, upd_ne e, upd_ne e]
theorem srcH_pop {S' : Src} {xs : List V} (h : D ≠ L) (e : S'.cells.map V.int = xs) : upd (upd (srcH H D L S) L (.lst xs)) D (srcD S' L) = srcH H D L S' := by
  subst e
  unfold srcH
  funext a
  by_cases e : a = D
  · subst e; rw [upd_same, upd_same]
  · rw [upd_ne e, upd_ne e]
    by_cases e2 : a = L
    · subst e2; rw [upd_same, upd_same]
    · rw [upd_ne e2, upd_ne e, upd_ne e2, upd_ne e2]
theorem srcH_ext (h : SrcAt H S (D, L)) (S' : Src) : Ext (some (D, L)) H (srcH H D L S') := ⟨fun a o e w => by
  obtain ⟨w1, w2⟩ := w _ rfl
  rw [srcH_o w1 w2]; exact e, fun a xs r => by
  obtain ⟨h1, h2, h3, h4⟩ := h
  have n1 : a ≠ D := fun z => by subst z; rcases r with r | ⟨_, r⟩ <;> (rw [h1] at r; cases r)
  have n2 : a ≠ L := fun z => by subst z; rcases r with r | ⟨_, r⟩ <;> (rw [h2] at r; cases r)
  rcases r with r | ⟨o, r⟩
  · exact .inl (by rw [srcH_o n1 n2]; exact r)
  · exact .inr ⟨o, by rw [srcH_o n1 n2]; exact r⟩⟩
theorem srcH_rep {S' : Src} (h : D ≠ L) (hz : S'.cells.length ≤ sizeLine) : SrcRep (some (D, L)) (srcH H D L S') S' := fun p e => by
  cases e
  exact ⟨srcH_d, srcH_l h, h, hz⟩
theorem pull_len : ∀ (k : Nat) (cs : List Int) (l : Int), (pull k cs l).1.length ≤ cs.length
  | 0, cs, l => Nat.le_refl _
  | k + 1, cs, l => by
    unfold pull
    split
    · refine Nat.le_trans (pull_len k _ _) ?_
      rw [List.length_dropLast]; omega
    · exact Nat.le_refl _
theorem get_src (k : Key) (v : V) (S' : Src) (h : H D = some (srcD S' L)) (e : valV [(.inr "cells", .ref L), (.inr "left", .int S'.left), (.inr "mixed", .int S'.mixed), (.inr "turn", .int S'.turn)] k = some v) : DGet H D (kV k) (some v) := by
  rw [← e]; exact .k h
end
@[reducible] def R_pickA : DR := fun sls S r S' => ∃ m : Int, sls = [.src, .p (enc m)] ∧ m < 1073741824 ∧ r = .p (enc (pickA S m).1) ∧ S' = (pickA S m).2
@[reducible] def R_pickB : DR := fun sls S r S' => ∃ m : Int, sls = [.src, .p (enc m)] ∧ m < 1073741824 ∧ r = .p (enc (pickB S m).1) ∧ S' = (pickB S m).2
end L2.Ev
namespace L2.Ev
open PySem PySem.Spec PyProof.Rows
def stir (ns : List Int) : Int := ns.foldl (fun s c => (s * 69069 + c * 31 + 5) % 2147483629) 11
def openS (ns : List Int) : Src := ⟨(ns.map fun c => if c < 0 then -c else c).reverse, 1, stir ns, 0⟩
/-- what opens the source: a dict and a list that are new -/
def spOpen (K : PySem.W.Frag) : Sp := fun vs H Q _ => ∃ a ns, vs = [.ref a] ∧ SqL K H a (ns.map .int) ∧ ns.length ≤ 1000 ∧
  ∀ D L H', Same H H' → SrcAt H' (openS ns) (D, L) → Q (.ref D) H'
theorem dp_of_ints {K : PySem.W.Frag} {H : Hp} : ∀ ns : List Int, DpAll K H (ns.map .int) (encs ns)
  | [] => .nil
  | n :: ns => .cons (.int n) (dp_of_ints ns)
theorem pu_ints : ∀ ns : List Int, PuAll (encs ns)
  | [] => trivial
  | _ :: ns => ⟨trivial, pu_ints ns⟩
theorem ok_script {K : PySem.W.Frag} {H : Hp} {a : Addr} {ns : List Int} {m : Int} {x : Option V} {S : Src} (h : SqL K H a (ns.map .int)) (hz : ns.length ≤ 1000) : Ok K Option.none H H [some (.ref a), some (.int m), x, Option.none] [some (.b (encs ns)), some (.p (enc m)), Option.none, Option.none] S := by
  refine ⟨.refl _ _, rfl, ⟨fun _ => [], ⟨fun i sl e => ?_, fun _ => .nil, (fun _ _ _ _ z => nomatch z), (fun _ _ z => nomatch z)⟩⟩, .empty⟩
  match i, e with
  | 0, e =>
    cases e
    exact ⟨_, rfl, rfl, a, rfl, _, h, .empty, dp_of_ints ns, pu_ints ns, by rw [List.length_map]; exact ble_line (Nat.ble_eq.mpr hz)⟩
  | 1, e =>
    cases e
    exact ⟨_, rfl, rfl, .int m, trivial⟩
  | 2, e => cases e
  | 3, e => cases e
  | i + 4, e => cases e
end L2.Ev

set_option Elab.async false
set_option linter.all false
set_option maxRecDepth 100000
/-! Ev15: unpacked lists, sorted, tuple * int, more stores and slices. -/
namespace L2.Ev
open PySem PySem.Spec PyProof.Rows PySem.W
section
variable {X : Cx} {sa : SA} {δ δ' : Env} {S S0 S1 S2 S3 S' : Src} {st : Bool} {e a b c d' tg iter elt e1 e2 e3 : Expr} {es : List Expr} {pos p pos' tpos : Pos} {elts : List Expr} {kk : Nat} {K : PySem.W.Frag} {B B' H H' : Hp} {σ : L2.St} {rest body sts : List Stmt} {W : Spec} {sm : Stmt}
variable {α β γ ρ ν μ : Type} {i j : Nat} {d : PyData} {ds : List PyData} {dss : List (List PyData)} {sl sl1 sl2 sl3 r : Sl}
/-! ### a, b, .. = a list -/
theorem st_unl {tgs : List Expr} {js : List Nat} {es' : List PyData} (hd : es' = ds) (he : EE X sa δ S e (.b es') S1) (ht : TGts X sa δ tgs (Pures ds) δ' js) (hc : X.calm = true)
    (hn : (assignEach tgs X.env).length = ds.length := by rfl) (hst : (assignEach tgs X.env).findIdx? (·.1) = none := by rfl)
    (hs : swapsWithSole [.Tuple tgs kk p] e pos.line X.env = pure false := by rfl) (hw : swappedStores [.Tuple tgs kk p] e X.env = pure none := by rfl) (h1 : (assignEach [.Tuple tgs kk p] X.env).map (·.2) = [assign (.Tuple tgs kk p) X.env] := by rfl) :
    Step X sa δ S (.Assign [.Tuple tgs kk p] e pos) δ' S1 := fun rest W hr => by
  subst hd
  refine sb_seq (ps_asg he (pg_unl hc ht hn hst) hs hw h1) hr fun D σ H B ok k => ⟨B, ok, fun v H1 B1 ok1 e1 b1 r1 => ?_⟩
  obtain rfl : B1 = H1 := b1
  obtain ⟨_, l, rfl, vs, g1, g2, g3, g4, g5⟩ := r1
  exact ⟨l, vs, rfl, g1, g3.length, B, S1, ok1, slsR_pures g3 g4, fun σ' ok2 _ _ => k B σ' B1 (.refl _ _) ok2⟩
theorem encs_s1 [Enc α] [Inhabited α] {xs : List α} (h : xs.length = 1) : encs xs = [enc (getI xs 0)] := by
  match xs, h with
  | [a], _ => rfl
theorem encs_s2 [Enc α] [Inhabited α] {xs : List α} (h : xs.length = 2) : encs xs = [enc (getI xs 0), enc (getI xs 1)] := by
  match xs, h with
  | [a, b], _ => rfl
theorem encs_s3 [Enc α] [Inhabited α] {xs : List α} (h : xs.length = 3) : encs xs = [enc (getI xs 0), enc (getI xs 1), enc (getI xs 2)] := by
  match xs, h with
  | [a, b, c], _ => rfl
theorem encs_s4 [Enc α] [Inhabited α] {xs : List α} (h : xs.length = 4) : encs xs = [enc (getI xs 0), enc (getI xs 1), enc (getI xs 2), enc (getI xs 3)] := by
  match xs, h with
  | [a, b, c, d], _ => rfl
/-! ### sorted -/
def SortOk (ds : List PyData) : Prop := AllAlike ds ∧ Sortable ds
def sortD [Enc α] (xs : List α) : List α := xs.mergeSort (dataLe false enc)
def rSortD [Enc α] (K : PySem.W.Frag) : List V → Hp → VK → Prop := fun vs H Q => ∃ (a : Addr) (us : List V) (xs : List α), vs = [V.ref a] ∧ SqL K H a us ∧ DpAll K H us (encs xs) ∧ SortOk (encs xs) ∧ xs.length ≤ sizeLine ∧ (∀ x ∈ xs, (enc x).depth ≤ 60) ∧
  ∀ ys q, H q = none → DpAll K H ys (encs (sortD xs)) → Q (.ref q) (upd H q (.lst ys))
theorem each_of [Enc α] {pins : List (Addr × Obj)} {s : Shared} (I : Inv X pins σ H s) : ∀ {us : List V} {xs : List α} {its : List Value}, DpAll X.K H us (encs xs) → Vals us its → EachIs (fun v x => ∃ y, RelV y v ∧ Dp X.K H y (enc x)) its xs ∧ EachIs (fun v x => ∃ as, Reads s.heap v (enc x) as) its xs
  | [], [], [], _, _ => ⟨.nil, .nil⟩
  | u :: us, x :: xs, i :: its, h, r => by
    cases h with
    | cons h1 h2 =>
      cases r with
      | cons r1 r2 =>
        obtain ⟨g1, g2⟩ := each_of I h2 r2
        exact ⟨.cons ⟨u, r1, h1⟩ g1, .cons (Dp.reads I _ _ _ h1 r1) g2⟩
  | [], _ :: _, _, h, _ => by cases h
  | _ :: _, [], _, h, _ => by cases h
  | [], [], _ :: _, _, r => by cases r
  | _ :: _, _ :: _, [], _, r => by cases r
theorem each_back [Enc α] : ∀ {its : List Value} {xs : List α}, EachIs (fun v x => ∃ y, RelV y v ∧ Dp K H y (enc x)) its xs → ∃ us, Vals us its ∧ DpAll K H us (encs xs)
  | [], [], _ => ⟨[], .nil, .nil⟩
  | i :: its, x :: xs, h => by
    cases h with
    | cons h1 h2 =>
      obtain ⟨y, g1, g2⟩ := h1
      obtain ⟨us, f1, f2⟩ := each_back h2
      exact ⟨y :: us, .cons g1 f1, .cons g2 f2⟩
  | [], _ :: _, h => by cases h
  | _ :: _, [], h => by cases h
theorem cr_sortD [Enc α] {k : Nat} (hr : Room k X.A) : CallR X (.builtin "sorted") (rSortD (α := α) X.K) := by
  intro pins s σ H vs us Q I r h
  obtain ⟨a, ws, xs, rfl, hs, hd, ⟨h1, h2⟩, hz, hdp, q⟩ := h
  obtain ⟨its, rv, hl, hz'⟩ := I.list hs
  rw [Vals.ref1 r]
  obtain ⟨e1, e2⟩ := each_of I hd rv
  refine sorted_data hl.isList e1 e2 h1 h2 hz (fun b hb => by have := hdp b hb; have := hr.un; omega) fun out ho eo => ?_
  obtain ⟨ys, f1, f2⟩ := each_back eo
  obtain ⟨ep, he'⟩ := PyProof.Rows.sortedAll_at s.heap its out.toArray
  have hlen : ys.length ≤ sizeLine := by rw [f2.length, List.length_map, List.length_mergeSort]; exact hz
  exact ⟨.ref _, upd H (s.heap.objs.size + 1) (.lst ys), I.laid (t' := s.toks) (fun _ _ => PyProof.Rows.sortedAll_old) (Nat.le_succ _) ⟨hlen, out, ep, f1, he'⟩, rfl, q ys _ (I.hok.fresh (Nat.le_succ _)) f2⟩
theorem el_sorted [Enc α] {xs : List α} {k : Nat} (hr : Room k X.A) (ho : SortOk (encs xs)) (hdp : ∀ x ∈ xs, (enc x).depth ≤ 60) (hg : Gl X "sorted") (hm : X.mg "sorted" = none) (ha : EE X sa δ S e (.b (encs xs)) S1) (he : starEach [e] X.env = (false, eval e X.env) :: starEach [] X.env := by rfl) (hpl : (backTo pos (starEach [] X.env)).any (·.1) = false := by rfl) :
    EL X sa δ S (.Call (.Name "sorted" p) [e] [] pos) (encs (sortD xs)) S1 := pe_imp (pe_callB (cr_sortD (α := α) hr) hg hm PyProof.Rows.boot_sorted (ea_cons ha ea_nil he) (by decide) (by decide) he hpl) fun σ H Q ⟨B, ok, k⟩ => ⟨B, ok, fun vs H1 B1 ok1 e1 b1 r1 => by
      obtain rfl : B1 = H1 := b1
      obtain ⟨v, rfl, h1⟩ := sls1 r1
      obtain ⟨_, l, rfl, us, g1, g2, g3, g4, g5⟩ := h1
      rw [List.length_map] at g5
      refine ⟨l, us, xs, rfl, g1, g3, ho, g5, hdp, fun ys q hq hy => ?_⟩
      have ex : Ext sa B1 (upd B1 q (.lst ys)) := .new hq
      have hp : PuAll (encs (sortD xs)) := g4.sub fun d m => by
        rw [List.mem_map] at m ⊢
        obtain ⟨x, m1, m2⟩ := m
        exact ⟨x, List.mem_mergeSort.mp m1, m2⟩
      exact k q _ (e1.none_of ok1 hq) (ok1.new hq) (e1.trans ex) ⟨_, upd_same, ex.tup.dpAll _ _ hp hy, hp, by rw [List.length_map]; show (xs.mergeSort _).length ≤ _; rw [List.length_mergeSort]; exact g5⟩⟩
/-! ### rows[v][u] = rows[u][v] = e -/
theorem st_sto2t [Enc β] {t1 t2 : Expr} {xss : List (List β)} {w : β} {u v u2 v2 : Int} {p3 : Pos} (he : EE X sa δ S e (.p (enc w)) S1) (h1 : PG X t1 (tRow X.K sa δ S1 i (encss xss) (enc w) u v))
    (h2 : PG X t2 (tRow X.K sa (δ.set i (some (.ll (encss (setAt2 xss u v w))))) S1 i (encss (setAt2 xss u v w)) (enc w) u2 v2))
    (ha : (assignEach [t1, t2] X.env).map (·.2) = [assign t1 X.env, assign t2 X.env] := by rfl) (hw : swappedStores [t1, t2] e X.env = pure none := by rfl) :
    Step X sa δ S (.Assign [t1, t2] e p3) ((δ.set i (some (.ll (encss (setAt2 xss u v w))))).set i (some (.ll (encss (setAt2 (setAt2 xss u v w) u2 v2 w))))) S1 := fun rest W hr =>
  sb_seq (ps_asg2 he h1 h2 ha hw) hr fun D σ H B ok k => ⟨B, ok, fun z H1 B1 ok1 e1 b1 r1 => by
    obtain rfl : B1 = H1 := b1
    refine ⟨B, ok1, r1.2.1, r1.2.2, fun H2 ok2 tx => ⟨B, ?_, tx.dp _ _ r1.2.2 r1.2.1, r1.2.2, fun H3 ok3 tx3 => k B σ H3 (.refl _ _) ?_⟩⟩
    · rw [encss_setAt2] at ok2; exact ok2
    · rw [encss_setAt2] at ok3; exact ok3⟩
/-! ### slices of tuples by fields -/
theorem ev_slD {lo hi : Option Expr} {l h : Option Int} {p2 : Pos} {ds' : List PyData} (hd : cutL ds l h = ds') (ha : EE X sa δ S a (.p (.tuple ds)) S1) (hl : EP X sa δ S1 lo l S2) (hh : EP X sa δ S2 hi h S3) : EG st X sa δ S (.Subscript a (.Slice lo hi none p2) pos) (.p (.tuple ds')) S3 := by
  have := ev_slT (β := PyData) (st := st) (xs := ds) (pos := pos) (p2 := p2) (by show EE X sa δ S a (.p (.tuple (ds.map (fun d => d)))) S1; rw [List.map_id']; exact ha) hl hh
  have e : (enc (cutL ds l h) : PyData) = .tuple ds' := by
    show PyData.tuple ((cutL ds l h).map (fun d => d)) = _
    rw [List.map_id', hd]
  rw [e] at this
  exact this
/-! ### names = new values -/
theorem Ok.set2 {F1 F2 : List Addr} {v w : V} {H1 H2 H3 : Hp} (ok : Ok K sa B H σ δ S) (ok1 : Ok K sa B H1 σ δ S1) (e1 : Ext sa H H1) (ok2 : Ok K sa B H2 σ δ S2) (e2 : Ext sa H1 H2) (e3 : Ext sa H2 H3) (s3 : SrcRep sa H3 S2) (f1 : ∀ a ∈ F1, H a = none) (n1 : F1.Nodup) (f2 : ∀ a ∈ F2, H1 a = none) (n2 : F2.Nodup)
    (r1 : SlRep K sa B H1 v sl1 F1) (r2 : SlRep K sa B H2 w sl2 F2) (hi : i < δ.length) (hj : j < δ.length) : Ok K sa B H3 ((σ.set i (some v)).set j (some w)) ((δ.set i (some sl1)).set j (some sl2)) S2 :=
  ((ok.setNew e1 ok1.src r1 hi n1 f1).setNew e2 ok2.src r2 (by rw [List.length_set]; exact hj) n2 f2).ext e3 s3
theorem st_parG {x y : Str} {px py pt : Pos} {kt k2 pt2} (h1 : EO X sa δ S a sl1 S1) (h2 : EO X sa δ S1 b sl2 S2) (g1 : PG X (.Name x px) (gName i)) (g2 : PG X (.Name y py) (gName j)) (hc : X.calm = true) (hil : Nat.blt i δ.length = true := by rfl) (hjl : Nat.blt j δ.length = true := by rfl)
    (hsa : starEach [a, b] X.env = (false, eval a X.env) :: starEach [b] X.env := by rfl) (hsb : starEach [b] X.env = [(false, eval b X.env)] := by rfl)
    (hs1 : (assignEach [.Name x px, .Name y py] X.env).map (·.2) = assign (.Name x px) X.env :: (assignEach [.Name y py] X.env).map (·.2) := by rfl) (hs2 : (assignEach [.Name y py] X.env).map (·.2) = assign (.Name y py) X.env :: (assignEach [] X.env).map (·.2) := by rfl)
    (hn : (assignEach [.Name x px, .Name y py] X.env).length = 2 := by rfl) (hst : (assignEach [.Name x px, .Name y py] X.env).findIdx? (·.1) = none := by rfl)
    (hs : swapsWithSole [.Tuple [.Name x px, .Name y py] kt pt] (.Tuple [a, b] k2 pt2) pos.line X.env = pure false := by rfl) (hw : swappedStores [.Tuple [.Name x px, .Name y py] kt pt] (.Tuple [a, b] k2 pt2) X.env = pure none := by rfl)
    (ha : (assignEach [.Tuple [.Name x px, .Name y py] kt pt] X.env).map (·.2) = [assign (.Tuple [.Name x px, .Name y py] kt pt) X.env] := by rfl) :
    Step X sa δ S (.Assign [.Tuple [.Name x px, .Name y py] kt pt] (.Tuple [a, b] k2 pt2) pos) ((δ.set i (some sl1)).set j (some sl2)) S2 := fun rest W hr =>
  sb_seq (ps_asg (pe_tup (pa_cons h1 (pa_cons h2 pa_nil hsb) hsa)) (pg_tup hc (pgs_cons g1 (pgs_cons g2 pgs_nil hs2) hs1) hn hst) hs hw ha) hr fun D σ H B ok k => ⟨B, ok, fun v H1 F1 f1 n1 ok1 e1 r1 => ⟨B, ok1, fun u H2 F2 f2 n2 ok2 e2 r2 => ⟨by show (2 : Nat) ≤ _; rw [sizeLine_eq]; decide, fun q hq => by
    refine ⟨q, _, rfl, .inl (.of upd_same), rfl, v, [u], rfl, u, [], rfl, rfl, k B _ _ (.refl _ _) (ok.set2 ok1 e1 ok2 e2 (.new hq) (ok2.src.same (same_new hq)) f1 n1 f2 n2 r1 r2 (Nat.blt_eq.mp hil) (Nat.blt_eq.mp hjl))⟩⟩⟩⟩
theorem Ok.set3 {l : Nat} {F1 F2 F3 : List Addr} {v w u : V} {H1 H2 H3 H4 : Hp} (ok : Ok K sa B H σ δ S) (ok1 : Ok K sa B H1 σ δ S1) (e1 : Ext sa H H1) (ok2 : Ok K sa B H2 σ δ S2) (e2 : Ext sa H1 H2) (ok3 : Ok K sa B H3 σ δ S3) (e3 : Ext sa H2 H3) (e4 : Ext sa H3 H4) (s4 : SrcRep sa H4 S3) (f1 : ∀ a ∈ F1, H a = none) (n1 : F1.Nodup) (f2 : ∀ a ∈ F2, H1 a = none) (n2 : F2.Nodup) (f3 : ∀ a ∈ F3, H2 a = none) (n3 : F3.Nodup)
    (r1 : SlRep K sa B H1 v sl1 F1) (r2 : SlRep K sa B H2 w sl2 F2) (r3 : SlRep K sa B H3 u sl3 F3) (hi : i < δ.length) (hj : j < δ.length) (hl : l < δ.length) : Ok K sa B H4 (((σ.set i (some v)).set j (some w)).set l (some u)) (((δ.set i (some sl1)).set j (some sl2)).set l (some sl3)) S3 :=
  (((ok.setNew e1 ok1.src r1 hi n1 f1).setNew e2 ok2.src r2 (by rw [List.length_set]; exact hj) n2 f2).setNew e3 ok3.src r3 (by rw [List.length_set, List.length_set]; exact hl) n3 f3).ext e4 s4
theorem st_par3 {l : Nat} {x y z : Str} {px py pz pt : Pos} {kt k2 pt2} (h1 : EO X sa δ S a sl1 S1) (h2 : EO X sa δ S1 b sl2 S2) (h3 : EO X sa δ S2 c sl3 S3) (hc : X.calm = true) (hN : X.N.Nodup) (hi : X.N[i]? = some x) (hj : X.N[j]? = some y) (hl : X.N[l]? = some z) (hij : i ≠ j) (hil' : i ≠ l) (hjl' : j ≠ l)
    (hx : X.env.scope.names.lookup x = some .local) (hy : X.env.scope.names.lookup y = some .local) (hz : X.env.scope.names.lookup z = some .local)
    (hw : swappedStores [.Tuple [.Name x px, .Name y py, .Name z pz] kt pt] (.Tuple [a, b, c] k2 pt2) X.env = pure (some [x, y, z])) (hil : Nat.blt i δ.length = true := by rfl) (hjl : Nat.blt j δ.length = true := by rfl) (hll : Nat.blt l δ.length = true := by rfl)
    (hsa : starEach [a, b, c] X.env = (false, eval a X.env) :: starEach [b, c] X.env := by rfl) (hsb : starEach [b, c] X.env = (false, eval b X.env) :: starEach [c] X.env := by rfl) (hsc : starEach [c] X.env = [(false, eval c X.env)] := by rfl)
    (hs : swapsWithSole [.Tuple [.Name x px, .Name y py, .Name z pz] kt pt] (.Tuple [a, b, c] k2 pt2) pos.line X.env = pure false := by rfl) :
    Step X sa δ S (.Assign [.Tuple [.Name x px, .Name y py, .Name z pz] kt pt] (.Tuple [a, b, c] k2 pt2) pos) (((δ.set i (some sl1)).set j (some sl2)).set l (some sl3)) S3 := fun rest W hr =>
  sb_seq (ps_par3 hc hN hi hj hl hij hil' hjl' hx hy hz (pa_cons h1 (pa_cons h2 (pa_cons h3 pa_nil hsc) hsb) hsa) hw hs) hr fun D σ H B ok k => ⟨B, ok, fun v H1 F1 f1 n1 ok1 e1 r1 => ⟨B, ok1, fun u H2 F2 f2 n2 ok2 e2 r2 => ⟨B, ok2, fun t H3 F3 f3 n3 ok3 e3 r3 => ⟨v, u, t, rfl,
    k B _ _ (.refl _ _) (ok.set3 ok1 e1 ok2 e2 ok3 e3 (.refl _ _) ok3.src f1 n1 f2 n2 f3 n3 r1 r2 r3 (Nat.blt_eq.mp hil) (Nat.blt_eq.mp hjl) (Nat.blt_eq.mp hll))⟩⟩⟩⟩
theorem st_parG3 {l : Nat} {x y z : Str} {px py pz pt : Pos} {kt k2 pt2} (h1 : EO X sa δ S a sl1 S1) (h2 : EO X sa δ S1 b sl2 S2) (h3 : EO X sa δ S2 c sl3 S3) (g1 : PG X (.Name x px) (gName i)) (g2 : PG X (.Name y py) (gName j)) (g3 : PG X (.Name z pz) (gName l)) (hc : X.calm = true) (hil : Nat.blt i δ.length = true := by rfl) (hjl : Nat.blt j δ.length = true := by rfl) (hll : Nat.blt l δ.length = true := by rfl)
    (hsa : starEach [a, b, c] X.env = (false, eval a X.env) :: starEach [b, c] X.env := by rfl) (hsb : starEach [b, c] X.env = (false, eval b X.env) :: starEach [c] X.env := by rfl) (hsc : starEach [c] X.env = [(false, eval c X.env)] := by rfl)
    (hs1 : (assignEach [.Name x px, .Name y py, .Name z pz] X.env).map (·.2) = assign (.Name x px) X.env :: (assignEach [.Name y py, .Name z pz] X.env).map (·.2) := by rfl) (hs2 : (assignEach [.Name y py, .Name z pz] X.env).map (·.2) = assign (.Name y py) X.env :: (assignEach [.Name z pz] X.env).map (·.2) := by rfl) (hs3 : (assignEach [.Name z pz] X.env).map (·.2) = assign (.Name z pz) X.env :: (assignEach [] X.env).map (·.2) := by rfl)
    (hn : (assignEach [.Name x px, .Name y py, .Name z pz] X.env).length = 3 := by rfl) (hst : (assignEach [.Name x px, .Name y py, .Name z pz] X.env).findIdx? (·.1) = none := by rfl)
    (hs : swapsWithSole [.Tuple [.Name x px, .Name y py, .Name z pz] kt pt] (.Tuple [a, b, c] k2 pt2) pos.line X.env = pure false := by rfl) (hw : swappedStores [.Tuple [.Name x px, .Name y py, .Name z pz] kt pt] (.Tuple [a, b, c] k2 pt2) X.env = pure none := by rfl)
    (ha : (assignEach [.Tuple [.Name x px, .Name y py, .Name z pz] kt pt] X.env).map (·.2) = [assign (.Tuple [.Name x px, .Name y py, .Name z pz] kt pt) X.env] := by rfl) :
    Step X sa δ S (.Assign [.Tuple [.Name x px, .Name y py, .Name z pz] kt pt] (.Tuple [a, b, c] k2 pt2) pos) (((δ.set i (some sl1)).set j (some sl2)).set l (some sl3)) S3 := fun rest W hr =>
  sb_seq (ps_asg (pe_tup (pa_cons h1 (pa_cons h2 (pa_cons h3 pa_nil hsc) hsb) hsa)) (pg_tup hc (pgs_cons g1 (pgs_cons g2 (pgs_cons g3 pgs_nil hs3) hs2) hs1) hn hst) hs hw ha) hr fun D σ H B ok k => ⟨B, ok, fun v H1 F1 f1 n1 ok1 e1 r1 => ⟨B, ok1, fun u H2 F2 f2 n2 ok2 e2 r2 => ⟨B, ok2, fun t H3 F3 f3 n3 ok3 e3 r3 => ⟨by show (3 : Nat) ≤ _; rw [sizeLine_eq]; decide, fun q hq => by
    refine ⟨q, _, rfl, .inl (.of upd_same), rfl, v, [u, t], rfl, u, [t], rfl, t, [], rfl, rfl, k B _ _ (.refl _ _) (ok.set3 ok1 e1 ok2 e2 ok3 e3 (.new hq) (ok3.src.same (same_new hq)) f1 n1 f2 n2 f3 n3 r1 r2 r3 (Nat.blt_eq.mp hil) (Nat.blt_eq.mp hjl) (Nat.blt_eq.mp hll))⟩⟩⟩⟩⟩
theorem ev_ifp [Enc β] {ka : Bool} {x y : β} (hc : ET X sa δ S c ka S1) (ha : ka = true → EG st X sa δ S1 a (.p (enc x)) S1) (hb : ka = false → EG st X sa δ S1 b (.p (enc y)) S1) : EG st X sa δ S (.IfExp c a b pos) (.p (enc (if ka = true then x else y))) S1 := ev_ifP (fun z => .p (enc z)) hc ha hb
theorem ev_ifpS [Enc β] {ka : Bool} {x y : β} (hc : ET X sa δ S c ka S1) (ha : ka = true → EG st X sa δ S1 a (.p (enc x)) S2) (hb : ka = false → EG st X sa δ S1 b (.p (enc y)) S3) : EG st X sa δ S (.IfExp c a b pos) (.p (enc (if ka = true then x else y))) (if ka = true then S2 else S3) := ev_if (fun z => .p (enc z)) hc ha hb
theorem ev_ifb [Enc β] {ka : Bool} {x y : List β} (hc : ET X sa δ S c ka S1) (ha : ka = true → EG st X sa δ S1 a (.b (encs x)) S1) (hb : ka = false → EG st X sa δ S1 b (.b (encs y)) S1) : EG st X sa δ S (.IfExp c a b pos) (.b (encs (if ka = true then x else y))) S1 := ev_ifP (fun z => .b (encs z)) hc ha hb
theorem ev_ifbS [Enc β] {ka : Bool} {x y : List β} (hc : ET X sa δ S c ka S1) (ha : ka = true → EG st X sa δ S1 a (.b (encs x)) S2) (hb : ka = false → EG st X sa δ S1 b (.b (encs y)) S3) : EG st X sa δ S (.IfExp c a b pos) (.b (encs (if ka = true then x else y))) (if ka = true then S2 else S3) := ev_if (fun z => .b (encs z)) hc ha hb
theorem ev_ifbb [Enc β] {ka : Bool} {x y : List (List β)} (hc : ET X sa δ S c ka S1) (ha : ka = true → EG st X sa δ S1 a (.bb (encss x)) S1) (hb : ka = false → EG st X sa δ S1 b (.bb (encss y)) S1) : EG st X sa δ S (.IfExp c a b pos) (.bb (encss (if ka = true then x else y))) S1 := ev_ifP (fun z => .bb (encss z)) hc ha hb
theorem ev_ifbbS [Enc β] {ka : Bool} {x y : List (List β)} (hc : ET X sa δ S c ka S1) (ha : ka = true → EG st X sa δ S1 a (.bb (encss x)) S2) (hb : ka = false → EG st X sa δ S1 b (.bb (encss y)) S3) : EG st X sa δ S (.IfExp c a b pos) (.bb (encss (if ka = true then x else y))) (if ka = true then S2 else S3) := ev_if (fun z => .bb (encss z)) hc ha hb
theorem Step.frz' {δ1 δ2 : Env} (i : Nat) (h : Step X sa δ S sm δ1 S1) (hd : δ1[i]? = some (some sl)) (h2 : δ1.set i (some (frzS sl)) = δ2) : Step X sa δ S sm δ2 S1 := h2 ▸ Step.frz i h hd
end
end L2.Ev

set_option Elab.async false
set_option linter.all false
set_option maxRecDepth 100000
set_option maxHeartbeats 4000000
/-! Ev16: t[::-1], t[1::-1] of tuples. -/
namespace L2.Ev
open PySem PySem.Spec PyProof.Rows PySem.W
section
variable {prog : Program} {w : World} {A : Around} {E : Value → Shared → Prop} {s : Shared}
theorem sliceApplied_back {sl : Addr} {vl vu vs : Value} {lo hi : Option Int} {n : Nat} {Q : Int × Int × Nat → Shared → Prop} (hs : s.heap.IsSliceOf sl vl vu vs) (pl : IsPart vl lo) (pu : IsPart vu hi) (ps : IsPart vs (some (-1)))
    (h : Q ((Builtin.Slice.sliceAdjust lo hi (-1) (n : Int)).1, -1, Builtin.Slice.slicePlaces (Builtin.Slice.sliceAdjust lo hi (-1) (n : Int)).1 (Builtin.Slice.sliceAdjust lo hi (-1) (n : Int)).2 (-1)) s) : wpAny (model prog w) A (Builtin.Slice.sliceApplied (.ref sl) (pure (n : Int))) Q E s := by
  obtain ⟨os, hos, hcs, hds⟩ := id hs
  unfold Builtin.Slice.sliceApplied Builtin.Slice.sliceFields
  refine wpAny_bind (wpAny_bind (wpAny_field hos hds (x := vl) rfl (wpAny_bind (wpAny_field hos hds (x := vu) rfl (wpAny_bind (wpAny_field hos hds (x := vs) rfl (wpAny_pure ?_)))))))
  refine wpAny_bind (HT.slicePart_ ps ?_)
  show wpAny _ _ (if ((-1 : Int) == 0) = true then _ else _) _ _ s
  rw [if_neg (by decide)]
  refine wpAny_bind (HT.slicePart_ pl (wpAny_bind (HT.slicePart_ pu (wpAny_bind (wpAny_pure ?_)))))
  exact wpAny_pure h
theorem getItem_tuple_back {t sl : Addr} {items : Array Value} {vl vu vs : Value} {lo hi : Option Int} {out : List Value} {Q : Value → Shared → Prop} (ht : IsTup s.heap t items) (hs : s.heap.IsSliceOf sl vl vu vs) (pl : IsPart vl lo) (pu : IsPart vu hi) (ps : IsPart vs (some (-1)))
    (ho : ((List.range (Builtin.Slice.slicePlaces (Builtin.Slice.sliceAdjust lo hi (-1) (items.size : Int)).1 (Builtin.Slice.sliceAdjust lo hi (-1) (items.size : Int)).2 (-1))).filterMap fun (k : Nat) => items[((Builtin.Slice.sliceAdjust lo hi (-1) (items.size : Int)).1 + (k : Int) * -1).toNat]?) = out)
    (h : Q (.ref s.heap.objs.size) { s with heap := s.heap.push { cls := .type "tuple", data := .seq out.toArray } }) (hsz : out.length ≤ sizeLine) : wpAny (model prog w) A (getItem (.ref t) (.ref sl)) Q E s := by
  have htake : sizeOk (.seq out.toArray) := by
    show out.toArray.size ≤ sizeLine
    rw [List.size_toArray]; exact hsz
  obtain ⟨os, hos, hcs, hds⟩ := id hs
  have hTs : s.TypeIs (.ref sl) "slice" := ⟨os, hos, hcs⟩
  unfold getItem
  try with_reducible refine wpAny_holding ?_
  first | refine wpAny_bind (wpAny_pure ?_) | skip
  refine wpAny_bind (wpAny_sequenceKey ht.typeIs (by decide) ?_)
  refine wpAny_bind (wpAny_callSpecial?_slot (name := Str.ofString "__getitem__") ht.typeIs PyProof.Rows.slot_tuple_getitem
    (wpAny_call_entry PyProof.Rows.slot_tuple_getitem ht.typeIs entry_tuple_getitem ?_ (args_tuple_getitem _ _)))
  show wpAny _ _ (Builtin.Tuple.tupleItemsOf (.ref t) >>= _) _ _ s
  refine wpAny_bind (PyProof.Rows.tupleItemsOf_ ht ?_)
  refine wpAny_bind (wpAny_typeOf hTs ?_)
  rw [if_pos (by decide)]
  refine wpAny_bind (sliceApplied_back hs pl pu ps ?_)
  have hno : ∀ (a b : Bool), ¬ ((a && (-1 : Int) == 1 && b) = true) := by
    intro a b q
    rw [Bool.and_eq_true, Bool.and_eq_true] at q
    have q1 : (-1 : Int) = 1 := eq_of_beq q.1.2
    cases q1
  show wpAny _ _ (if (_ && (-1 : Int) == 1 && _) = true then _ else _) _ _ s
  rw [if_neg (hno _ _), ho]
  first
    | exact wpAny_bind (m := Builtin.Tuple.tupleExact _) (wpAny_newObj_type (wpAny_pure ⟨_, rfl, wpAny_pure h⟩) htake)
    | exact wpAny_bind (m := Builtin.Tuple.tupleExact _) (wpAny_newObj_type (wpAny_bind (wpAny_pure (wpAny_pure ⟨_, rfl, wpAny_pure h⟩))) htake)
    | exact wpAny_bind (wpAny_bind (m := Builtin.Tuple.tupleExact _) (wpAny_newObj_type (wpAny_pure (wpAny_pure ⟨_, rfl, wpAny_pure h⟩)) htake))
    | exact wpAny_bind (wpAny_bind (m := Builtin.Tuple.tupleExact _) (wpAny_newObj_type (wpAny_pure ⟨_, rfl, wpAny_pure h⟩) htake))
end
theorem back_all {α : Type} (xs : Array α) : ((List.range (Builtin.Slice.slicePlaces (Builtin.Slice.sliceAdjust none none (-1) (xs.size : Int)).1 (Builtin.Slice.sliceAdjust none none (-1) (xs.size : Int)).2 (-1))).filterMap fun (k : Nat) => xs[((Builtin.Slice.sliceAdjust none none (-1) (xs.size : Int)).1 + (k : Int) * -1).toNat]?) = xs.toList.reverse := by
  have e1 : Builtin.Slice.sliceAdjust none none (-1) (xs.size : Int) = ((xs.size : Int) - 1, -1) := rfl
  rw [e1]
  have e2 : Builtin.Slice.slicePlaces ((xs.size : Int) - 1) (-1) (-1) = xs.size := by
    unfold Builtin.Slice.slicePlaces
    rw [if_neg (by decide)]
    by_cases h : xs.size = 0
    · rw [h]; rfl
    · rw [if_pos (by omega)]
      have : ((xs.size : Int) - 1 - -1 - 1) / (- -1) = (xs.size : Int) - 1 := by
        show ((xs.size : Int) - 1 - -1 - 1) / 1 = _
        rw [Int.ediv_one]; omega
      rw [this]; omega
  show (List.range (Builtin.Slice.slicePlaces ((xs.size : Int) - 1) (-1) (-1))).filterMap (fun (k : Nat) => xs[((xs.size : Int) - 1 + (k : Int) * -1).toNat]?) = _
  rw [e2]
  obtain ⟨l⟩ := xs
  simp only [List.size_toArray, List.getElem?_toArray]
  have key : ∀ (m : Nat), m ≤ l.length → (List.range m).filterMap (fun (k : Nat) => l[((l.length : Int) - 1 + (k : Int) * -1).toNat]?) = l.reverse.take m := by
    intro m
    induction m with
    | zero => intro _; rfl
    | succ m ih =>
      intro hm
      rw [List.range_succ, List.filterMap_append, ih (by omega), List.take_add_one]
      congr 1
      have : ((l.length : Int) - 1 + (m : Int) * -1).toNat = l.length - 1 - m := by omega
      show (List.filterMap _ [m]) = _
      rw [List.filterMap_cons, List.filterMap_nil, this, List.getElem?_reverse (by omega)]
      cases l[l.length - 1 - m]? <;> rfl
  rw [key _ (Nat.le_refl _), ← List.length_reverse, List.take_length]
section
variable {X : Cx} {sa : SA} {δ δ' : Env} {S S0 S1 S2 S3 S' : Src} {st : Bool} {e a b c : Expr} {pos p pos' : Pos} {K : PySem.W.Frag} {H : Hp} {β γ α : Type}
def tBackT (lo : Option Int) (K : PySem.W.Frag) (te : TE) : TE := fun σ H Q => te σ H fun x H1 => ∃ a xs ys, x = .ref a ∧ SqT K H1 a xs ∧ (∀ us : List Value, Vals xs us → ∃ out, Vals ys out ∧ ((List.range (Builtin.Slice.slicePlaces (Builtin.Slice.sliceAdjust lo none (-1) (us.toArray.size : Int)).1 (Builtin.Slice.sliceAdjust lo none (-1) (us.toArray.size : Int)).2 (-1))).filterMap fun (k : Nat) => us.toArray[((Builtin.Slice.sliceAdjust lo none (-1) (us.toArray.size : Int)).1 + (k : Int) * -1).toNat]?) = out) ∧ ys.length ≤ sizeLine ∧ ∀ p, H1 p = none → Q (.ref p) (upd H1 p (.tup ys))
theorem pe_backT {lo : Option Expr} {tl : TO} {l : Option Int} {te : TE} {k : Nat} {p1 p2 p3 : Pos} (he : PE X e te) (hl : ∀ (pins : List (Addr × Obj)) (s : Shared) (σ : L2.St) (H : Hp) (Q : Option Int → Hp → Prop), Inv X pins σ H s → tl σ H Q → Q l H) (hlo : PO X lo tl) (htl : ∀ σ H, tl σ H fun o H' => o = l ∧ H' = H) : PE X (.Subscript e (.Slice lo none (some (.UnaryOp .USub (.Constant (.int 1) k p1) p2)) p3) pos) (tBackT l X.K te) := by
  refine ⟨fun pins s σ H Q I h => ?_⟩
  refine Subscript_ (thn (he.run pins s σ H _ I h) fun v s1 ⟨x, H1, I1, r1, q1⟩ => ?_)
  obtain ⟨a, xs, ys, ex, hx, ho, hz, q⟩ := q1
  subst ex
  cases r1
  have hst : PO X (some (.UnaryOp .USub (.Constant (.int 1) k p1) p2)) (tPart (tUn (rU fun i => .int (-i)) (tC (.int 1)))) := po_some (pe_un un_neg pe_int)
  refine wpAny_Slice (thn (hlo.run pins s1 σ H1 (fun o H2 => o = l ∧ H2 = H1) I1 (htl σ H1)) fun vl s2 ⟨l', H2, I2, pl, el, e2⟩ => ?_)
  subst el e2
  refine thn (po_none.run pins s2 σ H2 (fun o H3 => o = none ∧ H3 = H2) I2 ⟨rfl, rfl⟩) fun vu s3 ⟨u, H3, I3, pu, eu, e3⟩ => ?_
  subst eu e3
  refine thn (hst.run pins s3 σ H3 (fun o H4 => o = some (-1) ∧ H4 = H3) I3 ⟨1, rfl, -1, rfl, rfl, rfl⟩) fun vs s4 ⟨o, H4, I4, ps, eo, e4⟩ => ?_
  subst eo e4
  have I5 : Inv X pins σ H4 { s4 with heap := s4.heap.push { cls := .type "slice", data := .fields #[vl, vu, vs] } } := I4.kept (t' := s4.toks) fun b ob q => Heap.get?_push_of_some _ q
  obtain ⟨its, r, ht, hz'⟩ := I5.tuple hx
  obtain ⟨out, rout, hout⟩ := ho its r
  show wpAny (model X.prog X.w) X.A (subscriptTail e (.Slice lo none (some (.UnaryOp .USub (.Constant (.int 1) k p1) p2)) p3) (.ref a) (.ref s4.heap.objs.size)) (L2.EP X pins σ Q) X.xe { s4 with heap := s4.heap.push { cls := .type "slice", data := .fields #[vl, vu, vs] } }
  refine tail_any (ops := [.ref a, .ref s4.heap.objs.size]) ht.typeIs (PyProof.Rows.slot_tuple_getitem.lookup) ?_ (by with_unfolding_all rfl)
  refine getItem_tuple_back ht (Heap.IsSliceOf.new _ vl vu vs) pl pu ps hout ?_ (by rw [← rout.length]; exact hz)
  refine ⟨.ref _, _, I5.laid (t' := s4.toks) (o := .tup ys) (fun b ob q => Heap.get?_push_of_some _ q) (Nat.le_refl _) ?_, rfl, q _ (I5.hok.fresh (Nat.le_refl _))⟩
  exact ⟨hz, out, rout, IsTup.new _ _⟩
/-- t[::-1] -/
theorem ev_revT [Enc β] {xs : List β} {k : Nat} {p1 p2 p3 : Pos} (ha : EE X sa δ S a (.p (enc xs)) S1) : EG st X sa δ S (.Subscript a (.Slice none none (some (.UnaryOp .USub (.Constant (.int 1) k p1) p2)) p3) pos) (.p (enc xs.reverse)) S1 :=
  pe_imp (pe_backT (l := none) ha (fun _ _ _ _ _ _ h => h) po_none (fun _ _ => ⟨rfl, rfl⟩)) fun σ H Q ⟨B, ok, kk⟩ => ⟨B, ok, fun v H1 B1 ok1 e1 b1 r1 => by
    obtain rfl : B1 = H1 := b1
    obtain ⟨q, vs, rfl, g1, g2, g3, g4⟩ := dpt r1
    refine ⟨q, vs, vs.reverse, rfl, g1, fun us r => ⟨us.reverse, r.reverse, back_all us.toArray⟩, by rw [List.length_reverse, g2.length]; exact g4, fun z hz => ?_⟩
    have ex : Ext sa B1 (upd B1 z (.tup vs.reverse)) := .new hz
    have en : encs xs.reverse = (encs xs).reverse := List.map_reverse
    refine give_p (v := .ref z) (d := .tuple (encs xs.reverse)) ok (e1.trans ex) (ok1.src.same (same_new hz)) (.tup (.of upd_same) ?_) ⟨?_, ?_⟩ fun B' ok' bb r => kk _ _ B' ok' (e1.trans ex) bb r
    · rw [en]; exact ex.tup.dpAll _ _ (g3.sub fun d m => List.mem_reverse.mp m) g2.rev
    · rw [en, List.length_reverse]; exact g4
    · rw [en]; exact g3.sub fun d m => List.mem_reverse.mp m⟩
theorem dp3 {vs : List V} {d1 d2 d3 : PyData} (h : DpAll K H vs [d1, d2, d3]) : ∃ v1 v2 v3, vs = [v1, v2, v3] ∧ Dp K H v1 d1 ∧ Dp K H v2 d2 ∧ Dp K H v3 d3 := by
  cases h with
  | cons h1 h => cases h with
    | cons h2 h => cases h with
      | cons h3 h => cases h; exact ⟨_, _, _, rfl, h1, h2, h3⟩
/-- t[1::-1] of a triple -/
theorem ev_back1 [Enc α] [Enc β] [Enc γ] {t : T3 α β γ} {k k2 : Nat} {p0 p1 p2 p3 : Pos} (ha : EE X sa δ S a (.p (enc t)) S1) : EG st X sa δ S (.Subscript a (.Slice (some (.Constant (.int 1) k2 p0)) none (some (.UnaryOp .USub (.Constant (.int 1) k p1) p2)) p3) pos) (.p (enc (t.b, t.a))) S1 :=
  pe_imp (pe_backT (l := some 1) (tl := tPart (tC (.int 1))) ha (fun _ _ _ _ _ _ ⟨i, e, h⟩ => by cases e; exact h) (po_some pe_int) (fun _ _ => ⟨1, rfl, rfl, rfl⟩)) fun σ H Q ⟨B, ok, kk⟩ => ⟨B, ok, fun v H1 B1 ok1 e1 b1 r1 => by
    obtain rfl : B1 = H1 := b1
    obtain ⟨q, vs, rfl, g1, g2, g3, g4⟩ := dpt r1
    obtain ⟨v1, v2, v3, rfl, d1, d2, d3⟩ := dp3 g2
    refine ⟨q, _, [v2, v1], rfl, g1, fun us r => ?_, by show (2 : Nat) ≤ _; rw [sizeLine_eq]; decide, fun z hz => ?_⟩
    · cases r with
      | cons r1 r => cases r with
        | cons r2 r => cases r with
          | cons r3 r =>
            cases r
            exact ⟨_, .cons r2 (.cons r1 .nil), rfl⟩
    · have ex : Ext sa B1 (upd B1 z (.tup [v2, v1])) := .new hz
      exact give_p (v := .ref z) (d := .tuple [enc t.b, enc t.a]) ok (e1.trans ex) (ok1.src.same (same_new hz)) (.tup (.of upd_same) (ex.tup.dpAll _ _ ⟨g3.2.1, g3.1, trivial⟩ (.cons d2 (.cons d1 .nil)))) ⟨by show (2 : Nat) ≤ _; rw [sizeLine_eq]; decide, g3.2.1, g3.1, trivial⟩ fun B' ok' bb r => kk _ _ B' ok' (e1.trans ex) bb r⟩
end
end L2.Ev

set_option Elab.async false
set_option linter.all false
set_option maxRecDepth 100000
/-! Ev17: the law itself: its start, its head. -/
namespace L2.Ev
open PySem PySem.Spec PyProof.Rows
section
variable {P : Program} {w : World} {K : PySem.W.Frag} {mg mb : Str → Option Value}
/-- the heap that knows nothing but the script -/
def scrH (a : Addr) (o : Obj) (ns : List Int) : Hp := fun b => if b = a then some (.frz o (.lst (ns.map V.int))) else none
theorem law_run {k : Nat} {fa a : Addr} {fd : FuncData} {x : Str} {sp : Sp} {s₁ : Shared} {vs : List Value} {ns : List Int}
    (KX : K.In s₁.heap) (hns : s₁.heap.Ns mainGlobals mg) (hb : s₁.heap.Ns builtinsNs mb) (hbb : ∀ x : Str, x ≠ "__name__" → mb x = bootBuiltins x) (hlim : s₁.heap.NoLimit) (hg : s₁.gens = #[])
    (ha : s₁.heap.get? a = some { cls := .type "list", data := .seq vs.toArray }) (hi : IntsAre vs ns) (hl : ns.length ≤ sizeLine) (hr : Room k callerA)
    (F : ∀ base : Heap, K.In base → base.Ns mainGlobals mg → FnG P w K mg base k fa fd [x] sp) (hbind : ∀ (s : Shared) (u : Value), BindsTo s fd ⟨[u], []⟩ [(x, u)])
    (hsp : ∀ H : Hp, SqL K H a (ns.map V.int) → sp [.ref a] H (fun v _ => v = .bl true) fun _ _ _ => False)
    {H : Hp} (hS : SqL K H a (ns.map V.int)) (hok : HOk P w H s₁.heap) (hH : H = (fun _ => none) ∨ (H = scrH a { cls := .type "list", data := .seq vs.toArray } ns ∧ K.lookup a = none)) :
    codeAny (model P w) callerA (.call (.ref fa) ⟨[.ref a], []⟩) (fun r s' => r = .ok (.ret (.bool true)) ∧ OldK s₁.heap s'.heap ∧ s'.os = s₁.os ∧ AllBare s'.gens) s₁ := by
  have out : ∀ b, b ≠ a → H b = none := fun b nb => by
    rcases hH with rfl | ⟨rfl, _⟩
    · rfl
    · exact if_neg nb
  have noK : ∀ b o, K.lookup b = some o → H b = none := fun b o e => by
    rcases hH with rfl | ⟨rfl, n⟩
    · rfl
    · by_cases z : b = a
      · subst z; rw [n] at e; cases e
      · exact if_neg z
  have noA : ∀ {b : Addr} {o : Obj} {es : Array DictEntry} {ep : Nat}, s₁.heap.get? b = some o → o.data = .dict es ep → H b = none := fun {b o es ep} e d => by
    by_cases z : b = a
    · subst z
      rw [ha] at e; cases e
      have d' : Data.seq vs.toArray _ = Data.dict es ep := d
      cases d'
    · exact out b z
  have nsK : ∀ {b : Addr} {m : Str → Option Value}, s₁.heap.Ns b m → (hidT s₁.heap H).Ns b m := fun {b m} ⟨o, es, ep, e, d, r⟩ => ⟨o, es, ep, hidT_get e (noA e d), d, r⟩
  have hKb : K.In (hidT s₁.heap H) := fun b o e => hidT_get (KX b o e) (noK b o e)
  have hM : Mod K mg (hidT s₁.heap H) := ⟨hKb, nsK hns, ⟨mb, nsK hb, hbb⟩, let ⟨mc, h1, h2⟩ := hlim; ⟨mc, nsK h1, h2⟩⟩
  have e0 : Env0 P w K mg (hidT s₁.heap H) callerA [] s₁ H := ⟨rfl, hM, fun b o e => of_hidT e, Nat.le_of_eq (hidT_size _ _), trivial, (fun b hb => absurd (show b ∈ ([] : List Addr) from hb) (by simp)), hok, .of_eq hg⟩
  refine codeAny_mono ((F _ hKb (nsK hns)).run callerA [] s₁ H ⟨[.ref a], []⟩ [.ref a] [.ref a] _ _ hr rfl e0 (hbind s₁ (.ref a)) (.cons rfl .nil) (hsp H hS)) fun r s' h => ?_
  match r, h with
  | .error e, h => exact False.elim h
  | .ok .next, h => exact False.elim h
  | .ok .brk, h => exact False.elim h
  | .ok .cont, h => exact False.elim h
  | .ok (.ret u), ⟨v, H', os, bare, un, hok', r', q⟩ =>
    obtain rfl : v = .bl true := q
    obtain rfl : u = Value.bool true := r'
    refine ⟨rfl, OldK.of_keep fun b o e => ?_, os, bare⟩
    by_cases z : b = a
    · rcases hH with rfl | ⟨rfl, _⟩
      · exact un.keep b o e rfl (by intro z; exact absurd (show b ∈ ([] : List Addr) from z) (by simp)) (by simp)
      · have z1 : scrH a { cls := .type "list", data := .seq vs.toArray } ns b = some (.frz { cls := .type "list", data := .seq vs.toArray } (.lst (ns.map V.int))) := if_pos z
        have z2 := un.frzs b _ _ z1
        obtain ⟨e1, _⟩ := hok b _ z1
        obtain ⟨e2, _⟩ := hok' b _ z2
        rw [e] at e1; cases e1
        exact e2
    · exact un.keep b o e (out b z) (by intro z; exact absurd (show b ∈ ([] : List Addr) from z) (by simp)) (by simp)
theorem law_callG {k : Nat} {fa a : Addr} {fd : FuncData} {x : Str} {sp : Sp} {s₁ : Shared} {vs : List Value} {ns : List Int}
    (KX : K.In s₁.heap) (hns : s₁.heap.Ns mainGlobals mg) (hb : s₁.heap.Ns builtinsNs mb) (hbb : ∀ x : Str, x ≠ "__name__" → mb x = bootBuiltins x) (hlim : s₁.heap.NoLimit) (hg : s₁.gens = #[])
    (ha : s₁.heap.get? a = some { cls := .type "list", data := .seq vs.toArray }) (hi : IntsAre vs ns) (hl : ns.length ≤ sizeLine) (hr : Room k callerA)
    (F : ∀ base : Heap, K.In base → base.Ns mainGlobals mg → FnG P w K mg base k fa fd [x] sp) (hbind : ∀ (s : Shared) (u : Value), BindsTo s fd ⟨[u], []⟩ [(x, u)])
    (hsp : ∀ H : Hp, SqL K H a (ns.map V.int) → sp [.ref a] H (fun v _ => v = .bl true) fun _ _ _ => False) :
    codeAny (model P w) callerA (.call (.ref fa) ⟨[.ref a], []⟩) (fun r s' => r = .ok (.ret (.bool true)) ∧ OldK s₁.heap s'.heap ∧ s'.os = s₁.os ∧ AllBare s'.gens) s₁ := by
  have rv := vals_ints hi
  cases hk : K.lookup a with
  | some o =>
    have e := KX a o hk
    rw [ha] at e
    cases e
    exact law_run KX hns hb hbb hlim hg ha hi hl hr F hbind hsp (H := fun _ => none) (.inr ⟨_, vs.toArray, _, hk, rfl, rfl, rfl, by rw [List.size_toArray, hi.length]; exact hl, by simpa using rv⟩) (fun b u z => by cases z) (.inl rfl)
  | none =>
    refine law_run KX hns hb hbb hlim hg ha hi hl hr F hbind hsp (H := scrH a { cls := .type "list", data := .seq vs.toArray } ns) (.inl (.inr ⟨{ cls := .type "list", data := .seq vs.toArray }, if_pos rfl⟩)) (fun b u z => ?_) (.inr ⟨rfl, hk⟩)
    by_cases hb : b = a
    · have z' : some (HO.frz { cls := .type "list", data := .seq vs.toArray } (.lst (ns.map V.int))) = some u := (if_pos hb).symm.trans z
      cases z'
      subst hb
      exact ⟨ha, by rw [List.length_map]; exact hl, vs, _, rv, ha⟩
    · have z' : (none : Option HO) = some u := (if_neg hb).symm.trans z
      cases z'
end
theorem walk_ofG {l : PySem.W.OpenLaw} {n k : Nat} {q : Program} {loose : List Str} {XP : (Str → Option Value) → Heap → Prop} {YP : World → Heap → Prop} {d : DefRec} {K : Params → PySem.W.Frag} {sp : PySem.W.Frag → Sp} {x : Str}
    (hn : l.most = some n) (hn2 : n ≤ sizeLine) (hdf : d.params.defaults = []) (hr : Room k callerA)
    (hY : ∀ (w : World) (h : Heap), YP w h → (K w.params).In h)
    (F : ∀ (w : World) (mg : Str → Option Value) (fa : Addr) (h : Heap), (K w.params).In h → h.Ns mainGlobals mg → mg d.name = some (.ref fa) →
      ∃ fd : FuncData, (∀ (s : Shared) (u : Value), BindsTo s fd ⟨[u], []⟩ [(x, u)]) ∧
        ∀ base : Heap, (K w.params).In base → base.Ns mainGlobals mg → FnG l.prog w (K w.params) mg base k fa fd [x] (sp (K w.params)))
    (hsp : ∀ (K : PySem.W.Frag) (H : Hp) (a : Addr) (ns : List Int), ns.length ≤ n → SqL K H a (ns.map V.int) → sp K [.ref a] H (fun v _ => v = .bl true) fun _ _ _ => False) :
    PySem.W.WalkO q loose XP YP l.row.toRowW d [] (fun f vs => PySem.call f vs) := by
  refine Att.attach_call hn hdf fun w s₀ s₁ mg mb fa o pm cd doc a vs ns G Y ho hd hcd hmg hobj hints hlen hg => ?_
  have KX := hY w _ Y
  obtain ⟨fd, hb, hF⟩ := F w mg fa _ KX G.T.g hmg
  exact law_callG KX G.T.g G.T.b G.T.builtins G.T.nolimit hg hobj hints (Nat.le_trans hlen hn2) hr hF hb fun H hS => hsp _ H a ns hlen hS

/-! ### the law's def: source = ..(script), then the rest -/
theorem ok_src {K : PySem.W.Frag} {H : Hp} {D L : Addr} {σ : L2.St} {S : Src} {n : Nat} (h : SrcAt H S (D, L)) (hl : σ.length = n + 2) (h1 : σ[1]? = some (some (.ref D))) : Ok K (some (D, L)) H H σ (Option.none :: some .src :: List.replicate n Option.none) S := by
  refine ⟨.refl _ _, by rw [hl]; simp, ⟨fun _ => [], ⟨fun i sl e => ?_, fun _ => .nil, (fun _ _ _ _ z => nomatch z), (fun _ _ z => nomatch z)⟩⟩, fun p e => by cases e; exact h⟩
  match i, e with
  | 0, e => cases e
  | 1, e =>
    cases e
    exact ⟨_, h1, rfl, (D, L), rfl, rfl⟩
  | i + 2, e =>
    have e' : (List.replicate n (Option.none : Option Sl))[i]? = some (some sl) := e
    rw [List.getElem?_replicate] at e'
    split at e' <;> cases e'
def spLaw (K : PySem.W.Frag) (g : Src → Prop) (m : Src → Bool × Src) : Sp := fun vs H Q _ => ∃ a ns, vs = [.ref a] ∧ SqL K H a (ns.map .int) ∧ ns.length ≤ 1000 ∧ g (openS ns) ∧ (m (openS ns)).1 = true ∧ ∀ H', Q (.bl true) H'
end L2.Ev

set_option Elab.async false
set_option linter.all false
set_option maxRecDepth 100000
/-! Ev18: tuple(zip(*t)) of a pair of pairs. -/
namespace L2.Ev
open PySem PySem.Spec PyProof.Rows
section
variable {M : Model} {A : Around} {E : Value → Shared → Prop} {s : Shared}
/-- a built-in type called with one starred argument -/
theorem ty_star {pos p : Pos} {T : String} {env : PySem.Env} {e : Expr} {Q : Value → Shared → Prop} (h : wpAny M A (eval e env) (fun v s₁ => PySem.W.StarOf M A E v (fun vs s₂ => wpAny M A (call (.type T) vs) Q E s₂) s₁) E s)
    (he : starEach [.Starred e p] env = [(true, eval e env)]) : wpAny M A (callWith pos (.type T) [] (backTo pos (starEach [.Starred e p] env)) []) Q E s := by
  rw [he]; unfold callWith
  refine wpAny_bind (wpAny_holding (wpAny_mono (PySem.W.ks_lone (Q := fun a s₁ => wpAny M A (call (.type T) a.pos a.kw) Q E s₁) h) (fun a s₁ h1 => wpAny_bind (wpAny_standAt ?_)) fun _ _ z => z))
  refine wpAny_bind (wpAny_pure ?_)
  exact wpAny_bind (wpAny_operating (wpAny_mono h1 (fun r s₂ hr => wpAny_bind (wpAny_holding (wpAny_point (wpAny_pure hr)))) fun _ _ z => z))
end
section
variable {prog : Program} {w : World} {A : Around} {E : Value → Shared → Prop} {s : Shared} {z TI TO T i1 i2 : Addr} {fp1 fp2 : List Addr} {n1 n2 i : Nat} {P1 P2 : Nat → Value → Prop} {St1 St2 : Nat → Heap → Prop} {f : Bool} {oT : Obj}
/-- the next pair of a zip whose last pair is still held -/
theorem zh_item {Q : Value → Shared → Prop} (S : ZipSep2 z TI TO i1 i2 fp1 fp2) (D1 : Draws prog w A i1 fp1 n1 P1 St1) (D2 : Draws prog w A i2 fp2 n2 P2 St2) (hz : IsZipHeld s.heap z TI TO T f) (hT : s.heap.get? T = some oT)
    (hI : IsTupOf2 s.heap TI (.ref i1) (.ref i2)) (a1 : St1 i s.heap) (a2 : St2 i s.heap) (l1 : i < n1) (l2 : i < n2)
    (hQ : ∀ x y h' tk, P1 i x → P2 i y → IsZipHeld h' z TI TO T true → St1 (i + 1) h' → St2 (i + 1) h' → IsTupOf2 h' s.heap.objs.size x y → h'.objs.size = s.heap.objs.size + 1 →
      (∀ c o, c ≠ z → c ≠ i1 → c ≠ i2 → s.heap.get? c = some o → h'.get? c = some o) → Q (.ref s.heap.objs.size) { s with heap := h', toks := tk }) :
    wpAny (model prog w) A (Builtin.«zip.__next__» ⟨[.ref z], []⟩) (fun fin s' => ∃ v, fin = .done (.ret v) ∧ Q v s') E s := by
  obtain ⟨hp, g, d, tk0, os⟩ := s
  show wpAny _ _ (field (.ref z) 2 >>= _) _ _ _; refine wpAny_bind (wpAny_field hz rfl (x := .bool false) rfl ?_); show wpAny _ _ (field (.ref z) 3 >>= _) _ _ _; refine wpAny_bind (wpAny_field hz rfl (x := .ref TI) rfl ?_); refine wpAny_bind (wpAny_seqItems hI rfl ?_)
  show wpAny _ _ (Builtin.SmallTypes.ownedTupleIsFree (.ref z) >>= _) _ _ _; refine wpAny_bind (wpAny_tupleHeld_zip hz hT fun k1 hz1 hs1 => ?_); simp only [Bool.false_eq_true, if_false]
  refine wpAny_bind ?_
  rw [← Array.forIn_toList]; simp only [List.forIn_cons, List.forIn_nil]
  have n1z : i1 ≠ z := S.zi1.symm
  have n2z : i2 ≠ z := S.zi2.symm
  refine wpAny_bind (wpAny_bind (wpAny_holding (wpAny_bind (D1.item i ⟨k1, g, d, tk0, os⟩ _ _ l1 (D1.over a1 hs1 S.zf1) fun x k2 t2 hx b1 hs2 => wpAny_pure (wpAny_pure ?_)))))
  refine wpAny_bind (wpAny_bind (wpAny_holding (wpAny_bind (D2.item i ⟨k2, g, d, t2, os⟩ _ _ l2 (D2.over (D2.over a2 hs1 S.zf2) hs2 S.sep1_2) fun y k3 t3 hy b2 hs3 => wpAny_pure (wpAny_pure (wpAny_pure ?_))))))
  replace hs2 : Heap.SameBut i1 k1 k2 := hs2
  replace hs3 : Heap.SameBut i2 k2 k3 := hs3
  replace hs1 : Heap.SameBut z hp k1 := hs1
  show wpAny _ _ (newTuple [x, y] >>= _) _ _ _; refine wpAny_bind (wpAny_newTuple ?_)
  have hsz : k3.objs.size = hp.objs.size := by rw [hs3.1, hs2.1, hs1.1]
  have hz3 : IsZipHeld k3 z TI TO T true := hs3.extBut _ _ S.zi2 (hs2.extBut _ _ S.zi1 hz1)
  have b1' := D1.over b1 hs3 S.sep2_1
  have hp3 : IsTupOf2 (k3.push { cls := .type "tuple", data := .seq #[x, y] }) k3.objs.size x y := Heap.get?_push_size _ rfl
  have sz4 : (k3.push { cls := .type "tuple", data := .seq #[x, y] }).objs.size = k3.objs.size + 1 := Heap.size_push ..
  refine wpAny_pure ⟨_, rfl, ?_⟩
  show Q (.ref k3.objs.size) ⟨k3.push { cls := .type "tuple", data := .seq #[x, y] }, g, d, t3, os⟩
  rw [hsz] at hp3 sz4 ⊢
  exact hQ x y _ t3 hx hy (Heap.get?_push_of_some _ hz3) (D1.frame _ _ _ b1' fun _ _ _ e => Heap.get?_push_of_some _ e) (D2.frame _ _ _ b2 fun _ _ _ e => Heap.get?_push_of_some _ e) hp3 sz4
    fun c o c1 c2 c3 e => Heap.get?_push_of_some _ (hs3.extBut _ _ c3 (hs2.extBut _ _ c2 (hs1.extBut _ _ c1 e)))
/-- the end of a zip whose last pair is still held, both being at their end -/
theorem zh_end {Q : Fin → Shared → Prop} (S : ZipSep2 z TI TO i1 i2 fp1 fp2) (D1 : Draws prog w A i1 fp1 n1 P1 St1) (D2 : Draws prog w A i2 fp2 n2 P2 St2) (hz : IsZipHeld s.heap z TI TO T f) (hT : s.heap.get? T = some oT)
    (hI : IsTupOf2 s.heap TI (.ref i1) (.ref i2)) (a1 : St1 n1 s.heap)
    (hE : ∀ h' e, (∀ c o, c ≠ z → c ≠ i1 → s.heap.get? c = some o → h'.get? c = some o) → (∃ o, h'.get? e = some o ∧ o.cls = .type "StopIteration") → E (.ref e) { s with heap := h' }) :
    wpAny (model prog w) A (Builtin.«zip.__next__» ⟨[.ref z], []⟩) Q E s := by
  obtain ⟨hp, g, d, tk0, os⟩ := s
  show wpAny _ _ (field (.ref z) 2 >>= _) _ _ _; refine wpAny_bind (wpAny_field hz rfl (x := .bool false) rfl ?_); show wpAny _ _ (field (.ref z) 3 >>= _) _ _ _; refine wpAny_bind (wpAny_field hz rfl (x := .ref TI) rfl ?_); refine wpAny_bind (wpAny_seqItems hI rfl ?_)
  show wpAny _ _ (Builtin.SmallTypes.ownedTupleIsFree (.ref z) >>= _) _ _ _; refine wpAny_bind (wpAny_tupleHeld_zip hz hT fun k1 hz1 hs1 => ?_); simp only [Bool.false_eq_true, if_false]
  refine wpAny_bind ?_
  rw [← Array.forIn_toList]; simp only [List.forIn_cons, List.forIn_nil]
  refine wpAny_bind (wpAny_bind (wpAny_holding (wpAny_bind (D1.done ⟨k1, g, d, tk0, os⟩ _ _ (D1.over a1 hs1 S.zf1) fun k2 e hs2 he => ?_))))
  replace hs1 : Heap.SameBut z hp k1 := hs1
  exact hE k2 e (fun c o c1 c2 x => hs2 _ _ c2 (hs1.extBut _ _ c1 x)) he
theorem zh_next {Q : Option Value → Shared → Prop} (S : ZipSep2 z TI TO i1 i2 fp1 fp2) (D1 : Draws prog w A.in1 i1 fp1 n1 P1 St1) (D2 : Draws prog w A.in1 i2 fp2 n2 P2 St2) (hz : IsZipHeld s.heap z TI TO T f) (hT : s.heap.get? T = some oT)
    (hI : IsTupOf2 s.heap TI (.ref i1) (.ref i2)) (a1 : St1 i s.heap) (a2 : St2 i s.heap) (l1 : i < n1) (l2 : i < n2)
    (hQ : ∀ x y h' tk, P1 i x → P2 i y → IsZipHeld h' z TI TO T true → St1 (i + 1) h' → St2 (i + 1) h' → IsTupOf2 h' s.heap.objs.size x y → h'.objs.size = s.heap.objs.size + 1 →
      (∀ c o, c ≠ z → c ≠ i1 → c ≠ i2 → s.heap.get? c = some o → h'.get? c = some o) → Q (some (.ref s.heap.objs.size)) { s with heap := h', toks := tk }) : wpAny (model prog w) A (pyNext (.ref z)) Q E s := by
  have hTy : s.TypeIs (.ref z) "zip" := ⟨_, hz, rfl⟩
  unfold pyNext
  exact wpAny_bind (wpAny_attempt (wpAny_callSpecial?_slot (name := Str.ofString "__next__") hTy F.slot_zip_next (wpAny_call_entry F.slot_zip_next hTy F.entry_zip_next
      (zh_item S D1 D2 hz hT hI a1 a2 l1 l2 fun x y h' tk c1 c2 c3 c4 c5 c6 c7 c8 => wpAny_pure (hQ x y h' tk c1 c2 c3 c4 c5 c6 c7 c8)) (F.args_zip_next_1 _))))
theorem zh_stop {Q : Option Value → Shared → Prop} (S : ZipSep2 z TI TO i1 i2 fp1 fp2) (D1 : Draws prog w A.in1 i1 fp1 n1 P1 St1) (D2 : Draws prog w A.in1 i2 fp2 n2 P2 St2) (hz : IsZipHeld s.heap z TI TO T f) (hT : s.heap.get? T = some oT)
    (hI : IsTupOf2 s.heap TI (.ref i1) (.ref i2)) (a1 : St1 n1 s.heap) (hQ : ∀ h', (∀ c o, c ≠ z → c ≠ i1 → s.heap.get? c = some o → h'.get? c = some o) → Q none { s with heap := h' }) : wpAny (model prog w) A (pyNext (.ref z)) Q E s := by
  have hTy : s.TypeIs (.ref z) "zip" := ⟨_, hz, rfl⟩
  unfold pyNext
  refine wpAny_bind (wpAny_attempt (wpAny_callSpecial?_slot (name := Str.ofString "__next__") hTy F.slot_zip_next (wpAny_call_entry F.slot_zip_next hTy F.entry_zip_next (zh_end S D1 D2 hz hT hI a1 fun h' e hk he => ?_) (F.args_zip_next_1 _))))
  obtain ⟨o, ho, hc⟩ := he
  exact wpAny_bind (wpAny_isInstance (T := "StopIteration") (b := true) ⟨o, ho, hc⟩ isSubtype_stop (wpAny_pure (hQ _ hk)))
end
/-! one lap of list.extend -/
abbrev LsObj (acc : Array Value) (c : Nat) : Obj := { cls := .type "list", dict := none, data := .seq acc c, slots := #[] }
theorem ext_lap {prog : Program} {w : World} {A : Around} {R : Result → Shared → Prop} {S I : Addr} {res : Value} {s : Shared}
    (h : wpAny (model prog w) A.in1 (pyNext (.ref I)) (fun r s' => match r with
      | none => R (.ok (.ret res)) s'
      | some v => ∃ acc c, s'.heap.get? S = some (LsObj acc c) ∧ acc.size < 1000 ∧ ∀ h' c', h'.get? S = some (LsObj (acc.push v) c') → (∀ b o, b ≠ S → s'.heap.get? b = some o → h'.get? b = some o) → s'.heap.objs.size = h'.objs.size →
          codeAny (model prog w) A (.builtin "list.extend.loop" ⟨[.ref S, .ref I, res], []⟩) R { s' with heap := h' }) (fun e s' => R (.error e) s') s) :
    codeAny (model prog w) A (.builtin "list.extend.loop" ⟨[.ref S, .ref I, res], []⟩) R s := by
  refine codeAny_builtin F.entry_extend_loop ?_
  rw [Around.under_plainId F.plain_extend_loop _]
  show wpAny _ A.in1 (pyNext (.ref I) >>= _) _ _ s
  refine wpAny_bind (wpAny_mono h (fun r s' h1 => ?_) fun _ _ x => x)
  cases r with
  | none => exact wpAny_pure h1
  | some v =>
    obtain ⟨acc, c, hS, hn, k⟩ := h1
    show wpAny _ A.in1 (updateSeq S (·.push v) >>= _) _ _ _
    have hb : acc.size < sizeLine := Nat.lt_of_lt_of_le hn (by rw [sizeLine_eq]; decide)
    refine wpAny_bind (wpAny_updateSeq hS rfl (wpAny_pure ⟨plainId_quiet F.plain_extend_loop _, k _ _ (Heap.get?_update_self _ hS rfl) (fun b o hb e => (Heap.get?_update_other _ _ (Ne.symm hb)).trans e) ?_⟩) (by omega) (by show (acc.push v).size ≤ sizeLine + 1; rw [Array.size_push]; omega))
    exact (Heap.SameBut.update ..).1.symm
end L2.Ev

set_option Elab.async false
set_option linter.all false
set_option maxRecDepth 100000
/-! Ev19: a zip of two pairs is gathered. -/
namespace L2.Ev
open PySem PySem.Spec PyProof.Rows
def Kp (ch : List Addr) (h h' : Heap) : Prop := ∀ c o, c ∉ ch → h.get? c = some o → h'.get? c = some o
theorem Kp.mk4 {z TO i1 i2 : Addr} {S : Addr} {h h' : Heap} (k : ∀ c o, c ≠ z → c ≠ TO → c ≠ i1 → c ≠ i2 → h.get? c = some o → h'.get? c = some o) : Kp [z, TO, i1, i2, S] h h' := fun c o m e => by
  simp only [List.mem_cons, List.not_mem_nil, or_false, not_or] at m
  exact k c o m.1 m.2.1 m.2.2.1 m.2.2.2.1 e
theorem Kp.one {z TO i1 i2 : Addr} {S : Addr} {h h' : Heap} (k : ∀ c o, c ≠ S → h.get? c = some o → h'.get? c = some o) : Kp [z, TO, i1, i2, S] h h' := fun c o m e => by
  simp only [List.mem_cons, List.not_mem_nil, or_false, not_or] at m
  exact k c o m.2.2.2.2 e
theorem Kp.trans {ch : List Addr} {a b c : Heap} (h : Kp ch a b) (g : Kp ch b c) : Kp ch a c := fun x o m e => g x o m (h x o m e)
theorem Kp.refl {ch : List Addr} {a : Heap} : Kp ch a a := fun _ _ _ e => e
theorem zip_nolen : typeLookup (.type "zip") "__len__" = pure none := am_miss_of_fast (by decide +kernel)
theorem zip_nohint : typeLookup (.type "zip") "__length_hint__" = pure none := am_miss_of_fast (by decide +kernel)
section
variable {prog : Program} {w : World} {A : Around} {E : Value → Shared → Prop} {s : Shared} {z TI TO i1 i2 : Addr} {fp1 fp2 : List Addr} {P1 P2 : Nat → Value → Prop} {St1 St2 : Nat → Heap → Prop} {a1 a2 : Value}
/-- the two laps and the end -/
theorem laps_zz {R : Result → Shared → Prop} {S : Addr} {res : Value} {c0 : Nat} (S2 : ZipSep2 z TI TO i1 i2 fp1 fp2) (D1 : Draws prog w A.in1.in1 i1 fp1 2 P1 St1) (D2 : Draws prog w A.in1.in1 i2 fp2 2 P2 St2)
    (hz : IsZip s.heap z TI TO .none) (hI : IsTupOf2 s.heap TI (.ref i1) (.ref i2)) (hO : IsTupOf2 s.heap TO a1 a2) (st1 : St1 0 s.heap) (st2 : St2 0 s.heap) (hS : s.heap.get? S = some (LsObj #[] c0))
    (nz : S ≠ z) (nO : S ≠ TO) (n1 : S ≠ i1) (n2 : S ≠ i2) (nI : S ≠ TI) (f1 : S ∉ fp1) (f2 : S ∉ fp2)
    (hR : ∀ x0 y0 x1 y1 T1 T2 h1 h2 h3 tk c, P1 0 x0 → P2 0 y0 → P1 1 x1 → P2 1 y1 → IsTupOf2 h1 T1 x0 y0 → IsTupOf2 h2 T2 x1 y1 → s.heap.objs.size ≤ T1 → h1.objs.size ≤ T2 → h2.objs.size ≤ h3.objs.size →
      Kp [z, TO, i1, i2, S] s.heap h1 → Kp [z, TO, i1, i2, S] h1 h2 → Kp [z, TO, i1, i2, S] h2 h3 → h3.get? S = some (LsObj #[.ref T1, .ref T2] c) → R (.ok (.ret res)) { s with heap := h3, toks := tk }) :
    codeAny (model prog w) A (.builtin "list.extend.loop" ⟨[.ref S, .ref z, res], []⟩) R s := by
  obtain ⟨hp, g, d, tk0, os⟩ := s
  refine ext_lap (wpAny_pyNext_zipD2_item S2 D1 D2 hz hI hO st1 st2 (by decide) (by decide) fun x0 y0 g1 tk1 p1 p2 hz1 hO1 b1 b2 hT1 sz1 k1 => ?_)
  replace hT1 : IsTupOf2 g1 hp.objs.size x0 y0 := hT1
  replace sz1 : g1.objs.size = hp.objs.size + 1 := sz1
  replace k1 : ∀ c o, c ≠ z → c ≠ TO → c ≠ i1 → c ≠ i2 → hp.get? c = some o → g1.get? c = some o := k1
  have hS1 := k1 _ _ nz nO n1 n2 hS
  have ltS : S < hp.objs.size := Heap.lt_size hS
  refine ⟨#[], c0, hS1, by decide, fun h1 c1 hS1' kk1 e1 => ?_⟩
  replace e1 : g1.objs.size = h1.objs.size := e1
  have nT1 : hp.objs.size ≠ S := Nat.ne_of_gt ltS
  have hT1' : IsTupOf2 h1 hp.objs.size x0 y0 := kk1 _ _ nT1 hT1
  have hz1' : IsZipHeld h1 z TI TO hp.objs.size false := kk1 _ _ nz.symm hz1
  have hI1 : IsTupOf2 h1 TI (.ref i1) (.ref i2) := kk1 _ _ nI.symm (k1 _ _ S2.TIz S2.TITO S2.TIi1 S2.TIi2 hI)
  have b1' := D1.frame _ _ h1 b1 fun b hb o e => kk1 b o (fun q => f1 (q ▸ hb)) e
  have b2' := D2.frame _ _ h1 b2 fun b hb o e => kk1 b o (fun q => f2 (q ▸ hb)) e
  refine ext_lap (zh_next (s := ⟨h1, g, d, tk1, os⟩) S2 D1 D2 hz1' hT1' hI1 b1' b2' (by decide) (by decide) fun x1 y1 g2 tk2 p3 p4 hz2 b3 b4 hT2 sz2 k2 => ?_)
  replace hT2 : IsTupOf2 g2 h1.objs.size x1 y1 := hT2
  replace sz2 : g2.objs.size = h1.objs.size + 1 := sz2
  replace k2 : ∀ c o, c ≠ z → c ≠ i1 → c ≠ i2 → h1.get? c = some o → g2.get? c = some o := k2
  have hS2 := k2 _ _ nz n1 n2 hS1'
  refine ⟨_, c1, hS2, by show (1 : Nat) < 1000; decide, fun h2 c2 hS2' kk2 e2 => ?_⟩
  replace e2 : g2.objs.size = h2.objs.size := e2
  have le1 : hp.objs.size ≤ h1.objs.size := by rw [← e1, sz1]; exact Nat.le_succ _
  have nT2 : h1.objs.size ≠ S := Nat.ne_of_gt (Nat.lt_of_lt_of_le ltS le1)
  have hT2' : IsTupOf2 h2 h1.objs.size x1 y1 := kk2 _ _ nT2 hT2
  have hz2' : IsZipHeld h2 z TI TO hp.objs.size true := kk2 _ _ nz.symm hz2
  have lz : z < hp.objs.size := Heap.lt_size hz
  have l1 : i1 < hp.objs.size := by obtain ⟨_, e⟩ := D1.live _ _ st1; exact Heap.lt_size e
  have l2 : i2 < hp.objs.size := by obtain ⟨_, e⟩ := D2.live _ _ st2; exact Heap.lt_size e
  have hT1'' := kk2 _ _ nT1 (k2 _ _ (Nat.ne_of_gt lz) (Nat.ne_of_gt l1) (Nat.ne_of_gt l2) hT1')
  have hI2 : IsTupOf2 h2 TI (.ref i1) (.ref i2) := kk2 _ _ nI.symm (k2 _ _ S2.TIz S2.TIi1 S2.TIi2 hI1)
  have b3' := D1.frame _ _ h2 b3 fun b hb o e => kk2 b o (fun q => f1 (q ▸ hb)) e
  refine ext_lap (zh_stop (s := ⟨h2, g, d, tk2, os⟩) S2 D1 D2 hz2' hT1'' hI2 b3' fun h3 k3 => ?_)
  replace k3 : ∀ c o, c ≠ z → c ≠ i1 → h2.get? c = some o → h3.get? c = some o := k3
  refine hR x0 y0 x1 y1 hp.objs.size h1.objs.size h1 h2 h3 tk2 c2 p1 p2 p3 p4 hT1' hT2' (Nat.le_refl _) (Nat.le_refl _) ?_ ?_ ?_ ?_ (k3 _ _ nz n1 hS2')
  · have q := k3 _ _ (Nat.ne_of_gt (Nat.lt_of_lt_of_le lz le1)) (Nat.ne_of_gt (Nat.lt_of_lt_of_le l1 le1)) hT2'
    rw [← e2, sz2]
    exact Heap.lt_size q
  · exact (Kp.mk4 k1).trans (.one kk1)
  · exact (Kp.mk4 fun c o c1 _ c3 c4 e => k2 c o c1 c3 c4 e).trans (.one kk2)
  · exact Kp.mk4 fun c o c1 _ c3 _ e => k3 c o c1 c3 e
end
end L2.Ev

set_option Elab.async false
set_option linter.all false
set_option maxRecDepth 100000
/-! Ev20: tuple(zip(*t)) of a pair of pairs, as a rule. -/
namespace L2.Ev
open PySem PySem.Spec PyProof.Rows
section
variable {prog : Program} {w : World} {A : Around} {E : Value → Shared → Prop} {s : Shared} {z TI TO i1 i2 : Addr} {fp1 fp2 : List Addr} {P1 P2 : Nat → Value → Prop} {St1 St2 : Nat → Heap → Prop} {a1 a2 : Value}
def ZzEnd (P1 P2 : Nat → Value → Prop) (ch : List Addr) (h0 : Heap) (Q : List Value → Heap → Nat → Prop) : Prop :=
  ∀ x0 y0 x1 y1 T1 T2 h1 h2 h3 tk, P1 0 x0 → P2 0 y0 → P1 1 x1 → P2 1 y1 → IsTupOf2 h1 T1 x0 y0 → IsTupOf2 h2 T2 x1 y1 → h0.objs.size < T1 → h1.objs.size ≤ T2 → h2.objs.size ≤ h3.objs.size → Kp ch h0 h1 → Kp ch h1 h2 → Kp ch h2 h3 → Q [.ref T1, .ref T2] h3 tk
theorem collect_zz {Q : List Value → Shared → Prop} (S2 : ZipSep2 z TI TO i1 i2 fp1 fp2) (D1 : Draws prog w A.in1.in1 i1 fp1 2 P1 St1) (D2 : Draws prog w A.in1.in1 i2 fp2 2 P2 St2)
    (hz : IsZip s.heap z TI TO .none) (hI : IsTupOf2 s.heap TI (.ref i1) (.ref i2)) (hO : IsTupOf2 s.heap TO a1 a2) (st1 : St1 0 s.heap) (st2 : St2 0 s.heap) (lf1 : ∀ b ∈ fp1, b < s.heap.objs.size) (lf2 : ∀ b ∈ fp2, b < s.heap.objs.size)
    (hQ : ZzEnd P1 P2 [z, TO, i1, i2, s.heap.objs.size] s.heap fun vs h tk => Q vs { s with heap := h, toks := tk }) : wpAny (model prog w) A (collect (.ref z)) Q E s := by
  have nN : ∀ {b o}, s.heap.get? b = some o → s.heap.objs.size ≠ b := fun e => Nat.ne_of_gt (Heap.lt_size e)
  have ni1 : s.heap.objs.size ≠ i1 := by obtain ⟨_, e⟩ := D1.live _ _ st1; exact nN e
  have ni2 : s.heap.objs.size ≠ i2 := by obtain ⟨_, e⟩ := D2.live _ _ st2; exact nN e
  have g1 : s.heap.objs.size ∉ fp1 := fun m => Nat.lt_irrefl _ (lf1 _ m)
  have g2 : s.heap.objs.size ∉ fp2 := fun m => Nat.lt_irrefl _ (lf2 _ m)
  have hup : ∀ {b : Addr} {o : Obj}, s.heap.get? b = some o → (s.heap.push (LsObj #[] 0)).get? b = some o := fun e => Heap.get?_push_of_some _ e
  have hTz : ∀ h : Heap, h.get? z = some { cls := .type "zip", dict := none, data := .fields #[.none, .bool false, .bool false, .ref TI, .ref TO], slots := #[] } → ∀ tk, ({ s with heap := h, toks := tk } : Shared).TypeIs (.ref z) "zip" := fun h e _ => ⟨_, e, rfl⟩
  unfold collect
  refine wpAny_bind (wpAny_runValue (codeAny_builtin F.entry_proto_collect ?_)); rw [Around.under_plainId F.plain_proto_collect _]
  show wpAny _ A.in1 (newList [] >>= fun l => again (.builtin "list.__iadd__" ⟨[l, .ref z], []⟩)) _ _ s
  refine wpAny_bind (wpAny_newObj_type (wpAny_pure ⟨plainId_quiet F.plain_list_iadd _, codeAny_builtin F.entry_list_iadd ?_⟩)); rw [Around.under_plainId F.plain_list_iadd _]
  have hzN : IsZip (s.heap.push (LsObj #[] 0)) z TI TO .none := hup hz
  have hT' : ∀ tk, ({ s with heap := s.heap.push (LsObj #[] 0), toks := tk } : Shared).TypeIs (.ref z) "zip" := hTz _ hzN
  show wpAny _ A.in1 (Builtin.List.listExtendWith (.ref s.heap.objs.size) (.ref z) (.ref s.heap.objs.size)) _ _ _
  unfold Builtin.List.listExtendWith
  refine wpAny_bind (wpAny_typeOf (hT' s.toks) ?_)
  have q1 : Builtin.List.listSameRef (.ref s.heap.objs.size) (.ref z) = false := by simp [Builtin.List.listSameRef, nN hz]
  have q2 : (Value.type "zip" == Value.type "list") = false := by decide
  have q3 : (Value.type "zip" == Value.type "tuple") = false := by decide
  simp only [q1, q2, q3, Bool.or_false, Bool.false_eq_true, if_false]
  refine wpAny_bind (wpAny_pyIter_zip hzN (wpAny_bind (wpAny_holding ?_)))
  unfold Builtin.List.listLengthHint
  refine wpAny_bind (wpAny_specialOf (hT' s.toks) zip_nolen ?_)
  show wpAny _ A.in1 (specialOf (Value.ref z) (Str.ofString "__length_hint__") >>= _) _ _ _
  refine wpAny_bind (wpAny_specialOf (hT' s.toks) zip_nohint (wpAny_pure ?_))
  show wpAny _ A.in1 (rule "list.extend.makes-room" >>= fun _ => Builtin.List.listTouch (.ref s.heap.objs.size) >>= fun _ =>
      again (.builtin "list.extend.loop" ⟨[.ref s.heap.objs.size, .ref z, .ref s.heap.objs.size], []⟩)) _ _ _
  refine wpAny_bind (wpAny_rule (wpAny_bind ?_))
  have e0 : (s.heap.push (LsObj #[] 0)).get? s.heap.objs.size = some (LsObj #[] 0) := Heap.get?_push_size _ rfl
  show wpAny _ A.in1 (updateSeq s.heap.objs.size (·.push .none) >>= fun _ => updateSeq s.heap.objs.size (·.pop)) _ _ _
  refine wpAny_bind (wpAny_updateSeq e0 rfl ?_)
  have e1 := Heap.get?_update_self (Obj.mapSeq (·.push Value.none)) e0 rfl
  refine wpAny_updateSeq e1 rfl ?_
  have e2 := Heap.get?_update_self (Obj.mapSeq (·.pop)) e1 rfl
  generalize hG : ((s.heap.push (LsObj #[] 0)).update s.heap.objs.size (Obj.mapSeq (·.push Value.none))).update s.heap.objs.size (Obj.mapSeq (·.pop)) = G at e2 ⊢
  have oth : ∀ {b : Addr} {o : Obj}, s.heap.get? b = some o → G.get? b = some o := fun {b o} e => by
    rw [← hG]
    exact (Heap.get?_update_other _ _ (nN e)).trans ((Heap.get?_update_other _ _ (nN e)).trans (hup e))
  have sG : s.heap.objs.size < G.objs.size := Heap.lt_size e2
  refine wpAny_pure ⟨plainId_quiet F.plain_extend_loop _, laps_zz (s := { s with heap := G }) S2 D1 D2 (oth hz) (oth hI) (oth hO) (D1.frame _ _ _ st1 fun b _ o e => oth e) (D2.frame _ _ _ st2 fun b _ o e => oth e) e2
    (nN hz) (nN hO) ni1 ni2 (nN hI) g1 g2 fun x0 y0 x1 y1 T1 T2 h1 h2 h3 tk c p1 p2 p3 p4 u1 u2 u3 u4 u5 k1 k2 k3 hS3 => ?_⟩
  show wpAny _ A (load s.heap.objs.size >>= _) _ _ _
  refine wpAny_bind (wpAny_load hS3 (wpAny_pure ?_))
  exact hQ x0 y0 x1 y1 T1 T2 h1 h2 h3 tk p1 p2 p3 p4 u1 u2 (Nat.lt_of_lt_of_le sG u3) u4 u5 (fun c o m e => k1 c o m (oth e)) k2 k3
theorem code_zz {Q₁ : Value → Shared → Prop} (S2 : ZipSep2 z TI TO i1 i2 fp1 fp2) (D1 : Draws prog w A.in1.in1.in1 i1 fp1 2 P1 St1) (D2 : Draws prog w A.in1.in1.in1 i2 fp2 2 P2 St2)
    (hz : IsZip s.heap z TI TO .none) (hI : IsTupOf2 s.heap TI (.ref i1) (.ref i2)) (hO : IsTupOf2 s.heap TO a1 a2) (st1 : St1 0 s.heap) (st2 : St2 0 s.heap) (lf1 : ∀ b ∈ fp1, b < s.heap.objs.size) (lf2 : ∀ b ∈ fp2, b < s.heap.objs.size)
    (hQ : ZzEnd P1 P2 [z, TO, i1, i2, s.heap.objs.size] s.heap fun vs h tk => Q₁ (.ref h.objs.size) { s with heap := h.push { cls := .type "tuple", data := .seq vs.toArray }, toks := tk }) :
    codeAny (model prog w) A (.call (.builtin "tuple.__new__") ⟨[.type "tuple", .ref z], []⟩) (wants Q₁ E) s := by
  refine codeAny_of_tree ?_
  show wpAny _ A.in1 (do checkBuiltinCall "tuple.__new__" ⟨[.type "tuple", .ref z], []⟩; again (.builtin "tuple.__new__" ⟨[.type "tuple", .ref z], []⟩)) _ _ s
  refine wpAny_bind (wpAny_of_eq (F.newCall_tuple_1 _) (wpAny_pure ⟨plainId_quiet F.plain_tuple_new _, codeAny_builtin F.entry_tuple_new ?_⟩)); rw [Around.under_plainId F.plain_tuple_new _]
  have hsub := sub_tuple_self; have hinit := init_tuple_lookup; have hmh := madeHere_tuple
  have hTI : s.TypeIs (.ref z) "zip" := ⟨_, hz, rfl⟩
  wp_walk using wpAny_typeOf hTI, collect_zz (A := A.in1) S2 D1 D2 hz hI hO st1 st2 lf1 lf2
  intro x0 y0 x1 y1 T1 T2 h1 h2 h3 tk p1 p2 p3 p4 u1 u2 u3 u4 u5 k1 k2 k3
  show wpAny _ _ (Builtin.Tuple.tupleExact #[.ref T1, .ref T2] >>= fun v => ret v) _ _ _
  unfold Builtin.Tuple.tupleExact
  refine wpAny_bind (wpAny_newObj_type (wpAny_pure ?_) (by show (2 : Nat) ≤ sizeLine; rw [sizeLine_eq]; decide))
  exact hQ x0 y0 x1 y1 T1 T2 h1 h2 h3 tk p1 p2 p3 p4 u1 u2 u3 u4 u5 k1 k2 k3
theorem call_zz {Q : Value → Shared → Prop} (S2 : ZipSep2 z TI TO i1 i2 fp1 fp2) (D1 : Draws prog w A.in1.in1.in1.in1 i1 fp1 2 P1 St1) (D2 : Draws prog w A.in1.in1.in1.in1 i2 fp2 2 P2 St2)
    (hz : IsZip s.heap z TI TO .none) (hI : IsTupOf2 s.heap TI (.ref i1) (.ref i2)) (hO : IsTupOf2 s.heap TO a1 a2) (st1 : St1 0 s.heap) (st2 : St2 0 s.heap) (lf1 : ∀ b ∈ fp1, b < s.heap.objs.size) (lf2 : ∀ b ∈ fp2, b < s.heap.objs.size)
    (hQ : ZzEnd P1 P2 [z, TO, i1, i2, s.heap.objs.size] s.heap fun vs h tk => Q (.ref h.objs.size) { s with heap := h.push { cls := .type "tuple", data := .seq vs.toArray }, toks := tk }) :
    wpAny (model prog w) A (call (.type "tuple") [.ref z]) Q E s := by
  refine callType_codes (Q₁ := fun obj s₁ => s₁.TypeIs obj "tuple" ∧ Q obj s₁) F.called_tuple (F.typeCall_tuple_1 _) F.entry_object_init
    (code_zz (A := A.in1) S2 D1 D2 hz hI hO st1 st2 lf1 lf2 fun x0 y0 x1 y1 T1 T2 h1 h2 h3 tk p1 p2 p3 p4 u1 u2 u3 u4 u5 k1 k2 k3 => ⟨⟨_, Heap.get?_push_size _ rfl, rfl⟩, hQ x0 y0 x1 y1 T1 T2 h1 h2 h3 tk p1 p2 p3 p4 u1 u2 u3 u4 u5 k1 k2 k3⟩) fun obj s₁ g => ?_
  exact ⟨g.1, F.args_object_init_2 obj _, object_init_meets F.called_tuple.init.lookup F.called_tuple.made (by decide) prog w A.in1 _ s₁ ⟨g.1, rfl, g.2⟩⟩
end
end L2.Ev

set_option Elab.async false
set_option linter.all false
set_option maxRecDepth 100000
/-! Ev21: tuple(zip(*t)), t a pair of pairs. -/
namespace L2.Ev
open PySem PySem.Spec PyProof.Rows
def tZz (K : PySem.W.Frag) (te : TE) : TE := fun σ H Q => te σ H fun x H1 => ∃ a l1 l2 u0 u1 v0 v1, x = .ref a ∧ SqT K H1 a [.ref l1, .ref l2] ∧ SqT K H1 l1 [u0, u1] ∧ SqT K H1 l2 [v0, v1] ∧
  ∀ T1 T2 T3, H1 T1 = Option.none → H1 T2 = Option.none → H1 T3 = Option.none → T2 ≠ T1 → T3 ≠ T1 → T3 ≠ T2 → Q (.ref T3) (upd (upd (upd H1 T1 (.tup [u0, v0])) T2 (.tup [u1, v1])) T3 (.tup [.ref T1, .ref T2]))
section
variable {X : Cx} {e : Expr} {te : TE} {p p2 ps pos pos2 : Pos}
theorem pe_zz (hc : X.calm = true) (hgT : Gl X "tuple") (hmT : X.mg "tuple" = Option.none) (hgZ : Gl X "zip") (hmZ : X.mg "zip" = Option.none) (ha : PE X e te)
    (nst : starEach [.Starred e ps] X.env = [(true, eval e X.env)]) (na : starEach [.Call (.Name "zip" p2) [.Starred e ps] [] pos2] X.env = (false, eval (.Call (.Name "zip" p2) [.Starred e ps] [] pos2) X.env) :: starEach [] X.env) :
    PE X (.Call (.Name "tuple" p) [.Call (.Name "zip" p2) [.Starred e ps] [] pos2] [] pos) (tZz X.K te) := by
  refine ⟨fun pins s σ H Q I h => ?_⟩
  refine Call_ (ld_blt I hgT hmT boot_tuple (PyProof.Rows.callWith_type1 (args_cons (Call_ (ld_blt I hgZ hmZ PyProof.Rows.boot_zip (ty_star (thn (ha.run pins s σ H _ I h) fun v s1 hh => ?_) nst))) na) na))
  obtain ⟨x, H1, I1, r1, a, l1, l2, u0, u1, v0, v1, rfl, ht, h1, h2, q⟩ := hh
  obtain rfl : v = Value.ref a := r1
  refine star_tup I1 ht fun us s2 I2 rv => ?_
  obtain ⟨w1, w2, rfl, rw1, rw2⟩ := Vals.two rv
  obtain rfl : w1 = .ref l1 := rw1
  obtain rfl : w2 = .ref l2 := rw2
  have hs1 : SrcB true X.K Option.none H1 l1 [u0, u1] := h1
  have hs2 : SrcB true X.K Option.none H1 l2 [v0, v1] := h2
  obtain ⟨_, rx, ho⟩ := hs1.obj I2
  obtain ⟨_, ry, ho2⟩ := hs2.obj I2
  obtain ⟨x0, x1, rfl, rx0, rx1⟩ := Vals.two rx
  obtain ⟨y0, y1, rfl, ry0, ry1⟩ := Vals.two ry
  have hh : X.A.handled = Option.none := I2.ok.hd hc
  have k1 : l1 < s2.heap.objs.size := SrcO.lt ho
  have k2 : l2 < s2.heap.objs.size := SrcO.lt ho2
  refine zip_begins2 (src_begins true l1 [x0, x1].toArray) (src_begins true l2 [y0, y1].toArray) ho ho2 fun h' g1 g2 g3 g4 g5 hsz hk => args_nil ?_
  refine call_zz (s := { s2 with heap := h' }) (zip_sep2 (N := s2.heap.objs.size) (fp1 := [l1]) (fp2 := [l2]) (by simpa using k1) (by simpa using k2)) (src_draws true (A := X.A.in1.in1.in1.in1) hh s2.heap.objs.size l1 (Nat.ne_of_lt k1) [x0, x1].toArray)
    (src_draws true (A := X.A.in1.in1.in1.in1) hh (s2.heap.objs.size + 1) l2 (Nat.ne_of_lt (Nat.lt_succ_of_lt k2)) [y0, y1].toArray) g1 g2 g3 ⟨src_iter0 g4, ?_⟩ ⟨src_iter0 g5, ?_⟩ ?_ ?_ ?_
  · obtain ⟨o, e1, e2⟩ := ho
    exact ⟨o, hk _ _ e1, e2⟩
  · obtain ⟨o, e1, e2⟩ := ho2
    exact ⟨o, hk _ _ e1, e2⟩
  · intro b hb
    show b < h'.objs.size
    rw [hsz]
    rcases List.mem_cons.mp hb with rfl | hb
    · exact Nat.lt_add_of_pos_right (by decide)
    · obtain rfl := List.mem_singleton.mp hb
      exact Nat.lt_add_right _ k1
  · intro b hb
    show b < h'.objs.size
    rw [hsz]
    rcases List.mem_cons.mp hb with rfl | hb
    · exact Nat.add_lt_add_left (by decide) _
    · obtain rfl := List.mem_singleton.mp hb
      exact Nat.lt_add_right _ k2
  intro a0 b0 a1 b1 T1 T2 m1 m2 m3 tk p1 p2 p3 p4 t1 t2 u3 u4 u5 j1 j2 j3
  obtain rfl : x0 = a0 := by simpa using p1
  obtain rfl : y0 = b0 := by simpa using p2
  obtain rfl : x1 = a1 := by simpa using p3
  obtain rfl : y1 = b1 := by simpa using p4
  replace u3 : h'.objs.size < T1 := u3
  rw [hsz] at u3
  have lo : ∀ b ∈ [s2.heap.objs.size + 4, s2.heap.objs.size + 3, s2.heap.objs.size, s2.heap.objs.size + 1, h'.objs.size], s2.heap.objs.size ≤ b ∧ b < T1 := fun b hb => by
    rw [hsz] at hb
    simp only [List.mem_cons, List.not_mem_nil, or_false] at hb
    have up : ∀ k : Nat, k ≤ 5 → s2.heap.objs.size ≤ s2.heap.objs.size + k ∧ s2.heap.objs.size + k < T1 := fun k hk => ⟨Nat.le_add_right _ _, Nat.lt_of_le_of_lt (Nat.add_le_add_left hk _) u3⟩
    rcases hb with rfl | rfl | rfl | rfl | rfl
    · exact up 4 (by decide)
    · exact up 3 (by decide)
    · exact up 0 (by decide)
    · exact up 1 (by decide)
    · exact up 5 (by decide)
  generalize hch : [s2.heap.objs.size + 4, s2.heap.objs.size + 3, s2.heap.objs.size, s2.heap.objs.size + 1, h'.objs.size] = ch at lo
  replace j1 : Kp ch h' m1 := by rw [← hch]; exact j1
  replace j2 : Kp ch m1 m2 := by rw [← hch]; exact j2
  replace j3 : Kp ch m2 m3 := by rw [← hch]; exact j3
  have N1 : s2.heap.objs.size ≤ T1 := Nat.le_of_lt (Nat.lt_of_le_of_lt (Nat.le_add_right _ 5) u3)
  have lt1 : T1 < m1.objs.size := Heap.lt_size t1
  have lt2 : T2 < m2.objs.size := Heap.lt_size t2
  have T21 : T1 < T2 := Nat.lt_of_lt_of_le lt1 u4
  have T32 : T2 < m3.objs.size := Nat.lt_of_lt_of_le lt2 u5
  have N2 : s2.heap.objs.size ≤ T2 := Nat.le_trans N1 (Nat.le_of_lt T21)
  have two : (2 : Nat) ≤ sizeLine := by rw [sizeLine_eq]; decide
  have Ia : Inv X pins σ (upd H1 T1 (.tup [u0, v0])) { s2 with heap := m1, toks := tk } := I2.laid (fun b o e1 => j1 b o (fun m => Nat.lt_irrefl _ (Nat.lt_of_lt_of_le (Heap.lt_size e1) (lo b m).1)) (hk b o e1)) N1
    (show ObjOk X.prog X.w _ _ _ (.tup _) from ⟨two, [x0, y0], .cons rx0 (.cons ry0 .nil), _, t1, rfl, _, rfl⟩)
  have fa : ∀ b ∈ ch, (upd H1 T1 (.tup [u0, v0])) b = Option.none := fun b m => by rw [upd_ne (Nat.ne_of_lt (lo b m).2)]; exact I2.hok.fresh (lo b m).1
  have Ib : Inv X pins σ (upd (upd H1 T1 (.tup [u0, v0])) T2 (.tup [u1, v1])) { s2 with heap := m2, toks := tk } := Ia.turnedNew (ch := ch) (fun b o m e1 => j2 b o m e1) (fun b m => I2.fpOk (lo b m).1 (fa b m)) u4
    ⟨two, [x1, y1], .cons rx1 (.cons ry1 .nil), _, t2, rfl, _, rfl⟩
  have fb : ∀ b ∈ ch, (upd (upd H1 T1 (.tup [u0, v0])) T2 (.tup [u1, v1])) b = Option.none := fun b m => by rw [upd_ne (Nat.ne_of_lt (Nat.lt_trans (lo b m).2 T21))]; exact fa b m
  have Ic : Inv X pins σ (upd (upd (upd H1 T1 (.tup [u0, v0])) T2 (.tup [u1, v1])) m3.objs.size (.tup [.ref T1, .ref T2])) { s2 with heap := m3.push { cls := .type "tuple", data := .seq ([Value.ref T1, Value.ref T2] : List Value).toArray }, toks := tk } :=
    Ib.turnedNew (ch := ch) (fun b o m e1 => Heap.get?_push_of_some _ (j3 b o m e1)) (fun b m => I2.fpOk (lo b m).1 (fb b m)) u5 ⟨two, [Value.ref T1, Value.ref T2], .cons rfl (.cons rfl .nil), _, Heap.get?_push_size _ rfl, rfl, _, rfl⟩
  exact ⟨.ref m3.objs.size, _, Ic, rfl, q T1 T2 m3.objs.size (I2.hok.fresh N1) (I2.hok.fresh N2) (I2.hok.fresh (Nat.le_trans N2 (Nat.le_of_lt T32))) (Nat.ne_of_gt T21) (Nat.ne_of_gt (Nat.lt_trans T21 T32)) (Nat.ne_of_gt T32)⟩
end
section
variable {X : Cx} {sa : SA} {δ : Env} {S S1 : Src} {e : Expr} {p p2 ps pos pos2 : Pos} {st : Bool}
theorem ev_zz {α : Type} [Enc α] {t : (α × α) × (α × α)} (hc : X.calm = true) (hgT : Gl X "tuple") (hmT : X.mg "tuple" = Option.none) (hgZ : Gl X "zip") (hmZ : X.mg "zip" = Option.none) (ha : EE X sa δ S e (.p (enc t)) S1)
    (nst : starEach [.Starred e ps] X.env = [(true, eval e X.env)] := by rfl) (na : starEach [.Call (.Name "zip" p2) [.Starred e ps] [] pos2] X.env = (false, eval (.Call (.Name "zip" p2) [.Starred e ps] [] pos2) X.env) :: starEach [] X.env := by rfl) :
    EG st X sa δ S (.Call (.Name "tuple" p) [.Call (.Name "zip" p2) [.Starred e ps] [] pos2] [] pos) (.p (enc ((t.1.1, t.2.1), (t.1.2, t.2.2)))) S1 :=
  pe_imp (pe_zz hc hgT hmT hgZ hmZ ha nst na) fun σ H Q ⟨B, ok, k⟩ => ⟨B, ok, fun v H1 B1 ok1 e1 b1 r1 => by
    obtain rfl : B1 = H1 := b1
    obtain ⟨_, hd, _, ⟨_, ga0, ga1, _⟩, ⟨_, gb0, gb1, _⟩, _⟩ := r1
    cases hd with
    | tup ht hr =>
    rename_i a _
    cases hr with
    | cons r1 hr =>
    cases hr with
    | cons r2 hr =>
    cases hr
    cases r1 with
    | tup h1 q1 =>
    cases r2 with
    | tup h2 q2 =>
    cases q1 with
    | cons a0 q1 =>
    cases q1 with
    | cons a1 q1 =>
    cases q1
    cases q2 with
    | cons b0 q2 =>
    cases q2 with
    | cons b1 q2 =>
    cases q2
    rename_i w0 w1 w2 w3
    refine ⟨_, _, _, _, _, _, _, rfl, ht, h1, h2, fun T1 T2 T3 n1 n2 n3 d1 d2 d3 => ?_⟩
    have x1 : Ext sa B1 (upd B1 T1 (.tup [w0, w2])) := .new n1
    have x2 : Ext sa (upd B1 T1 (.tup [w0, w2])) (upd (upd B1 T1 (.tup [w0, w2])) T2 (.tup [w1, w3])) := .new (by rw [upd_ne d1]; exact n2)
    have x3 : Ext sa (upd (upd B1 T1 (.tup [w0, w2])) T2 (.tup [w1, w3])) (upd (upd (upd B1 T1 (.tup [w0, w2])) T2 (.tup [w1, w3])) T3 (.tup [.ref T1, .ref T2])) := .new (by rw [upd_ne d3, upd_ne d2]; exact n3)
    have x13 := (x1.trans x2).trans x3
    have two : (2 : Nat) ≤ sizeLine := by rw [sizeLine_eq]; decide
    refine give_p (v := .ref T3) (d := .tuple [.tuple [enc t.1.1, enc t.2.1], .tuple [enc t.1.2, enc t.2.2]]) ok (e1.trans x13) (((ok1.src.same (same_new n1)).same (same_new (by rw [upd_ne d1]; exact n2))).same (same_new (by rw [upd_ne d3, upd_ne d2]; exact n3)))
      (.tup (.of upd_same) (.cons (.tup (.of ?_) (.cons (x13.tup.dp _ _ ga0 a0) (.cons (x13.tup.dp _ _ gb0 b0) .nil))) (.cons (.tup (.of ?_) (.cons (x13.tup.dp _ _ ga1 a1) (.cons (x13.tup.dp _ _ gb1 b1) .nil))) .nil))) ⟨two, ⟨two, ga0, gb0, trivial⟩, ⟨two, ga1, gb1, trivial⟩, trivial⟩
      fun B' ok' bb r => k _ _ B' ok' (e1.trans x13) bb r
    · rw [upd_ne d2.symm, upd_ne d1.symm, upd_same]
    · rw [upd_ne d3.symm, upd_same]⟩
end
end L2.Ev

set_option Elab.async false
set_option linter.all false
set_option maxRecDepth 100000
/-! Ev22: zip of four, all as long (printed by zipk.py). -/
namespace L2.Ev
open PySem PySem.Spec PyProof.Rows
set_option maxHeartbeats 2000000
abbrev Tup4 (h : Heap) (T : Addr) (t1 t2 t3 t4 : Value) : Prop := h.get? T = some { cls := .type "tuple", data := .seq #[t1, t2, t3, t4] }
structure Apart4 (zc ti tq i1 i2 i3 i4 : Addr) (fp1 fp2 fp3 fp4 : List Addr) : Prop where
  iz : ti ≠ zc
  oz : tq ≠ zc
  io : ti ≠ tq
  k1 : ti ≠ i1
  m1 : i1 ∈ fp1
  z1 : zc ∉ fp1
  t1 : tq ∉ fp1
  s12 : i1 ∉ fp2
  s13 : i1 ∉ fp3
  s14 : i1 ∉ fp4
  k2 : ti ≠ i2
  m2 : i2 ∈ fp2
  z2 : zc ∉ fp2
  t2 : tq ∉ fp2
  s21 : i2 ∉ fp1
  s23 : i2 ∉ fp3
  s24 : i2 ∉ fp4
  k3 : ti ≠ i3
  m3 : i3 ∈ fp3
  z3 : zc ∉ fp3
  t3 : tq ∉ fp3
  s31 : i3 ∉ fp1
  s32 : i3 ∉ fp2
  s34 : i3 ∉ fp4
  k4 : ti ≠ i4
  m4 : i4 ∈ fp4
  z4 : zc ∉ fp4
  t4 : tq ∉ fp4
  s41 : i4 ∉ fp1
  s42 : i4 ∉ fp2
  s43 : i4 ∉ fp3
section
variable {prog : Program} {w : World} {A : Around} {E : Value → Shared → Prop} {s : Shared} {zc ti tq i1 i2 i3 i4 : Addr} {fp1 fp2 fp3 fp4 : List Addr} {n i : Nat} {P1 P2 P3 P4 : Nat → Value → Prop} {Z1 Z2 Z3 Z4 : Nat → Heap → Prop} {t1 t2 t3 t4 : Value}
theorem Apart4.zi1 (D : Apart4 zc ti tq i1 i2 i3 i4 fp1 fp2 fp3 fp4) : zc ≠ i1 := fun e => D.z1 (e ▸ D.m1)
theorem Apart4.ti1 (D : Apart4 zc ti tq i1 i2 i3 i4 fp1 fp2 fp3 fp4) : tq ≠ i1 := fun e => D.t1 (e ▸ D.m1)
theorem Apart4.zi2 (D : Apart4 zc ti tq i1 i2 i3 i4 fp1 fp2 fp3 fp4) : zc ≠ i2 := fun e => D.z2 (e ▸ D.m2)
theorem Apart4.ti2 (D : Apart4 zc ti tq i1 i2 i3 i4 fp1 fp2 fp3 fp4) : tq ≠ i2 := fun e => D.t2 (e ▸ D.m2)
theorem Apart4.zi3 (D : Apart4 zc ti tq i1 i2 i3 i4 fp1 fp2 fp3 fp4) : zc ≠ i3 := fun e => D.z3 (e ▸ D.m3)
theorem Apart4.ti3 (D : Apart4 zc ti tq i1 i2 i3 i4 fp1 fp2 fp3 fp4) : tq ≠ i3 := fun e => D.t3 (e ▸ D.m3)
theorem Apart4.zi4 (D : Apart4 zc ti tq i1 i2 i3 i4 fp1 fp2 fp3 fp4) : zc ≠ i4 := fun e => D.z4 (e ▸ D.m4)
theorem Apart4.ti4 (D : Apart4 zc ti tq i1 i2 i3 i4 fp1 fp2 fp3 fp4) : tq ≠ i4 := fun e => D.t4 (e ▸ D.m4)
theorem put_Tup4 {T : Addr} {x : Value} {q : Nat} {Q : Unit → Shared → Prop} (hT : Tup4 s.heap T t1 t2 t3 t4)
    (h : ∀ h', h'.get? T = some { cls := .type "tuple", data := .seq ((#[t1, t2, t3, t4] : Array Value).setIfInBounds q x) } → Heap.SameBut T s.heap h' → Q () { s with heap := h' }) : wpAny (model prog w) A (updateSeq T (·.setIfInBounds q x)) Q E s := by
  refine wpAny_updateSeq hT rfl (h _ ?_ (Heap.SameBut.update ..)); rw [Heap.get?_update_self _ hT rfl]; simp [Obj.mapSeq]
theorem z4_item {Q : Value → Shared → Prop} (S : Apart4 zc ti tq i1 i2 i3 i4 fp1 fp2 fp3 fp4) (D1 : Draws prog w A i1 fp1 n P1 Z1) (D2 : Draws prog w A i2 fp2 n P2 Z2) (D3 : Draws prog w A i3 fp3 n P3 Z3) (D4 : Draws prog w A i4 fp4 n P4 Z4)
    (hz : IsZip s.heap zc ti tq .none) (hI : Tup4 s.heap ti (.ref i1) (.ref i2) (.ref i3) (.ref i4)) (hO : Tup4 s.heap tq t1 t2 t3 t4) (a1 : Z1 i s.heap) (a2 : Z2 i s.heap) (a3 : Z3 i s.heap) (a4 : Z4 i s.heap) (hlt : i < n)
    (hQ : ∀ x1 x2 x3 x4 h' tk, P1 i x1 → P2 i x2 → P3 i x3 → P4 i x4 → IsZip h' zc ti tq (rawInt s.heap.objs.size) → Tup4 h' tq x1 x2 x3 x4 → Z1 (i + 1) h' → Z2 (i + 1) h' → Z3 (i + 1) h' → Z4 (i + 1) h' → Tup4 h' s.heap.objs.size x1 x2 x3 x4 → h'.objs.size = s.heap.objs.size + 1 → (∀ c o, c ≠ zc → c ≠ tq → c ≠ i1 → c ≠ i2 → c ≠ i3 → c ≠ i4 → s.heap.get? c = some o → h'.get? c = some o) → Q (.ref s.heap.objs.size) { s with heap := h', toks := tk }) :
    wpAny (model prog w) A (Builtin.«zip.__next__» ⟨[.ref zc], []⟩) (fun fin s' => ∃ v, fin = .done (.ret v) ∧ Q v s') E s := by
  obtain ⟨hp, g, d, tk0, os⟩ := s
  show wpAny _ _ (field (.ref zc) 2 >>= _) _ _ _; refine wpAny_bind (wpAny_field hz rfl (x := .bool false) rfl ?_); show wpAny _ _ (field (.ref zc) 3 >>= _) _ _ _
  refine wpAny_bind (wpAny_field hz rfl (x := .ref ti) rfl ?_); refine wpAny_bind (wpAny_seqItems hI rfl ?_); show wpAny _ _ (Builtin.SmallTypes.ownedTupleIsFree (.ref zc) >>= _) _ _ _
  refine wpAny_bind ?_; unfold Builtin.SmallTypes.ownedTupleIsFree; refine wpAny_bind (wpAny_field hz rfl (x := .none) rfl (wpAny_pure ?_)); simp only [if_true]
  refine wpAny_bind (wpAny_rule ?_); refine wpAny_bind (wpAny_field hz rfl (x := .ref tq) rfl ?_); refine wpAny_bind (wpAny_setField_rec hz (by simp) fun g0 hz0 hs0 => ?_)
  replace hz0 : IsZip g0 zc ti tq .ellipsis := hz0; replace hs0 : Heap.SameBut zc hp g0 := hs0
  refine wpAny_bind ?_; simp only [List.zipIdx_cons, List.zipIdx_nil, List.forIn_cons, List.forIn_nil]
  refine wpAny_bind (wpAny_bind (wpAny_onRaise ?_)); show wpAny _ _ (Builtin.SmallTypes.nextOf (.ref i1) >>= _) _ _ ⟨g0, g, d, tk0, os⟩
  refine wpAny_bind (D1.item i _ _ _ hlt (D1.over a1 hs0 S.z1) fun x1 p1 tk1 hx1 sn1 hp1 => wpAny_pure ?_); replace hp1 : Heap.SameBut i1 g0 p1 := hp1
  have hU1 : Tup4 p1 tq t1 t2 t3 t4 := hp1.extBut _ _ S.ti1 (hs0.extBut _ _ S.oz hO); refine wpAny_bind (wpAny_seqItems (s := ⟨p1, g, d, tk1, os⟩) hU1 rfl ?_)
  refine wpAny_bind (put_Tup4 (s := ⟨p1, g, d, tk1, os⟩) hU1 fun g1 hT1 hs1 => ?_); replace hT1 : Tup4 g1 tq x1 t2 t3 t4 := hT1; replace hs1 : Heap.SameBut tq p1 g1 := hs1
  refine wpAny_bind (wpAny_letGo (wpAny_pure ?_))
  refine wpAny_bind (wpAny_bind (wpAny_onRaise ?_)); show wpAny _ _ (Builtin.SmallTypes.nextOf (.ref i2) >>= _) _ _ ⟨g1, g, d, tk1, os⟩
  refine wpAny_bind (D2.item i _ _ _ hlt (D2.over (D2.over (D2.over a2 hs0 S.z2) hp1 S.s12) hs1 S.t2) fun x2 p2 tk2 hx2 sn2 hp2 => wpAny_pure ?_); replace hp2 : Heap.SameBut i2 g1 p2 := hp2
  have hU2 : Tup4 p2 tq x1 t2 t3 t4 := hp2.extBut _ _ S.ti2 hT1; refine wpAny_bind (wpAny_seqItems (s := ⟨p2, g, d, tk2, os⟩) hU2 rfl ?_)
  refine wpAny_bind (put_Tup4 (s := ⟨p2, g, d, tk2, os⟩) hU2 fun g2 hT2 hs2 => ?_); replace hT2 : Tup4 g2 tq x1 x2 t3 t4 := hT2; replace hs2 : Heap.SameBut tq p2 g2 := hs2
  refine wpAny_bind (wpAny_letGo (wpAny_pure ?_))
  refine wpAny_bind (wpAny_bind (wpAny_onRaise ?_)); show wpAny _ _ (Builtin.SmallTypes.nextOf (.ref i3) >>= _) _ _ ⟨g2, g, d, tk2, os⟩
  refine wpAny_bind (D3.item i _ _ _ hlt (D3.over (D3.over (D3.over (D3.over (D3.over a3 hs0 S.z3) hp1 S.s13) hs1 S.t3) hp2 S.s23) hs2 S.t3) fun x3 p3 tk3 hx3 sn3 hp3 => wpAny_pure ?_); replace hp3 : Heap.SameBut i3 g2 p3 := hp3
  have hU3 : Tup4 p3 tq x1 x2 t3 t4 := hp3.extBut _ _ S.ti3 hT2; refine wpAny_bind (wpAny_seqItems (s := ⟨p3, g, d, tk3, os⟩) hU3 rfl ?_)
  refine wpAny_bind (put_Tup4 (s := ⟨p3, g, d, tk3, os⟩) hU3 fun g3 hT3 hs3 => ?_); replace hT3 : Tup4 g3 tq x1 x2 x3 t4 := hT3; replace hs3 : Heap.SameBut tq p3 g3 := hs3
  refine wpAny_bind (wpAny_letGo (wpAny_pure ?_))
  refine wpAny_bind (wpAny_bind (wpAny_onRaise ?_)); show wpAny _ _ (Builtin.SmallTypes.nextOf (.ref i4) >>= _) _ _ ⟨g3, g, d, tk3, os⟩
  refine wpAny_bind (D4.item i _ _ _ hlt (D4.over (D4.over (D4.over (D4.over (D4.over (D4.over (D4.over a4 hs0 S.z4) hp1 S.s14) hs1 S.t4) hp2 S.s24) hs2 S.t4) hp3 S.s34) hs3 S.t4) fun x4 p4 tk4 hx4 sn4 hp4 => wpAny_pure ?_); replace hp4 : Heap.SameBut i4 g3 p4 := hp4
  have hU4 : Tup4 p4 tq x1 x2 x3 t4 := hp4.extBut _ _ S.ti4 hT3; refine wpAny_bind (wpAny_seqItems (s := ⟨p4, g, d, tk4, os⟩) hU4 rfl ?_)
  refine wpAny_bind (put_Tup4 (s := ⟨p4, g, d, tk4, os⟩) hU4 fun g4 hT4 hs4 => ?_); replace hT4 : Tup4 g4 tq x1 x2 x3 x4 := hT4; replace hs4 : Heap.SameBut tq p4 g4 := hs4
  refine wpAny_bind (wpAny_letGo (wpAny_pure (wpAny_pure ?_)))
  refine wpAny_bind (wpAny_seqItems (s := ⟨g4, g, d, tk4, os⟩) hT4 rfl ?_); refine wpAny_bind (wpAny_newTuple ?_)
  have hsz : g4.objs.size = hp.objs.size := by rw [hs4.1, hp4.1, hs3.1, hp3.1, hs2.1, hp2.1, hs1.1, hp1.1, hs0.1]
  have hzz : IsZip g4 zc ti tq .ellipsis := (hs4.extBut _ _ S.oz.symm (hp4.extBut _ _ S.zi4 (hs3.extBut _ _ S.oz.symm (hp3.extBut _ _ S.zi3 (hs2.extBut _ _ S.oz.symm (hp2.extBut _ _ S.zi2 (hs1.extBut _ _ S.oz.symm (hp1.extBut _ _ S.zi1 hz0))))))))
  have hkk : ∀ c o, c ≠ zc → c ≠ tq → c ≠ i1 → c ≠ i2 → c ≠ i3 → c ≠ i4 → hp.get? c = some o → g4.get? c = some o := fun c o cz cT c1 c2 c3 c4 e => (hs4.extBut _ _ cT (hp4.extBut _ _ c4 (hs3.extBut _ _ cT (hp3.extBut _ _ c3 (hs2.extBut _ _ cT (hp2.extBut _ _ c2 (hs1.extBut _ _ cT (hp1.extBut _ _ c1 (hs0.extBut _ _ cz e)))))))))
  have hj1 : Z1 (i + 1) g4 := (D1.over (D1.over (D1.over (D1.over (D1.over (D1.over (D1.over sn1 hs1 S.t1) hp2 S.s21) hs2 S.t1) hp3 S.s31) hs3 S.t1) hp4 S.s41) hs4 S.t1)
  have hj2 : Z2 (i + 1) g4 := (D2.over (D2.over (D2.over (D2.over (D2.over sn2 hs2 S.t2) hp3 S.s32) hs3 S.t2) hp4 S.s42) hs4 S.t2)
  have hj3 : Z3 (i + 1) g4 := (D3.over (D3.over (D3.over sn3 hs3 S.t3) hp4 S.s43) hs4 S.t3)
  have hj4 : Z4 (i + 1) g4 := (D4.over sn4 hs4 S.t4)
  have hzlt : zc < g4.objs.size := Heap.lt_size hzz
  show wpAny _ _ (Builtin.SmallTypes.ownedTupleHandOut (.ref zc) (.ref g4.objs.size) >>= _) _ _ ⟨g4.push { cls := .type "tuple", data := .seq #[x1, x2, x3, x4] }, g, d, tk4, os⟩
  refine wpAny_bind ?_; unfold Builtin.SmallTypes.ownedTupleHandOut
  have w6 : IsZip (g4.push { cls := .type "tuple", data := .seq #[x1, x2, x3, x4] }) zc ti tq .ellipsis := Heap.get?_push_of_some _ hzz
  refine wpAny_bind (wpAny_setField_rec w6 (by simp) fun h7 w7 v7 => ?_); replace w7 : IsZip h7 zc ti tq (rawInt g4.objs.size) := w7
  refine wpAny_setField_rec w7 (by simp) fun h8 w8 v8 => ?_; replace w8 : IsZip h8 zc ti tq (rawInt g4.objs.size) := w8
  replace v7 : Heap.SameBut zc (g4.push { cls := .type "tuple", data := .seq #[x1, x2, x3, x4] }) h7 := v7; replace v8 : Heap.SameBut zc h7 h8 := v8
  have up : ∀ c o, c ≠ zc → g4.get? c = some o → h8.get? c = some o := fun c o c1 e => v8.extBut _ _ c1 (v7.extBut _ _ c1 (Heap.get?_push_of_some _ e))
  have hT8 : Tup4 h8 g4.objs.size x1 x2 x3 x4 := v8.extBut _ _ (Nat.ne_of_gt hzlt) (v7.extBut _ _ (Nat.ne_of_gt hzlt) (Heap.get?_push_size _ rfl))
  have hz8 : h8.objs.size = g4.objs.size + 1 := by rw [v8.1, v7.1, Heap.size_push]
  rw [hsz] at w8 hT8 hz8; refine wpAny_pure ⟨_, rfl, ?_⟩; show Q (.ref g4.objs.size) ⟨h8, g, d, tk4, os⟩; rw [hsz]
  exact hQ x1 x2 x3 x4 h8 tk4 hx1 hx2 hx3 hx4 w8 (up _ _ S.oz hT4) (D1.frame _ _ _ hj1 fun b hb o e => up b o (fun q => S.z1 (q ▸ hb)) e) (D2.frame _ _ _ hj2 fun b hb o e => up b o (fun q => S.z2 (q ▸ hb)) e) (D3.frame _ _ _ hj3 fun b hb o e => up b o (fun q => S.z3 (q ▸ hb)) e) (D4.frame _ _ _ hj4 fun b hb o e => up b o (fun q => S.z4 (q ▸ hb)) e) hT8 hz8 fun c o cz cT c1 c2 c3 c4 e => up c o cz (hkk c o cz cT c1 c2 c3 c4 e)
theorem z4_end {Q : Fin → Shared → Prop} (S : Apart4 zc ti tq i1 i2 i3 i4 fp1 fp2 fp3 fp4) (D1 : Draws prog w A i1 fp1 n P1 Z1) (hz : IsZip s.heap zc ti tq .none) (hI : Tup4 s.heap ti (.ref i1) (.ref i2) (.ref i3) (.ref i4)) (a1 : Z1 n s.heap)
    (hE : ∀ h' tk e, (∀ c o, c ≠ zc → c ≠ i1 → s.heap.get? c = some o → h'.get? c = some o) → (∃ o, h'.get? e = some o ∧ o.cls = .type "StopIteration") → E (.ref e) { s with heap := h', toks := tk }) :
    wpAny (model prog w) A (Builtin.«zip.__next__» ⟨[.ref zc], []⟩) Q E s := by
  obtain ⟨hp, g, d, tk0, os⟩ := s
  show wpAny _ _ (field (.ref zc) 2 >>= _) _ _ _; refine wpAny_bind (wpAny_field hz rfl (x := .bool false) rfl ?_); show wpAny _ _ (field (.ref zc) 3 >>= _) _ _ _
  refine wpAny_bind (wpAny_field hz rfl (x := .ref ti) rfl ?_); refine wpAny_bind (wpAny_seqItems hI rfl ?_); show wpAny _ _ (Builtin.SmallTypes.ownedTupleIsFree (.ref zc) >>= _) _ _ _
  refine wpAny_bind ?_; unfold Builtin.SmallTypes.ownedTupleIsFree; refine wpAny_bind (wpAny_field hz rfl (x := .none) rfl (wpAny_pure ?_)); simp only [if_true]
  refine wpAny_bind (wpAny_rule ?_); refine wpAny_bind (wpAny_field hz rfl (x := .ref tq) rfl ?_); refine wpAny_bind (wpAny_setField_rec hz (by simp) fun g0 hz0 hs0 => ?_)
  replace hz0 : IsZip g0 zc ti tq .ellipsis := hz0; replace hs0 : Heap.SameBut zc hp g0 := hs0
  refine wpAny_bind ?_; simp only [List.zipIdx_cons, List.zipIdx_nil, List.forIn_cons, List.forIn_nil]
  refine wpAny_bind (wpAny_bind (wpAny_onRaise ?_)); show wpAny _ _ (Builtin.SmallTypes.nextOf (.ref i1) >>= _) _ _ ⟨g0, g, d, tk0, os⟩
  refine wpAny_bind (D1.done ⟨g0, g, d, tk0, os⟩ _ _ (D1.over a1 hs0 S.z1) fun q e hq he => ?_); replace hq : Heap.ExtBut i1 g0 q := hq
  obtain ⟨oe, hoe, hce⟩ := he; replace hoe : q.get? e = some oe := hoe
  have wq : IsZip q zc ti tq .ellipsis := hq _ _ S.zi1 hz0
  have ne : e ≠ zc := fun x => by subst x; rw [wq] at hoe; cases hoe; simp at hce
  refine wpAny_setField_rec (s := ⟨q, g, d, tk0, os⟩) wq (by simp) fun q' _ hq' => ?_; replace hq' : Heap.SameBut zc q q' := hq'
  exact hE q' tk0 e (fun c o cz c1 x => hq'.extBut _ _ cz (hq _ _ c1 (hs0.extBut _ _ cz x))) ⟨oe, hq'.extBut _ _ ne hoe, hce⟩
theorem z4_next {Q : Option Value → Shared → Prop} (S : Apart4 zc ti tq i1 i2 i3 i4 fp1 fp2 fp3 fp4) (D1 : Draws prog w A.in1 i1 fp1 n P1 Z1) (D2 : Draws prog w A.in1 i2 fp2 n P2 Z2) (D3 : Draws prog w A.in1 i3 fp3 n P3 Z3) (D4 : Draws prog w A.in1 i4 fp4 n P4 Z4)
    (hz : IsZip s.heap zc ti tq .none) (hI : Tup4 s.heap ti (.ref i1) (.ref i2) (.ref i3) (.ref i4)) (hO : Tup4 s.heap tq t1 t2 t3 t4) (a1 : Z1 i s.heap) (a2 : Z2 i s.heap) (a3 : Z3 i s.heap) (a4 : Z4 i s.heap) (hlt : i < n)
    (hQ : ∀ x1 x2 x3 x4 h' tk, P1 i x1 → P2 i x2 → P3 i x3 → P4 i x4 → IsZip h' zc ti tq (rawInt s.heap.objs.size) → Tup4 h' tq x1 x2 x3 x4 → Z1 (i + 1) h' → Z2 (i + 1) h' → Z3 (i + 1) h' → Z4 (i + 1) h' → Tup4 h' s.heap.objs.size x1 x2 x3 x4 → h'.objs.size = s.heap.objs.size + 1 → (∀ c o, c ≠ zc → c ≠ tq → c ≠ i1 → c ≠ i2 → c ≠ i3 → c ≠ i4 → s.heap.get? c = some o → h'.get? c = some o) → Q (some (.ref s.heap.objs.size)) { s with heap := h', toks := tk }) : wpAny (model prog w) A (pyNext (.ref zc)) Q E s := by
  have hTy : s.TypeIs (.ref zc) "zip" := ⟨_, hz, rfl⟩; unfold pyNext
  exact wpAny_bind (wpAny_attempt (wpAny_callSpecial?_slot (name := Str.ofString "__next__") hTy F.slot_zip_next (wpAny_call_entry F.slot_zip_next hTy F.entry_zip_next
      (z4_item S D1 D2 D3 D4 hz hI hO a1 a2 a3 a4 hlt fun x1 x2 x3 x4 h' tk c0 c1 c2 c3 c4 c5 c6 c7 c8 c9 c10 c11 c12 => wpAny_pure (hQ x1 x2 x3 x4 h' tk c0 c1 c2 c3 c4 c5 c6 c7 c8 c9 c10 c11 c12)) (F.args_zip_next_1 _))))
theorem z4_stop {Q : Option Value → Shared → Prop} (S : Apart4 zc ti tq i1 i2 i3 i4 fp1 fp2 fp3 fp4) (D1 : Draws prog w A.in1 i1 fp1 n P1 Z1) (hz : IsZip s.heap zc ti tq .none) (hI : Tup4 s.heap ti (.ref i1) (.ref i2) (.ref i3) (.ref i4)) (a1 : Z1 n s.heap)
    (hQ : ∀ h' tk, (∀ c o, c ≠ zc → c ≠ i1 → s.heap.get? c = some o → h'.get? c = some o) → Q none { s with heap := h', toks := tk }) : wpAny (model prog w) A (pyNext (.ref zc)) Q E s := by
  have hTy : s.TypeIs (.ref zc) "zip" := ⟨_, hz, rfl⟩; unfold pyNext
  refine wpAny_bind (wpAny_attempt (wpAny_callSpecial?_slot (name := Str.ofString "__next__") hTy F.slot_zip_next (wpAny_call_entry F.slot_zip_next hTy F.entry_zip_next (z4_end S D1 hz hI a1 fun h' tk e hk he => ?_) (F.args_zip_next_1 _))))
  obtain ⟨o, ho, hc⟩ := he; exact wpAny_bind (wpAny_isInstance (T := "StopIteration") (b := true) ⟨o, ho, hc⟩ isSubtype_stop (wpAny_pure (hQ _ _ hk)))
theorem walks_z4 (S : Apart4 zc ti tq i1 i2 i3 i4 fp1 fp2 fp3 fp4) (D1 : Draws prog w A.in1 i1 fp1 n P1 Z1) (D2 : Draws prog w A.in1 i2 fp2 n P2 Z2) (D3 : Draws prog w A.in1 i3 fp3 n P3 Z3) (D4 : Draws prog w A.in1 i4 fp4 n P4 Z4) :
    WalksT prog w A zc (zc :: ti :: tq :: (fp1 ++ fp2 ++ fp3 ++ fp4)) [zc, tq, i1, i2, i3, i4] n (fun i vals => ∃ x1 x2 x3 x4, P1 i x1 ∧ P2 i x2 ∧ P3 i x3 ∧ P4 i x4 ∧ vals = #[x1, x2, x3, x4])
      (fun i h => IsZip h zc ti tq .none ∧ Tup4 h ti (.ref i1) (.ref i2) (.ref i3) (.ref i4) ∧ (∃ t1 t2 t3 t4, Tup4 h tq t1 t2 t3 t4) ∧ Z1 i h ∧ Z2 i h ∧ Z3 i h ∧ Z4 i h)
      (fun i T h => IsZip h zc ti tq (rawInt T) ∧ Tup4 h ti (.ref i1) (.ref i2) (.ref i3) (.ref i4) ∧ (∃ t1 t2 t3 t4, Tup4 h tq t1 t2 t3 t4) ∧ Z1 (i + 1) h ∧ Z2 (i + 1) h ∧ Z3 (i + 1) h ∧ Z4 (i + 1) h ∧ T ≠ zc ∧ T ≠ tq ∧ T ≠ i1 ∧ T ≠ i2 ∧ T ≠ i3 ∧ T ≠ i4) where
  sub := fun c hc => by
    have hc' : c = zc ∨ c = tq ∨ c = i1 ∨ c = i2 ∨ c = i3 ∨ c = i4 := by simpa using hc
    rcases hc' with rfl | rfl | rfl | rfl | rfl | rfl
    · simp
    · simp
    · have := S.m1; simp [this]
    · have := S.m2; simp [this]
    · have := S.m3; simp [this]
    · have := S.m4; simp [this]
  frame := fun i h h' hst hk => by
    obtain ⟨hz, hI, ⟨t1, t2, t3, t4, hO⟩, a1, a2, a3, a4⟩ := hst
    exact ⟨hk zc (by simp) _ hz, hk ti (by simp) _ hI, ⟨t1, t2, t3, t4, hk tq (by simp) _ hO⟩, D1.frame _ _ _ a1 fun b hb o e => hk b (by simp [hb]) o e, D2.frame _ _ _ a2 fun b hb o e => hk b (by simp [hb]) o e, D3.frame _ _ _ a3 fun b hb o e => hk b (by simp [hb]) o e, D4.frame _ _ _ a4 fun b hb o e => hk b (by simp [hb]) o e⟩
  item := fun i s Q E hi hst hQ => by
    obtain ⟨hz, hI, ⟨t1, t2, t3, t4, hO⟩, a1, a2, a3, a4⟩ := hst
    refine z4_next S D1 D2 D3 D4 hz hI hO a1 a2 a3 a4 hi fun x1 x2 x3 x4 h' tk y1 y2 y3 y4 b1 b2 d1 d2 d3 d4 b5 b6 hk => ?_
    have lt : ∀ {c o}, s.heap.get? c = some o → s.heap.objs.size ≠ c := fun e => Nat.ne_of_gt (Heap.lt_size e)
    have l1 : s.heap.objs.size ≠ i1 := by (obtain ⟨_, e⟩ := D1.live _ _ a1; exact lt e)
    have l2 : s.heap.objs.size ≠ i2 := by (obtain ⟨_, e⟩ := D2.live _ _ a2; exact lt e)
    have l3 : s.heap.objs.size ≠ i3 := by (obtain ⟨_, e⟩ := D3.live _ _ a3; exact lt e)
    have l4 : s.heap.objs.size ≠ i4 := by (obtain ⟨_, e⟩ := D4.live _ _ a4; exact lt e)
    exact hQ s.heap.objs.size #[x1, x2, x3, x4] h' tk ⟨x1, x2, x3, x4, y1, y2, y3, y4, rfl⟩ (Nat.le_refl _) ⟨_, b5, rfl, _, rfl⟩
      ⟨b1, hk _ _ S.iz S.io S.k1 S.k2 S.k3 S.k4 hI, ⟨_, _, _, _, b2⟩, d1, d2, d3, d4, lt hz, lt hO, l1, l2, l3, l4⟩
      fun c o hc e => hk c o (fun x => hc (by simp [x])) (fun x => hc (by simp [x])) (fun x => hc (by simp [x])) (fun x => hc (by simp [x])) (fun x => hc (by simp [x])) (fun x => hc (by simp [x])) e
  go := fun elts q pos i T s Q E hm hQ => by
    obtain ⟨hz, hI, ⟨t1, t2, t3, t4, hO⟩, a1, a2, a3, a4, _⟩ := hm
    refine wpAny_letOwnedTupleGo_zip hz fun h' hz' hs' => hQ h' ⟨hz', hs'.extBut _ _ S.iz hI, ⟨t1, t2, t3, t4, hs'.extBut _ _ S.oz hO⟩, D1.over a1 hs' S.z1, D2.over a2 hs' S.z2, D3.over a3 hs' S.z3, D4.over a4 hs' S.z4⟩ fun c o hc e => hs'.extBut _ _ (fun x => hc (by simp [x])) e
  apart := fun i T h hm hT => by
    obtain ⟨_, _, _, _, _, _, _, tz, tT, e1, e2, e3, e4⟩ := hm
    have hT' : T = zc ∨ T = tq ∨ T = i1 ∨ T = i2 ∨ T = i3 ∨ T = i4 := by simpa using hT
    rcases hT' with e | e | e | e | e | e
    · exact tz e
    · exact tT e
    · exact e1 e
    · exact e2 e
    · exact e3 e
    · exact e4 e
  done := fun s Q E hst hQ => by
    obtain ⟨hz, hI, _, a1, _⟩ := hst
    exact z4_stop S D1 hz hI a1 fun h' tk hk => hQ h' tk fun c o hc e => hk c o (fun x => hc (by simp [x])) (fun x => hc (by simp [x])) e
  self := fun i s Q E hst hQ => wpAny_pyIter_zip hst.1 hQ
theorem goes_z4 {elts : List Expr} {x1 : Nat} {pos : Pos} (S : Apart4 zc ti tq i1 i2 i3 i4 fp1 fp2 fp3 fp4) (D1 : Draws prog w A.in1 i1 fp1 n P1 Z1) (D2 : Draws prog w A.in1 i2 fp2 n P2 Z2) (D3 : Draws prog w A.in1 i3 fp3 n P3 Z3) (D4 : Draws prog w A.in1 i4 fp4 n P4 Z4) :
    GoesN prog w A (.Tuple elts x1 pos) zc (zc :: ti :: tq :: (fp1 ++ fp2 ++ fp3 ++ fp4)) [zc, tq, i1, i2, i3, i4] n (fun i h₀ v h => ∃ T x1 x2 x3 x4, v = .ref T ∧ h₀.objs.size ≤ T ∧ P1 i x1 ∧ P2 i x2 ∧ P3 i x3 ∧ P4 i x4 ∧ h.IsTuple T #[x1, x2, x3, x4])
      (fun i h => IsZip h zc ti tq .none ∧ Tup4 h ti (.ref i1) (.ref i2) (.ref i3) (.ref i4) ∧ (∃ t1 t2 t3 t4, Tup4 h tq t1 t2 t3 t4) ∧ Z1 i h ∧ Z2 i h ∧ Z3 i h ∧ Z4 i h) :=
  (GoesN.ofWalksT (walks_z4 S D1 D2 D3 D4)).mono fun i h₀ v h _ ⟨T, vals, ev, hn, ⟨x1, x2, x3, x4, y1, y2, y3, y4, evs⟩, hT⟩ => ⟨T, x1, x2, x3, x4, ev, hn, y1, y2, y3, y4, evs ▸ hT⟩
end
theorem apart_z4 {N : Nat} {fp1 fp2 fp3 fp4 : List Addr} (h1 : ∀ b ∈ fp1, b < N) (h2 : ∀ b ∈ fp2, b < N) (h3 : ∀ b ∈ fp3, b < N) (h4 : ∀ b ∈ fp4, b < N) : Apart4 (N + 6) (N + 4) (N + 5) N (N + 1) (N + 2) (N + 3) (N :: fp1) ((N + 1) :: fp2) ((N + 2) :: fp3) ((N + 3) :: fp4) where
  iz := show (N + 4 : Nat) ≠ N + 6 by omega
  oz := show (N + 5 : Nat) ≠ N + 6 by omega
  io := show (N + 4 : Nat) ≠ N + 5 by omega
  k1 := show (N + 4 : Nat) ≠ N by omega
  m1 := List.mem_cons_self ..
  z1 := notIn_new (i := 0) h1 (by omega)
  t1 := notIn_new (i := 0) h1 (by omega)
  s12 := notIn_new (j := 0) (i := 1) h2 (by omega)
  s13 := notIn_new (j := 0) (i := 2) h3 (by omega)
  s14 := notIn_new (j := 0) (i := 3) h4 (by omega)
  k2 := show (N + 4 : Nat) ≠ N + 1 by omega
  m2 := List.mem_cons_self ..
  z2 := notIn_new (i := 1) h2 (by omega)
  t2 := notIn_new (i := 1) h2 (by omega)
  s21 := notIn_new (j := 1) (i := 0) h1 (by omega)
  s23 := notIn_new (j := 1) (i := 2) h3 (by omega)
  s24 := notIn_new (j := 1) (i := 3) h4 (by omega)
  k3 := show (N + 4 : Nat) ≠ N + 2 by omega
  m3 := List.mem_cons_self ..
  z3 := notIn_new (i := 2) h3 (by omega)
  t3 := notIn_new (i := 2) h3 (by omega)
  s31 := notIn_new (j := 2) (i := 0) h1 (by omega)
  s32 := notIn_new (j := 2) (i := 1) h2 (by omega)
  s34 := notIn_new (j := 2) (i := 3) h4 (by omega)
  k4 := show (N + 4 : Nat) ≠ N + 3 by omega
  m4 := List.mem_cons_self ..
  z4 := notIn_new (i := 3) h4 (by omega)
  t4 := notIn_new (i := 3) h4 (by omega)
  s41 := notIn_new (j := 3) (i := 0) h1 (by omega)
  s42 := notIn_new (j := 3) (i := 1) h2 (by omega)
  s43 := notIn_new (j := 3) (i := 2) h3 (by omega)
abbrev zT4 (h : Heap) (o1 o2 o3 o4 : Obj) : Heap := ((((h.push o1).push o2).push o3).push o4).push { cls := .type "tuple", data := .seq #[.ref h.objs.size, .ref (h.push o1).objs.size, .ref ((h.push o1).push o2).objs.size, .ref (((h.push o1).push o2).push o3).objs.size] }
abbrev zO4 (h : Heap) (o1 o2 o3 o4 : Obj) : Heap := (zT4 h o1 o2 o3 o4).push { cls := .type "tuple", data := .seq #[.none, .none, .none, .none] }
abbrev zZ4 (h : Heap) (o1 o2 o3 o4 : Obj) : Heap := (zO4 h o1 o2 o3 o4).push { cls := .type "zip", data := .fields #[.none, .bool false, .bool false, .ref ((((h.push o1).push o2).push o3).push o4).objs.size, .ref (zT4 h o1 o2 o3 o4).objs.size] }
theorem zipTy4 (v1 v2 v3 v4 : Value) : checkTypeCall "zip" ⟨[v1, v2, v3, v4], []⟩ = pure () := by kernel_rfl
theorem zipNw4 (v1 v2 v3 v4 : Value) : checkBuiltinCall "zip.__new__" ⟨[.type "zip", v1, v2, v3, v4], []⟩ = pure () := by kernel_rfl
theorem zipIn4 (obj v1 v2 v3 v4 : Value) : argsOk "object.__init__" ⟨[obj, v1, v2, v3, v4], []⟩ := by unfold argsOk; kernel_rfl
theorem zipMk4 {v1 v2 v3 v4 : Value} {o1 o2 o3 o4 : Obj} {H1 H2 H3 H4 : Heap → Prop} (B1 : Begins v1 o1 H1) (B2 : Begins v2 o2 H2) (B3 : Begins v3 o3 H3) (B4 : Begins v4 o4 H4) :
    Meets (Builtin.«zip.__new__» ⟨[.type "zip", v1, v2, v3, v4], []⟩) (fun _ R s => (H1 s.heap ∧ H2 s.heap ∧ H3 s.heap ∧ H4 s.heap) ∧ R (.ok (.ret (.ref (zO4 s.heap o1 o2 o3 o4).objs.size))) { s with heap := zZ4 s.heap o1 o2 o3 o4 }) :=
  .of_wp fun prog w A R s h => by
    obtain ⟨hp, g, d, tk, os⟩ := s; obtain ⟨⟨h1, h2, h3, h4⟩, h⟩ := h; have hsub := sub_zip
    have q1 : ∀ {A' : Around} {E Q : Value → Shared → Prop}, Q (.ref hp.objs.size) ⟨(hp.push o1), g, d, tk, os⟩ → wpAny (model prog w) A' (pyIter v1) Q E ⟨hp, g, d, tk, os⟩ := fun q => B1.iter prog w _ _ ⟨hp, g, d, tk, os⟩ _ (B1.keeps _ _ h1 fun b o' e => e) q
    have q2 : ∀ {A' : Around} {E Q : Value → Shared → Prop}, Q (.ref (hp.push o1).objs.size) ⟨((hp.push o1).push o2), g, d, tk, os⟩ → wpAny (model prog w) A' (pyIter v2) Q E ⟨(hp.push o1), g, d, tk, os⟩ := fun q => B2.iter prog w _ _ ⟨(hp.push o1), g, d, tk, os⟩ _ (B2.keeps _ _ h2 fun b o' e => (Heap.get?_push_of_some _ e)) q
    have q3 : ∀ {A' : Around} {E Q : Value → Shared → Prop}, Q (.ref ((hp.push o1).push o2).objs.size) ⟨(((hp.push o1).push o2).push o3), g, d, tk, os⟩ → wpAny (model prog w) A' (pyIter v3) Q E ⟨((hp.push o1).push o2), g, d, tk, os⟩ := fun q => B3.iter prog w _ _ ⟨((hp.push o1).push o2), g, d, tk, os⟩ _ (B3.keeps _ _ h3 fun b o' e => (Heap.get?_push_of_some _ (Heap.get?_push_of_some _ e))) q
    have q4 : ∀ {A' : Around} {E Q : Value → Shared → Prop}, Q (.ref (((hp.push o1).push o2).push o3).objs.size) ⟨((((hp.push o1).push o2).push o3).push o4), g, d, tk, os⟩ → wpAny (model prog w) A' (pyIter v4) Q E ⟨(((hp.push o1).push o2).push o3), g, d, tk, os⟩ := fun q => B4.iter prog w _ _ ⟨(((hp.push o1).push o2).push o3), g, d, tk, os⟩ _ (B4.keeps _ _ h4 fun b o' e => (Heap.get?_push_of_some _ (Heap.get?_push_of_some _ (Heap.get?_push_of_some _ e)))) q
    wp_walk using q1, q2, q3, q4
    exact ⟨_, rfl, h⟩
section
variable {prog : Program} {w : World} {A : Around} {E : Value → Shared → Prop} {s : Shared}
theorem zip_mk4 {v1 v2 v3 v4 : Value} {o1 o2 o3 o4 : Obj} {H1 H2 H3 H4 : Heap → Prop} {Q : Value → Shared → Prop} (B1 : Begins v1 o1 H1) (B2 : Begins v2 o2 H2) (B3 : Begins v3 o3 H3) (B4 : Begins v4 o4 H4) (h1 : H1 s.heap) (h2 : H2 s.heap) (h3 : H3 s.heap) (h4 : H4 s.heap)
    (h : ∀ h', IsZip h' (s.heap.objs.size + 6) (s.heap.objs.size + 4) (s.heap.objs.size + 5) .none → Tup4 h' (s.heap.objs.size + 4) (.ref s.heap.objs.size) (.ref (s.heap.objs.size + 1)) (.ref (s.heap.objs.size + 2)) (.ref (s.heap.objs.size + 3)) → Tup4 h' (s.heap.objs.size + 5) .none .none .none .none → h'.get? s.heap.objs.size = some o1 → h'.get? (s.heap.objs.size + 1) = some o2 → h'.get? (s.heap.objs.size + 2) = some o3 → h'.get? (s.heap.objs.size + 3) = some o4 → h'.objs.size = s.heap.objs.size + 7 → (∀ c o, s.heap.get? c = some o → h'.get? c = some o) → Q (.ref (s.heap.objs.size + 6)) { s with heap := h' }) :
    wpAny (model prog w) A (call (.type "zip") [v1, v2, v3, v4]) Q E s := by
  refine callType_new F.called_zip (by decide) (zipTy4 _ _ _ _) (zipNw4 _ _ _ _) (fun obj => zipIn4 obj _ _ _ _) F.entry_zip_new (zipMk4 B1 B2 B3 B4) ⟨⟨h1, h2, h3, h4⟩, ?_⟩
  have z1 : (s.heap.push o1).objs.size = s.heap.objs.size + 1 := by rw [Heap.size_push]
  have z2 : ((s.heap.push o1).push o2).objs.size = s.heap.objs.size + 2 := by rw [Heap.size_push, z1]
  have z3 : (((s.heap.push o1).push o2).push o3).objs.size = s.heap.objs.size + 3 := by rw [Heap.size_push, z2]
  have z4 : ((((s.heap.push o1).push o2).push o3).push o4).objs.size = s.heap.objs.size + 4 := by rw [Heap.size_push, z3]
  have zt : (zT4 s.heap o1 o2 o3 o4).objs.size = s.heap.objs.size + 5 := by rw [Heap.size_push, z4]
  have zo : (zO4 s.heap o1 o2 o3 o4).objs.size = s.heap.objs.size + 6 := by rw [Heap.size_push, zt]
  have zz : (zZ4 s.heap o1 o2 o3 o4).objs.size = s.heap.objs.size + 7 := by rw [Heap.size_push, zo]
  have gZ : (zZ4 s.heap o1 o2 o3 o4).get? (zO4 s.heap o1 o2 o3 o4).objs.size = some { cls := .type "zip", data := .fields #[.none, .bool false, .bool false, .ref ((((s.heap.push o1).push o2).push o3).push o4).objs.size, .ref (zT4 s.heap o1 o2 o3 o4).objs.size] } := Heap.get?_push_size _ rfl
  have gO : (zZ4 s.heap o1 o2 o3 o4).get? (zT4 s.heap o1 o2 o3 o4).objs.size = some { cls := .type "tuple", data := .seq #[.none, .none, .none, .none] } := Heap.get?_push_of_some _ (Heap.get?_push_size _ rfl)
  have gT : (zZ4 s.heap o1 o2 o3 o4).get? ((((s.heap.push o1).push o2).push o3).push o4).objs.size = some { cls := .type "tuple", data := .seq #[.ref s.heap.objs.size, .ref (s.heap.push o1).objs.size, .ref ((s.heap.push o1).push o2).objs.size, .ref (((s.heap.push o1).push o2).push o3).objs.size] } := Heap.get?_push_of_some _ (Heap.get?_push_of_some _ (Heap.get?_push_size _ rfl))
  have g1 : (zZ4 s.heap o1 o2 o3 o4).get? s.heap.objs.size = some o1 := (Heap.get?_push_of_some _ (Heap.get?_push_of_some _ (Heap.get?_push_of_some _ (Heap.get?_push_of_some _ (Heap.get?_push_of_some _ (Heap.get?_push_of_some _ (Heap.get?_push_size _ B1.free)))))))
  have g2 : (zZ4 s.heap o1 o2 o3 o4).get? (s.heap.push o1).objs.size = some o2 := (Heap.get?_push_of_some _ (Heap.get?_push_of_some _ (Heap.get?_push_of_some _ (Heap.get?_push_of_some _ (Heap.get?_push_of_some _ (Heap.get?_push_size _ B2.free))))))
  have g3 : (zZ4 s.heap o1 o2 o3 o4).get? ((s.heap.push o1).push o2).objs.size = some o3 := (Heap.get?_push_of_some _ (Heap.get?_push_of_some _ (Heap.get?_push_of_some _ (Heap.get?_push_of_some _ (Heap.get?_push_size _ B3.free)))))
  have g4 : (zZ4 s.heap o1 o2 o3 o4).get? (((s.heap.push o1).push o2).push o3).objs.size = some o4 := (Heap.get?_push_of_some _ (Heap.get?_push_of_some _ (Heap.get?_push_of_some _ (Heap.get?_push_size _ B4.free))))
  rw [zo, zt, z4] at gZ; rw [zt] at gO; rw [z4, z3, z2, z1] at gT
  rw [z1] at g2
  rw [z2] at g3
  rw [z3] at g4
  show _ ∧ _; rw [zo]
  exact ⟨⟨_, gZ, rfl⟩, h _ gZ gT gO g1 g2 g3 g4 zz fun c o e => (Heap.get?_push_of_some _ (Heap.get?_push_of_some _ (Heap.get?_push_of_some _ (Heap.get?_push_of_some _ (Heap.get?_push_of_some _ (Heap.get?_push_of_some _ (Heap.get?_push_of_some _ e)))))))⟩
end
end L2.Ev

set_option Elab.async false
set_option linter.all false
set_option maxRecDepth 100000
/-! Ev23: for a, b, c, d in zip(.., .., .., ..), all as long. -/
namespace L2.Ev
open PySem PySem.Spec PyProof.Rows
theorem nat4 {N b : Nat} (h : b = N + 6 ∨ b = N + 4 ∨ b = N + 5 ∨ b = N ∨ b = N + 1 ∨ b = N + 2 ∨ b = N + 3) : N ≤ b := by omega
theorem nat4w {N b : Nat} (h : b = N + 6 ∨ b = N + 5 ∨ b = N ∨ b = N + 1 ∨ b = N + 2 ∨ b = N + 3) : b = N + 6 ∨ b = N + 4 ∨ b = N + 5 ∨ b = N ∨ b = N + 1 ∨ b = N + 2 ∨ b = N + 3 := by omega
def zipRows4 (xs ys zs ws : List V) : List (List V) := List.zipWith (fun (q : (V × V) × V) w => [q.1.1, q.1.2, q.2, w]) (List.zip (List.zip xs ys) zs) ws
theorem zipRows4_get {xs ys zs ws : List V} {i : Nat} {a b c d : V} (h1 : xs[i]? = some a) (h2 : ys[i]? = some b) (h3 : zs[i]? = some c) (h4 : ws[i]? = some d) : (zipRows4 xs ys zs ws)[i]? = some [a, b, c, d] := by
  unfold zipRows4
  have e1 : (List.zip xs ys)[i]? = some (a, b) := List.getElem?_zip_eq_some.mpr ⟨h1, h2⟩
  have e2 : (List.zip (List.zip xs ys) zs)[i]? = some ((a, b), c) := List.getElem?_zip_eq_some.mpr ⟨e1, h3⟩
  rw [List.getElem?_zipWith, e2, h4]
theorem zipRows4_len {xs ys zs ws : List V} (h : ys.length = xs.length ∧ zs.length = xs.length ∧ ws.length = xs.length) : (zipRows4 xs ys zs ws).length = xs.length := by
  unfold zipRows4
  rw [List.length_zipWith, List.length_zip, List.length_zip]; omega
def tn4 (y1 y2 y3 y4 : Bool) (N l1 l2 l3 l4 : Addr) (i : Nat) (h : Heap) : Prop :=
  IsZip h (N + 6) (N + 4) (N + 5) .none ∧ Tup4 h (N + 4) (.ref N) (.ref (N + 1)) (.ref (N + 2)) (.ref (N + 3)) ∧ (∃ a b c d, Tup4 h (N + 5) a b c d) ∧ SrcI y1 h N l1 i ∧ SrcI y2 h (N + 1) l2 i ∧ SrcI y3 h (N + 2) l3 i ∧ SrcI y4 h (N + 3) l4 i
theorem draws_eq {prog : Program} {w : World} {A : Around} {it : Addr} {fp : List Addr} {n m : Nat} {P : Nat → Value → Prop} {St : Nat → Heap → Prop} (e : n = m) (D : Draws prog w A it fp n P St) : Draws prog w A it fp m P St := e ▸ D
theorem turn_zip4 {P : Program} {w : World} {K : PySem.W.Frag} {elts : List Expr} {kk : Nat} {tpos : Pos} {sa : SA} {B : Hp} {y1 y2 y3 y4 : Bool} {l1 l2 l3 l4 N : Addr} {xs ys zs ws : List V} (hs1 : SrcB y1 K sa B l1 xs) (hs2 : SrcB y2 K sa B l2 ys) (hs3 : SrcB y3 K sa B l3 zs) (hs4 : SrcB y4 K sa B l4 ws)
    (hl1 : l1 < N) (hl2 : l2 < N) (hl3 : l3 < N) (hl4 : l4 < N) (hlen : ys.length = xs.length ∧ zs.length = xs.length ∧ ws.length = xs.length) :
    Turn P w K (.Tuple elts kk tpos) (Jn sa B (zipRows4 xs ys zs ws)) [N + 6, N + 4, N + 5, N, N + 1, N + 2, N + 3] (N + 6) (tn4 y1 y2 y3 y4 N l1 l2 l3 l4) := by
  refine turn_gn (wr := [N + 6, N + 5, N, N + 1, N + 2, N + 3]) (by simp) (fun b hb => ?_) (fun r hr => ?_) (fun i h st b hb => ?_) (fun i h h' st k => ?_) (fun A i s Q E st q => ?_) fun X hP hw hK hc i pins s σ H I he st => ?_
  · simp only [List.mem_cons, List.not_mem_nil, or_false] at hb ⊢; exact nat4w hb
  · unfold zipRows4 at hr
    obtain ⟨j, hj⟩ := List.getElem?_of_mem hr; rw [List.getElem?_zipWith] at hj
    split at hj
    · cases hj; simp
    · cases hj
  · obtain ⟨h1, h2, ⟨a1, a2, a3, a4, h3⟩, h4, h5, h6, h7⟩ := st
    have hb : b = N + 6 ∨ b = N + 4 ∨ b = N + 5 ∨ b = N ∨ b = N + 1 ∨ b = N + 2 ∨ b = N + 3 := by simpa using hb
    rcases hb with rfl | rfl | rfl | rfl | rfl | rfl | rfl
    · exact ⟨_, h1, fun v z => by (have z' : Data.fields _ = Data.cell v := z; cases z')⟩
    · exact ⟨_, h2, fun v z => by (have z' : Data.seq _ _ = Data.cell v := z; cases z')⟩
    · exact ⟨_, h3, fun v z => by (have z' : Data.seq _ _ = Data.cell v := z; cases z')⟩
    · exact src_iterObj h4
    · exact src_iterObj h5
    · exact src_iterObj h6
    · exact src_iterObj h7
  · obtain ⟨h1, h2, ⟨a1, a2, a3, a4, h3⟩, h4, h5, h6, h7⟩ := st
    exact ⟨k _ (by simp) _ h1, k _ (by simp) _ h2, ⟨a1, a2, a3, a4, k _ (by simp) _ h3⟩, src_iterAt h4 fun o e => k _ (by simp) o e, src_iterAt h5 fun o e => k _ (by simp) o e, src_iterAt h6 fun o e => k _ (by simp) o e, src_iterAt h7 fun o e => k _ (by simp) o e⟩
  · exact wpAny_pyIter_zip st.1 q
  · subst hP hw hK
    obtain ⟨us, r1, o1⟩ := (hs1.ext he).obj I
    obtain ⟨us2, r2, o2⟩ := (hs2.ext he).obj I
    obtain ⟨us3, r3, o3⟩ := (hs3.ext he).obj I
    obtain ⟨us4, r4, o4⟩ := (hs4.ext he).obj I
    have z2 : us2.toArray.size = us.toArray.size := by rw [List.size_toArray, List.size_toArray, ← r2.length, ← r1.length]; exact hlen.1
    have z3 : us3.toArray.size = us.toArray.size := by rw [List.size_toArray, List.size_toArray, ← r3.length, ← r1.length]; exact hlen.2.1
    have z4 : us4.toArray.size = us.toArray.size := by rw [List.size_toArray, List.size_toArray, ← r4.length, ← r1.length]; exact hlen.2.2
    have D1 := src_draws (prog := X.prog) (w := X.w) y1 (A := X.A.in1) hc N l1 (Nat.ne_of_lt hl1) us.toArray
    have D2 := draws_eq z2 (src_draws (prog := X.prog) (w := X.w) y2 (A := X.A.in1) hc (N + 1) l2 (Nat.ne_of_lt (Nat.lt_add_right 1 hl2)) us2.toArray)
    have D3 := draws_eq z3 (src_draws (prog := X.prog) (w := X.w) y3 (A := X.A.in1) hc (N + 2) l3 (Nat.ne_of_lt (Nat.lt_add_right 2 hl3)) us3.toArray)
    have D4 := draws_eq z4 (src_draws (prog := X.prog) (w := X.w) y4 (A := X.A.in1) hc (N + 3) l4 (Nat.ne_of_lt (Nat.lt_add_right 3 hl4)) us4.toArray)
    refine ⟨_, _, _, _, goes_z4 (apart_z4 (N := N) (fp1 := [l1]) (fp2 := [l2]) (fp3 := [l3]) (fp4 := [l4]) (by simpa using hl1) (by simpa using hl2) (by simpa using hl3) (by simpa using hl4)) D1 D2 D3 D4, ?_,
      ⟨st.1, st.2.1, st.2.2.1, ⟨st.2.2.2.1, o1⟩, ⟨st.2.2.2.2.1, o2⟩, ⟨st.2.2.2.2.2.1, o3⟩, ⟨st.2.2.2.2.2.2, o4⟩⟩, fun h' q => ⟨q.1, q.2.1, q.2.2.1, q.2.2.2.1.1, q.2.2.2.2.1.1, q.2.2.2.2.2.1.1, q.2.2.2.2.2.2.1⟩, fun v h' q => ?_⟩
    · rw [List.size_toArray, ← r1.length, zipRows4_len hlen]
    · obtain ⟨T, x, y, z, u, rfl, hT, hx, hy, hz, hu, htup⟩ := q
      have hx' : us[i]? = some x := by simpa using hx
      have hy' : us2[i]? = some y := by simpa using hy
      have hz' : us3[i]? = some z := by simpa using hz
      have hu' : us4[i]? = some u := by simpa using hu
      have lx : i < xs.length := by rw [r1.length]; exact (List.getElem?_eq_some_iff.mp hx').1
      have ly : i < ys.length := by rw [r2.length]; exact (List.getElem?_eq_some_iff.mp hy').1
      have lz : i < zs.length := by rw [r3.length]; exact (List.getElem?_eq_some_iff.mp hz').1
      have lw : i < ws.length := by rw [r4.length]; exact (List.getElem?_eq_some_iff.mp hu').1
      obtain ⟨u1, k1, ru1⟩ := r1.get (List.getElem?_eq_getElem lx)
      obtain ⟨u2, k2, ru2⟩ := r2.get (List.getElem?_eq_getElem ly)
      obtain ⟨u3, k3, ru3⟩ := r3.get (List.getElem?_eq_getElem lz)
      obtain ⟨u4, k4, ru4⟩ := r4.get (List.getElem?_eq_getElem lw)
      rw [hx'] at k1; cases k1
      rw [hy'] at k2; cases k2
      rw [hz'] at k3; cases k3
      rw [hu'] at k4; cases k4
      exact ⟨T, [xs[i], ys[i], zs[i], ws[i]], [x, y, z, u], rfl, hT, zipRows4_get (List.getElem?_eq_getElem lx) (List.getElem?_eq_getElem ly) (List.getElem?_eq_getElem lz) (List.getElem?_eq_getElem lw), .cons ru1 (.cons ru2 (.cons ru3 (.cons ru4 .nil))), htup⟩
def iZip4 (K : PySem.W.Frag) (sa : SA) (ta : TA) : TI := fun σ H R => ta σ H fun vs H1 => ∃ B y1 l1 xs y2 l2 ys y3 l3 zs y4 l4 ws, vs = [.ref l1, .ref l2, .ref l3, .ref l4] ∧ SrcB y1 K sa B l1 xs ∧ SrcB y2 K sa B l2 ys ∧ SrcB y3 K sa B l3 zs ∧ SrcB y4 K sa B l4 ws ∧
  (ys.length = xs.length ∧ zs.length = xs.length ∧ ws.length = xs.length) ∧ Ext sa B H1 ∧ R (Jn sa B (zipRows4 xs ys zs ws)) H1
theorem pi_zip4 {X : Cx} {sa : SA} {e e2 e3 e4 : Expr} {ta : TA} {p pos tpos : Pos} {elts : List Expr} {kk : Nat} (hg : Gl X "zip") (hm : X.mg "zip" = none) (ha : PA X [e, e2, e3, e4] ta)
    (hs : starEach [e, e2, e3, e4] X.env = (false, eval e X.env) :: starEach [e2, e3, e4] X.env := by rfl) (hpl : (backTo pos (starEach [e2, e3, e4] X.env)).any (·.1) = false := by rfl) :
    PI X (.Tuple elts kk tpos) (.Call (.Name "zip" p) [e, e2, e3, e4] [] pos) (iZip4 X.K sa ta) := by
  refine ⟨fun pins s σ H R I h => Call_ (ld_blt I hg hm PyProof.Rows.boot_zip (PyProof.Rows.callWith_type1 (thn (ha.run pos pins s σ H _ I h) fun us s1 hh => ?_) hs hpl))⟩
  obtain ⟨vs, H1, I1, r1, B, y1, l1, xs, y2, l2, ys, y3, l3, zs, y4, l4, ws, rfl, hs1, hs2, hs3, hs4, hlen, he, q⟩ := hh
  obtain ⟨u1, u2, u3, u4, rfl, ru1, ru2, ru3, ru4⟩ : ∃ u1 u2 u3 u4, us = [u1, u2, u3, u4] ∧ RelV (.ref l1) u1 ∧ RelV (.ref l2) u2 ∧ RelV (.ref l3) u3 ∧ RelV (.ref l4) u4 := by
    cases r1 with
    | cons a r =>
    cases r with
    | cons b r =>
      obtain ⟨u, v, rfl, c, d⟩ := Vals.two r
      exact ⟨_, _, _, _, rfl, a, b, c, d⟩
  cases ru1; cases ru2; cases ru3; cases ru4
  obtain ⟨us, _, o1⟩ := (hs1.ext he).obj I1
  obtain ⟨us2, _, o2⟩ := (hs2.ext he).obj I1
  obtain ⟨us3, _, o3⟩ := (hs3.ext he).obj I1
  obtain ⟨us4, _, o4⟩ := (hs4.ext he).obj I1
  refine zip_mk4 (src_begins y1 l1 us.toArray) (src_begins y2 l2 us2.toArray) (src_begins y3 l3 us3.toArray) (src_begins y4 l4 us4.toArray) o1 o2 o3 o4 fun h' g1 g2 g3 g4 g5 g6 g7 hsz hk =>
    wpAny_pyIter_zip g1 ⟨_, [s1.heap.objs.size + 6, s1.heap.objs.size + 4, s1.heap.objs.size + 5, s1.heap.objs.size, s1.heap.objs.size + 1, s1.heap.objs.size + 2, s1.heap.objs.size + 3], _, _, H1, rfl, I1.kept (t' := s1.toks) hk,
    turn_zip4 hs1 hs2 hs3 hs4 (SrcO.lt o1) (SrcO.lt o2) (SrcO.lt o3) (SrcO.lt o4) hlen, ⟨g1, g2, ⟨_, _, _, _, g3⟩, src_iter0 g4, src_iter0 g5, src_iter0 g6, src_iter0 g7⟩, fun b hb => ?_, q⟩
  simp only [List.mem_cons, List.not_mem_nil, or_false] at hb
  exact fp_ok (n := 0) I1 b (nat4 hb)
/-! typed -/
section
variable {X : Cx} {sa : SA} {K : PySem.W.Frag} {B : Hp} {δ : Env} {S S' : Src} {e1 e2 e3 e4 : Expr} {p pos tpos : Pos} {elts : List Expr} {kk : Nat} {st : Bool}
def itP4 {α β γ δ : Type} [Wk α] [Wk β] [Wk γ] [Wk δ] (q : ((α × β) × γ) × δ) : Itm := .tup [wk q.1.1.1, wk q.1.1.2, wk q.1.2, wk q.2]
theorem sls4 {v1 : List V} {s1 s2 s3 s4 : Sl} (h : SlsRep K sa B v1 [s1, s2, s3, s4]) : ∃ v w u x, v1 = [v, w, u, x] ∧ SlRep K sa B B v s1 [] ∧ SlRep K sa B B w s2 [] ∧ SlRep K sa B B u s3 [] ∧ SlRep K sa B B x s4 [] := by
  cases v1 with
  | nil => exact h.elim
  | cons v vs =>
    obtain ⟨w, u, x, rfl, h2, h3, h4⟩ := sls3 h.2
    exact ⟨v, w, u, x, rfl, h.1, h2, h3, h4⟩
theorem ij_zip4 {α β γ δ' : Type} [Wk α] [Wk β] [Wk γ] [Wk δ'] {s t u v : Sl} {xs : List α} {ys : List β} {zs : List γ} {ws : List δ'} (h : Wlk s xs) (g : Wlk t ys) (f : Wlk u zs) (f4 : Wlk v ws) (hlen : ys.length = xs.length ∧ zs.length = xs.length ∧ ws.length = xs.length)
    (hg : Gl X "zip") (hm : X.mg "zip" = none) (ha : EA st X sa δ S [e1, e2, e3, e4] [s, t, u, v] S')
    (hs : starEach [e1, e2, e3, e4] X.env = (false, eval e1 X.env) :: starEach [e2, e3, e4] X.env := by rfl) (hpl : (backTo pos (starEach [e2, e3, e4] X.env)).any (·.1) = false := by rfl) :
    IJ st X sa δ S (.Tuple elts kk tpos) (.Call (.Name "zip" p) [e1, e2, e3, e4] [] pos) ((List.zip (List.zip (List.zip xs ys) zs) ws).map itP4) S' := pi_imp (pi_zip4 (sa := sa) hg hm ha hs hpl) fun σ H R ⟨B, ok, k⟩ => ⟨B, ok, fun vs H1 B1 ok1 e1 b1 r1 => by
  obtain ⟨v1, v2, v3, v4, rfl, h1, h2, h3, h4⟩ := sls4 r1
  obtain ⟨y1, l1, xs', rfl, hs1, hr1, hz1⟩ := walk_src h1 h.walk
  obtain ⟨y2, l2, ys', rfl, hs2, hr2, hz2⟩ := walk_src h2 g.walk
  obtain ⟨y3, l3, zs', rfl, hs3, hr3, hz3⟩ := walk_src h3 f.walk
  obtain ⟨y4, l4, ws', rfl, hs4, hr4, hz4⟩ := walk_src h4 f4.walk
  rw [h.eq] at hr1 hz1
  rw [g.eq] at hr2
  rw [f.eq] at hr3
  rw [f4.eq] at hr4
  have q1 : xs'.length = xs.length := by rw [hr1.length, List.length_map]
  have q2 : ys'.length = ys.length := by rw [hr2.length, List.length_map]
  have q3 : zs'.length = zs.length := by rw [hr3.length, List.length_map]
  have q4 : ws'.length = ws.length := by rw [hr4.length, List.length_map]
  have hlen' : ys'.length = xs'.length ∧ zs'.length = xs'.length ∧ ws'.length = xs'.length := by rw [q1, q2, q3, q4]; exact hlen
  have hL : ((List.zip (List.zip (List.zip xs ys) zs) ws).map itP4).length = xs.length := by
    rw [List.length_map, List.length_zip, List.length_zip, List.length_zip]; omega
  refine ⟨B1, y1, l1, xs', y2, l2, ys', y3, l3, zs', y4, l4, ws', rfl, hs1, hs2, hs3, hs4, hlen', bok_ext ok1 b1, k _ H1 B1 ok1 e1 b1 (jy_n ?_ fun i r hi => ?_) ?_⟩
  · rw [zipRows4_len hlen', q1, hL]
  · have li : i < xs.length := by
      rw [← q1, ← zipRows4_len hlen']
      exact (List.getElem?_eq_some_iff.mp hi).1
    have l1 : i < xs'.length := by omega
    have l2 : i < ys'.length := by omega
    have l3 : i < zs'.length := by omega
    have l4 : i < ws'.length := by omega
    rw [zipRows4_get (List.getElem?_eq_getElem l1) (List.getElem?_eq_getElem l2) (List.getElem?_eq_getElem l3) (List.getElem?_eq_getElem l4)] at hi
    cases hi
    obtain ⟨a1, b1, c1⟩ := hr1.get2 (List.getElem?_eq_getElem l1)
    obtain ⟨a2, b2, c2⟩ := hr2.get2 (List.getElem?_eq_getElem l2)
    obtain ⟨a3, b3, c3⟩ := hr3.get2 (List.getElem?_eq_getElem l3)
    obtain ⟨a4, b4, c4⟩ := hr4.get2 (List.getElem?_eq_getElem l4)
    refine ⟨[a1, a2, a3, a4], ?_, c1, c2, c3, c4, trivial⟩
    rw [List.getElem?_map] at b1 b2 b3 b4
    obtain ⟨x1, d1, rfl⟩ := Option.map_eq_some_iff.mp b1
    obtain ⟨x2, d2, rfl⟩ := Option.map_eq_some_iff.mp b2
    obtain ⟨x3, d3, rfl⟩ := Option.map_eq_some_iff.mp b3
    obtain ⟨x4, d4, rfl⟩ := Option.map_eq_some_iff.mp b4
    have e1 : (List.zip xs ys)[i]? = some (x1, x2) := List.getElem?_zip_eq_some.mpr ⟨d1, d2⟩
    have e2 : (List.zip (List.zip xs ys) zs)[i]? = some ((x1, x2), x3) := List.getElem?_zip_eq_some.mpr ⟨e1, d3⟩
    have e3 : (List.zip (List.zip (List.zip xs ys) zs) ws)[i]? = some (((x1, x2), x3), x4) := List.getElem?_zip_eq_some.mpr ⟨e2, d4⟩
    rw [List.getElem?_map, e3]; rfl
  · rw [hL, ← List.length_map (f := wk) (as := xs)]; exact hz1⟩
end
end L2.Ev

set_option Elab.async false
set_option linter.all false
set_option maxRecDepth 100000
/-! Ev24: tuple * k for 1 ≤ k; {..}[x] of ints; a constant of the module. -/
namespace L2.Ev
open PySem PySem.Spec PyProof.Rows
set_option maxHeartbeats 4000000 in
theorem tup_mul1 (l : Addr) (items : Array Value) (n : Nat) (dd : Option Addr) (sl : Array (Option Value)) (u : Tok) :
    Meets (Builtin.«tuple.__mul__» ⟨[.ref l, .int 1 u], []⟩) (fun _ R s => s.heap.get? l = some { cls := .type "tuple", dict := dd, data := .seq items n, slots := sl } ∧ R (.ok (.ret (Value.ref l))) s) :=
  .of_wp fun prog w A R s h => by
    obtain ⟨hp, g, d, tk, os⟩ := s
    obtain ⟨hl, h⟩ := h
    have f1 := AutoSeq1.idx_int
    have c1 : (items.isEmpty || (1 : Int) == 1) = true := by rw [Bool.or_eq_true]; exact .inr rfl
    wp_walk using wpAny_loadPart' hl
    exact ⟨_, rfl, h⟩
def rRep1 (K : PySem.W.Frag) : R2 := fun x y H Q => ∃ l k xs, x = .ref l ∧ y = .int k ∧ SqT K H l xs ∧ xs ≠ [] ∧ 1 ≤ k ∧ k ≤ 1000 ∧ xs.length ≤ 1000 ∧ (k = 1 → Q (.ref l) H) ∧ (2 ≤ k → ∀ p, H p = none → Q (.ref p) (upd H p (.tup (List.replicate k.toNat xs).flatten)))
theorem op_rep1 {X : Cx} : OpR X (binaryOp .Mult) (rRep1 X.K) := by
  intro pins s σ H x y v u Q I rx ry h
  obtain ⟨l, k, xs, rfl, rfl, hT, hne, h1, h2, hz, q1, q2⟩ := h
  by_cases hk : k = 1
  · subst hk
    cases rx
    obtain ⟨t, rfl⟩ := ry
    obtain ⟨its, r, ⟨⟨cls, dd, data, sl⟩, ho, hc, n, hd⟩, hs⟩ := I.tuple hT
    simp only at hc hd
    subst hc hd
    refine wpAny_binaryOp_repeat_ref (T := "tuple") (U := "int") (by decide) ⟨_, ho, rfl⟩ (fun s' => typeIs_int s' 1 t) noFill_tuple_mul F.fills_int_mul F.slot_int_rmul repeat_tuple F.slot_int_index.lookup
      (call_meets F.slot_int_rmul (typeIs_int s 1 t) F.entry_int_rmul (F.args_int_rmul_2 _ _) (int_rmul_tuple 1 t l its.toArray n dd sl) ⟨ho, rfl, ⟨_, ho, rfl⟩, call_meets F.slot_tuple_mul ⟨_, ho, rfl⟩ F.entry_tuple_mul (F.args_tuple_mul_2 _ _) (tup_mul1 l its.toArray n dd sl t) ⟨ho, ?_⟩⟩)
    exact ⟨.ref l, H, I, rfl, q1 rfl⟩
  · exact op_repT pins s σ H _ _ v u Q I rx ry ⟨l, k, xs, rfl, rfl, hT, hne, by omega, h2, hz, q2 (by omega)⟩
section
variable {X : Cx} {sa : SA} {δ : Env} {S S1 S2 : Src} {a b : Expr} {pos pos' : Pos} {st : Bool}
def RepT (n : Nat) (k : Int) : Prop := 1 ≤ n ∧ n ≤ 1000 ∧ 1 ≤ k ∧ k ≤ 1000
theorem ev_repT {β : Type} [Enc β] {xs : List β} {k : Int} (hz : RepT xs.length k) (ha : EE X sa δ S a (.p (enc xs)) S1) (hb : EE X sa δ S1 b (.p (.int k)) S2) : EG st X sa δ S (.BinOp a .Mult b pos) (.p (enc (repL k xs))) S2 :=
  pe_imp (pe_op op_rep1 ha hb) fun σ H Q ⟨B, ok, kk⟩ => ⟨B, ok, fun v H1 B1 ok1 e1 b1 r1 => ⟨B, ok1, fun u H2 B2 ok2 e2 b2 r2 => by
    obtain rfl : B1 = H1 := b1
    obtain rfl : B2 = H2 := b2
    obtain ⟨hz1, hz2, hz3, hz4⟩ := hz
    have r1' := r1.ext e2
    obtain ⟨l, vs, rfl, g1, g2, g3, g4⟩ := dpt r1'
    have lv : vs.length = xs.length := by rw [g2.length, List.length_map]
    refine ⟨l, k, vs, rfl, dpi r2, g1, fun z => ?_, hz3, hz4, by omega, fun h1 => ?_, fun h2 q hq => ?_⟩
    · rw [z] at lv; have : (0 : Nat) = xs.length := lv; omega
    · subst h1
      have e : repL 1 xs = xs := by unfold repL; simp
      rw [e] at kk
      exact give_p ok (e1.trans e2) ok2.src r1'.2.1 r1'.2.2 fun B' ok' b r => kk _ _ B' ok' (e1.trans e2) b r
    · have ex : Ext sa B2 (upd B2 q (.tup (List.replicate k.toNat vs).flatten)) := .new hq
      have ee : encs (repL k xs) = (List.replicate k.toNat (encs xs)).flatten := (repL_map enc k xs).symm
      refine give_p (v := .ref q) (d := .tuple (encs (repL k xs))) ok ((e1.trans e2).trans ex) (ok2.src.same (same_new hq)) (.tup (.of upd_same) ?_) ⟨?_, ?_⟩ fun B' ok' bb r => kk _ _ B' ok' ((e1.trans e2).trans ex) bb r
      · rw [ee]; exact (ex.tup.dpAll _ _ g3 g2).flat k.toNat
      · rw [List.length_map, repL_length, sizeLine_eq]
        have : xs.length * k.toNat ≤ 1000 * 1000 := Nat.mul_le_mul hz2 (by omega)
        omega
      · rw [ee]; exact g3.rep k⟩⟩
/-- a constant of the module, data that stand in K -/
theorem ev_konst {x : Str} {ad : Addr} {d : PyData} (hg : Gl X x) (hm : X.mg x = some (.ref ad)) (hd : ∀ H, Dp X.K H (.ref ad) d) (hp : Pu d) (hdb : (x == ("__debug__" : Str)) = false := by decide) : EG st X sa δ S (.Name x pos) (.p d) S :=
  pe_imp (pe_glob hg hm (show RelV (.ref ad) (.ref ad) from rfl) hdb) fun σ H Q ⟨B, ok, kk⟩ => give_p ok (.refl _ _) ok.src (hd H) hp fun B' ok' b r => kk _ H B' ok' (.refl _ _) b r
mutual
def puB : PyData → Bool
  | .none => true
  | .bool _ => true
  | .int _ => true
  | .str x => Nat.ble x.length 1000
  | .tuple ds => Nat.ble ds.length 1000 && puBs ds
  | .list _ => false
  | .dict _ => false
def puBs : List PyData → Bool
  | [] => true
  | d :: ds => puB d && puBs ds
end
mutual
theorem pu_of : ∀ d : PyData, puB d = true → Pu d
  | .none, _ => trivial
  | .bool _, _ => trivial
  | .int _, _ => trivial
  | .str x, h => ble_line h
  | .tuple ds, h => by
    have h : (Nat.ble ds.length 1000 && puBs ds) = true := h
    rw [Bool.and_eq_true] at h
    exact ⟨ble_line h.1, pus_of ds h.2⟩
  | .list _, h => nomatch h
  | .dict _, h => nomatch h
theorem pus_of : ∀ ds : List PyData, puBs ds = true → PuAll ds
  | [], _ => trivial
  | d :: ds, h => by
    have h : (puB d && puBs ds) = true := h
    rw [Bool.and_eq_true] at h
    exact ⟨pu_of d h.1, pus_of ds h.2⟩
end
/-! {1: 2, ..}[x] -/
def dixI (kvs : List (Int × Int)) (i : Int) : Int := ((kvs.find? fun kv => decide (kv.1 = i)).map (·.2)).getD 0
def DixOk (kvs : List (Int × Int)) (i : Int) : Prop := (kvs.find? fun kv => decide (kv.1 = i)).isSome = true
def kvsV (kvs : List (Int × Int)) : List (Key × V) := kvs.map fun kv => (.inl kv.1, .int kv.2)
theorem tPairs_int : ∀ (kvs : List (Int × Int)) (σ : L2.St) (H : Hp) (Q : List (V × V) → Hp → Prop), Q (kvs.map fun kv => (.int kv.1, .int kv.2)) H → tPairs (kvs.map fun kv => (tC (.int kv.1), tC (.int kv.2))) σ H Q
  | [], _, _, _, h => h
  | _ :: r, σ, H, Q, h => tPairs_int r σ H (fun ps H3 => Q ((.int _, .int _) :: ps) H3) h
theorem kvsV_get (i : Int) : ∀ kvs : List (Int × Int), valV (kvsV kvs) (.inl i) = (kvs.find? fun kv => decide (kv.1 = i)).map fun kv => V.int kv.2
  | [] => rfl
  | p :: r => by
    by_cases e : p.1 = i
    · show valV ((.inl p.1, .int p.2) :: kvsV r) _ = _
      rw [valV_pos (by rw [e]), List.find?_cons, decide_eq_true e]; rfl
    · show valV ((.inl p.1, .int p.2) :: kvsV r) _ = _
      rw [valV_neg (p := ((.inl p.1 : Key), V.int p.2)) (by intro z; exact e (Sum.inl.inj z)), List.find?_cons, decide_eq_false e]; exact kvsV_get i r
theorem ev_dix {kvs : List (Int × Int)} {i : Int} {keys : List (Option Expr)} {values : List Expr} (hu : X.A.units + 64 < cLine) (hk : PPs X pos keys values (kvs.map fun kv => (tC (.int kv.1), tC (.int kv.2)))) (hm : mergeK [] (kvsV kvs) = kvsV kvs) (hz : kvs.length ≤ 15)
    (hi : DixOk kvs i) (hb : EE X sa δ S b (.p (.int i)) S1) (hall : keys.all (·.isSome) = true := by rfl) (hl : keys.length = values.length := by rfl) (h0 : keys ≠ [] := by (intro h; cases h)) (h15 : keys.length ≤ 15 := by decide) (hs : NoSl b := by exact fun _ _ => rfl) :
    EG st X sa δ S (.Subscript (.Dict keys values pos) b pos') (.p (.int (dixI kvs i))) S1 :=
  pe_imp (pe_dget (by omega) (pe_disp hk hall hl h0 h15) hb hs) fun σ H Q ⟨B, ok, kk⟩ => fun p hp => by
    refine tPairs_int kvs _ _ _ ⟨upd_same, kvsV kvs, ?_, ?_, ?_⟩
    · unfold kvsV; rw [List.map_map]; rfl
    · unfold kvsV; rw [List.length_map]; exact hz
    · rw [hm]
      have uu : upd (upd H p (.dK [])) p (.dK (kvsV kvs)) = upd H p (.dK (kvsV kvs)) := by
        funext c
        by_cases e : c = p
        · subst e; rw [upd_same, upd_same]
        · rw [upd_ne e, upd_ne e, upd_ne e]
      rw [uu]
      have ex : Ext sa H (upd H p (.dK (kvsV kvs))) := .new hp
      have sp : SrcRep sa (upd H p (.dK (kvsV kvs))) S := ok.src.same (same_new hp)
      refine ⟨B, ok.ext ex sp, fun u H2 B2 ok2 e2 b2 r2 => ?_⟩
      obtain rfl : B2 = H2 := b2
      have wp : Away sa p := ok.src.away hp
      have hp2 : B2 p = some (.dK (kvsV kvs)) := e2.cell p _ upd_same wp
      have hv : valV (kvsV kvs) (.inl i) = some (.int (dixI kvs i)) := by
        rw [kvsV_get]
        unfold DixOk at hi
        unfold dixI
        cases q : kvs.find? fun kv => decide (kv.1 = i) with
        | none => rw [q] at hi; cases hi
        | some kv => rfl
      refine ⟨p, .int (dixI kvs i), rfl, .inl ⟨kvsV kvs, .inl i, .inl hp2, dpi r2, hv.symm⟩, ?_⟩
      exact give_p ok (ex.trans e2) ok2.src (.int _) trivial fun B' ok' bb r => kk _ _ B' ok' (ex.trans e2) bb r
end
end L2.Ev

set_option Elab.async false
set_option linter.all false
set_option maxRecDepth 100000
/-! Ev25: the other form of the source. -/
namespace L2.Ev
open PySem PySem.Spec PyProof.Rows
theorem ok_scriptB {K : PySem.W.Frag} {H : Hp} {a : Addr} {ns : List Int} {m : Int} {x : Option V} {S : Src} (h : SqL K H a (ns.map .int)) (hz : ns.length ≤ 1000) : Ok K Option.none H H [some (.ref a), some (.int m), x] [some (.b (encs ns)), some (.p (enc m)), Option.none] S := by
  refine ⟨.refl _ _, rfl, ⟨fun _ => [], ⟨fun i sl e => ?_, fun _ => .nil, (fun _ _ _ _ z => nomatch z), (fun _ _ z => nomatch z)⟩⟩, .empty⟩
  match i, e with
  | 0, e =>
    cases e
    exact ⟨_, rfl, rfl, a, rfl, _, h, .empty, dp_of_ints ns, pu_ints ns, by rw [List.length_map]; exact ble_line (Nat.ble_eq.mpr hz)⟩
  | 1, e => cases e; exact ⟨_, rfl, rfl, .int m, trivial⟩
  | 2, e => cases e
  | i + 3, e => cases e
theorem max1 (m : Int) : (if m > 1 then m else 1) = max 1 m := by
  split <;> omega
theorem pickB_le {S : Src} {m : Int} (h : ¬ 1 < m) : pickB S m = (S.left % max 1 m, ⟨S.cells, S.left / max 1 m, S.mixed, S.turn⟩) := by
  unfold pickB
  have h2 : m < 2 := by omega
  simp only [if_neg h, h2, true_or, if_true]
theorem pickB_pos {S : Src} {m : Int} {cs : List Int} {l : Int} (h : 1 < m) (hp : pulled S = (cs, l)) (hl : 1 < l) : pickB S m = (l % max 1 m, ⟨cs, l / max 1 m, S.mixed, S.turn⟩) := by
  unfold pickB
  simp only [if_pos h, hp, hl, or_true, if_true]
theorem pickB_neg {S : Src} {m : Int} {cs : List Int} {l : Int} (h : 1 < m) (hp : pulled S = (cs, l)) (hl : ¬ 1 < l) : pickB S m =
    ((((S.mixed + (S.turn + 1) * 104729) % 998244353 * ((S.mixed + (S.turn + 1) * 104729) % 998244353) + (S.turn + 1) * 17) % 2147483647 / 16) % m,
      ⟨cs, l, ((S.mixed + (S.turn + 1) * 104729) % 998244353 * ((S.mixed + (S.turn + 1) * 104729) % 998244353) + (S.turn + 1) * 17) % 2147483647, S.turn + 1⟩) := by
  unfold pickB
  have h2 : ¬ m < 2 := by omega
  simp only [if_pos h, hp, hl, h2, or_self, if_false]
end L2.Ev

set_option Elab.async false
set_option linter.all false
set_option maxRecDepth 100000
namespace L2.Ev
open PySem PySem.Spec PyProof.Rows
def m__law_pick (m_0 : Int) (S : Src) : Int × Src := pickB S m_0
def g__law_pick (m_0 : Int) (S : Src) : Prop := m_0 < 1073741824
@[reducible] def R__law_pick : DR := fun sls S r S' => ∃ (m_0 : Int), sls = [.src, .p (enc m_0)] ∧ g__law_pick m_0 S ∧ r = .p (enc (m__law_pick m_0 S).1) ∧ S' = (m__law_pick m_0 S).2
@[reducible] def rf__law_of (r : Int × Src) : Sl × Src := (.p (enc r.1), r.2)
def m__law_of (some_0 : (List Int)) (S : Src) : (Int × Src) := ((getI some_0 ((m__law_pick (List.length some_0 : Int) S).1)), (m__law_pick (List.length some_0 : Int) S).2)
def g__law_of (some_0 : (List Int)) (S : Src) : Prop := (g__law_pick (List.length some_0 : Int) S) ∧ (InB some_0 ((m__law_pick (List.length some_0 : Int) S).1))
@[reducible] def R__law_of : DR := fun sls S r S' => ∃ (some_0 : (List Int)), sls = [.src, .b (encs some_0)] ∧ g__law_of some_0 S ∧ r = .p (enc (m__law_of some_0 S).1) ∧ S' = (m__law_of some_0 S).2
@[reducible] def rf__law_web (r : (T3 Int Int (List (T3 Int Int Int))) × Src) : Sl × Src := (.p (enc r.1), r.2)
@[reducible] def nf__law_web_1 (p_0 : Int) (n_0 : Int) (few_0 : Int) (n : ((List (T3 Int Int Int)) × Src)) : Env × Src := ([some (.src), some (.p (enc p_0)), some (.p (enc n_0)), some (.p (enc few_0)), some (.l (encs n.1)), none, none], n.2)
@[reducible] def nf__law_web_2 (p_0 : Int) (n_0 : Int) (few_0 : Int) (q_79 : Int) (n : ((List (T3 Int Int Int)) × Src)) : Env × Src := ([some (.src), some (.p (enc p_0)), some (.p (enc n_0)), some (.p (enc few_0)), some (.l (encs n.1)), some (.p (enc q_79)), none], n.2)
def m__law_web_3 (ties_95 : (List (T3 Int Int Int))) (S_97 : Src) : ((List (T3 Int Int Int)) × Src) := (ties_95, S_97)
def g__law_web_3 (ties_95 : (List (T3 Int Int Int))) (S_97 : Src) : Prop := True
def m__law_web_4 (p_0 : Int) (q_79 : Int) (n_85 : ((List (T3 Int Int Int)) × Src)) (q_86 : Int) (S_90 : Src) : ((List (T3 Int Int Int)) × Src) := (m__law_web_3 (n_85.1 ++ [(T3.mk q_79 q_86 ((1 : Int) + (m__law_pick (p_0 - (1 : Int)) S_90).1))]) ((m__law_pick (p_0 - (1 : Int)) S_90).2))
def g__law_web_4 (p_0 : Int) (q_79 : Int) (n_85 : ((List (T3 Int Int Int)) × Src)) (q_86 : Int) (S_90 : Src) : Prop := (g__law_pick (p_0 - (1 : Int)) S_90) ∧ (List.length n_85.1 < 16777216) ∧ (g__law_web_3 (n_85.1 ++ [(T3.mk q_79 q_86 ((1 : Int) + (m__law_pick (p_0 - (1 : Int)) S_90).1))]) ((m__law_pick (p_0 - (1 : Int)) S_90).2))
def m__law_web_5 (n_85 : ((List (T3 Int Int Int)) × Src)) (S_90 : Src) : ((List (T3 Int Int Int)) × Src) := (n_85.1, S_90)
def g__law_web_5 (n_85 : ((List (T3 Int Int Int)) × Src)) (S_90 : Src) : Prop := True
def m__law_web_6 (p_0 : Int) (few_0 : Int) (q_79 : Int) (n_85 : ((List (T3 Int Int Int)) × Src)) (q_86 : Int) : ((List (T3 Int Int Int)) × Src) := (if (decide (few_0 ≤ (m__law_pick (3 : Int) n_85.2).1)) = true then m__law_web_4 p_0 q_79 n_85 q_86 ((m__law_pick (3 : Int) n_85.2).2) else m__law_web_5 n_85 ((m__law_pick (3 : Int) n_85.2).2))
def g__law_web_6 (p_0 : Int) (few_0 : Int) (q_79 : Int) (n_85 : ((List (T3 Int Int Int)) × Src)) (q_86 : Int) : Prop := (g__law_pick (3 : Int) n_85.2) ∧ ((decide (few_0 ≤ (m__law_pick (3 : Int) n_85.2).1)) = true → g__law_web_4 p_0 q_79 n_85 q_86 ((m__law_pick (3 : Int) n_85.2).2)) ∧ ((decide (few_0 ≤ (m__law_pick (3 : Int) n_85.2).1)) = false → g__law_web_5 n_85 ((m__law_pick (3 : Int) n_85.2).2))
def m__law_web_7 (n_99 : ((List (T3 Int Int Int)) × Src)) : ((List (T3 Int Int Int)) × Src) := (n_99.1, n_99.2)
def g__law_web_7 (n_99 : ((List (T3 Int Int Int)) × Src)) : Prop := True
def m__law_web_8 (p_0 : Int) (n_0 : Int) (few_0 : Int) (n_78 : ((List (T3 Int Int Int)) × Src)) (q_79 : Int) : ((List (T3 Int Int Int)) × Src) := (m__law_web_7 (List.foldl (fun (n_85 : ((List (T3 Int Int Int)) × Src)) (q_86 : Int) => m__law_web_6 p_0 few_0 q_79 n_85 q_86) ((n_78.1, n_78.2) : ((List (T3 Int Int Int)) × Src)) (rngI (q_79 + (1 : Int)) (Int.toNat (n_0 - (q_79 + (1 : Int)))))))
def g__law_web_8 (p_0 : Int) (n_0 : Int) (few_0 : Int) (n_78 : ((List (T3 Int Int Int)) × Src)) (q_79 : Int) : Prop := (RngOk (q_79 + (1 : Int))) ∧ (RngOk n_0) ∧ (n_0 - (q_79 + (1 : Int)) ≤ 16777216) ∧ (FG (fun (n_85 : ((List (T3 Int Int Int)) × Src)) (q_86 : Int) => g__law_web_6 p_0 few_0 q_79 n_85 q_86) (fun (n_85 : ((List (T3 Int Int Int)) × Src)) (q_86 : Int) => m__law_web_6 p_0 few_0 q_79 n_85 q_86) (rngI (q_79 + (1 : Int)) (Int.toNat (n_0 - (q_79 + (1 : Int))))) ((n_78.1, n_78.2) : ((List (T3 Int Int Int)) × Src))) ∧ (g__law_web_7 (List.foldl (fun (n_85 : ((List (T3 Int Int Int)) × Src)) (q_86 : Int) => m__law_web_6 p_0 few_0 q_79 n_85 q_86) ((n_78.1, n_78.2) : ((List (T3 Int Int Int)) × Src)) (rngI (q_79 + (1 : Int)) (Int.toNat (n_0 - (q_79 + (1 : Int)))))))
def m__law_web_9 (p_0 : Int) (n_0 : Int) (n_101 : ((List (T3 Int Int Int)) × Src)) : ((T3 Int Int (List (T3 Int Int Int))) × Src) := ((T3.mk p_0 n_0 n_101.1), n_101.2)
def g__law_web_9 (p_0 : Int) (n_0 : Int) (n_101 : ((List (T3 Int Int Int)) × Src)) : Prop := True
def m__law_web_10 (p_0 : Int) (n_0 : Int) (few_0 : Int) (S : Src) (ties_72 : (List (T3 Int Int Int))) : ((T3 Int Int (List (T3 Int Int Int))) × Src) := (m__law_web_9 p_0 n_0 (List.foldl (fun (n_78 : ((List (T3 Int Int Int)) × Src)) (q_79 : Int) => m__law_web_8 p_0 n_0 few_0 n_78 q_79) ((ties_72, S) : ((List (T3 Int Int Int)) × Src)) (rngI 0 (Int.toNat n_0))))
def g__law_web_10 (p_0 : Int) (n_0 : Int) (few_0 : Int) (S : Src) (ties_72 : (List (T3 Int Int Int))) : Prop := (RngOk n_0) ∧ (FG (fun (n_78 : ((List (T3 Int Int Int)) × Src)) (q_79 : Int) => g__law_web_8 p_0 n_0 few_0 n_78 q_79) (fun (n_78 : ((List (T3 Int Int Int)) × Src)) (q_79 : Int) => m__law_web_8 p_0 n_0 few_0 n_78 q_79) (rngI 0 (Int.toNat n_0)) ((ties_72, S) : ((List (T3 Int Int Int)) × Src))) ∧ (g__law_web_9 p_0 n_0 (List.foldl (fun (n_78 : ((List (T3 Int Int Int)) × Src)) (q_79 : Int) => m__law_web_8 p_0 n_0 few_0 n_78 q_79) ((ties_72, S) : ((List (T3 Int Int Int)) × Src)) (rngI 0 (Int.toNat n_0))))
def m__law_web (p_0 : Int) (n_0 : Int) (few_0 : Int) (S : Src) : ((T3 Int Int (List (T3 Int Int Int))) × Src) := (m__law_web_10 p_0 n_0 few_0 S ([] : List (T3 Int Int Int)))
def g__law_web (p_0 : Int) (n_0 : Int) (few_0 : Int) (S : Src) : Prop := (g__law_web_10 p_0 n_0 few_0 S ([] : List (T3 Int Int Int)))
@[reducible] def R__law_web : DR := fun sls S r S' => ∃ (p_0 : Int), ∃ (n_0 : Int), ∃ (few_0 : Int), sls = [.src, .p (enc p_0), .p (enc n_0), .p (enc few_0)] ∧ g__law_web p_0 n_0 few_0 S ∧ r = .p (enc (m__law_web p_0 n_0 few_0 S).1) ∧ S' = (m__law_web p_0 n_0 few_0 S).2
@[reducible] def rf__law_table (S : Src) (r : (List (List Int))) : Sl × Src := (.ll (encss r), S)
@[reducible] def nf__law_table_1 (web_0 : (T3 Int Int (List (T3 Int Int Int)))) (S : Src) (n : (List (List Int))) : Env × Src := ([some (.p (enc web_0)), none, some (.ll (encss n)), none, none], S)
def m__law_table_2 (rows_153 : (List (List Int))) : (List (List Int)) := rows_153
def g__law_table_2 (rows_153 : (List (List Int))) : Prop := True
def m__law_table_3 (q_147 : (T3 Int Int Int)) (rows_149 : (List (List Int))) : (List (List Int)) := (m__law_table_2 (setAt2 rows_149 q_147.b q_147.a q_147.c))
def g__law_table_3 (q_147 : (T3 Int Int Int)) (rows_149 : (List (List Int))) : Prop := (InB2 rows_149 q_147.b q_147.a) ∧ (g__law_table_2 (setAt2 rows_149 q_147.b q_147.a q_147.c))
def m__law_table_4 (n_146 : (List (List Int))) (q_147 : (T3 Int Int Int)) : (List (List Int)) := (m__law_table_3 q_147 (setAt2 n_146 q_147.a q_147.b q_147.c))
def g__law_table_4 (n_146 : (List (List Int))) (q_147 : (T3 Int Int Int)) : Prop := (InB2 n_146 q_147.a q_147.b) ∧ (g__law_table_3 q_147 (setAt2 n_146 q_147.a q_147.b q_147.c))
def m__law_table_5 (n_156 : (List (List Int))) : (List (List Int)) := n_156
def g__law_table_5 (n_156 : (List (List Int))) : Prop := True
def m__law_table_6 (web_0 : (T3 Int Int (List (T3 Int Int Int)))) (rows_141 : (List (List Int))) : (List (List Int)) := (m__law_table_5 (List.foldl (fun (n_146 : (List (List Int))) (q_147 : (T3 Int Int Int)) => m__law_table_4 n_146 q_147) (rows_141 : (List (List Int))) web_0.c))
def g__law_table_6 (web_0 : (T3 Int Int (List (T3 Int Int Int)))) (rows_141 : (List (List Int))) : Prop := (FG (fun (n_146 : (List (List Int))) (q_147 : (T3 Int Int Int)) => g__law_table_4 n_146 q_147) (fun (n_146 : (List (List Int))) (q_147 : (T3 Int Int Int)) => m__law_table_4 n_146 q_147) web_0.c (rows_141 : (List (List Int)))) ∧ (g__law_table_5 (List.foldl (fun (n_146 : (List (List Int))) (q_147 : (T3 Int Int Int)) => m__law_table_4 n_146 q_147) (rows_141 : (List (List Int))) web_0.c))
def m__law_table (web_0 : (T3 Int Int (List (T3 Int Int Int)))) : (List (List Int)) := (m__law_table_6 web_0 (List.map (fun (q_136 : Int) => (repL web_0.b ([(0 : Int)] : List Int))) (rngI 0 (Int.toNat web_0.b))))
def g__law_table (web_0 : (T3 Int Int (List (T3 Int Int Int)))) : Prop := (RngOk web_0.b) ∧ (∀ q_136 ∈ (rngI 0 (Int.toNat web_0.b)), (RepOk (List.length ([(0 : Int)] : List Int)) web_0.b)) ∧ (g__law_table_6 web_0 (List.map (fun (q_136 : Int) => (repL web_0.b ([(0 : Int)] : List Int))) (rngI 0 (Int.toNat web_0.b))))
@[reducible] def R__law_table : DR := fun sls S r S' => ∃ (web_0 : (T3 Int Int (List (T3 Int Int Int)))), sls = [.p (enc web_0)] ∧ g__law_table web_0 ∧ r = .ll (encss (m__law_table web_0)) ∧ S = S'
@[reducible] def rf_table_of (S : Src) (r : (List (List Int))) : Sl × Src := (.p (enc r), S)
@[reducible] def nf_table_of_1 (web_0 : (T3 Int Int (List (T3 Int Int Int)))) (S : Src) (n : (List (List Int))) : Env × Src := ([some (.p (enc web_0)), some (.p (enc web_0.a)), some (.p (enc web_0.b)), some (.p (enc web_0.c)), none, some (.ll (encss n)), none, none, none], S)
def m_table_of_2 (rows_209 : (List (List Int))) : (List (List Int)) := rows_209
def g_table_of_2 (rows_209 : (List (List Int))) : Prop := True
def m_table_of_3 (n_205 : (List (List Int))) (q_206 : (T3 Int Int Int)) : (List (List Int)) := (m_table_of_2 (setAt2 (setAt2 n_205 q_206.a q_206.b q_206.c) q_206.b q_206.a q_206.c))
def g_table_of_3 (n_205 : (List (List Int))) (q_206 : (T3 Int Int Int)) : Prop := (InB2 n_205 q_206.a q_206.b) ∧ (InB2 (setAt2 n_205 q_206.a q_206.b q_206.c) q_206.b q_206.a) ∧ (g_table_of_2 (setAt2 (setAt2 n_205 q_206.a q_206.b q_206.c) q_206.b q_206.a q_206.c))
def m_table_of_4 (n_212 : (List (List Int))) : (List (List Int)) := (List.map (fun (q_214 : (List Int)) => q_214) n_212)
def g_table_of_4 (n_212 : (List (List Int))) : Prop := True
def m_table_of_5 (web_0 : (T3 Int Int (List (T3 Int Int Int)))) (rows_200 : (List (List Int))) : (List (List Int)) := (m_table_of_4 (List.foldl (fun (n_205 : (List (List Int))) (q_206 : (T3 Int Int Int)) => m_table_of_3 n_205 q_206) (rows_200 : (List (List Int))) web_0.c))
def g_table_of_5 (web_0 : (T3 Int Int (List (T3 Int Int Int)))) (rows_200 : (List (List Int))) : Prop := (FG (fun (n_205 : (List (List Int))) (q_206 : (T3 Int Int Int)) => g_table_of_3 n_205 q_206) (fun (n_205 : (List (List Int))) (q_206 : (T3 Int Int Int)) => m_table_of_3 n_205 q_206) web_0.c (rows_200 : (List (List Int)))) ∧ (g_table_of_4 (List.foldl (fun (n_205 : (List (List Int))) (q_206 : (T3 Int Int Int)) => m_table_of_3 n_205 q_206) (rows_200 : (List (List Int))) web_0.c))
def m_table_of (web_0 : (T3 Int Int (List (T3 Int Int Int)))) : (List (List Int)) := (m_table_of_5 web_0 (List.map (fun (q_195 : Int) => (repL web_0.b ([(0 : Int)] : List Int))) (rngI 0 (Int.toNat web_0.b))))
def g_table_of (web_0 : (T3 Int Int (List (T3 Int Int Int)))) : Prop := ((RngOk web_0.b) ∧ (∀ q_195 ∈ (rngI 0 (Int.toNat web_0.b)), (RepOk (List.length ([(0 : Int)] : List Int)) web_0.b)) ∧ (g_table_of_5 web_0 (List.map (fun (q_195 : Int) => (repL web_0.b ([(0 : Int)] : List Int))) (rngI 0 (Int.toNat web_0.b)))))
@[reducible] def R_table_of : DR := fun sls S r S' => ∃ (web_0 : (T3 Int Int (List (T3 Int Int Int)))), sls = [.p (enc web_0)] ∧ g_table_of web_0 ∧ r = .p (enc (m_table_of web_0)) ∧ S = S'
@[reducible] def rf_room_rows (S : Src) (r : (List ((List Int) × (List Int)))) : Sl × Src := (.p (enc r), S)
def m_room_rows (web_0 : (T3 Int Int (List (T3 Int Int Int)))) : (List ((List Int) × (List Int))) := (List.map (fun (q_230 : (Int × (List Int))) => ((List.map (fun (q_234 : Int) => (if decide (q_234 = q_230.1) = true then (1 : Int) else 0)) (rngI 0 (Int.toNat web_0.b))), q_230.2)) (enumL (m_table_of web_0)))
def g_room_rows (web_0 : (T3 Int Int (List (T3 Int Int Int)))) : Prop := ((g_table_of web_0) ∧ (∀ q_230 ∈ (enumL (m_table_of web_0)), (RngOk web_0.b)))
@[reducible] def R_room_rows : DR := fun sls S r S' => ∃ (web_0 : (T3 Int Int (List (T3 Int Int Int)))), sls = [.p (enc web_0)] ∧ g_room_rows web_0 ∧ r = .p (enc (m_room_rows web_0)) ∧ S = S'
@[reducible] def rf__law_row (r : (List Int) × Src) : Sl × Src := (.p (enc r.1), r.2)
def m__law_row (p_0 : Int) (n_0 : Int) (S : Src) : ((List Int) × Src) := ((mapS (fun (S_289 : Src) (q_285 : Int) => ((m__law_pick p_0 (S_289)).1, (m__law_pick p_0 (S_289)).2)) S (rngI 0 (Int.toNat n_0))).1, (mapS (fun (S_289 : Src) (q_285 : Int) => ((m__law_pick p_0 (S_289)).1, (m__law_pick p_0 (S_289)).2)) S (rngI 0 (Int.toNat n_0))).2)
def g__law_row (p_0 : Int) (n_0 : Int) (S : Src) : Prop := (RngOk n_0) ∧ (GS (fun (S_289 : Src) (q_285 : Int) => ((m__law_pick p_0 (S_289)).1, (m__law_pick p_0 (S_289)).2)) (fun (S_289 : Src) (q_285 : Int) => (g__law_pick p_0 (S_289))) S (rngI 0 (Int.toNat n_0)))
@[reducible] def R__law_row : DR := fun sls S r S' => ∃ (p_0 : Int), ∃ (n_0 : Int), sls = [.src, .p (enc p_0), .p (enc n_0)] ∧ g__law_row p_0 n_0 S ∧ r = .p (enc (m__law_row p_0 n_0 S).1) ∧ S' = (m__law_row p_0 n_0 S).2
@[reducible] def rf__law_led_row (S : Src) (r : (List Int)) : Sl × Src := (.p (enc r), S)
def m__law_led_row (p_0 : Int) (rows_0 : (List (List Int))) (x_0 : (List Int)) : (List Int) := (List.map (fun (q_317 : (List Int)) => ((List.sum (List.map (fun (q_320 : (Int × Int)) => (q_320.1 * q_320.2)) (List.zip q_317 x_0))) % p_0)) rows_0)
def g__law_led_row (p_0 : Int) (rows_0 : (List (List Int))) (x_0 : (List Int)) : Prop := (∀ q_317 ∈ rows_0, (∀ q_320 ∈ (List.zip q_317 x_0), (CMul q_320.1 q_320.2)) ∧ (0 < p_0))
@[reducible] def R__law_led_row : DR := fun sls S r S' => ∃ (p_0 : Int), ∃ (rows_0 : (List (List Int))), ∃ (x_0 : (List Int)), sls = [.p (enc p_0), .bb (encss rows_0), .p (enc x_0)] ∧ g__law_led_row p_0 rows_0 x_0 ∧ r = .p (enc (m__law_led_row p_0 rows_0 x_0)) ∧ S = S'
@[reducible] def rf_row_times (S : Src) (r : (List Int)) : Sl × Src := (.p (enc r), S)
def m_row_times (p_0 : Int) (c_0 : Int) (row_0 : (List Int)) : (List Int) := (List.map (fun (q_351 : Int) => ((c_0 * q_351) % p_0)) row_0)
def g_row_times (p_0 : Int) (c_0 : Int) (row_0 : (List Int)) : Prop := (∀ q_351 ∈ row_0, (CMul c_0 q_351) ∧ (0 < p_0))
@[reducible] def R_row_times : DR := fun sls S r S' => ∃ (p_0 : Int), ∃ (c_0 : Int), ∃ (row_0 : (List Int)), sls = [.p (enc p_0), .p (enc c_0), .p (enc row_0)] ∧ g_row_times p_0 c_0 row_0 ∧ r = .p (enc (m_row_times p_0 c_0 row_0)) ∧ S = S'
@[reducible] def rf_row_sum (S : Src) (r : (List Int)) : Sl × Src := (.p (enc r), S)
def m_row_sum (p_0 : Int) (one_0 : (List Int)) (other_0 : (List Int)) : (List Int) := (List.map (fun (q_371 : (Int × Int)) => ((q_371.1 + q_371.2) % p_0)) (List.zip one_0 other_0))
def g_row_sum (p_0 : Int) (one_0 : (List Int)) (other_0 : (List Int)) : Prop := (∀ q_371 ∈ (List.zip one_0 other_0), (0 < p_0))
@[reducible] def R_row_sum : DR := fun sls S r S' => ∃ (p_0 : Int), ∃ (one_0 : (List Int)), ∃ (other_0 : (List Int)), sls = [.p (enc p_0), .p (enc one_0), .p (enc other_0)] ∧ g_row_sum p_0 one_0 other_0 ∧ r = .p (enc (m_row_sum p_0 one_0 other_0)) ∧ S = S'
@[reducible] def rf_row_dot (S : Src) (r : Int) : Sl × Src := (.p (enc r), S)
def m_row_dot (p_0 : Int) (one_0 : (List Int)) (other_0 : (List Int)) : Int := ((List.sum (List.map (fun (q_407 : (Int × Int)) => (q_407.1 * q_407.2)) (List.zip one_0 other_0))) % p_0)
def g_row_dot (p_0 : Int) (one_0 : (List Int)) (other_0 : (List Int)) : Prop := (∀ q_407 ∈ (List.zip one_0 other_0), (CMul q_407.1 q_407.2)) ∧ (0 < p_0)
@[reducible] def R_row_dot : DR := fun sls S r S' => ∃ (p_0 : Int), ∃ (one_0 : (List Int)), ∃ (other_0 : (List Int)), sls = [.p (enc p_0), .p (enc one_0), .p (enc other_0)] ∧ g_row_dot p_0 one_0 other_0 ∧ r = .p (enc (m_row_dot p_0 one_0 other_0)) ∧ S = S'
@[reducible] def rf_is_in_room (S : Src) (r : Bool) : Sl × Src := (.p (enc r), S)
def m_is_in_room (web_0 : (T3 Int Int (List (T3 Int Int Int)))) (member_0 : ((List Int) × (List Int))) : Bool := (List.all (List.map (fun (q_420 : ((List Int) × Int)) => decide ((m_row_dot web_0.a q_420.1 member_0.1) = q_420.2)) (List.zip (m_table_of web_0) member_0.2)) id)
def g_is_in_room (web_0 : (T3 Int Int (List (T3 Int Int Int)))) (member_0 : ((List Int) × (List Int))) : Prop := ((g_table_of web_0) ∧ (∀ q_420 ∈ (List.zip (m_table_of web_0) member_0.2), (g_row_dot web_0.a q_420.1 member_0.1)))
@[reducible] def R_is_in_room : DR := fun sls S r S' => ∃ (web_0 : (T3 Int Int (List (T3 Int Int Int)))), ∃ (member_0 : ((List Int) × (List Int))), sls = [.p (enc web_0), .p (enc member_0)] ∧ g_is_in_room web_0 member_0 ∧ r = .p (enc (m_is_in_room web_0 member_0)) ∧ S = S'
@[reducible] def rf_form_of (S : Src) (r : Int) : Sl × Src := (.p (enc r), S)
def m_form_of (p_0 : Int) (one_0 : ((List Int) × (List Int))) (other_0 : ((List Int) × (List Int))) : Int := (((m_row_dot p_0 one_0.1 other_0.2) - (m_row_dot p_0 one_0.2 other_0.1)) % p_0)
def g_form_of (p_0 : Int) (one_0 : ((List Int) × (List Int))) (other_0 : ((List Int) × (List Int))) : Prop := (g_row_dot p_0 one_0.1 other_0.2) ∧ (g_row_dot p_0 one_0.2 other_0.1) ∧ (0 < p_0)
@[reducible] def R_form_of : DR := fun sls S r S' => ∃ (p_0 : Int), ∃ (one_0 : ((List Int) × (List Int))), ∃ (other_0 : ((List Int) × (List Int))), sls = [.p (enc p_0), .p (enc one_0), .p (enc other_0)] ∧ g_form_of p_0 one_0 other_0 ∧ r = .p (enc (m_form_of p_0 one_0 other_0)) ∧ S = S'
@[reducible] def rf__law_form (S : Src) (r : Int) : Sl × Src := (.p (enc r), S)
@[reducible] def nf__law_form_1 (p_0 : Int) (one_0 : ((List Int) × (List Int))) (other_0 : ((List Int) × (List Int))) (S : Src) (n : Int) : Env × Src := ([some (.p (enc p_0)), some (.p (enc one_0)), some (.p (enc other_0)), some (.p (enc n)), none, none, none, none], S)
def m__law_form_2 (total_483 : Int) : Int := total_483
def g__law_form_2 (total_483 : Int) : Prop := True
def m__law_form_3 (n_479 : Int) (q_480 : (((Int × Int) × Int) × Int)) : Int := (m__law_form_2 ((n_479 + (q_480.1.1.1 * q_480.2)) - (q_480.1.1.2 * q_480.1.2)))
def g__law_form_3 (n_479 : Int) (q_480 : (((Int × Int) × Int) × Int)) : Prop := (CMul q_480.1.1.1 q_480.2) ∧ (CMul q_480.1.1.2 q_480.1.2) ∧ (g__law_form_2 ((n_479 + (q_480.1.1.1 * q_480.2)) - (q_480.1.1.2 * q_480.1.2)))
def m__law_form_4 (p_0 : Int) (n_486 : Int) : Int := (n_486 % p_0)
def g__law_form_4 (p_0 : Int) (n_486 : Int) : Prop := (0 < p_0)
def m__law_form_5 (p_0 : Int) (one_0 : ((List Int) × (List Int))) (other_0 : ((List Int) × (List Int))) (total_473 : Int) : Int := (m__law_form_4 p_0 (List.foldl (fun (n_479 : Int) (q_480 : (((Int × Int) × Int) × Int)) => m__law_form_3 n_479 q_480) (total_473 : Int) (List.zip (List.zip (List.zip one_0.1 one_0.2) other_0.1) other_0.2)))
def g__law_form_5 (p_0 : Int) (one_0 : ((List Int) × (List Int))) (other_0 : ((List Int) × (List Int))) (total_473 : Int) : Prop := (List.length one_0.2 = List.length one_0.1 ∧ List.length other_0.1 = List.length one_0.1 ∧ List.length other_0.2 = List.length one_0.1) ∧ (FG (fun (n_479 : Int) (q_480 : (((Int × Int) × Int) × Int)) => g__law_form_3 n_479 q_480) (fun (n_479 : Int) (q_480 : (((Int × Int) × Int) × Int)) => m__law_form_3 n_479 q_480) (List.zip (List.zip (List.zip one_0.1 one_0.2) other_0.1) other_0.2) (total_473 : Int)) ∧ (g__law_form_4 p_0 (List.foldl (fun (n_479 : Int) (q_480 : (((Int × Int) × Int) × Int)) => m__law_form_3 n_479 q_480) (total_473 : Int) (List.zip (List.zip (List.zip one_0.1 one_0.2) other_0.1) other_0.2)))
def m__law_form (p_0 : Int) (one_0 : ((List Int) × (List Int))) (other_0 : ((List Int) × (List Int))) : Int := (m__law_form_5 p_0 one_0 other_0 (0 : Int))
def g__law_form (p_0 : Int) (one_0 : ((List Int) × (List Int))) (other_0 : ((List Int) × (List Int))) : Prop := (g__law_form_5 p_0 one_0 other_0 (0 : Int))
@[reducible] def R__law_form : DR := fun sls S r S' => ∃ (p_0 : Int), ∃ (one_0 : ((List Int) × (List Int))), ∃ (other_0 : ((List Int) × (List Int))), sls = [.p (enc p_0), .p (enc one_0), .p (enc other_0)] ∧ g__law_form p_0 one_0 other_0 ∧ r = .p (enc (m__law_form p_0 one_0 other_0)) ∧ S = S'
@[reducible] def rf__law_all (S : Src) (r : (List (List Int))) : Sl × Src := (.l (encs r), S)
@[reducible] def nf__law_all_1 (p_0 : Int) (n_0 : Int) (S : Src) (n : (List (List Int))) : Env × Src := ([some (.p (enc p_0)), some (.p (enc n_0)), some (.l (encs n)), none, none, none, none], S)
@[reducible] def nf__law_all_2 (p_0 : Int) (n_0 : Int) (n_573 : (List (List Int))) (q_574 : Int) (S : Src) (n : (List (List Int))) : Env × Src := ([some (.p (enc p_0)), some (.p (enc n_0)), some (.b (encs n_573)), some (.p (enc q_574)), some (.l (encs n)), none, none], S)
def m__law_all_3 (late_590 : (List (List Int))) : (List (List Int)) := late_590
def g__law_all_3 (late_590 : (List (List Int))) : Prop := True
def m__law_all_4 (p_0 : Int) (n_581 : (List (List Int))) (q_582 : (List (Int))) : (List (List Int)) := (m__law_all_3 (n_581 ++ (List.map (fun (q_584 : Int) => (q_582 ++ [(T1.mk q_584).a])) (rngI 0 (Int.toNat p_0)))))
def g__law_all_4 (p_0 : Int) (n_581 : (List (List Int))) (q_582 : (List (Int))) : Prop := (RngOk p_0) ∧ (∀ q_584 ∈ (rngI 0 (Int.toNat p_0)), ((List.length q_582 : Int) + (List.length [(T1.mk q_584).a] : Int) ≤ 16777216)) ∧ ((List.length n_581 : Int) + (List.length (List.map (fun (q_584 : Int) => (q_582 ++ [(T1.mk q_584).a])) (rngI 0 (Int.toNat p_0))) : Int) ≤ 16777216) ∧ (g__law_all_3 (n_581 ++ (List.map (fun (q_584 : Int) => (q_582 ++ [(T1.mk q_584).a])) (rngI 0 (Int.toNat p_0)))))
def m__law_all_5 (found_595 : (List (List Int))) : (List (List Int)) := found_595
def g__law_all_5 (found_595 : (List (List Int))) : Prop := True
def m__law_all_6 (n_593 : (List (List Int))) : (List (List Int)) := (m__law_all_5 (n_593))
def g__law_all_6 (n_593 : (List (List Int))) : Prop := (g__law_all_5 (n_593))
def m__law_all_7 (p_0 : Int) (n_573 : (List (List Int))) (late_576 : (List (List Int))) : (List (List Int)) := (m__law_all_6 (List.foldl (fun (n_581 : (List (List Int))) (q_582 : (List (Int))) => m__law_all_4 p_0 n_581 q_582) (late_576 : (List (List Int))) n_573))
def g__law_all_7 (p_0 : Int) (n_573 : (List (List Int))) (late_576 : (List (List Int))) : Prop := (FG (fun (n_581 : (List (List Int))) (q_582 : (List (Int))) => g__law_all_4 p_0 n_581 q_582) (fun (n_581 : (List (List Int))) (q_582 : (List (Int))) => m__law_all_4 p_0 n_581 q_582) n_573 (late_576 : (List (List Int)))) ∧ (g__law_all_6 (List.foldl (fun (n_581 : (List (List Int))) (q_582 : (List (Int))) => m__law_all_4 p_0 n_581 q_582) (late_576 : (List (List Int))) n_573))
def m__law_all_8 (p_0 : Int) (n_573 : (List (List Int))) (q_574 : Int) : (List (List Int)) := (m__law_all_7 p_0 n_573 ([] : List (List Int)))
def g__law_all_8 (p_0 : Int) (n_573 : (List (List Int))) (q_574 : Int) : Prop := (g__law_all_7 p_0 n_573 ([] : List (List Int)))
def m__law_all_9 (n_598 : (List (List Int))) : (List (List Int)) := n_598
def g__law_all_9 (n_598 : (List (List Int))) : Prop := True
def m__law_all_10 (p_0 : Int) (n_0 : Int) (found_567 : (List (List Int))) : (List (List Int)) := (m__law_all_9 (List.foldl (fun (n_573 : (List (List Int))) (q_574 : Int) => m__law_all_8 p_0 n_573 q_574) (found_567 : (List (List Int))) (rngI 0 (Int.toNat n_0))))
def g__law_all_10 (p_0 : Int) (n_0 : Int) (found_567 : (List (List Int))) : Prop := (RngOk n_0) ∧ (FG (fun (n_573 : (List (List Int))) (q_574 : Int) => g__law_all_8 p_0 n_573 q_574) (fun (n_573 : (List (List Int))) (q_574 : Int) => m__law_all_8 p_0 n_573 q_574) (rngI 0 (Int.toNat n_0)) (found_567 : (List (List Int)))) ∧ (g__law_all_9 (List.foldl (fun (n_573 : (List (List Int))) (q_574 : Int) => m__law_all_8 p_0 n_573 q_574) (found_567 : (List (List Int))) (rngI 0 (Int.toNat n_0))))
def m__law_all (p_0 : Int) (n_0 : Int) : (List (List Int)) := (m__law_all_10 p_0 n_0 ([[]] : List (List (Int))))
def g__law_all (p_0 : Int) (n_0 : Int) : Prop := (g__law_all_10 p_0 n_0 ([[]] : List (List (Int))))
@[reducible] def R__law_all : DR := fun sls S r S' => ∃ (p_0 : Int), ∃ (n_0 : Int), sls = [.p (enc p_0), .p (enc n_0)] ∧ g__law_all p_0 n_0 ∧ r = .l (encs (m__law_all p_0 n_0)) ∧ S = S'
@[reducible] def rf_changed_member (S : Src) (r : ((List Int) × (List Int))) : Sl × Src := (.p (enc r), S)
def m_changed_member_1 (first_773 : (List Int)) (second_783 : (List Int)) : ((List Int) × (List Int)) := (first_773, second_783)
def g_changed_member_1 (first_773 : (List Int)) (second_783 : (List Int)) : Prop := True
def m_changed_member_2 (p_0 : Int) (change_0 : (List ((Int × Int) × (Int × Int)))) (member_0 : ((List Int) × (List Int))) (first_773 : (List Int)) : ((List Int) × (List Int)) := (m_changed_member_1 first_773 (List.map (fun (q_776 : ((((Int × Int) × (Int × Int)) × Int) × Int)) => (((q_776.1.1.2.1 * q_776.1.2) + (q_776.1.1.2.2 * q_776.2)) % p_0)) (List.zip (List.zip change_0 member_0.1) member_0.2)))
def g_changed_member_2 (p_0 : Int) (change_0 : (List ((Int × Int) × (Int × Int)))) (member_0 : ((List Int) × (List Int))) (first_773 : (List Int)) : Prop := (∀ q_776 ∈ (List.zip (List.zip change_0 member_0.1) member_0.2), (CMul q_776.1.1.2.1 q_776.1.2) ∧ (CMul q_776.1.1.2.2 q_776.2) ∧ (0 < p_0)) ∧ (g_changed_member_1 first_773 (List.map (fun (q_776 : ((((Int × Int) × (Int × Int)) × Int) × Int)) => (((q_776.1.1.2.1 * q_776.1.2) + (q_776.1.1.2.2 * q_776.2)) % p_0)) (List.zip (List.zip change_0 member_0.1) member_0.2)))
def m_changed_member (p_0 : Int) (change_0 : (List ((Int × Int) × (Int × Int)))) (member_0 : ((List Int) × (List Int))) : ((List Int) × (List Int)) := (m_changed_member_2 p_0 change_0 member_0 (List.map (fun (q_766 : ((((Int × Int) × (Int × Int)) × Int) × Int)) => (((q_766.1.1.1.1 * q_766.1.2) + (q_766.1.1.1.2 * q_766.2)) % p_0)) (List.zip (List.zip change_0 member_0.1) member_0.2)))
def g_changed_member (p_0 : Int) (change_0 : (List ((Int × Int) × (Int × Int)))) (member_0 : ((List Int) × (List Int))) : Prop := ((∀ q_766 ∈ (List.zip (List.zip change_0 member_0.1) member_0.2), (CMul q_766.1.1.1.1 q_766.1.2) ∧ (CMul q_766.1.1.1.2 q_766.2) ∧ (0 < p_0)) ∧ (g_changed_member_2 p_0 change_0 member_0 (List.map (fun (q_766 : ((((Int × Int) × (Int × Int)) × Int) × Int)) => (((q_766.1.1.1.1 * q_766.1.2) + (q_766.1.1.1.2 * q_766.2)) % p_0)) (List.zip (List.zip change_0 member_0.1) member_0.2))))
@[reducible] def R_changed_member : DR := fun sls S r S' => ∃ (p_0 : Int), ∃ (change_0 : (List ((Int × Int) × (Int × Int)))), ∃ (member_0 : ((List Int) × (List Int))), sls = [.p (enc p_0), .p (enc change_0), .p (enc member_0)] ∧ g_changed_member p_0 change_0 member_0 ∧ r = .p (enc (m_changed_member p_0 change_0 member_0)) ∧ S = S'
@[reducible] def rf_small_about (S : Src) (r : ((Int × Int) × (Int × Int))) : Sl × Src := (.p (enc r), S)
def m_small_about (p_0 : Int) (table_0 : ((Int × Int) × (Int × Int))) : ((Int × Int) × (Int × Int)) := ((table_0.2.2, ((-table_0.1.2) % p_0)), (((-table_0.2.1) % p_0), table_0.1.1))
def g_small_about (p_0 : Int) (table_0 : ((Int × Int) × (Int × Int))) : Prop := ((0 < p_0) ∧ (0 < p_0))
@[reducible] def R_small_about : DR := fun sls S r S' => ∃ (p_0 : Int), ∃ (table_0 : ((Int × Int) × (Int × Int))), sls = [.p (enc p_0), .p (enc table_0)] ∧ g_small_about p_0 table_0 ∧ r = .p (enc (m_small_about p_0 table_0)) ∧ S = S'
@[reducible] def rf_change_back (S : Src) (r : (List ((Int × Int) × (Int × Int)))) : Sl × Src := (.p (enc r), S)
def m_change_back (p_0 : Int) (change_0 : (List ((Int × Int) × (Int × Int)))) : (List ((Int × Int) × (Int × Int))) := (List.map (fun (q_814 : ((Int × Int) × (Int × Int))) => (m_small_about p_0 q_814)) change_0)
def g_change_back (p_0 : Int) (change_0 : (List ((Int × Int) × (Int × Int)))) : Prop := (∀ q_814 ∈ change_0, (g_small_about p_0 q_814))
@[reducible] def R_change_back : DR := fun sls S r S' => ∃ (p_0 : Int), ∃ (change_0 : (List ((Int × Int) × (Int × Int)))), sls = [.p (enc p_0), .p (enc change_0)] ∧ g_change_back p_0 change_0 ∧ r = .p (enc (m_change_back p_0 change_0)) ∧ S = S'
@[reducible] def rf__law_changed (S : Src) (r : ((List Int) × (List Int))) : Sl × Src := (.p (enc r), S)
def m__law_changed_1 (first_867 : (List Int)) (second_879 : (List Int)) : ((List Int) × (List Int)) := (first_867, second_879)
def g__law_changed_1 (first_867 : (List Int)) (second_879 : (List Int)) : Prop := True
def m__law_changed_2 (p_0 : Int) (change_0 : (List ((List Int) × (List Int)))) (x_0 : (List Int)) (z_0 : (List Int)) (first_867 : (List Int)) : ((List Int) × (List Int)) := (m__law_changed_1 first_867 (List.map (fun (q_870 : ((((List Int) × (List Int)) × Int) × Int)) => ((((getI q_870.1.1.2 (0 : Int)) * q_870.1.2) + ((getI q_870.1.1.2 (1 : Int)) * q_870.2)) % p_0)) (List.zip (List.zip change_0 x_0) z_0)))
def g__law_changed_2 (p_0 : Int) (change_0 : (List ((List Int) × (List Int)))) (x_0 : (List Int)) (z_0 : (List Int)) (first_867 : (List Int)) : Prop := (∀ q_870 ∈ (List.zip (List.zip change_0 x_0) z_0), (InB q_870.1.1.2 (0 : Int)) ∧ (CMul (getI q_870.1.1.2 (0 : Int)) q_870.1.2) ∧ (InB q_870.1.1.2 (1 : Int)) ∧ (CMul (getI q_870.1.1.2 (1 : Int)) q_870.2) ∧ (0 < p_0)) ∧ (g__law_changed_1 first_867 (List.map (fun (q_870 : ((((List Int) × (List Int)) × Int) × Int)) => ((((getI q_870.1.1.2 (0 : Int)) * q_870.1.2) + ((getI q_870.1.1.2 (1 : Int)) * q_870.2)) % p_0)) (List.zip (List.zip change_0 x_0) z_0)))
def m__law_changed (p_0 : Int) (change_0 : (List ((List Int) × (List Int)))) (x_0 : (List Int)) (z_0 : (List Int)) : ((List Int) × (List Int)) := (m__law_changed_2 p_0 change_0 x_0 z_0 (List.map (fun (q_858 : ((((List Int) × (List Int)) × Int) × Int)) => ((((getI q_858.1.1.1 (0 : Int)) * q_858.1.2) + ((getI q_858.1.1.1 (1 : Int)) * q_858.2)) % p_0)) (List.zip (List.zip change_0 x_0) z_0)))
def g__law_changed (p_0 : Int) (change_0 : (List ((List Int) × (List Int)))) (x_0 : (List Int)) (z_0 : (List Int)) : Prop := (∀ q_858 ∈ (List.zip (List.zip change_0 x_0) z_0), (InB q_858.1.1.1 (0 : Int)) ∧ (CMul (getI q_858.1.1.1 (0 : Int)) q_858.1.2) ∧ (InB q_858.1.1.1 (1 : Int)) ∧ (CMul (getI q_858.1.1.1 (1 : Int)) q_858.2) ∧ (0 < p_0)) ∧ (g__law_changed_2 p_0 change_0 x_0 z_0 (List.map (fun (q_858 : ((((List Int) × (List Int)) × Int) × Int)) => ((((getI q_858.1.1.1 (0 : Int)) * q_858.1.2) + ((getI q_858.1.1.1 (1 : Int)) * q_858.2)) % p_0)) (List.zip (List.zip change_0 x_0) z_0)))
@[reducible] def R__law_changed : DR := fun sls S r S' => ∃ (p_0 : Int), ∃ (change_0 : (List ((List Int) × (List Int)))), ∃ (x_0 : (List Int)), ∃ (z_0 : (List Int)), sls = [.p (enc p_0), .p (enc change_0), .p (enc x_0), .p (enc z_0)] ∧ g__law_changed p_0 change_0 x_0 z_0 ∧ r = .p (enc (m__law_changed p_0 change_0 x_0 z_0)) ∧ S = S'
@[reducible] def rf__law_about (S : Src) (r : (List ((Int × Int) × (Int × Int)))) : Sl × Src := (.p (enc r), S)
def m__law_about (p_0 : Int) (change_0 : (List ((List Int) × (List Int)))) : (List ((Int × Int) × (Int × Int))) := (List.map (fun (q_906 : ((Int × Int) × (Int × Int))) => ((q_906.2.2, (((0 : Int) - q_906.1.2) % p_0)), ((((0 : Int) - q_906.2.1) % p_0), q_906.1.1))) (List.map (fun (z_902 : ((List Int) × (List Int))) => ((getI z_902.1 0, getI z_902.1 1), (getI z_902.2 0, getI z_902.2 1))) change_0))
def g__law_about (p_0 : Int) (change_0 : (List ((List Int) × (List Int)))) : Prop := (∀ z_902 ∈ change_0, (List.length z_902.1 = 2) ∧ (List.length z_902.2 = 2)) ∧ (∀ q_906 ∈ (List.map (fun (z_902 : ((List Int) × (List Int))) => ((getI z_902.1 0, getI z_902.1 1), (getI z_902.2 0, getI z_902.2 1))) change_0), (0 < p_0) ∧ (0 < p_0))
@[reducible] def R__law_about : DR := fun sls S r S' => ∃ (p_0 : Int), ∃ (change_0 : (List ((List Int) × (List Int)))), sls = [.p (enc p_0), .p (enc change_0)] ∧ g__law_about p_0 change_0 ∧ r = .p (enc (m__law_about p_0 change_0)) ∧ S = S'
@[reducible] def rf_small_times (S : Src) (r : (List (List Int))) : Sl × Src := (.p (enc r), S)
def m_small_times_1 (p_0 : Int) (one_0 : ((Int × Int) × (Int × Int))) (columns_954 : ((Int × Int) × (Int × Int))) : (List (List Int)) := (List.map (fun (q_957 : (Int × Int)) => (List.map (fun (q_960 : (Int × Int)) => (m_row_dot p_0 [q_957.1, q_957.2] [q_960.1, q_960.2])) [columns_954.1, columns_954.2])) [one_0.1, one_0.2])
def g_small_times_1 (p_0 : Int) (one_0 : ((Int × Int) × (Int × Int))) (columns_954 : ((Int × Int) × (Int × Int))) : Prop := (∀ q_957 ∈ [one_0.1, one_0.2], (∀ q_960 ∈ [columns_954.1, columns_954.2], (g_row_dot p_0 [q_957.1, q_957.2] [q_960.1, q_960.2])))
def m_small_times (p_0 : Int) (one_0 : ((Int × Int) × (Int × Int))) (other_0 : ((Int × Int) × (Int × Int))) : (List (List Int)) := (m_small_times_1 p_0 one_0 ((other_0.1.1, other_0.2.1), (other_0.1.2, other_0.2.2)))
def g_small_times (p_0 : Int) (one_0 : ((Int × Int) × (Int × Int))) (other_0 : ((Int × Int) × (Int × Int))) : Prop := (g_small_times_1 p_0 one_0 ((other_0.1.1, other_0.2.1), (other_0.1.2, other_0.2.2)))
@[reducible] def R_small_times : DR := fun sls S r S' => ∃ (p_0 : Int), ∃ (one_0 : ((Int × Int) × (Int × Int))), ∃ (other_0 : ((Int × Int) × (Int × Int))), sls = [.p (enc p_0), .p (enc one_0), .p (enc other_0)] ∧ g_small_times p_0 one_0 other_0 ∧ r = .p (enc (m_small_times p_0 one_0 other_0)) ∧ S = S'
@[reducible] def rf_change_behind (S : Src) (r : (List (List (List Int)))) : Sl × Src := (.p (enc r), S)
def m_change_behind (p_0 : Int) (one_0 : (List ((Int × Int) × (Int × Int)))) (other_0 : (List ((Int × Int) × (Int × Int)))) : (List (List (List Int))) := (List.map (fun (q_972 : (((Int × Int) × (Int × Int)) × ((Int × Int) × (Int × Int)))) => (m_small_times p_0 q_972.2 q_972.1)) (List.zip one_0 other_0))
def g_change_behind (p_0 : Int) (one_0 : (List ((Int × Int) × (Int × Int)))) (other_0 : (List ((Int × Int) × (Int × Int)))) : Prop := (∀ q_972 ∈ (List.zip one_0 other_0), (g_small_times p_0 q_972.2 q_972.1))
@[reducible] def R_change_behind : DR := fun sls S r S' => ∃ (p_0 : Int), ∃ (one_0 : (List ((Int × Int) × (Int × Int)))), ∃ (other_0 : (List ((Int × Int) × (Int × Int)))), sls = [.p (enc p_0), .p (enc one_0), .p (enc other_0)] ∧ g_change_behind p_0 one_0 other_0 ∧ r = .p (enc (m_change_behind p_0 one_0 other_0)) ∧ S = S'
@[reducible] def rf__law_small (S : Src) (r : (List (List Int))) : Sl × Src := (.p (enc r), S)
@[reducible] def nf__law_small_1 (p_0 : Int) (one_0 : ((List Int) × (List Int))) (other_0 : ((List Int) × (List Int))) (S : Src) (n : (List (List Int))) : Env × Src := ([some (.p (enc p_0)), some (.p (enc one_0)), some (.p (enc other_0)), some (.l (encs n)), none, none], S)
def m__law_small_2 (found_1046 : (List (List Int))) : (List (List Int)) := found_1046
def g__law_small_2 (found_1046 : (List (List Int))) : Prop := True
def m__law_small_3 (p_0 : Int) (one_0 : ((List Int) × (List Int))) (other_0 : ((List Int) × (List Int))) (n_1029 : (List (List Int))) (q_1030 : Int) : (List (List Int)) := (m__law_small_2 (n_1029 ++ [(List.map (fun (q_1032 : Int) => ((((getI (getI [other_0.1, other_0.2] q_1030) (0 : Int)) * (getI one_0.1 q_1032)) + ((getI (getI [other_0.1, other_0.2] q_1030) (1 : Int)) * (getI one_0.2 q_1032))) % p_0)) (rngI 0 (Int.toNat (2 : Int))))]))
def g__law_small_3 (p_0 : Int) (one_0 : ((List Int) × (List Int))) (other_0 : ((List Int) × (List Int))) (n_1029 : (List (List Int))) (q_1030 : Int) : Prop := (RngOk (2 : Int)) ∧ (∀ q_1032 ∈ (rngI 0 (Int.toNat (2 : Int))), (InB [other_0.1, other_0.2] q_1030) ∧ (InB (getI [other_0.1, other_0.2] q_1030) (0 : Int)) ∧ (InB one_0.1 q_1032) ∧ (CMul (getI (getI [other_0.1, other_0.2] q_1030) (0 : Int)) (getI one_0.1 q_1032)) ∧ (InB [other_0.1, other_0.2] q_1030) ∧ (InB (getI [other_0.1, other_0.2] q_1030) (1 : Int)) ∧ (InB one_0.2 q_1032) ∧ (CMul (getI (getI [other_0.1, other_0.2] q_1030) (1 : Int)) (getI one_0.2 q_1032)) ∧ (0 < p_0)) ∧ (List.length n_1029 < 16777216) ∧ (g__law_small_2 (n_1029 ++ [(List.map (fun (q_1032 : Int) => ((((getI (getI [other_0.1, other_0.2] q_1030) (0 : Int)) * (getI one_0.1 q_1032)) + ((getI (getI [other_0.1, other_0.2] q_1030) (1 : Int)) * (getI one_0.2 q_1032))) % p_0)) (rngI 0 (Int.toNat (2 : Int))))]))
def m__law_small_4 (n_1049 : (List (List Int))) : (List (List Int)) := n_1049
def g__law_small_4 (n_1049 : (List (List Int))) : Prop := True
def m__law_small_5 (p_0 : Int) (one_0 : ((List Int) × (List Int))) (other_0 : ((List Int) × (List Int))) (found_1023 : (List (List Int))) : (List (List Int)) := (m__law_small_4 (List.foldl (fun (n_1029 : (List (List Int))) (q_1030 : Int) => m__law_small_3 p_0 one_0 other_0 n_1029 q_1030) (found_1023 : (List (List Int))) (rngI 0 (Int.toNat (2 : Int)))))
def g__law_small_5 (p_0 : Int) (one_0 : ((List Int) × (List Int))) (other_0 : ((List Int) × (List Int))) (found_1023 : (List (List Int))) : Prop := (RngOk (2 : Int)) ∧ (FG (fun (n_1029 : (List (List Int))) (q_1030 : Int) => g__law_small_3 p_0 one_0 other_0 n_1029 q_1030) (fun (n_1029 : (List (List Int))) (q_1030 : Int) => m__law_small_3 p_0 one_0 other_0 n_1029 q_1030) (rngI 0 (Int.toNat (2 : Int))) (found_1023 : (List (List Int)))) ∧ (g__law_small_4 (List.foldl (fun (n_1029 : (List (List Int))) (q_1030 : Int) => m__law_small_3 p_0 one_0 other_0 n_1029 q_1030) (found_1023 : (List (List Int))) (rngI 0 (Int.toNat (2 : Int)))))
def m__law_small (p_0 : Int) (one_0 : ((List Int) × (List Int))) (other_0 : ((List Int) × (List Int))) : (List (List Int)) := (m__law_small_5 p_0 one_0 other_0 ([] : List (List Int)))
def g__law_small (p_0 : Int) (one_0 : ((List Int) × (List Int))) (other_0 : ((List Int) × (List Int))) : Prop := (g__law_small_5 p_0 one_0 other_0 ([] : List (List Int)))
@[reducible] def R__law_small : DR := fun sls S r S' => ∃ (p_0 : Int), ∃ (one_0 : ((List Int) × (List Int))), ∃ (other_0 : ((List Int) × (List Int))), sls = [.p (enc p_0), .p (enc one_0), .p (enc other_0)] ∧ g__law_small p_0 one_0 other_0 ∧ r = .p (enc (m__law_small p_0 one_0 other_0)) ∧ S = S'
@[reducible] def rf_small_det (S : Src) (r : Int) : Sl × Src := (.p (enc r), S)
def m_small_det (p_0 : Int) (table_0 : ((Int × Int) × (Int × Int))) : Int := (((table_0.1.1 * table_0.2.2) - (table_0.1.2 * table_0.2.1)) % p_0)
def g_small_det (p_0 : Int) (table_0 : ((Int × Int) × (Int × Int))) : Prop := (CMul table_0.1.1 table_0.2.2) ∧ (CMul table_0.1.2 table_0.2.1) ∧ (0 < p_0)
@[reducible] def R_small_det : DR := fun sls S r S' => ∃ (p_0 : Int), ∃ (table_0 : ((Int × Int) × (Int × Int))), sls = [.p (enc p_0), .p (enc table_0)] ∧ g_small_det p_0 table_0 ∧ r = .p (enc (m_small_det p_0 table_0)) ∧ S = S'
@[reducible] def rf_is_proper (S : Src) (r : Bool) : Sl × Src := (.p (enc r), S)
def m_is_proper (p_0 : Int) (change_0 : (List ((Int × Int) × (Int × Int)))) : Bool := (List.all (List.map (fun (q_1150 : ((Int × Int) × (Int × Int))) => decide ((m_small_det p_0 q_1150) = (1 : Int))) change_0) id)
def g_is_proper (p_0 : Int) (change_0 : (List ((Int × Int) × (Int × Int)))) : Prop := (∀ q_1150 ∈ change_0, (g_small_det p_0 q_1150))
@[reducible] def R_is_proper : DR := fun sls S r S' => ∃ (p_0 : Int), ∃ (change_0 : (List ((Int × Int) × (Int × Int)))), sls = [.p (enc p_0), .p (enc change_0)] ∧ g_is_proper p_0 change_0 ∧ r = .p (enc (m_is_proper p_0 change_0)) ∧ S = S'
@[reducible] def rf_same_change (S : Src) (r : (List ((Int × Int) × (Int × Int)))) : Sl × Src := (.p (enc r), S)
def m_same_change (n_0 : Int) : (List ((Int × Int) × (Int × Int))) := (repL n_0 [(T1.mk ((((1 : Int), (0 : Int)), ((0 : Int), (1 : Int))) : ((Int × Int) × (Int × Int)))).a])
def g_same_change (n_0 : Int) : Prop := (RepT (List.length [(T1.mk ((((1 : Int), (0 : Int)), ((0 : Int), (1 : Int))) : ((Int × Int) × (Int × Int)))).a]) n_0)
@[reducible] def R_same_change : DR := fun sls S r S' => ∃ (n_0 : Int), sls = [.p (enc n_0)] ∧ g_same_change n_0 ∧ r = .p (enc (m_same_change n_0)) ∧ S = S'
@[reducible] def rf__law_changes_right (r : Bool × Src) : Sl × Src := (.p (enc r.1), r.2)
@[reducible] def nf__law_changes_right_1 (p_0 : Int) (n_0 : Int) (n : ((List (List ((List Int) × (List Int)))) × Src)) : Env × Src := ([some (.src), some (.p (enc p_0)), some (.p (enc n_0)), some (.l (encs n.1)), none, none, none, none, none, none, none, none, none, none, none, none, none, none, none, none, none], n.2)
def m__law_changes_right_2 (some_1212 : (List (List ((List Int) × (List Int))))) (S_1214 : Src) : ((List (List ((List Int) × (List Int)))) × Src) := (some_1212, S_1214)
def g__law_changes_right_2 (some_1212 : (List (List ((List Int) × (List Int))))) (S_1214 : Src) : Prop := True
def m__law_changes_right_3 (p_0 : Int) (n_0 : Int) (n_1201 : ((List (List ((List Int) × (List Int)))) × Src)) (q_1202 : Int) : ((List (List ((List Int) × (List Int)))) × Src) := (m__law_changes_right_2 (n_1201.1 ++ [(mapS (fun (S_1209 : Src) (q_1204 : Int) => (((m__law_row p_0 (2 : Int) (S_1209)).1, (m__law_row p_0 (2 : Int) ((m__law_row p_0 (2 : Int) (S_1209)).2)).1), (m__law_row p_0 (2 : Int) ((m__law_row p_0 (2 : Int) (S_1209)).2)).2)) n_1201.2 (rngI 0 (Int.toNat n_0))).1]) ((mapS (fun (S_1209 : Src) (q_1204 : Int) => (((m__law_row p_0 (2 : Int) (S_1209)).1, (m__law_row p_0 (2 : Int) ((m__law_row p_0 (2 : Int) (S_1209)).2)).1), (m__law_row p_0 (2 : Int) ((m__law_row p_0 (2 : Int) (S_1209)).2)).2)) n_1201.2 (rngI 0 (Int.toNat n_0))).2))
def g__law_changes_right_3 (p_0 : Int) (n_0 : Int) (n_1201 : ((List (List ((List Int) × (List Int)))) × Src)) (q_1202 : Int) : Prop := (RngOk n_0) ∧ (GS (fun (S_1209 : Src) (q_1204 : Int) => (((m__law_row p_0 (2 : Int) (S_1209)).1, (m__law_row p_0 (2 : Int) ((m__law_row p_0 (2 : Int) (S_1209)).2)).1), (m__law_row p_0 (2 : Int) ((m__law_row p_0 (2 : Int) (S_1209)).2)).2)) (fun (S_1209 : Src) (q_1204 : Int) => (g__law_row p_0 (2 : Int) (S_1209)) ∧ (g__law_row p_0 (2 : Int) ((m__law_row p_0 (2 : Int) (S_1209)).2))) n_1201.2 (rngI 0 (Int.toNat n_0))) ∧ (List.length n_1201.1 < 16777216) ∧ (g__law_changes_right_2 (n_1201.1 ++ [(mapS (fun (S_1209 : Src) (q_1204 : Int) => (((m__law_row p_0 (2 : Int) (S_1209)).1, (m__law_row p_0 (2 : Int) ((m__law_row p_0 (2 : Int) (S_1209)).2)).1), (m__law_row p_0 (2 : Int) ((m__law_row p_0 (2 : Int) (S_1209)).2)).2)) n_1201.2 (rngI 0 (Int.toNat n_0))).1]) ((mapS (fun (S_1209 : Src) (q_1204 : Int) => (((m__law_row p_0 (2 : Int) (S_1209)).1, (m__law_row p_0 (2 : Int) ((m__law_row p_0 (2 : Int) (S_1209)).2)).1), (m__law_row p_0 (2 : Int) ((m__law_row p_0 (2 : Int) (S_1209)).2)).2)) n_1201.2 (rngI 0 (Int.toNat n_0))).2))
def m__law_changes_right_4 (p_0 : Int) (n_0 : Int) (w_1218 : ((List ((List Int) × (List Int))) × (List ((List Int) × (List Int))))) (S_1233 : Src) (z_1245 : (((List Int) × (List Int)) × (List ((Int × Int) × (Int × Int))))) (due_1364 : (List ((Int × Int) × (Int × Int)))) : (Bool × Src) := ((decide ((m_change_behind p_0 (List.map (fun (z_1367 : ((List Int) × (List Int))) => ((getI z_1367.1 0, getI z_1367.1 1), (getI z_1367.2 0, getI z_1367.2 1))) ((w_1218).1)) z_1245.2) = (List.map (fun (z_1372 : ((Int × Int) × (Int × Int))) => [[z_1372.1.1, z_1372.1.2], [z_1372.2.1, z_1372.2.2]]) due_1364)) && decide ((m_change_behind p_0 (List.map (fun (z_1375 : ((List Int) × (List Int))) => ((getI z_1375.1 0, getI z_1375.1 1), (getI z_1375.2 0, getI z_1375.2 1))) ((w_1218).1)) (m_same_change n_0)) = (List.map (fun (z_1380 : ((List Int) × (List Int))) => [z_1380.1, z_1380.2]) ((w_1218).1)))), S_1233)
def g__law_changes_right_4 (p_0 : Int) (n_0 : Int) (w_1218 : ((List ((List Int) × (List Int))) × (List ((List Int) × (List Int))))) (S_1233 : Src) (z_1245 : (((List Int) × (List Int)) × (List ((Int × Int) × (Int × Int))))) (due_1364 : (List ((Int × Int) × (Int × Int)))) : Prop := (∀ z_1367 ∈ (w_1218).1, (List.length z_1367.1 = 2) ∧ (List.length z_1367.2 = 2)) ∧ (g_change_behind p_0 (List.map (fun (z_1367 : ((List Int) × (List Int))) => ((getI z_1367.1 0, getI z_1367.1 1), (getI z_1367.2 0, getI z_1367.2 1))) ((w_1218).1)) z_1245.2) ∧ (decide ((m_change_behind p_0 (List.map (fun (z_1367 : ((List Int) × (List Int))) => ((getI z_1367.1 0, getI z_1367.1 1), (getI z_1367.2 0, getI z_1367.2 1))) ((w_1218).1)) z_1245.2) = (List.map (fun (z_1372 : ((Int × Int) × (Int × Int))) => [[z_1372.1.1, z_1372.1.2], [z_1372.2.1, z_1372.2.2]]) due_1364)) = true → (g_same_change n_0) ∧ (∀ z_1375 ∈ (w_1218).1, (List.length z_1375.1 = 2) ∧ (List.length z_1375.2 = 2)) ∧ (g_change_behind p_0 (List.map (fun (z_1375 : ((List Int) × (List Int))) => ((getI z_1375.1 0, getI z_1375.1 1), (getI z_1375.2 0, getI z_1375.2 1))) ((w_1218).1)) (m_same_change n_0)))
def m__law_changes_right_5 (S_1233 : Src) : (Bool × Src) := (false, S_1233)
def g__law_changes_right_5 (S_1233 : Src) : Prop := True
def m__law_changes_right_6 (p_0 : Int) (n_0 : Int) (w_1218 : ((List ((List Int) × (List Int))) × (List ((List Int) × (List Int))))) (S_1233 : Src) (z_1245 : (((List Int) × (List Int)) × (List ((Int × Int) × (Int × Int))))) (dets_1337 : (List Int)) : (Bool × Src) := (m__law_changes_right_4 p_0 n_0 w_1218 S_1233 z_1245 (List.map (fun (q_1361 : Int) => ((q_1361, (0 : Int)), ((0 : Int), q_1361))) dets_1337))
def g__law_changes_right_6 (p_0 : Int) (n_0 : Int) (w_1218 : ((List ((List Int) × (List Int))) × (List ((List Int) × (List Int))))) (S_1233 : Src) (z_1245 : (((List Int) × (List Int)) × (List ((Int × Int) × (Int × Int))))) (dets_1337 : (List Int)) : Prop := (g__law_changes_right_4 p_0 n_0 w_1218 S_1233 z_1245 (List.map (fun (q_1361 : Int) => ((q_1361, (0 : Int)), ((0 : Int), q_1361))) dets_1337))
def m__law_changes_right_7 (p_0 : Int) (n_0 : Int) (w_1218 : ((List ((List Int) × (List Int))) × (List ((List Int) × (List Int))))) (S_1233 : Src) (z_1245 : (((List Int) × (List Int)) × (List ((Int × Int) × (Int × Int))))) (dets_1337 : (List Int)) : (Bool × Src) := (if ((decide ((List.map (fun (q_1340 : ((List Int) × (List Int))) => (m_small_det p_0 ((getI q_1340.1 0, getI q_1340.1 1), (getI q_1340.2 0, getI q_1340.2 1)))) (w_1218).1) ≠ dets_1337) || decide ((rp (enc (m_is_proper p_0 (List.map (fun (z_1348 : ((List Int) × (List Int))) => ((getI z_1348.1 0, getI z_1348.1 1), (getI z_1348.2 0, getI z_1348.2 1))) ((w_1218).1))))) ≠ (rp (enc (decide (dets_1337 = (repL n_0 ([(1 : Int)] : List Int))))))))) = true then m__law_changes_right_5 S_1233 else m__law_changes_right_6 p_0 n_0 w_1218 S_1233 z_1245 dets_1337)
def g__law_changes_right_7 (p_0 : Int) (n_0 : Int) (w_1218 : ((List ((List Int) × (List Int))) × (List ((List Int) × (List Int))))) (S_1233 : Src) (z_1245 : (((List Int) × (List Int)) × (List ((Int × Int) × (Int × Int))))) (dets_1337 : (List Int)) : Prop := (∀ q_1340 ∈ (w_1218).1, (List.length q_1340.1 = 2) ∧ (List.length q_1340.2 = 2) ∧ (g_small_det p_0 ((getI q_1340.1 0, getI q_1340.1 1), (getI q_1340.2 0, getI q_1340.2 1)))) ∧ (decide ((List.map (fun (q_1340 : ((List Int) × (List Int))) => (m_small_det p_0 ((getI q_1340.1 0, getI q_1340.1 1), (getI q_1340.2 0, getI q_1340.2 1)))) (w_1218).1) ≠ dets_1337) = false → (∀ z_1348 ∈ (w_1218).1, (List.length z_1348.1 = 2) ∧ (List.length z_1348.2 = 2)) ∧ (g_is_proper p_0 (List.map (fun (z_1348 : ((List Int) × (List Int))) => ((getI z_1348.1 0, getI z_1348.1 1), (getI z_1348.2 0, getI z_1348.2 1))) ((w_1218).1))) ∧ (RpOk (enc (m_is_proper p_0 (List.map (fun (z_1348 : ((List Int) × (List Int))) => ((getI z_1348.1 0, getI z_1348.1 1), (getI z_1348.2 0, getI z_1348.2 1))) ((w_1218).1))))) ∧ (RepOk (List.length ([(1 : Int)] : List Int)) n_0) ∧ (RpOk (enc (decide (dets_1337 = (repL n_0 ([(1 : Int)] : List Int))))))) ∧ (((decide ((List.map (fun (q_1340 : ((List Int) × (List Int))) => (m_small_det p_0 ((getI q_1340.1 0, getI q_1340.1 1), (getI q_1340.2 0, getI q_1340.2 1)))) (w_1218).1) ≠ dets_1337) || decide ((rp (enc (m_is_proper p_0 (List.map (fun (z_1348 : ((List Int) × (List Int))) => ((getI z_1348.1 0, getI z_1348.1 1), (getI z_1348.2 0, getI z_1348.2 1))) ((w_1218).1))))) ≠ (rp (enc (decide (dets_1337 = (repL n_0 ([(1 : Int)] : List Int))))))))) = true → g__law_changes_right_5 S_1233) ∧ (((decide ((List.map (fun (q_1340 : ((List Int) × (List Int))) => (m_small_det p_0 ((getI q_1340.1 0, getI q_1340.1 1), (getI q_1340.2 0, getI q_1340.2 1)))) (w_1218).1) ≠ dets_1337) || decide ((rp (enc (m_is_proper p_0 (List.map (fun (z_1348 : ((List Int) × (List Int))) => ((getI z_1348.1 0, getI z_1348.1 1), (getI z_1348.2 0, getI z_1348.2 1))) ((w_1218).1))))) ≠ (rp (enc (decide (dets_1337 = (repL n_0 ([(1 : Int)] : List Int))))))))) = false → g__law_changes_right_6 p_0 n_0 w_1218 S_1233 z_1245 dets_1337)
def m__law_changes_right_8 (S_1233 : Src) : (Bool × Src) := (false, S_1233)
def g__law_changes_right_8 (S_1233 : Src) : Prop := True
def m__law_changes_right_9 (p_0 : Int) (n_0 : Int) (w_1218 : ((List ((List Int) × (List Int))) × (List ((List Int) × (List Int))))) (S_1233 : Src) (z_1245 : (((List Int) × (List Int)) × (List ((Int × Int) × (Int × Int))))) : (Bool × Src) := (m__law_changes_right_7 p_0 n_0 w_1218 S_1233 z_1245 (List.map (fun (q_1330 : ((Int × Int) × (Int × Int))) => (((q_1330.1.1 * q_1330.2.2) - (q_1330.1.2 * q_1330.2.1)) % p_0)) (List.map (fun (z_1326 : ((List Int) × (List Int))) => ((getI z_1326.1 0, getI z_1326.1 1), (getI z_1326.2 0, getI z_1326.2 1))) ((w_1218).1))))
def g__law_changes_right_9 (p_0 : Int) (n_0 : Int) (w_1218 : ((List ((List Int) × (List Int))) × (List ((List Int) × (List Int))))) (S_1233 : Src) (z_1245 : (((List Int) × (List Int)) × (List ((Int × Int) × (Int × Int))))) : Prop := (∀ z_1326 ∈ (w_1218).1, (List.length z_1326.1 = 2) ∧ (List.length z_1326.2 = 2)) ∧ (∀ q_1330 ∈ (List.map (fun (z_1326 : ((List Int) × (List Int))) => ((getI z_1326.1 0, getI z_1326.1 1), (getI z_1326.2 0, getI z_1326.2 1))) ((w_1218).1)), (CMul q_1330.1.1 q_1330.2.2) ∧ (CMul q_1330.1.2 q_1330.2.1) ∧ (0 < p_0)) ∧ (g__law_changes_right_7 p_0 n_0 w_1218 S_1233 z_1245 (List.map (fun (q_1330 : ((Int × Int) × (Int × Int))) => (((q_1330.1.1 * q_1330.2.2) - (q_1330.1.2 * q_1330.2.1)) % p_0)) (List.map (fun (z_1326 : ((List Int) × (List Int))) => ((getI z_1326.1 0, getI z_1326.1 1), (getI z_1326.2 0, getI z_1326.2 1))) ((w_1218).1))))
def m__law_changes_right_10 (S_1233 : Src) : (Bool × Src) := (false, S_1233)
def g__law_changes_right_10 (S_1233 : Src) : Prop := True
def m__law_changes_right_11 (p_0 : Int) (n_0 : Int) (w_1218 : ((List ((List Int) × (List Int))) × (List ((List Int) × (List Int))))) (S_1233 : Src) (z_1245 : (((List Int) × (List Int)) × (List ((Int × Int) × (Int × Int))))) (both_1269 : (List (List (List Int)))) : (Bool × Src) := (if (decide ((List.map (fun (z_1321 : ((Int × Int) × (Int × Int))) => [[z_1321.1.1, z_1321.1.2], [z_1321.2.1, z_1321.2.2]]) (m_change_back p_0 (List.map (fun (z_1309 : (List (List Int))) => ((getI ((getI z_1309 0, getI z_1309 1).1) 0, getI ((getI z_1309 0, getI z_1309 1).1) 1), (getI ((getI z_1309 0, getI z_1309 1).2) 0, getI ((getI z_1309 0, getI z_1309 1).2) 1))) both_1269))) ≠ (m_change_behind p_0 (m_change_back p_0 (List.map (fun (z_1315 : ((List Int) × (List Int))) => ((getI z_1315.1 0, getI z_1315.1 1), (getI z_1315.2 0, getI z_1315.2 1))) ((w_1218).2))) z_1245.2))) = true then m__law_changes_right_8 S_1233 else m__law_changes_right_9 p_0 n_0 w_1218 S_1233 z_1245)
def g__law_changes_right_11 (p_0 : Int) (n_0 : Int) (w_1218 : ((List ((List Int) × (List Int))) × (List ((List Int) × (List Int))))) (S_1233 : Src) (z_1245 : (((List Int) × (List Int)) × (List ((Int × Int) × (Int × Int))))) (both_1269 : (List (List (List Int)))) : Prop := (∀ z_1309 ∈ both_1269, (List.length z_1309 = 2) ∧ (List.length ((getI z_1309 0, getI z_1309 1).1) = 2) ∧ (List.length ((getI z_1309 0, getI z_1309 1).2) = 2)) ∧ (g_change_back p_0 (List.map (fun (z_1309 : (List (List Int))) => ((getI ((getI z_1309 0, getI z_1309 1).1) 0, getI ((getI z_1309 0, getI z_1309 1).1) 1), (getI ((getI z_1309 0, getI z_1309 1).2) 0, getI ((getI z_1309 0, getI z_1309 1).2) 1))) both_1269)) ∧ (∀ z_1315 ∈ (w_1218).2, (List.length z_1315.1 = 2) ∧ (List.length z_1315.2 = 2)) ∧ (g_change_back p_0 (List.map (fun (z_1315 : ((List Int) × (List Int))) => ((getI z_1315.1 0, getI z_1315.1 1), (getI z_1315.2 0, getI z_1315.2 1))) ((w_1218).2))) ∧ (g_change_behind p_0 (m_change_back p_0 (List.map (fun (z_1315 : ((List Int) × (List Int))) => ((getI z_1315.1 0, getI z_1315.1 1), (getI z_1315.2 0, getI z_1315.2 1))) ((w_1218).2))) z_1245.2) ∧ ((decide ((List.map (fun (z_1321 : ((Int × Int) × (Int × Int))) => [[z_1321.1.1, z_1321.1.2], [z_1321.2.1, z_1321.2.2]]) (m_change_back p_0 (List.map (fun (z_1309 : (List (List Int))) => ((getI ((getI z_1309 0, getI z_1309 1).1) 0, getI ((getI z_1309 0, getI z_1309 1).1) 1), (getI ((getI z_1309 0, getI z_1309 1).2) 0, getI ((getI z_1309 0, getI z_1309 1).2) 1))) both_1269))) ≠ (m_change_behind p_0 (m_change_back p_0 (List.map (fun (z_1315 : ((List Int) × (List Int))) => ((getI z_1315.1 0, getI z_1315.1 1), (getI z_1315.2 0, getI z_1315.2 1))) ((w_1218).2))) z_1245.2))) = true → g__law_changes_right_8 S_1233) ∧ ((decide ((List.map (fun (z_1321 : ((Int × Int) × (Int × Int))) => [[z_1321.1.1, z_1321.1.2], [z_1321.2.1, z_1321.2.2]]) (m_change_back p_0 (List.map (fun (z_1309 : (List (List Int))) => ((getI ((getI z_1309 0, getI z_1309 1).1) 0, getI ((getI z_1309 0, getI z_1309 1).1) 1), (getI ((getI z_1309 0, getI z_1309 1).2) 0, getI ((getI z_1309 0, getI z_1309 1).2) 1))) both_1269))) ≠ (m_change_behind p_0 (m_change_back p_0 (List.map (fun (z_1315 : ((List Int) × (List Int))) => ((getI z_1315.1 0, getI z_1315.1 1), (getI z_1315.2 0, getI z_1315.2 1))) ((w_1218).2))) z_1245.2))) = false → g__law_changes_right_9 p_0 n_0 w_1218 S_1233 z_1245)
def m__law_changes_right_12 (S_1233 : Src) : (Bool × Src) := (false, S_1233)
def g__law_changes_right_12 (S_1233 : Src) : Prop := True
def m__law_changes_right_13 (p_0 : Int) (n_0 : Int) (w_1218 : ((List ((List Int) × (List Int))) × (List ((List Int) × (List Int))))) (w_1230 : (((List Int) × (List Int)) × ((List Int) × (List Int)))) (S_1233 : Src) (z_1245 : (((List Int) × (List Int)) × (List ((Int × Int) × (Int × Int))))) (both_1269 : (List (List (List Int)))) : (Bool × Src) := (if (decide ((m_form_of p_0 z_1245.1 ((w_1230).2)) ≠ (m_form_of p_0 ((w_1230).1) (m_changed_member p_0 z_1245.2 ((w_1230).2))))) = true then m__law_changes_right_10 S_1233 else m__law_changes_right_11 p_0 n_0 w_1218 S_1233 z_1245 both_1269)
def g__law_changes_right_13 (p_0 : Int) (n_0 : Int) (w_1218 : ((List ((List Int) × (List Int))) × (List ((List Int) × (List Int))))) (w_1230 : (((List Int) × (List Int)) × ((List Int) × (List Int)))) (S_1233 : Src) (z_1245 : (((List Int) × (List Int)) × (List ((Int × Int) × (Int × Int))))) (both_1269 : (List (List (List Int)))) : Prop := (g_form_of p_0 z_1245.1 ((w_1230).2)) ∧ (g_changed_member p_0 z_1245.2 ((w_1230).2)) ∧ (g_form_of p_0 ((w_1230).1) (m_changed_member p_0 z_1245.2 ((w_1230).2))) ∧ ((decide ((m_form_of p_0 z_1245.1 ((w_1230).2)) ≠ (m_form_of p_0 ((w_1230).1) (m_changed_member p_0 z_1245.2 ((w_1230).2))))) = true → g__law_changes_right_10 S_1233) ∧ ((decide ((m_form_of p_0 z_1245.1 ((w_1230).2)) ≠ (m_form_of p_0 ((w_1230).1) (m_changed_member p_0 z_1245.2 ((w_1230).2))))) = false → g__law_changes_right_11 p_0 n_0 w_1218 S_1233 z_1245 both_1269)
def m__law_changes_right_14 (S_1233 : Src) : (Bool × Src) := (false, S_1233)
def g__law_changes_right_14 (S_1233 : Src) : Prop := True
def m__law_changes_right_15 (p_0 : Int) (n_0 : Int) (w_1218 : ((List ((List Int) × (List Int))) × (List ((List Int) × (List Int))))) (w_1230 : (((List Int) × (List Int)) × ((List Int) × (List Int)))) (S_1233 : Src) (z_1245 : (((List Int) × (List Int)) × (List ((Int × Int) × (Int × Int))))) (both_1269 : (List (List (List Int)))) : (Bool × Src) := (if ((decide ((m_changed_member p_0 (List.map (fun (z_1283 : (List (List Int))) => ((getI ((getI z_1283 0, getI z_1283 1).1) 0, getI ((getI z_1283 0, getI z_1283 1).1) 1), (getI ((getI z_1283 0, getI z_1283 1).2) 0, getI ((getI z_1283 0, getI z_1283 1).2) 1))) both_1269) ((w_1230).1)) ≠ (m_changed_member p_0 (List.map (fun (z_1289 : ((List Int) × (List Int))) => ((getI z_1289.1 0, getI z_1289.1 1), (getI z_1289.2 0, getI z_1289.2 1))) ((w_1218).2)) z_1245.1)) || decide ((List.map (fun (z_1296 : ((Int × Int) × (Int × Int))) => ([z_1296.1.1, z_1296.1.2], [z_1296.2.1, z_1296.2.2])) (m_change_back p_0 z_1245.2)) ≠ (w_1218).1))) = true then m__law_changes_right_12 S_1233 else m__law_changes_right_13 p_0 n_0 w_1218 w_1230 S_1233 z_1245 both_1269)
def g__law_changes_right_15 (p_0 : Int) (n_0 : Int) (w_1218 : ((List ((List Int) × (List Int))) × (List ((List Int) × (List Int))))) (w_1230 : (((List Int) × (List Int)) × ((List Int) × (List Int)))) (S_1233 : Src) (z_1245 : (((List Int) × (List Int)) × (List ((Int × Int) × (Int × Int))))) (both_1269 : (List (List (List Int)))) : Prop := (∀ z_1283 ∈ both_1269, (List.length z_1283 = 2) ∧ (List.length ((getI z_1283 0, getI z_1283 1).1) = 2) ∧ (List.length ((getI z_1283 0, getI z_1283 1).2) = 2)) ∧ (g_changed_member p_0 (List.map (fun (z_1283 : (List (List Int))) => ((getI ((getI z_1283 0, getI z_1283 1).1) 0, getI ((getI z_1283 0, getI z_1283 1).1) 1), (getI ((getI z_1283 0, getI z_1283 1).2) 0, getI ((getI z_1283 0, getI z_1283 1).2) 1))) both_1269) ((w_1230).1)) ∧ (∀ z_1289 ∈ (w_1218).2, (List.length z_1289.1 = 2) ∧ (List.length z_1289.2 = 2)) ∧ (g_changed_member p_0 (List.map (fun (z_1289 : ((List Int) × (List Int))) => ((getI z_1289.1 0, getI z_1289.1 1), (getI z_1289.2 0, getI z_1289.2 1))) ((w_1218).2)) z_1245.1) ∧ (decide ((m_changed_member p_0 (List.map (fun (z_1283 : (List (List Int))) => ((getI ((getI z_1283 0, getI z_1283 1).1) 0, getI ((getI z_1283 0, getI z_1283 1).1) 1), (getI ((getI z_1283 0, getI z_1283 1).2) 0, getI ((getI z_1283 0, getI z_1283 1).2) 1))) both_1269) ((w_1230).1)) ≠ (m_changed_member p_0 (List.map (fun (z_1289 : ((List Int) × (List Int))) => ((getI z_1289.1 0, getI z_1289.1 1), (getI z_1289.2 0, getI z_1289.2 1))) ((w_1218).2)) z_1245.1)) = false → (g_change_back p_0 z_1245.2)) ∧ (((decide ((m_changed_member p_0 (List.map (fun (z_1283 : (List (List Int))) => ((getI ((getI z_1283 0, getI z_1283 1).1) 0, getI ((getI z_1283 0, getI z_1283 1).1) 1), (getI ((getI z_1283 0, getI z_1283 1).2) 0, getI ((getI z_1283 0, getI z_1283 1).2) 1))) both_1269) ((w_1230).1)) ≠ (m_changed_member p_0 (List.map (fun (z_1289 : ((List Int) × (List Int))) => ((getI z_1289.1 0, getI z_1289.1 1), (getI z_1289.2 0, getI z_1289.2 1))) ((w_1218).2)) z_1245.1)) || decide ((List.map (fun (z_1296 : ((Int × Int) × (Int × Int))) => ([z_1296.1.1, z_1296.1.2], [z_1296.2.1, z_1296.2.2])) (m_change_back p_0 z_1245.2)) ≠ (w_1218).1))) = true → g__law_changes_right_12 S_1233) ∧ (((decide ((m_changed_member p_0 (List.map (fun (z_1283 : (List (List Int))) => ((getI ((getI z_1283 0, getI z_1283 1).1) 0, getI ((getI z_1283 0, getI z_1283 1).1) 1), (getI ((getI z_1283 0, getI z_1283 1).2) 0, getI ((getI z_1283 0, getI z_1283 1).2) 1))) both_1269) ((w_1230).1)) ≠ (m_changed_member p_0 (List.map (fun (z_1289 : ((List Int) × (List Int))) => ((getI z_1289.1 0, getI z_1289.1 1), (getI z_1289.2 0, getI z_1289.2 1))) ((w_1218).2)) z_1245.1)) || decide ((List.map (fun (z_1296 : ((Int × Int) × (Int × Int))) => ([z_1296.1.1, z_1296.1.2], [z_1296.2.1, z_1296.2.2])) (m_change_back p_0 z_1245.2)) ≠ (w_1218).1))) = false → g__law_changes_right_13 p_0 n_0 w_1218 w_1230 S_1233 z_1245 both_1269)
def m__law_changes_right_16 (p_0 : Int) (n_0 : Int) (w_1218 : ((List ((List Int) × (List Int))) × (List ((List Int) × (List Int))))) (w_1230 : (((List Int) × (List Int)) × ((List Int) × (List Int)))) (S_1233 : Src) (z_1245 : (((List Int) × (List Int)) × (List ((Int × Int) × (Int × Int))))) (both_1269 : (List (List (List Int)))) : (Bool × Src) := (if (decide ((rp (enc both_1269)) ≠ (rp (enc (List.map (fun (q_1273 : (((List Int) × (List Int)) × ((List Int) × (List Int)))) => (m__law_small p_0 q_1273.1 q_1273.2)) (List.zip ((w_1218).1) ((w_1218).2))))))) = true then m__law_changes_right_14 S_1233 else m__law_changes_right_15 p_0 n_0 w_1218 w_1230 S_1233 z_1245 both_1269)
def g__law_changes_right_16 (p_0 : Int) (n_0 : Int) (w_1218 : ((List ((List Int) × (List Int))) × (List ((List Int) × (List Int))))) (w_1230 : (((List Int) × (List Int)) × ((List Int) × (List Int)))) (S_1233 : Src) (z_1245 : (((List Int) × (List Int)) × (List ((Int × Int) × (Int × Int))))) (both_1269 : (List (List (List Int)))) : Prop := (RpOk (enc both_1269)) ∧ (∀ q_1273 ∈ (List.zip ((w_1218).1) ((w_1218).2)), (g__law_small p_0 q_1273.1 q_1273.2)) ∧ (RpOk (enc (List.map (fun (q_1273 : (((List Int) × (List Int)) × ((List Int) × (List Int)))) => (m__law_small p_0 q_1273.1 q_1273.2)) (List.zip ((w_1218).1) ((w_1218).2))))) ∧ ((decide ((rp (enc both_1269)) ≠ (rp (enc (List.map (fun (q_1273 : (((List Int) × (List Int)) × ((List Int) × (List Int)))) => (m__law_small p_0 q_1273.1 q_1273.2)) (List.zip ((w_1218).1) ((w_1218).2))))))) = true → g__law_changes_right_14 S_1233) ∧ ((decide ((rp (enc both_1269)) ≠ (rp (enc (List.map (fun (q_1273 : (((List Int) × (List Int)) × ((List Int) × (List Int)))) => (m__law_small p_0 q_1273.1 q_1273.2)) (List.zip ((w_1218).1) ((w_1218).2))))))) = false → g__law_changes_right_15 p_0 n_0 w_1218 w_1230 S_1233 z_1245 both_1269)
def m__law_changes_right_17 (S_1233 : Src) : (Bool × Src) := (false, S_1233)
def g__law_changes_right_17 (S_1233 : Src) : Prop := True
def m__law_changes_right_18 (p_0 : Int) (n_0 : Int) (w_1218 : ((List ((List Int) × (List Int))) × (List ((List Int) × (List Int))))) (w_1230 : (((List Int) × (List Int)) × ((List Int) × (List Int)))) (S_1233 : Src) (z_1245 : (((List Int) × (List Int)) × (List ((Int × Int) × (Int × Int))))) : (Bool × Src) := (m__law_changes_right_16 p_0 n_0 w_1218 w_1230 S_1233 z_1245 (m_change_behind p_0 (List.map (fun (z_1260 : ((List Int) × (List Int))) => ((getI z_1260.1 0, getI z_1260.1 1), (getI z_1260.2 0, getI z_1260.2 1))) ((w_1218).1)) (List.map (fun (z_1264 : ((List Int) × (List Int))) => ((getI z_1264.1 0, getI z_1264.1 1), (getI z_1264.2 0, getI z_1264.2 1))) ((w_1218).2))))
def g__law_changes_right_18 (p_0 : Int) (n_0 : Int) (w_1218 : ((List ((List Int) × (List Int))) × (List ((List Int) × (List Int))))) (w_1230 : (((List Int) × (List Int)) × ((List Int) × (List Int)))) (S_1233 : Src) (z_1245 : (((List Int) × (List Int)) × (List ((Int × Int) × (Int × Int))))) : Prop := (∀ z_1260 ∈ (w_1218).1, (List.length z_1260.1 = 2) ∧ (List.length z_1260.2 = 2)) ∧ (∀ z_1264 ∈ (w_1218).2, (List.length z_1264.1 = 2) ∧ (List.length z_1264.2 = 2)) ∧ (g_change_behind p_0 (List.map (fun (z_1260 : ((List Int) × (List Int))) => ((getI z_1260.1 0, getI z_1260.1 1), (getI z_1260.2 0, getI z_1260.2 1))) ((w_1218).1)) (List.map (fun (z_1264 : ((List Int) × (List Int))) => ((getI z_1264.1 0, getI z_1264.1 1), (getI z_1264.2 0, getI z_1264.2 1))) ((w_1218).2))) ∧ (g__law_changes_right_16 p_0 n_0 w_1218 w_1230 S_1233 z_1245 (m_change_behind p_0 (List.map (fun (z_1260 : ((List Int) × (List Int))) => ((getI z_1260.1 0, getI z_1260.1 1), (getI z_1260.2 0, getI z_1260.2 1))) ((w_1218).1)) (List.map (fun (z_1264 : ((List Int) × (List Int))) => ((getI z_1264.1 0, getI z_1264.1 1), (getI z_1264.2 0, getI z_1264.2 1))) ((w_1218).2))))
def m__law_changes_right_19 (p_0 : Int) (n_0 : Int) (w_1218 : ((List ((List Int) × (List Int))) × (List ((List Int) × (List Int))))) (w_1230 : (((List Int) × (List Int)) × ((List Int) × (List Int)))) (S_1233 : Src) (z_1245 : (((List Int) × (List Int)) × (List ((Int × Int) × (Int × Int))))) : (Bool × Src) := (if ((decide ((rp (enc z_1245.1)) ≠ (rp (enc (m__law_changed p_0 ((w_1218).1) (((w_1230).1).1) (((w_1230).1).2))))) || decide ((rp (enc z_1245.2)) ≠ (rp (enc (m__law_about p_0 ((w_1218).1))))))) = true then m__law_changes_right_17 S_1233 else m__law_changes_right_18 p_0 n_0 w_1218 w_1230 S_1233 z_1245)
def g__law_changes_right_19 (p_0 : Int) (n_0 : Int) (w_1218 : ((List ((List Int) × (List Int))) × (List ((List Int) × (List Int))))) (w_1230 : (((List Int) × (List Int)) × ((List Int) × (List Int)))) (S_1233 : Src) (z_1245 : (((List Int) × (List Int)) × (List ((Int × Int) × (Int × Int))))) : Prop := (RpOk (enc z_1245.1)) ∧ (g__law_changed p_0 ((w_1218).1) (((w_1230).1).1) (((w_1230).1).2)) ∧ (RpOk (enc (m__law_changed p_0 ((w_1218).1) (((w_1230).1).1) (((w_1230).1).2)))) ∧ (decide ((rp (enc z_1245.1)) ≠ (rp (enc (m__law_changed p_0 ((w_1218).1) (((w_1230).1).1) (((w_1230).1).2))))) = false → (RpOk (enc z_1245.2)) ∧ (g__law_about p_0 ((w_1218).1)) ∧ (RpOk (enc (m__law_about p_0 ((w_1218).1))))) ∧ (((decide ((rp (enc z_1245.1)) ≠ (rp (enc (m__law_changed p_0 ((w_1218).1) (((w_1230).1).1) (((w_1230).1).2))))) || decide ((rp (enc z_1245.2)) ≠ (rp (enc (m__law_about p_0 ((w_1218).1))))))) = true → g__law_changes_right_17 S_1233) ∧ (((decide ((rp (enc z_1245.1)) ≠ (rp (enc (m__law_changed p_0 ((w_1218).1) (((w_1230).1).1) (((w_1230).1).2))))) || decide ((rp (enc z_1245.2)) ≠ (rp (enc (m__law_about p_0 ((w_1218).1))))))) = false → g__law_changes_right_18 p_0 n_0 w_1218 w_1230 S_1233 z_1245)
def m__law_changes_right_20 (p_0 : Int) (n_0 : Int) (w_1218 : ((List ((List Int) × (List Int))) × (List ((List Int) × (List Int))))) (w_1230 : (((List Int) × (List Int)) × ((List Int) × (List Int)))) (S_1233 : Src) : (Bool × Src) := (m__law_changes_right_19 p_0 n_0 w_1218 w_1230 S_1233 ((m_changed_member p_0 (List.map (fun (z_1235 : ((List Int) × (List Int))) => ((getI z_1235.1 0, getI z_1235.1 1), (getI z_1235.2 0, getI z_1235.2 1))) ((w_1218).1)) ((w_1230).1)), (m_change_back p_0 (List.map (fun (z_1240 : ((List Int) × (List Int))) => ((getI z_1240.1 0, getI z_1240.1 1), (getI z_1240.2 0, getI z_1240.2 1))) ((w_1218).1)))))
def g__law_changes_right_20 (p_0 : Int) (n_0 : Int) (w_1218 : ((List ((List Int) × (List Int))) × (List ((List Int) × (List Int))))) (w_1230 : (((List Int) × (List Int)) × ((List Int) × (List Int)))) (S_1233 : Src) : Prop := (∀ z_1235 ∈ (w_1218).1, (List.length z_1235.1 = 2) ∧ (List.length z_1235.2 = 2)) ∧ (g_changed_member p_0 (List.map (fun (z_1235 : ((List Int) × (List Int))) => ((getI z_1235.1 0, getI z_1235.1 1), (getI z_1235.2 0, getI z_1235.2 1))) ((w_1218).1)) ((w_1230).1)) ∧ (∀ z_1240 ∈ (w_1218).1, (List.length z_1240.1 = 2) ∧ (List.length z_1240.2 = 2)) ∧ (g_change_back p_0 (List.map (fun (z_1240 : ((List Int) × (List Int))) => ((getI z_1240.1 0, getI z_1240.1 1), (getI z_1240.2 0, getI z_1240.2 1))) ((w_1218).1))) ∧ (g__law_changes_right_19 p_0 n_0 w_1218 w_1230 S_1233 ((m_changed_member p_0 (List.map (fun (z_1235 : ((List Int) × (List Int))) => ((getI z_1235.1 0, getI z_1235.1 1), (getI z_1235.2 0, getI z_1235.2 1))) ((w_1218).1)) ((w_1230).1)), (m_change_back p_0 (List.map (fun (z_1240 : ((List Int) × (List Int))) => ((getI z_1240.1 0, getI z_1240.1 1), (getI z_1240.2 0, getI z_1240.2 1))) ((w_1218).1)))))
def m__law_changes_right_21 (p_0 : Int) (n_0 : Int) (n_1216 : ((List (List ((List Int) × (List Int)))) × Src)) (w_1218 : ((List ((List Int) × (List Int))) × (List ((List Int) × (List Int))))) : (Bool × Src) := (m__law_changes_right_20 p_0 n_0 w_1218 ((getI ((mapS (fun (S_1228 : Src) (q_1223 : Int) => (((m__law_row p_0 n_0 (S_1228)).1, (m__law_row p_0 n_0 ((m__law_row p_0 n_0 (S_1228)).2)).1), (m__law_row p_0 n_0 ((m__law_row p_0 n_0 (S_1228)).2)).2)) n_1216.2 (rngI 0 (Int.toNat (2 : Int)))).1) 0), (getI ((mapS (fun (S_1228 : Src) (q_1223 : Int) => (((m__law_row p_0 n_0 (S_1228)).1, (m__law_row p_0 n_0 ((m__law_row p_0 n_0 (S_1228)).2)).1), (m__law_row p_0 n_0 ((m__law_row p_0 n_0 (S_1228)).2)).2)) n_1216.2 (rngI 0 (Int.toNat (2 : Int)))).1) 1)) ((mapS (fun (S_1228 : Src) (q_1223 : Int) => (((m__law_row p_0 n_0 (S_1228)).1, (m__law_row p_0 n_0 ((m__law_row p_0 n_0 (S_1228)).2)).1), (m__law_row p_0 n_0 ((m__law_row p_0 n_0 (S_1228)).2)).2)) n_1216.2 (rngI 0 (Int.toNat (2 : Int)))).2))
def g__law_changes_right_21 (p_0 : Int) (n_0 : Int) (n_1216 : ((List (List ((List Int) × (List Int)))) × Src)) (w_1218 : ((List ((List Int) × (List Int))) × (List ((List Int) × (List Int))))) : Prop := (RngOk (2 : Int)) ∧ (GS (fun (S_1228 : Src) (q_1223 : Int) => (((m__law_row p_0 n_0 (S_1228)).1, (m__law_row p_0 n_0 ((m__law_row p_0 n_0 (S_1228)).2)).1), (m__law_row p_0 n_0 ((m__law_row p_0 n_0 (S_1228)).2)).2)) (fun (S_1228 : Src) (q_1223 : Int) => (g__law_row p_0 n_0 (S_1228)) ∧ (g__law_row p_0 n_0 ((m__law_row p_0 n_0 (S_1228)).2))) n_1216.2 (rngI 0 (Int.toNat (2 : Int)))) ∧ (List.length ((mapS (fun (S_1228 : Src) (q_1223 : Int) => (((m__law_row p_0 n_0 (S_1228)).1, (m__law_row p_0 n_0 ((m__law_row p_0 n_0 (S_1228)).2)).1), (m__law_row p_0 n_0 ((m__law_row p_0 n_0 (S_1228)).2)).2)) n_1216.2 (rngI 0 (Int.toNat (2 : Int)))).1) = 2) ∧ (g__law_changes_right_20 p_0 n_0 w_1218 ((getI ((mapS (fun (S_1228 : Src) (q_1223 : Int) => (((m__law_row p_0 n_0 (S_1228)).1, (m__law_row p_0 n_0 ((m__law_row p_0 n_0 (S_1228)).2)).1), (m__law_row p_0 n_0 ((m__law_row p_0 n_0 (S_1228)).2)).2)) n_1216.2 (rngI 0 (Int.toNat (2 : Int)))).1) 0), (getI ((mapS (fun (S_1228 : Src) (q_1223 : Int) => (((m__law_row p_0 n_0 (S_1228)).1, (m__law_row p_0 n_0 ((m__law_row p_0 n_0 (S_1228)).2)).1), (m__law_row p_0 n_0 ((m__law_row p_0 n_0 (S_1228)).2)).2)) n_1216.2 (rngI 0 (Int.toNat (2 : Int)))).1) 1)) ((mapS (fun (S_1228 : Src) (q_1223 : Int) => (((m__law_row p_0 n_0 (S_1228)).1, (m__law_row p_0 n_0 ((m__law_row p_0 n_0 (S_1228)).2)).1), (m__law_row p_0 n_0 ((m__law_row p_0 n_0 (S_1228)).2)).2)) n_1216.2 (rngI 0 (Int.toNat (2 : Int)))).2))
def m__law_changes_right_22 (p_0 : Int) (n_0 : Int) (n_1216 : ((List (List ((List Int) × (List Int)))) × Src)) : (Bool × Src) := (m__law_changes_right_21 p_0 n_0 n_1216 ((getI n_1216.1 0), (getI n_1216.1 1)))
def g__law_changes_right_22 (p_0 : Int) (n_0 : Int) (n_1216 : ((List (List ((List Int) × (List Int)))) × Src)) : Prop := (List.length n_1216.1 = 2) ∧ (g__law_changes_right_21 p_0 n_0 n_1216 ((getI n_1216.1 0), (getI n_1216.1 1)))
def m__law_changes_right_23 (p_0 : Int) (n_0 : Int) (S : Src) (some_1195 : (List (List ((List Int) × (List Int))))) : (Bool × Src) := (m__law_changes_right_22 p_0 n_0 (List.foldl (fun (n_1201 : ((List (List ((List Int) × (List Int)))) × Src)) (q_1202 : Int) => m__law_changes_right_3 p_0 n_0 n_1201 q_1202) ((some_1195, S) : ((List (List ((List Int) × (List Int)))) × Src)) (rngI 0 (Int.toNat (2 : Int)))))
def g__law_changes_right_23 (p_0 : Int) (n_0 : Int) (S : Src) (some_1195 : (List (List ((List Int) × (List Int))))) : Prop := (RngOk (2 : Int)) ∧ (FG (fun (n_1201 : ((List (List ((List Int) × (List Int)))) × Src)) (q_1202 : Int) => g__law_changes_right_3 p_0 n_0 n_1201 q_1202) (fun (n_1201 : ((List (List ((List Int) × (List Int)))) × Src)) (q_1202 : Int) => m__law_changes_right_3 p_0 n_0 n_1201 q_1202) (rngI 0 (Int.toNat (2 : Int))) ((some_1195, S) : ((List (List ((List Int) × (List Int)))) × Src))) ∧ (g__law_changes_right_22 p_0 n_0 (List.foldl (fun (n_1201 : ((List (List ((List Int) × (List Int)))) × Src)) (q_1202 : Int) => m__law_changes_right_3 p_0 n_0 n_1201 q_1202) ((some_1195, S) : ((List (List ((List Int) × (List Int)))) × Src)) (rngI 0 (Int.toNat (2 : Int)))))
def m__law_changes_right (p_0 : Int) (n_0 : Int) (S : Src) : (Bool × Src) := (m__law_changes_right_23 p_0 n_0 S ([] : List (List ((List Int) × (List Int)))))
def g__law_changes_right (p_0 : Int) (n_0 : Int) (S : Src) : Prop := (g__law_changes_right_23 p_0 n_0 S ([] : List (List ((List Int) × (List Int)))))
@[reducible] def R__law_changes_right : DR := fun sls S r S' => ∃ (p_0 : Int), ∃ (n_0 : Int), sls = [.src, .p (enc p_0), .p (enc n_0)] ∧ g__law_changes_right p_0 n_0 S ∧ r = .p (enc (m__law_changes_right p_0 n_0 S).1) ∧ S' = (m__law_changes_right p_0 n_0 S).2
@[reducible] def rf_law (r : Bool × Src) : Sl × Src := (.p (enc r.1), r.2)
@[reducible] def nf_law_1  (n : Src) : Env × Src := ([none, some (.src), none, none, none, none, none, none, none, none, none, none, none, none, none, none, none, none, none, none, none, none, none, none, none, none], n)
@[reducible] def nf_law_2 (q_1396 : Int) (p_1399 : Int) (n_1408 : Int) (web_1414 : (T3 Int Int (List (T3 Int Int Int)))) (rows_1419 : (List (List Int))) (told_1423 : (List ((List Int) × (List Int)))) (due_1436 : (List ((List Int) × (List Int)))) (w_1458 : (T3 (List Int) (List Int) (List Int))) (z_1465 : (((List Int) × (List Int)) × ((List Int) × (List Int)))) (c_1469 : Int) (S_1471 : Src) (both_1477 : ((List Int) × (List Int))) (n : Unit) : Env × Src := ([none, some (.src), some (.p (enc q_1396)), some (.p (enc p_1399)), some (.p (enc n_1408)), some (.p (enc web_1414)), some (.bb (encss rows_1419)), some (.p (enc told_1423)), none, none, some (.p (enc due_1436)), none, none, some (.p (enc ((w_1458).a))), some (.p (enc ((w_1458).b))), some (.p (enc ((w_1458).c))), some (.p (enc z_1465.1)), some (.p (enc z_1465.2)), some (.p (enc c_1469)), some (.p (enc both_1477)), none, none, none, none, none, none], S_1471)
def m_law_3 (S_1471 : Src) : Except (Bool × Src) Unit := (Except.error (false, S_1471))
def g_law_3 (S_1471 : Src) : Prop := True
def m_law_4  : Except (Bool × Src) Unit := (Except.ok ())
def g_law_4  : Prop := True
def m_law_5 (web_1414 : (T3 Int Int (List (T3 Int Int Int)))) (S_1471 : Src) (q_1505 : ((List Int) × (List Int))) (is_in_1508 : Bool) (has_noughts_1517 : Bool) : Except (Bool × Src) Unit := (if (decide ((rp (PyData.list [(enc (m_is_in_room web_1414 q_1505)), (enc has_noughts_1517)])) ≠ (rp (PyData.list [(enc is_in_1508), (enc is_in_1508)])))) = true then m_law_3 S_1471 else m_law_4)
def g_law_5 (web_1414 : (T3 Int Int (List (T3 Int Int Int)))) (S_1471 : Src) (q_1505 : ((List Int) × (List Int))) (is_in_1508 : Bool) (has_noughts_1517 : Bool) : Prop := (g_is_in_room web_1414 q_1505) ∧ (RpOk (PyData.list [(enc (m_is_in_room web_1414 q_1505)), (enc has_noughts_1517)])) ∧ (RpOk (PyData.list [(enc is_in_1508), (enc is_in_1508)])) ∧ ((decide ((rp (PyData.list [(enc (m_is_in_room web_1414 q_1505)), (enc has_noughts_1517)])) ≠ (rp (PyData.list [(enc is_in_1508), (enc is_in_1508)])))) = true → g_law_3 S_1471) ∧ ((decide ((rp (PyData.list [(enc (m_is_in_room web_1414 q_1505)), (enc has_noughts_1517)])) ≠ (rp (PyData.list [(enc is_in_1508), (enc is_in_1508)])))) = false → g_law_4)
def m_law_6 (p_1399 : Int) (web_1414 : (T3 Int Int (List (T3 Int Int Int)))) (told_1423 : (List ((List Int) × (List Int)))) (S_1471 : Src) (q_1505 : ((List Int) × (List Int))) (is_in_1508 : Bool) : Except (Bool × Src) Unit := (m_law_5 web_1414 S_1471 q_1505 is_in_1508 (decide ((List.map (fun (q_1511 : ((List Int) × (List Int))) => q_1511) (List.filter (fun (q_1511 : ((List Int) × (List Int))) => decide ((m_form_of p_1399 q_1511 q_1505) ≠ (0 : Int))) told_1423)) = ([] : List ((List Int) × (List Int))))))
def g_law_6 (p_1399 : Int) (web_1414 : (T3 Int Int (List (T3 Int Int Int)))) (told_1423 : (List ((List Int) × (List Int)))) (S_1471 : Src) (q_1505 : ((List Int) × (List Int))) (is_in_1508 : Bool) : Prop := (∀ q_1511 ∈ told_1423, (g_form_of p_1399 q_1511 q_1505)) ∧ (g_law_5 web_1414 S_1471 q_1505 is_in_1508 (decide ((List.map (fun (q_1511 : ((List Int) × (List Int))) => q_1511) (List.filter (fun (q_1511 : ((List Int) × (List Int))) => decide ((m_form_of p_1399 q_1511 q_1505) ≠ (0 : Int))) told_1423)) = ([] : List ((List Int) × (List Int))))))
def m_law_7 (p_1399 : Int) (web_1414 : (T3 Int Int (List (T3 Int Int Int)))) (rows_1419 : (List (List Int))) (told_1423 : (List ((List Int) × (List Int)))) (w_1458 : (T3 (List Int) (List Int) (List Int))) (S_1471 : Src) (n_1504 : Unit) (q_1505 : ((List Int) × (List Int))) : Except (Bool × Src) Unit := (m_law_6 p_1399 web_1414 told_1423 S_1471 q_1505 (decide ((m__law_led_row p_1399 rows_1419 ((w_1458).a)) = q_1505.2)))
def g_law_7 (p_1399 : Int) (web_1414 : (T3 Int Int (List (T3 Int Int Int)))) (rows_1419 : (List (List Int))) (told_1423 : (List ((List Int) × (List Int)))) (w_1458 : (T3 (List Int) (List Int) (List Int))) (S_1471 : Src) (n_1504 : Unit) (q_1505 : ((List Int) × (List Int))) : Prop := (g__law_led_row p_1399 rows_1419 ((w_1458).a)) ∧ (g_law_6 p_1399 web_1414 told_1423 S_1471 q_1505 (decide ((m__law_led_row p_1399 rows_1419 ((w_1458).a)) = q_1505.2)))
@[reducible] def nf_law_8 (q_1396 : Int) (p_1399 : Int) (n_1408 : Int) (web_1414 : (T3 Int Int (List (T3 Int Int Int)))) (rows_1419 : (List (List Int))) (told_1423 : (List ((List Int) × (List Int)))) (due_1436 : (List ((List Int) × (List Int)))) (w_1458 : (T3 (List Int) (List Int) (List Int))) (z_1465 : (((List Int) × (List Int)) × ((List Int) × (List Int)))) (c_1469 : Int) (S_1471 : Src) (both_1477 : ((List Int) × (List Int))) (n : Unit) : Env × Src := ([none, some (.src), some (.p (enc q_1396)), some (.p (enc p_1399)), some (.p (enc n_1408)), some (.p (enc web_1414)), some (.bb (encss rows_1419)), some (.p (enc told_1423)), none, none, some (.p (enc due_1436)), none, none, none, some (.p (enc ((w_1458).b))), none, some (.p (enc z_1465.1)), some (.p (enc z_1465.2)), some (.p (enc c_1469)), some (.p (enc both_1477)), none, none, none, none, none, none], S_1471)
@[reducible] def nf_law_9 (q_1396 : Int) (p_1399 : Int) (n_1408 : Int) (web_1414 : (T3 Int Int (List (T3 Int Int Int)))) (rows_1419 : (List (List Int))) (told_1423 : (List ((List Int) × (List Int)))) (due_1436 : (List ((List Int) × (List Int)))) (w_1458 : (T3 (List Int) (List Int) (List Int))) (z_1465 : (((List Int) × (List Int)) × ((List Int) × (List Int)))) (c_1469 : Int) (S_1471 : Src) (both_1477 : ((List Int) × (List Int))) (z_1579 : ((List (List Int)) × Int)) (n : Int) : Env × Src := ([none, some (.src), some (.p (enc q_1396)), some (.p (enc p_1399)), some (.p (enc n_1408)), some (.p (enc web_1414)), some (.bb (encss rows_1419)), some (.p (enc told_1423)), none, none, some (.p (enc due_1436)), none, none, none, some (.p (enc ((w_1458).b))), none, some (.p (enc z_1465.1)), some (.p (enc z_1465.2)), some (.p (enc c_1469)), some (.p (enc both_1477)), none, none, none, none, some (.b (encs z_1579.1)), some (.p (enc n))], S_1471)
@[reducible] def nf_law_10 (q_1396 : Int) (p_1399 : Int) (n_1408 : Int) (web_1414 : (T3 Int Int (List (T3 Int Int Int)))) (rows_1419 : (List (List Int))) (told_1423 : (List ((List Int) × (List Int)))) (due_1436 : (List ((List Int) × (List Int)))) (w_1458 : (T3 (List Int) (List Int) (List Int))) (z_1465 : (((List Int) × (List Int)) × ((List Int) × (List Int)))) (c_1469 : Int) (S_1471 : Src) (both_1477 : ((List Int) × (List Int))) (z_1579 : ((List (List Int)) × Int)) (q_1585 : (List Int)) (n : Int) : Env × Src := ([none, some (.src), some (.p (enc q_1396)), some (.p (enc p_1399)), some (.p (enc n_1408)), some (.p (enc web_1414)), some (.bb (encss rows_1419)), some (.p (enc told_1423)), none, none, some (.p (enc due_1436)), none, none, some (.p (enc q_1585)), some (.p (enc ((w_1458).b))), none, some (.p (enc z_1465.1)), some (.p (enc z_1465.2)), some (.p (enc c_1469)), some (.p (enc both_1477)), none, none, none, none, some (.b (encs z_1579.1)), some (.p (enc n))], S_1471)
def m_law_11 (S_1471 : Src) : Except (Bool × Src) Int := (Except.error (false, S_1471))
def g_law_11 (S_1471 : Src) : Prop := True
def m_law_12 (many_1601 : Int) : Except (Bool × Src) Int := (Except.ok many_1601)
def g_law_12 (many_1601 : Int) : Prop := True
def m_law_13 (web_1414 : (T3 Int Int (List (T3 Int Int Int)))) (S_1471 : Src) (q_1585 : (List Int)) (q_1590 : (List Int)) (is_in_1598 : Bool) (many_1601 : Int) : Except (Bool × Src) Int := (if ((is_in_1598 && decide ((m_is_in_room web_1414 (q_1585, q_1590)) ≠ true))) = true then m_law_11 S_1471 else m_law_12 many_1601)
def g_law_13 (web_1414 : (T3 Int Int (List (T3 Int Int Int)))) (S_1471 : Src) (q_1585 : (List Int)) (q_1590 : (List Int)) (is_in_1598 : Bool) (many_1601 : Int) : Prop := (is_in_1598 = true → (g_is_in_room web_1414 (q_1585, q_1590))) ∧ (((is_in_1598 && decide ((m_is_in_room web_1414 (q_1585, q_1590)) ≠ true))) = true → g_law_11 S_1471) ∧ (((is_in_1598 && decide ((m_is_in_room web_1414 (q_1585, q_1590)) ≠ true))) = false → g_law_12 many_1601)
def m_law_14 (web_1414 : (T3 Int Int (List (T3 Int Int Int)))) (S_1471 : Src) (q_1585 : (List Int)) (n_1589 : Int) (q_1590 : (List Int)) (is_in_1598 : Bool) : Except (Bool × Src) Int := (m_law_13 web_1414 S_1471 q_1585 q_1590 is_in_1598 (n_1589 + (if is_in_1598 = true then (1 : Int) else 0)))
def g_law_14 (web_1414 : (T3 Int Int (List (T3 Int Int Int)))) (S_1471 : Src) (q_1585 : (List Int)) (n_1589 : Int) (q_1590 : (List Int)) (is_in_1598 : Bool) : Prop := (g_law_13 web_1414 S_1471 q_1585 q_1590 is_in_1598 (n_1589 + (if is_in_1598 = true then (1 : Int) else 0)))
def m_law_15 (p_1399 : Int) (web_1414 : (T3 Int Int (List (T3 Int Int Int)))) (told_1423 : (List ((List Int) × (List Int)))) (S_1471 : Src) (q_1585 : (List Int)) (n_1589 : Int) (q_1590 : (List Int)) : Except (Bool × Src) Int := (m_law_14 web_1414 S_1471 q_1585 n_1589 q_1590 (decide ((List.map (fun (q_1592 : ((List Int) × (List Int))) => q_1592) (List.filter (fun (q_1592 : ((List Int) × (List Int))) => decide ((m__law_form p_1399 q_1592 (q_1585, q_1590)) ≠ (0 : Int))) told_1423)) = ([] : List ((List Int) × (List Int))))))
def g_law_15 (p_1399 : Int) (web_1414 : (T3 Int Int (List (T3 Int Int Int)))) (told_1423 : (List ((List Int) × (List Int)))) (S_1471 : Src) (q_1585 : (List Int)) (n_1589 : Int) (q_1590 : (List Int)) : Prop := (∀ q_1592 ∈ told_1423, (g__law_form p_1399 q_1592 (q_1585, q_1590))) ∧ (g_law_14 web_1414 S_1471 q_1585 n_1589 q_1590 (decide ((List.map (fun (q_1592 : ((List Int) × (List Int))) => q_1592) (List.filter (fun (q_1592 : ((List Int) × (List Int))) => decide ((m__law_form p_1399 q_1592 (q_1585, q_1590)) ≠ (0 : Int))) told_1423)) = ([] : List ((List Int) × (List Int))))))
def m_law_16 (n_1611 : Int) : Except (Bool × Src) Int := (Except.ok n_1611)
def g_law_16 (n_1611 : Int) : Prop := True
def m_law_17 (p_1399 : Int) (web_1414 : (T3 Int Int (List (T3 Int Int Int)))) (told_1423 : (List ((List Int) × (List Int)))) (S_1471 : Src) (z_1579 : ((List (List Int)) × Int)) (n_1584 : Int) (q_1585 : (List Int)) : Except (Bool × Src) Int := (bindXX (foldX (fun (n_1589 : Int) (q_1590 : (List Int)) => m_law_15 p_1399 web_1414 told_1423 S_1471 q_1585 n_1589 q_1590) z_1579.1 (n_1584 : Int)) (fun (n_1611 : Int) => m_law_16 n_1611))
def g_law_17 (p_1399 : Int) (web_1414 : (T3 Int Int (List (T3 Int Int Int)))) (told_1423 : (List ((List Int) × (List Int)))) (S_1471 : Src) (z_1579 : ((List (List Int)) × Int)) (n_1584 : Int) (q_1585 : (List Int)) : Prop := (FX (fun (n_1589 : Int) (q_1590 : (List Int)) => g_law_15 p_1399 web_1414 told_1423 S_1471 q_1585 n_1589 q_1590) (fun (n_1589 : Int) (q_1590 : (List Int)) => m_law_15 p_1399 web_1414 told_1423 S_1471 q_1585 n_1589 q_1590) z_1579.1 (n_1584 : Int)) ∧ (okX (foldX (fun (n_1589 : Int) (q_1590 : (List Int)) => m_law_15 p_1399 web_1414 told_1423 S_1471 q_1585 n_1589 q_1590) z_1579.1 (n_1584 : Int)) (fun (n_1611 : Int) => g_law_16 n_1611))
def m_law_18 (S_1471 : Src) : Except (Bool × Src) Unit := (Except.error (false, S_1471))
def g_law_18 (S_1471 : Src) : Prop := True
def m_law_19  : Except (Bool × Src) Unit := (Except.ok ())
def g_law_19  : Prop := True
def m_law_20 (S_1471 : Src) (z_1579 : ((List (List Int)) × Int)) (n_1613 : Int) : Except (Bool × Src) Unit := (if (decide (n_1613 ≠ (List.length z_1579.1 : Int))) = true then m_law_18 S_1471 else m_law_19)
def g_law_20 (S_1471 : Src) (z_1579 : ((List (List Int)) × Int)) (n_1613 : Int) : Prop := ((decide (n_1613 ≠ (List.length z_1579.1 : Int))) = true → g_law_18 S_1471) ∧ ((decide (n_1613 ≠ (List.length z_1579.1 : Int))) = false → g_law_19)
def m_law_21 (p_1399 : Int) (web_1414 : (T3 Int Int (List (T3 Int Int Int)))) (told_1423 : (List ((List Int) × (List Int)))) (S_1471 : Src) (z_1579 : ((List (List Int)) × Int)) : Except (Bool × Src) Unit := (bindXX (foldX (fun (n_1584 : Int) (q_1585 : (List Int)) => m_law_17 p_1399 web_1414 told_1423 S_1471 z_1579 n_1584 q_1585) z_1579.1 (z_1579.2 : Int)) (fun (n_1613 : Int) => m_law_20 S_1471 z_1579 n_1613))
def g_law_21 (p_1399 : Int) (web_1414 : (T3 Int Int (List (T3 Int Int Int)))) (told_1423 : (List ((List Int) × (List Int)))) (S_1471 : Src) (z_1579 : ((List (List Int)) × Int)) : Prop := (FX (fun (n_1584 : Int) (q_1585 : (List Int)) => g_law_17 p_1399 web_1414 told_1423 S_1471 z_1579 n_1584 q_1585) (fun (n_1584 : Int) (q_1585 : (List Int)) => m_law_17 p_1399 web_1414 told_1423 S_1471 z_1579 n_1584 q_1585) z_1579.1 (z_1579.2 : Int)) ∧ (okX (foldX (fun (n_1584 : Int) (q_1585 : (List Int)) => m_law_17 p_1399 web_1414 told_1423 S_1471 z_1579 n_1584 q_1585) z_1579.1 (z_1579.2 : Int)) (fun (n_1613 : Int) => g_law_20 S_1471 z_1579 n_1613))
def m_law_22 (p_1399 : Int) (n_1408 : Int) (web_1414 : (T3 Int Int (List (T3 Int Int Int)))) (told_1423 : (List ((List Int) × (List Int)))) (S_1471 : Src) : Except (Bool × Src) Unit := (m_law_21 p_1399 web_1414 told_1423 S_1471 ((m__law_all p_1399 n_1408), (0 : Int)))
def g_law_22 (p_1399 : Int) (n_1408 : Int) (web_1414 : (T3 Int Int (List (T3 Int Int Int)))) (told_1423 : (List ((List Int) × (List Int)))) (S_1471 : Src) : Prop := (g__law_all p_1399 n_1408) ∧ (g_law_21 p_1399 web_1414 told_1423 S_1471 ((m__law_all p_1399 n_1408), (0 : Int)))
def m_law_23  : Except (Bool × Src) Unit := (Except.ok ())
def g_law_23  : Prop := True
def m_law_24 (S_1623 : Src) : Except (Bool × Src) Src := (Except.error (false, S_1623))
def g_law_24 (S_1623 : Src) : Prop := True
def m_law_25 (S_1623 : Src) : Except (Bool × Src) Src := (Except.ok S_1623)
def g_law_25 (S_1623 : Src) : Prop := True
def m_law_26 (p_1399 : Int) (n_1408 : Int) (S_1471 : Src) (n_1619 : Unit) : Except (Bool × Src) Src := (if ((!((m__law_changes_right p_1399 n_1408 S_1471).1))) = true then m_law_24 ((m__law_changes_right p_1399 n_1408 S_1471).2) else m_law_25 ((m__law_changes_right p_1399 n_1408 S_1471).2))
def g_law_26 (p_1399 : Int) (n_1408 : Int) (S_1471 : Src) (n_1619 : Unit) : Prop := (g__law_changes_right p_1399 n_1408 S_1471) ∧ (((!((m__law_changes_right p_1399 n_1408 S_1471).1))) = true → g_law_24 ((m__law_changes_right p_1399 n_1408 S_1471).2)) ∧ (((!((m__law_changes_right p_1399 n_1408 S_1471).1))) = false → g_law_25 ((m__law_changes_right p_1399 n_1408 S_1471).2))
def m_law_27 (q_1396 : Int) (p_1399 : Int) (n_1408 : Int) (web_1414 : (T3 Int Int (List (T3 Int Int Int)))) (told_1423 : (List ((List Int) × (List Int)))) (S_1471 : Src) (n_1528 : Unit) : Except (Bool × Src) Src := (bindXX (if (decide (q_1396 < (4 : Int))) = true then m_law_22 p_1399 n_1408 web_1414 told_1423 S_1471 else m_law_23) (fun (n_1619 : Unit) => m_law_26 p_1399 n_1408 S_1471 n_1619))
def g_law_27 (q_1396 : Int) (p_1399 : Int) (n_1408 : Int) (web_1414 : (T3 Int Int (List (T3 Int Int Int)))) (told_1423 : (List ((List Int) × (List Int)))) (S_1471 : Src) (n_1528 : Unit) : Prop := ((decide (q_1396 < (4 : Int))) = true → g_law_22 p_1399 n_1408 web_1414 told_1423 S_1471) ∧ ((decide (q_1396 < (4 : Int))) = false → g_law_23) ∧ (okX (if (decide (q_1396 < (4 : Int))) = true then m_law_22 p_1399 n_1408 web_1414 told_1423 S_1471 else m_law_23) (fun (n_1619 : Unit) => g_law_26 p_1399 n_1408 S_1471 n_1619))
def m_law_28 (S_1471 : Src) : Except (Bool × Src) Src := (Except.error (false, S_1471))
def g_law_28 (S_1471 : Src) : Prop := True
def m_law_29 (q_1396 : Int) (p_1399 : Int) (n_1408 : Int) (web_1414 : (T3 Int Int (List (T3 Int Int Int)))) (rows_1419 : (List (List Int))) (told_1423 : (List ((List Int) × (List Int)))) (w_1458 : (T3 (List Int) (List Int) (List Int))) (z_1465 : (((List Int) × (List Int)) × ((List Int) × (List Int)))) (S_1471 : Src) : Except (Bool × Src) Src := (bindXX (foldX (fun (n_1504 : Unit) (q_1505 : ((List Int) × (List Int))) => m_law_7 p_1399 web_1414 rows_1419 told_1423 w_1458 S_1471 n_1504 q_1505) ([((w_1458).a, (w_1458).c), ((w_1458).a, z_1465.2.2), ((w_1458).a, ([(T1.mk (((getI z_1465.1.2 (0 : Int)) + (1 : Int)) % p_1399)).a] ++ (cutL z_1465.1.2 (some (1 : Int)) Option.none)))] : List ((List Int) × (List Int))) (() : Unit)) (fun (n_1528 : Unit) => m_law_27 q_1396 p_1399 n_1408 web_1414 told_1423 S_1471 n_1528))
def g_law_29 (q_1396 : Int) (p_1399 : Int) (n_1408 : Int) (web_1414 : (T3 Int Int (List (T3 Int Int Int)))) (rows_1419 : (List (List Int))) (told_1423 : (List ((List Int) × (List Int)))) (w_1458 : (T3 (List Int) (List Int) (List Int))) (z_1465 : (((List Int) × (List Int)) × ((List Int) × (List Int)))) (S_1471 : Src) : Prop := (InB z_1465.1.2 (0 : Int)) ∧ (0 < p_1399) ∧ ((List.length [(T1.mk (((getI z_1465.1.2 (0 : Int)) + (1 : Int)) % p_1399)).a] : Int) + (List.length (cutL z_1465.1.2 (some (1 : Int)) Option.none) : Int) ≤ 16777216) ∧ (FX (fun (n_1504 : Unit) (q_1505 : ((List Int) × (List Int))) => g_law_7 p_1399 web_1414 rows_1419 told_1423 w_1458 S_1471 n_1504 q_1505) (fun (n_1504 : Unit) (q_1505 : ((List Int) × (List Int))) => m_law_7 p_1399 web_1414 rows_1419 told_1423 w_1458 S_1471 n_1504 q_1505) ([((w_1458).a, (w_1458).c), ((w_1458).a, z_1465.2.2), ((w_1458).a, ([(T1.mk (((getI z_1465.1.2 (0 : Int)) + (1 : Int)) % p_1399)).a] ++ (cutL z_1465.1.2 (some (1 : Int)) Option.none)))] : List ((List Int) × (List Int))) (() : Unit)) ∧ (okX (foldX (fun (n_1504 : Unit) (q_1505 : ((List Int) × (List Int))) => m_law_7 p_1399 web_1414 rows_1419 told_1423 w_1458 S_1471 n_1504 q_1505) ([((w_1458).a, (w_1458).c), ((w_1458).a, z_1465.2.2), ((w_1458).a, ([(T1.mk (((getI z_1465.1.2 (0 : Int)) + (1 : Int)) % p_1399)).a] ++ (cutL z_1465.1.2 (some (1 : Int)) Option.none)))] : List ((List Int) × (List Int))) (() : Unit)) (fun (n_1528 : Unit) => g_law_27 q_1396 p_1399 n_1408 web_1414 told_1423 S_1471 n_1528))
def m_law_30 (S_1471 : Src) : Except (Bool × Src) Src := (Except.error (false, S_1471))
def g_law_30 (S_1471 : Src) : Prop := True
def m_law_31 (q_1396 : Int) (p_1399 : Int) (n_1408 : Int) (web_1414 : (T3 Int Int (List (T3 Int Int Int)))) (rows_1419 : (List (List Int))) (told_1423 : (List ((List Int) × (List Int)))) (w_1458 : (T3 (List Int) (List Int) (List Int))) (z_1465 : (((List Int) × (List Int)) × ((List Int) × (List Int)))) (S_1471 : Src) : Except (Bool × Src) Src := (if ((decide ((m_form_of p_1399 z_1465.1 z_1465.2) ≠ (0 : Int)) || decide ((m_form_of p_1399 ((w_1458).a, (w_1458).c) z_1465.2) ≠ (m__law_form p_1399 ((w_1458).a, (w_1458).c) z_1465.2)))) = true then m_law_28 S_1471 else m_law_29 q_1396 p_1399 n_1408 web_1414 rows_1419 told_1423 w_1458 z_1465 S_1471)
def g_law_31 (q_1396 : Int) (p_1399 : Int) (n_1408 : Int) (web_1414 : (T3 Int Int (List (T3 Int Int Int)))) (rows_1419 : (List (List Int))) (told_1423 : (List ((List Int) × (List Int)))) (w_1458 : (T3 (List Int) (List Int) (List Int))) (z_1465 : (((List Int) × (List Int)) × ((List Int) × (List Int)))) (S_1471 : Src) : Prop := (g_form_of p_1399 z_1465.1 z_1465.2) ∧ (decide ((m_form_of p_1399 z_1465.1 z_1465.2) ≠ (0 : Int)) = false → (g_form_of p_1399 ((w_1458).a, (w_1458).c) z_1465.2) ∧ (g__law_form p_1399 ((w_1458).a, (w_1458).c) z_1465.2)) ∧ (((decide ((m_form_of p_1399 z_1465.1 z_1465.2) ≠ (0 : Int)) || decide ((m_form_of p_1399 ((w_1458).a, (w_1458).c) z_1465.2) ≠ (m__law_form p_1399 ((w_1458).a, (w_1458).c) z_1465.2)))) = true → g_law_28 S_1471) ∧ (((decide ((m_form_of p_1399 z_1465.1 z_1465.2) ≠ (0 : Int)) || decide ((m_form_of p_1399 ((w_1458).a, (w_1458).c) z_1465.2) ≠ (m__law_form p_1399 ((w_1458).a, (w_1458).c) z_1465.2)))) = false → g_law_29 q_1396 p_1399 n_1408 web_1414 rows_1419 told_1423 w_1458 z_1465 S_1471)
def m_law_32 (q_1396 : Int) (p_1399 : Int) (n_1408 : Int) (web_1414 : (T3 Int Int (List (T3 Int Int Int)))) (rows_1419 : (List (List Int))) (told_1423 : (List ((List Int) × (List Int)))) (w_1458 : (T3 (List Int) (List Int) (List Int))) (z_1465 : (((List Int) × (List Int)) × ((List Int) × (List Int)))) (S_1471 : Src) (both_1477 : ((List Int) × (List Int))) : Except (Bool × Src) Src := (if (decide ((List.map (fun (q_1480 : ((List Int) × (List Int))) => (m_is_in_room web_1414 q_1480)) [(T3.mk z_1465.1 z_1465.2 both_1477).a, (T3.mk z_1465.1 z_1465.2 both_1477).b, (T3.mk z_1465.1 z_1465.2 both_1477).c]) ≠ (repL (3 : Int) ([true] : List Bool)))) = true then m_law_30 S_1471 else m_law_31 q_1396 p_1399 n_1408 web_1414 rows_1419 told_1423 w_1458 z_1465 S_1471)
def g_law_32 (q_1396 : Int) (p_1399 : Int) (n_1408 : Int) (web_1414 : (T3 Int Int (List (T3 Int Int Int)))) (rows_1419 : (List (List Int))) (told_1423 : (List ((List Int) × (List Int)))) (w_1458 : (T3 (List Int) (List Int) (List Int))) (z_1465 : (((List Int) × (List Int)) × ((List Int) × (List Int)))) (S_1471 : Src) (both_1477 : ((List Int) × (List Int))) : Prop := (∀ q_1480 ∈ [(T3.mk z_1465.1 z_1465.2 both_1477).a, (T3.mk z_1465.1 z_1465.2 both_1477).b, (T3.mk z_1465.1 z_1465.2 both_1477).c], (g_is_in_room web_1414 q_1480)) ∧ (RepOk (List.length ([true] : List Bool)) (3 : Int)) ∧ ((decide ((List.map (fun (q_1480 : ((List Int) × (List Int))) => (m_is_in_room web_1414 q_1480)) [(T3.mk z_1465.1 z_1465.2 both_1477).a, (T3.mk z_1465.1 z_1465.2 both_1477).b, (T3.mk z_1465.1 z_1465.2 both_1477).c]) ≠ (repL (3 : Int) ([true] : List Bool)))) = true → g_law_30 S_1471) ∧ ((decide ((List.map (fun (q_1480 : ((List Int) × (List Int))) => (m_is_in_room web_1414 q_1480)) [(T3.mk z_1465.1 z_1465.2 both_1477).a, (T3.mk z_1465.1 z_1465.2 both_1477).b, (T3.mk z_1465.1 z_1465.2 both_1477).c]) ≠ (repL (3 : Int) ([true] : List Bool)))) = false → g_law_31 q_1396 p_1399 n_1408 web_1414 rows_1419 told_1423 w_1458 z_1465 S_1471)
def m_law_33 (q_1396 : Int) (p_1399 : Int) (n_1408 : Int) (web_1414 : (T3 Int Int (List (T3 Int Int Int)))) (rows_1419 : (List (List Int))) (told_1423 : (List ((List Int) × (List Int)))) (w_1458 : (T3 (List Int) (List Int) (List Int))) (z_1465 : (((List Int) × (List Int)) × ((List Int) × (List Int)))) (c_1469 : Int) (S_1471 : Src) : Except (Bool × Src) Src := (m_law_32 q_1396 p_1399 n_1408 web_1414 rows_1419 told_1423 w_1458 z_1465 S_1471 ((m_row_sum p_1399 ((w_1458).a) (m_row_times p_1399 c_1469 ((w_1458).b))), (m_row_sum p_1399 z_1465.1.2 (m_row_times p_1399 c_1469 z_1465.2.2))))
def g_law_33 (q_1396 : Int) (p_1399 : Int) (n_1408 : Int) (web_1414 : (T3 Int Int (List (T3 Int Int Int)))) (rows_1419 : (List (List Int))) (told_1423 : (List ((List Int) × (List Int)))) (w_1458 : (T3 (List Int) (List Int) (List Int))) (z_1465 : (((List Int) × (List Int)) × ((List Int) × (List Int)))) (c_1469 : Int) (S_1471 : Src) : Prop := (g_row_times p_1399 c_1469 ((w_1458).b)) ∧ (g_row_sum p_1399 ((w_1458).a) (m_row_times p_1399 c_1469 ((w_1458).b))) ∧ (g_row_times p_1399 c_1469 z_1465.2.2) ∧ (g_row_sum p_1399 z_1465.1.2 (m_row_times p_1399 c_1469 z_1465.2.2)) ∧ (g_law_32 q_1396 p_1399 n_1408 web_1414 rows_1419 told_1423 w_1458 z_1465 S_1471 ((m_row_sum p_1399 ((w_1458).a) (m_row_times p_1399 c_1469 ((w_1458).b))), (m_row_sum p_1399 z_1465.1.2 (m_row_times p_1399 c_1469 z_1465.2.2))))
def m_law_34 (q_1396 : Int) (p_1399 : Int) (n_1408 : Int) (web_1414 : (T3 Int Int (List (T3 Int Int Int)))) (rows_1419 : (List (List Int))) (told_1423 : (List ((List Int) × (List Int)))) (w_1458 : (T3 (List Int) (List Int) (List Int))) (S_1461 : Src) (z_1465 : (((List Int) × (List Int)) × ((List Int) × (List Int)))) : Except (Bool × Src) Src := (m_law_33 q_1396 p_1399 n_1408 web_1414 rows_1419 told_1423 w_1458 z_1465 ((m__law_pick p_1399 S_1461).1) ((m__law_pick p_1399 S_1461).2))
def g_law_34 (q_1396 : Int) (p_1399 : Int) (n_1408 : Int) (web_1414 : (T3 Int Int (List (T3 Int Int Int)))) (rows_1419 : (List (List Int))) (told_1423 : (List ((List Int) × (List Int)))) (w_1458 : (T3 (List Int) (List Int) (List Int))) (S_1461 : Src) (z_1465 : (((List Int) × (List Int)) × ((List Int) × (List Int)))) : Prop := (g__law_pick p_1399 S_1461) ∧ (g_law_33 q_1396 p_1399 n_1408 web_1414 rows_1419 told_1423 w_1458 z_1465 ((m__law_pick p_1399 S_1461).1) ((m__law_pick p_1399 S_1461).2))
def m_law_35 (q_1396 : Int) (p_1399 : Int) (n_1408 : Int) (web_1414 : (T3 Int Int (List (T3 Int Int Int)))) (rows_1419 : (List (List Int))) (told_1423 : (List ((List Int) × (List Int)))) (w_1458 : (T3 (List Int) (List Int) (List Int))) (S_1461 : Src) : Except (Bool × Src) Src := (m_law_34 q_1396 p_1399 n_1408 web_1414 rows_1419 told_1423 w_1458 S_1461 (((w_1458).a, (m__law_led_row p_1399 rows_1419 ((w_1458).a))), ((w_1458).b, (m__law_led_row p_1399 rows_1419 ((w_1458).b)))))
def g_law_35 (q_1396 : Int) (p_1399 : Int) (n_1408 : Int) (web_1414 : (T3 Int Int (List (T3 Int Int Int)))) (rows_1419 : (List (List Int))) (told_1423 : (List ((List Int) × (List Int)))) (w_1458 : (T3 (List Int) (List Int) (List Int))) (S_1461 : Src) : Prop := (g__law_led_row p_1399 rows_1419 ((w_1458).a)) ∧ (g__law_led_row p_1399 rows_1419 ((w_1458).b)) ∧ (g_law_34 q_1396 p_1399 n_1408 web_1414 rows_1419 told_1423 w_1458 S_1461 (((w_1458).a, (m__law_led_row p_1399 rows_1419 ((w_1458).a))), ((w_1458).b, (m__law_led_row p_1399 rows_1419 ((w_1458).b)))))
def m_law_36 (S_1416 : Src) : Except (Bool × Src) Src := (Except.error (false, S_1416))
def g_law_36 (S_1416 : Src) : Prop := True
def m_law_37 (q_1396 : Int) (p_1399 : Int) (n_1408 : Int) (web_1414 : (T3 Int Int (List (T3 Int Int Int)))) (S_1416 : Src) (rows_1419 : (List (List Int))) (told_1423 : (List ((List Int) × (List Int)))) : Except (Bool × Src) Src := (m_law_35 q_1396 p_1399 n_1408 web_1414 rows_1419 told_1423 (T3.mk (getI ((mapS (fun (S_1456 : Src) (q_1452 : Int) => ((m__law_row p_1399 n_1408 (S_1456)).1, (m__law_row p_1399 n_1408 (S_1456)).2)) S_1416 (rngI 0 (Int.toNat (3 : Int)))).1) 0) (getI ((mapS (fun (S_1456 : Src) (q_1452 : Int) => ((m__law_row p_1399 n_1408 (S_1456)).1, (m__law_row p_1399 n_1408 (S_1456)).2)) S_1416 (rngI 0 (Int.toNat (3 : Int)))).1) 1) (getI ((mapS (fun (S_1456 : Src) (q_1452 : Int) => ((m__law_row p_1399 n_1408 (S_1456)).1, (m__law_row p_1399 n_1408 (S_1456)).2)) S_1416 (rngI 0 (Int.toNat (3 : Int)))).1) 2)) ((mapS (fun (S_1456 : Src) (q_1452 : Int) => ((m__law_row p_1399 n_1408 (S_1456)).1, (m__law_row p_1399 n_1408 (S_1456)).2)) S_1416 (rngI 0 (Int.toNat (3 : Int)))).2))
def g_law_37 (q_1396 : Int) (p_1399 : Int) (n_1408 : Int) (web_1414 : (T3 Int Int (List (T3 Int Int Int)))) (S_1416 : Src) (rows_1419 : (List (List Int))) (told_1423 : (List ((List Int) × (List Int)))) : Prop := (RngOk (3 : Int)) ∧ (GS (fun (S_1456 : Src) (q_1452 : Int) => ((m__law_row p_1399 n_1408 (S_1456)).1, (m__law_row p_1399 n_1408 (S_1456)).2)) (fun (S_1456 : Src) (q_1452 : Int) => (g__law_row p_1399 n_1408 (S_1456))) S_1416 (rngI 0 (Int.toNat (3 : Int)))) ∧ (List.length ((mapS (fun (S_1456 : Src) (q_1452 : Int) => ((m__law_row p_1399 n_1408 (S_1456)).1, (m__law_row p_1399 n_1408 (S_1456)).2)) S_1416 (rngI 0 (Int.toNat (3 : Int)))).1) = 3) ∧ (g_law_35 q_1396 p_1399 n_1408 web_1414 rows_1419 told_1423 (T3.mk (getI ((mapS (fun (S_1456 : Src) (q_1452 : Int) => ((m__law_row p_1399 n_1408 (S_1456)).1, (m__law_row p_1399 n_1408 (S_1456)).2)) S_1416 (rngI 0 (Int.toNat (3 : Int)))).1) 0) (getI ((mapS (fun (S_1456 : Src) (q_1452 : Int) => ((m__law_row p_1399 n_1408 (S_1456)).1, (m__law_row p_1399 n_1408 (S_1456)).2)) S_1416 (rngI 0 (Int.toNat (3 : Int)))).1) 1) (getI ((mapS (fun (S_1456 : Src) (q_1452 : Int) => ((m__law_row p_1399 n_1408 (S_1456)).1, (m__law_row p_1399 n_1408 (S_1456)).2)) S_1416 (rngI 0 (Int.toNat (3 : Int)))).1) 2)) ((mapS (fun (S_1456 : Src) (q_1452 : Int) => ((m__law_row p_1399 n_1408 (S_1456)).1, (m__law_row p_1399 n_1408 (S_1456)).2)) S_1416 (rngI 0 (Int.toNat (3 : Int)))).2))
def m_law_38 (q_1396 : Int) (p_1399 : Int) (n_1408 : Int) (web_1414 : (T3 Int Int (List (T3 Int Int Int)))) (S_1416 : Src) (rows_1419 : (List (List Int))) (told_1423 : (List ((List Int) × (List Int)))) (due_1436 : (List ((List Int) × (List Int)))) : Except (Bool × Src) Src := (if ((decide ((rp (enc told_1423)) ≠ (rp (enc due_1436))) || decide ((m_table_of web_1414) ≠ (List.map (fun (q_1443 : (List Int)) => q_1443) rows_1419)))) = true then m_law_36 S_1416 else m_law_37 q_1396 p_1399 n_1408 web_1414 S_1416 rows_1419 told_1423)
def g_law_38 (q_1396 : Int) (p_1399 : Int) (n_1408 : Int) (web_1414 : (T3 Int Int (List (T3 Int Int Int)))) (S_1416 : Src) (rows_1419 : (List (List Int))) (told_1423 : (List ((List Int) × (List Int)))) (due_1436 : (List ((List Int) × (List Int)))) : Prop := (RpOk (enc told_1423)) ∧ (RpOk (enc due_1436)) ∧ (decide ((rp (enc told_1423)) ≠ (rp (enc due_1436))) = false → (g_table_of web_1414)) ∧ (((decide ((rp (enc told_1423)) ≠ (rp (enc due_1436))) || decide ((m_table_of web_1414) ≠ (List.map (fun (q_1443 : (List Int)) => q_1443) rows_1419)))) = true → g_law_36 S_1416) ∧ (((decide ((rp (enc told_1423)) ≠ (rp (enc due_1436))) || decide ((m_table_of web_1414) ≠ (List.map (fun (q_1443 : (List Int)) => q_1443) rows_1419)))) = false → g_law_37 q_1396 p_1399 n_1408 web_1414 S_1416 rows_1419 told_1423)
def m_law_39 (q_1396 : Int) (p_1399 : Int) (n_1408 : Int) (web_1414 : (T3 Int Int (List (T3 Int Int Int)))) (S_1416 : Src) (rows_1419 : (List (List Int))) (told_1423 : (List ((List Int) × (List Int)))) : Except (Bool × Src) Src := (m_law_38 q_1396 p_1399 n_1408 web_1414 S_1416 rows_1419 told_1423 (List.map (fun (q_1427 : Int) => ((List.map (fun (q_1431 : Int) => (if decide (q_1431 = q_1427) = true then (1 : Int) else 0)) (rngI 0 (Int.toNat n_1408))), (getI rows_1419 q_1427))) (rngI 0 (Int.toNat n_1408))))
def g_law_39 (q_1396 : Int) (p_1399 : Int) (n_1408 : Int) (web_1414 : (T3 Int Int (List (T3 Int Int Int)))) (S_1416 : Src) (rows_1419 : (List (List Int))) (told_1423 : (List ((List Int) × (List Int)))) : Prop := (RngOk n_1408) ∧ (∀ q_1427 ∈ (rngI 0 (Int.toNat n_1408)), (RngOk n_1408) ∧ (InB rows_1419 q_1427)) ∧ (g_law_38 q_1396 p_1399 n_1408 web_1414 S_1416 rows_1419 told_1423 (List.map (fun (q_1427 : Int) => ((List.map (fun (q_1431 : Int) => (if decide (q_1431 = q_1427) = true then (1 : Int) else 0)) (rngI 0 (Int.toNat n_1408))), (getI rows_1419 q_1427))) (rngI 0 (Int.toNat n_1408))))
def m_law_40 (q_1396 : Int) (p_1399 : Int) (n_1408 : Int) (web_1414 : (T3 Int Int (List (T3 Int Int Int)))) (S_1416 : Src) (rows_1419 : (List (List Int))) : Except (Bool × Src) Src := (m_law_39 q_1396 p_1399 n_1408 web_1414 S_1416 rows_1419 (m_room_rows web_1414))
def g_law_40 (q_1396 : Int) (p_1399 : Int) (n_1408 : Int) (web_1414 : (T3 Int Int (List (T3 Int Int Int)))) (S_1416 : Src) (rows_1419 : (List (List Int))) : Prop := (g_room_rows web_1414) ∧ (g_law_39 q_1396 p_1399 n_1408 web_1414 S_1416 rows_1419 (m_room_rows web_1414))
def m_law_41 (q_1396 : Int) (p_1399 : Int) (n_1408 : Int) (web_1414 : (T3 Int Int (List (T3 Int Int Int)))) (S_1416 : Src) : Except (Bool × Src) Src := (m_law_40 q_1396 p_1399 n_1408 web_1414 S_1416 (m__law_table web_1414))
def g_law_41 (q_1396 : Int) (p_1399 : Int) (n_1408 : Int) (web_1414 : (T3 Int Int (List (T3 Int Int Int)))) (S_1416 : Src) : Prop := (g__law_table web_1414) ∧ (g_law_40 q_1396 p_1399 n_1408 web_1414 S_1416 (m__law_table web_1414))
def m_law_42 (q_1396 : Int) (p_1399 : Int) (n_1408 : Int) (S_1410 : Src) : Except (Bool × Src) Src := (m_law_41 q_1396 p_1399 n_1408 ((m__law_web p_1399 n_1408 ((m__law_pick (3 : Int) S_1410).1) ((m__law_pick (3 : Int) S_1410).2)).1) ((m__law_web p_1399 n_1408 ((m__law_pick (3 : Int) S_1410).1) ((m__law_pick (3 : Int) S_1410).2)).2))
def g_law_42 (q_1396 : Int) (p_1399 : Int) (n_1408 : Int) (S_1410 : Src) : Prop := (g__law_pick (3 : Int) S_1410) ∧ (g__law_web p_1399 n_1408 ((m__law_pick (3 : Int) S_1410).1) ((m__law_pick (3 : Int) S_1410).2)) ∧ (g_law_41 q_1396 p_1399 n_1408 ((m__law_web p_1399 n_1408 ((m__law_pick (3 : Int) S_1410).1) ((m__law_pick (3 : Int) S_1410).2)).1) ((m__law_web p_1399 n_1408 ((m__law_pick (3 : Int) S_1410).1) ((m__law_pick (3 : Int) S_1410).2)).2))
def m_law_43 (q_1396 : Int) (p_1399 : Int) (S_1401 : Src) : Except (Bool × Src) Src := (m_law_42 q_1396 p_1399 ((1 : Int) + (m__law_pick (if decide (q_1396 < (4 : Int)) = true then (dixI [((2 : Int), (5 : Int)), ((3 : Int), (3 : Int)), ((5 : Int), (2 : Int)), ((7 : Int), (2 : Int))] p_1399) else (8 : Int)) S_1401).1) ((m__law_pick (if decide (q_1396 < (4 : Int)) = true then (dixI [((2 : Int), (5 : Int)), ((3 : Int), (3 : Int)), ((5 : Int), (2 : Int)), ((7 : Int), (2 : Int))] p_1399) else (8 : Int)) S_1401).2))
def g_law_43 (q_1396 : Int) (p_1399 : Int) (S_1401 : Src) : Prop := (decide (q_1396 < (4 : Int)) = true → (DixOk [((2 : Int), (5 : Int)), ((3 : Int), (3 : Int)), ((5 : Int), (2 : Int)), ((7 : Int), (2 : Int))] p_1399)) ∧ (g__law_pick (if decide (q_1396 < (4 : Int)) = true then (dixI [((2 : Int), (5 : Int)), ((3 : Int), (3 : Int)), ((5 : Int), (2 : Int)), ((7 : Int), (2 : Int))] p_1399) else (8 : Int)) S_1401) ∧ (g_law_42 q_1396 p_1399 ((1 : Int) + (m__law_pick (if decide (q_1396 < (4 : Int)) = true then (dixI [((2 : Int), (5 : Int)), ((3 : Int), (3 : Int)), ((5 : Int), (2 : Int)), ((7 : Int), (2 : Int))] p_1399) else (8 : Int)) S_1401).1) ((m__law_pick (if decide (q_1396 < (4 : Int)) = true then (dixI [((2 : Int), (5 : Int)), ((3 : Int), (3 : Int)), ((5 : Int), (2 : Int)), ((7 : Int), (2 : Int))] p_1399) else (8 : Int)) S_1401).2))
def m_law_44 (n_1395 : Src) (q_1396 : Int) : Except (Bool × Src) Src := (m_law_43 q_1396 ((m__law_of ([(2 : Int), (3 : Int), (5 : Int), (7 : Int)] : List Int) n_1395).1) ((m__law_of ([(2 : Int), (3 : Int), (5 : Int), (7 : Int)] : List Int) n_1395).2))
def g_law_44 (n_1395 : Src) (q_1396 : Int) : Prop := (g__law_of ([(2 : Int), (3 : Int), (5 : Int), (7 : Int)] : List Int) n_1395) ∧ (g_law_43 q_1396 ((m__law_of ([(2 : Int), (3 : Int), (5 : Int), (7 : Int)] : List Int) n_1395).1) ((m__law_of ([(2 : Int), (3 : Int), (5 : Int), (7 : Int)] : List Int) n_1395).2))
def m_law_45 (n_1626 : Src) : (Bool × Src) := (decide ((m_room_rows (T3.mk ((T3.mk (2 : Int) (2 : Int) (T1.mk (T3.mk (0 : Int) (1 : Int) (1 : Int)))).a) ((T3.mk (2 : Int) (2 : Int) (T1.mk (T3.mk (0 : Int) (1 : Int) (1 : Int)))).b) [((T3.mk (2 : Int) (2 : Int) (T1.mk (T3.mk (0 : Int) (1 : Int) (1 : Int)))).c).a])) = [([((((((1 : Int), (0 : Int)), ((0 : Int), (1 : Int))), (((0 : Int), (1 : Int)), ((1 : Int), (0 : Int)))).1).1).1, ((((((1 : Int), (0 : Int)), ((0 : Int), (1 : Int))), (((0 : Int), (1 : Int)), ((1 : Int), (0 : Int)))).1).1).2], [((((((1 : Int), (0 : Int)), ((0 : Int), (1 : Int))), (((0 : Int), (1 : Int)), ((1 : Int), (0 : Int)))).1).2).1, ((((((1 : Int), (0 : Int)), ((0 : Int), (1 : Int))), (((0 : Int), (1 : Int)), ((1 : Int), (0 : Int)))).1).2).2]), ([((((((1 : Int), (0 : Int)), ((0 : Int), (1 : Int))), (((0 : Int), (1 : Int)), ((1 : Int), (0 : Int)))).2).1).1, ((((((1 : Int), (0 : Int)), ((0 : Int), (1 : Int))), (((0 : Int), (1 : Int)), ((1 : Int), (0 : Int)))).2).1).2], [((((((1 : Int), (0 : Int)), ((0 : Int), (1 : Int))), (((0 : Int), (1 : Int)), ((1 : Int), (0 : Int)))).2).2).1, ((((((1 : Int), (0 : Int)), ((0 : Int), (1 : Int))), (((0 : Int), (1 : Int)), ((1 : Int), (0 : Int)))).2).2).2])]), n_1626)
def g_law_45 (n_1626 : Src) : Prop := (g_room_rows (T3.mk ((T3.mk (2 : Int) (2 : Int) (T1.mk (T3.mk (0 : Int) (1 : Int) (1 : Int)))).a) ((T3.mk (2 : Int) (2 : Int) (T1.mk (T3.mk (0 : Int) (1 : Int) (1 : Int)))).b) [((T3.mk (2 : Int) (2 : Int) (T1.mk (T3.mk (0 : Int) (1 : Int) (1 : Int)))).c).a]))
def m_law (S : Src) : Bool × Src := (bindX (foldX (fun (n_1395 : Src) (q_1396 : Int) => m_law_44 n_1395 q_1396) (rngI 0 (Int.toNat (6 : Int))) (S : Src)) (fun (n_1626 : Src) => m_law_45 n_1626))
def g_law (S : Src) : Prop := (RngOk (6 : Int)) ∧ (FX (fun (n_1395 : Src) (q_1396 : Int) => g_law_44 n_1395 q_1396) (fun (n_1395 : Src) (q_1396 : Int) => m_law_44 n_1395 q_1396) (rngI 0 (Int.toNat (6 : Int))) (S : Src)) ∧ (okX (foldX (fun (n_1395 : Src) (q_1396 : Int) => m_law_44 n_1395 q_1396) (rngI 0 (Int.toNat (6 : Int))) (S : Src)) (fun (n_1626 : Src) => g_law_45 n_1626))
end L2.Ev

set_option Elab.async false
set_option linter.all false
set_option maxRecDepth 100000
namespace L2.Ev
open PySem PySem.Spec PyProof.Rows
def topS (i : Nat) : Stmt := PySem.Challenge.pw_turnedweights_k13_whole_rooms_and_the_fo.main.body.getD i (.Pass ⟨0, 0, 0, 0⟩)
abbrev s__law_source : Stmt := topS 21
theorem sc__law_source : FnScope ["script", "mixed", "cell"] ["script"] (defScope s__law_source) := ⟨rfl, rfl, rfl, by decide +kernel, rfl, by decide +kernel, by decide +kernel⟩
abbrev s__law_pick : Stmt := topS 22
theorem sc__law_pick : FnScope ["source", "many", "left", "mixed"] ["source", "many"] (defScope s__law_pick) := ⟨rfl, rfl, rfl, by decide +kernel, rfl, by decide +kernel, by decide +kernel⟩
abbrev s__law_of : Stmt := topS 23
theorem sc__law_of : FnScope ["source", "some"] ["source", "some"] (defScope s__law_of) := ⟨rfl, rfl, rfl, by decide +kernel, rfl, by decide +kernel, by decide +kernel⟩
abbrev s__law_web : Stmt := topS 24
theorem sc__law_web : FnScope ["source", "p", "n", "few", "ties", "u", "v"] ["source", "p", "n", "few"] (defScope s__law_web) := ⟨rfl, rfl, rfl, by decide +kernel, rfl, by decide +kernel, by decide +kernel⟩
abbrev s__law_table : Stmt := topS 25
theorem sc__law_table : FnScope ["web", "u", "rows", "v", "w"] ["web"] (defScope s__law_table) := ⟨rfl, rfl, rfl, by decide +kernel, rfl, by decide +kernel, by decide +kernel⟩
abbrev s_table_of : Stmt := topS 8
theorem sc_table_of : FnScope ["web", "p", "n", "ties", "u", "rows", "v", "w", "row"] ["web"] (defScope s_table_of) := ⟨rfl, rfl, rfl, by decide +kernel, rfl, by decide +kernel, by decide +kernel⟩
abbrev s_room_rows : Stmt := topS 10
theorem sc_room_rows : FnScope ["web", "p", "n", "ties", "v", "row", "u"] ["web"] (defScope s_room_rows) := ⟨rfl, rfl, rfl, by decide +kernel, rfl, by decide +kernel, by decide +kernel⟩
abbrev s__law_row : Stmt := topS 31
theorem sc__law_row : FnScope ["source", "p", "n", "place"] ["source", "p", "n"] (defScope s__law_row) := ⟨rfl, rfl, rfl, by decide +kernel, rfl, by decide +kernel, by decide +kernel⟩
abbrev s__law_led_row : Stmt := topS 28
theorem sc__law_led_row : FnScope ["p", "rows", "x", "row", "a", "b"] ["p", "rows", "x"] (defScope s__law_led_row) := ⟨rfl, rfl, rfl, by decide +kernel, rfl, by decide +kernel, by decide +kernel⟩
abbrev s_row_times : Stmt := topS 2
theorem sc_row_times : FnScope ["p", "c", "row", "x"] ["p", "c", "row"] (defScope s_row_times) := ⟨rfl, rfl, rfl, by decide +kernel, rfl, by decide +kernel, by decide +kernel⟩
abbrev s_row_sum : Stmt := topS 1
theorem sc_row_sum : FnScope ["p", "one", "other", "x", "y"] ["p", "one", "other"] (defScope s_row_sum) := ⟨rfl, rfl, rfl, by decide +kernel, rfl, by decide +kernel, by decide +kernel⟩
abbrev s_row_dot : Stmt := topS 3
theorem sc_row_dot : FnScope ["p", "one", "other", "x", "y"] ["p", "one", "other"] (defScope s_row_dot) := ⟨rfl, rfl, rfl, by decide +kernel, rfl, by decide +kernel, by decide +kernel⟩
abbrev s_is_in_room : Stmt := topS 11
theorem sc_is_in_room : FnScope ["web", "member", "x", "z", "row", "number"] ["web", "member"] (defScope s_is_in_room) := ⟨rfl, rfl, rfl, by decide +kernel, rfl, by decide +kernel, by decide +kernel⟩
abbrev s_form_of : Stmt := topS 12
theorem sc_form_of : FnScope ["p", "one", "other"] ["p", "one", "other"] (defScope s_form_of) := ⟨rfl, rfl, rfl, by decide +kernel, rfl, by decide +kernel, by decide +kernel⟩
abbrev s__law_form : Stmt := topS 30
theorem sc__law_form : FnScope ["p", "one", "other", "total", "x", "z", "y", "w"] ["p", "one", "other"] (defScope s__law_form) := ⟨rfl, rfl, rfl, by decide +kernel, rfl, by decide +kernel, by decide +kernel⟩
abbrev s__law_all : Stmt := topS 27
theorem sc__law_all : FnScope ["p", "n", "found", "lap", "late", "row", "x"] ["p", "n"] (defScope s__law_all) := ⟨rfl, rfl, rfl, by decide +kernel, rfl, by decide +kernel, by decide +kernel⟩
abbrev s_changed_member : Stmt := topS 13
theorem sc_changed_member : FnScope ["p", "change", "member", "x", "z", "a", "b", "late", "u", "v", "first", "early", "c", "d", "second"] ["p", "change", "member"] (defScope s_changed_member) := ⟨rfl, rfl, rfl, by decide +kernel, rfl, by decide +kernel, by decide +kernel⟩
abbrev s_small_about : Stmt := topS 6
theorem sc_small_about : FnScope ["p", "table", "a", "b", "c", "d"] ["p", "table"] (defScope s_small_about) := ⟨rfl, rfl, rfl, by decide +kernel, rfl, by decide +kernel, by decide +kernel⟩
abbrev s_change_back : Stmt := topS 18
theorem sc_change_back : FnScope ["p", "change", "table"] ["p", "change"] (defScope s_change_back) := ⟨rfl, rfl, rfl, by decide +kernel, rfl, by decide +kernel, by decide +kernel⟩
abbrev s__law_changed : Stmt := topS 29
theorem sc__law_changed : FnScope ["p", "change", "x", "z", "table", "a", "b", "first", "second"] ["p", "change", "x", "z"] (defScope s__law_changed) := ⟨rfl, rfl, rfl, by decide +kernel, rfl, by decide +kernel, by decide +kernel⟩
abbrev s__law_about : Stmt := topS 32
theorem sc__law_about : FnScope ["p", "change", "a", "b", "c", "d"] ["p", "change"] (defScope s__law_about) := ⟨rfl, rfl, rfl, by decide +kernel, rfl, by decide +kernel, by decide +kernel⟩
abbrev s_small_times : Stmt := topS 4
theorem sc_small_times : FnScope ["p", "one", "other", "columns", "row", "column"] ["p", "one", "other"] (defScope s_small_times) := ⟨rfl, rfl, rfl, by decide +kernel, rfl, by decide +kernel, by decide +kernel⟩
abbrev s_change_behind : Stmt := topS 17
theorem sc_change_behind : FnScope ["p", "one", "other", "early", "late"] ["p", "one", "other"] (defScope s_change_behind) := ⟨rfl, rfl, rfl, by decide +kernel, rfl, by decide +kernel, by decide +kernel⟩
abbrev s__law_small : Stmt := topS 26
theorem sc__law_small : FnScope ["p", "one", "other", "found", "i", "j"] ["p", "one", "other"] (defScope s__law_small) := ⟨rfl, rfl, rfl, by decide +kernel, rfl, by decide +kernel, by decide +kernel⟩
abbrev s_small_det : Stmt := topS 5
theorem sc_small_det : FnScope ["p", "table"] ["p", "table"] (defScope s_small_det) := ⟨rfl, rfl, rfl, by decide +kernel, rfl, by decide +kernel, by decide +kernel⟩
abbrev s_is_proper : Stmt := topS 19
theorem sc_is_proper : FnScope ["p", "change", "table"] ["p", "change"] (defScope s_is_proper) := ⟨rfl, rfl, rfl, by decide +kernel, rfl, by decide +kernel, by decide +kernel⟩
abbrev s_same_change : Stmt := topS 16
theorem sc_same_change : FnScope ["n"] ["n"] (defScope s_same_change) := ⟨rfl, rfl, rfl, by decide +kernel, rfl, by decide +kernel, by decide +kernel⟩
abbrev s__law_changes_right : Stmt := topS 33
theorem sc__law_changes_right : FnScope ["source", "p", "n", "some", "turn", "v", "one", "other", "m", "k", "early", "back", "both", "a", "b", "c", "d", "dets", "table", "x", "due"] ["source", "p", "n"] (defScope s__law_changes_right) := ⟨rfl, rfl, rfl, by decide +kernel, rfl, by decide +kernel, by decide +kernel⟩
abbrev s_law : Stmt := topS 34
theorem sc_law : FnScope ["script", "source", "lap", "p", "n", "web", "rows", "told", "v", "u", "due", "row", "turn", "x", "y", "z", "one", "other", "c", "both", "member", "is_in", "k", "has_noughts", "every", "many"] ["script"] (defScope s_law) := ⟨rfl, rfl, rfl, by decide +kernel, rfl, by decide +kernel, by decide +kernel⟩
structure Kit (K : PySem.W.Frag) (mg : Str → Option Value) where
  a__law_source : Addr
  d__law_source : FuncData
  F__law_source : Fun K "_law_source" "_law_source" s__law_source a__law_source d__law_source
  B__law_source : Binds K d__law_source ["script"] []
  G__law_source : mg "_law_source" = some (.ref a__law_source)
  a__law_pick : Addr
  d__law_pick : FuncData
  F__law_pick : Fun K "_law_pick" "_law_pick" s__law_pick a__law_pick d__law_pick
  B__law_pick : Binds K d__law_pick ["source", "many"] []
  G__law_pick : mg "_law_pick" = some (.ref a__law_pick)
  a__law_of : Addr
  d__law_of : FuncData
  F__law_of : Fun K "_law_of" "_law_of" s__law_of a__law_of d__law_of
  B__law_of : Binds K d__law_of ["source", "some"] []
  G__law_of : mg "_law_of" = some (.ref a__law_of)
  a__law_web : Addr
  d__law_web : FuncData
  F__law_web : Fun K "_law_web" "_law_web" s__law_web a__law_web d__law_web
  B__law_web : Binds K d__law_web ["source", "p", "n", "few"] []
  G__law_web : mg "_law_web" = some (.ref a__law_web)
  a__law_table : Addr
  d__law_table : FuncData
  F__law_table : Fun K "_law_table" "_law_table" s__law_table a__law_table d__law_table
  B__law_table : Binds K d__law_table ["web"] []
  G__law_table : mg "_law_table" = some (.ref a__law_table)
  a_table_of : Addr
  d_table_of : FuncData
  F_table_of : Fun K "table_of" "table_of" s_table_of a_table_of d_table_of
  B_table_of : Binds K d_table_of ["web"] []
  G_table_of : mg "table_of" = some (.ref a_table_of)
  a_room_rows : Addr
  d_room_rows : FuncData
  F_room_rows : Fun K "room_rows" "room_rows" s_room_rows a_room_rows d_room_rows
  B_room_rows : Binds K d_room_rows ["web"] []
  G_room_rows : mg "room_rows" = some (.ref a_room_rows)
  a__law_row : Addr
  d__law_row : FuncData
  F__law_row : Fun K "_law_row" "_law_row" s__law_row a__law_row d__law_row
  B__law_row : Binds K d__law_row ["source", "p", "n"] []
  G__law_row : mg "_law_row" = some (.ref a__law_row)
  a__law_led_row : Addr
  d__law_led_row : FuncData
  F__law_led_row : Fun K "_law_led_row" "_law_led_row" s__law_led_row a__law_led_row d__law_led_row
  B__law_led_row : Binds K d__law_led_row ["p", "rows", "x"] []
  G__law_led_row : mg "_law_led_row" = some (.ref a__law_led_row)
  a_row_times : Addr
  d_row_times : FuncData
  F_row_times : Fun K "row_times" "row_times" s_row_times a_row_times d_row_times
  B_row_times : Binds K d_row_times ["p", "c", "row"] []
  G_row_times : mg "row_times" = some (.ref a_row_times)
  a_row_sum : Addr
  d_row_sum : FuncData
  F_row_sum : Fun K "row_sum" "row_sum" s_row_sum a_row_sum d_row_sum
  B_row_sum : Binds K d_row_sum ["p", "one", "other"] []
  G_row_sum : mg "row_sum" = some (.ref a_row_sum)
  a_row_dot : Addr
  d_row_dot : FuncData
  F_row_dot : Fun K "row_dot" "row_dot" s_row_dot a_row_dot d_row_dot
  B_row_dot : Binds K d_row_dot ["p", "one", "other"] []
  G_row_dot : mg "row_dot" = some (.ref a_row_dot)
  a_is_in_room : Addr
  d_is_in_room : FuncData
  F_is_in_room : Fun K "is_in_room" "is_in_room" s_is_in_room a_is_in_room d_is_in_room
  B_is_in_room : Binds K d_is_in_room ["web", "member"] []
  G_is_in_room : mg "is_in_room" = some (.ref a_is_in_room)
  a_form_of : Addr
  d_form_of : FuncData
  F_form_of : Fun K "form_of" "form_of" s_form_of a_form_of d_form_of
  B_form_of : Binds K d_form_of ["p", "one", "other"] []
  G_form_of : mg "form_of" = some (.ref a_form_of)
  a__law_form : Addr
  d__law_form : FuncData
  F__law_form : Fun K "_law_form" "_law_form" s__law_form a__law_form d__law_form
  B__law_form : Binds K d__law_form ["p", "one", "other"] []
  G__law_form : mg "_law_form" = some (.ref a__law_form)
  a__law_all : Addr
  d__law_all : FuncData
  F__law_all : Fun K "_law_all" "_law_all" s__law_all a__law_all d__law_all
  B__law_all : Binds K d__law_all ["p", "n"] []
  G__law_all : mg "_law_all" = some (.ref a__law_all)
  a_changed_member : Addr
  d_changed_member : FuncData
  F_changed_member : Fun K "changed_member" "changed_member" s_changed_member a_changed_member d_changed_member
  B_changed_member : Binds K d_changed_member ["p", "change", "member"] []
  G_changed_member : mg "changed_member" = some (.ref a_changed_member)
  a_small_about : Addr
  d_small_about : FuncData
  F_small_about : Fun K "small_about" "small_about" s_small_about a_small_about d_small_about
  B_small_about : Binds K d_small_about ["p", "table"] []
  G_small_about : mg "small_about" = some (.ref a_small_about)
  a_change_back : Addr
  d_change_back : FuncData
  F_change_back : Fun K "change_back" "change_back" s_change_back a_change_back d_change_back
  B_change_back : Binds K d_change_back ["p", "change"] []
  G_change_back : mg "change_back" = some (.ref a_change_back)
  a__law_changed : Addr
  d__law_changed : FuncData
  F__law_changed : Fun K "_law_changed" "_law_changed" s__law_changed a__law_changed d__law_changed
  B__law_changed : Binds K d__law_changed ["p", "change", "x", "z"] []
  G__law_changed : mg "_law_changed" = some (.ref a__law_changed)
  a__law_about : Addr
  d__law_about : FuncData
  F__law_about : Fun K "_law_about" "_law_about" s__law_about a__law_about d__law_about
  B__law_about : Binds K d__law_about ["p", "change"] []
  G__law_about : mg "_law_about" = some (.ref a__law_about)
  a_small_times : Addr
  d_small_times : FuncData
  F_small_times : Fun K "small_times" "small_times" s_small_times a_small_times d_small_times
  B_small_times : Binds K d_small_times ["p", "one", "other"] []
  G_small_times : mg "small_times" = some (.ref a_small_times)
  a_change_behind : Addr
  d_change_behind : FuncData
  F_change_behind : Fun K "change_behind" "change_behind" s_change_behind a_change_behind d_change_behind
  B_change_behind : Binds K d_change_behind ["p", "one", "other"] []
  G_change_behind : mg "change_behind" = some (.ref a_change_behind)
  a__law_small : Addr
  d__law_small : FuncData
  F__law_small : Fun K "_law_small" "_law_small" s__law_small a__law_small d__law_small
  B__law_small : Binds K d__law_small ["p", "one", "other"] []
  G__law_small : mg "_law_small" = some (.ref a__law_small)
  a_small_det : Addr
  d_small_det : FuncData
  F_small_det : Fun K "small_det" "small_det" s_small_det a_small_det d_small_det
  B_small_det : Binds K d_small_det ["p", "table"] []
  G_small_det : mg "small_det" = some (.ref a_small_det)
  a_is_proper : Addr
  d_is_proper : FuncData
  F_is_proper : Fun K "is_proper" "is_proper" s_is_proper a_is_proper d_is_proper
  B_is_proper : Binds K d_is_proper ["p", "change"] []
  G_is_proper : mg "is_proper" = some (.ref a_is_proper)
  a_same_change : Addr
  d_same_change : FuncData
  F_same_change : Fun K "same_change" "same_change" s_same_change a_same_change d_same_change
  B_same_change : Binds K d_same_change ["n"] []
  G_same_change : mg "same_change" = some (.ref a_same_change)
  a__law_changes_right : Addr
  d__law_changes_right : FuncData
  F__law_changes_right : Fun K "_law_changes_right" "_law_changes_right" s__law_changes_right a__law_changes_right d__law_changes_right
  B__law_changes_right : Binds K d__law_changes_right ["source", "p", "n"] []
  G__law_changes_right : mg "_law_changes_right" = some (.ref a__law_changes_right)
  a_law : Addr
  d_law : FuncData
  F_law : Fun K "law" "law" s_law a_law d_law
  B_law : Binds K d_law ["script"] []
  G_law : mg "law" = some (.ref a_law)
  z_abs : mg "abs" = none
  z_all : mg "all" = none
  z_enumerate : mg "enumerate" = none
  z_int : mg "int" = none
  z_len : mg "len" = none
  z_list : mg "list" = none
  z_max : mg "max" = none
  z_range : mg "range" = none
  z_repr : mg "repr" = none
  z_sum : mg "sum" = none
  z_tuple : mg "tuple" = none
  z_zip : mg "zip" = none
  k_SAME : Addr
  G_SAME : mg "SAME" = some (.ref k_SAME)
  D_SAME : ∀ H, Dp K H (.ref k_SAME) (enc ((((1 : Int), (0 : Int)), ((0 : Int), (1 : Int))) : ((Int × Int) × (Int × Int))))
set_option maxHeartbeats 0 in
theorem ok__law_source {P : Program} {w : World} {K : PySem.W.Frag} {mg : Str → Option Value} {base : Heap} (T : Kit K mg) : FnG P w K mg base 1 T.a__law_source T.d__law_source ["script"] (spOpen K) := by
  refine fnG_of T.F__law_source sc__law_source (fun vs H Q E h => ?_) fun cd A outer s H vs Q E hr hg h => ?_
  · obtain ⟨a, ns, rfl, _⟩ := h; rfl
  obtain ⟨a, ns, rfl, hs, hz, q⟩ := h
  refine ⟨_, pss_cons (ps_set (i := 1) sc__law_source.nd rfl (.inl rfl) pe_int)
   (pss_cons (ps_for PassesOwn.never rfl (pi_list (pv 0)) (pg_name (i := 2) sc__law_source.nd rfl (.inl rfl)) (pss_one (ps_set (i := 1) sc__law_source.nd rfl (.inl rfl)
      (pe_op op_mod (pe_callTy call_int1 (by rfl) T.z_int PyProof.Rows.boot_int (pa_cons (pe_op op_add (pe_op op_add (pe_op op_mul (pv 1) pe_int) (pe_op op_mul (pv 2) pe_int)) pe_int) pa_nil)) pe_int))))
   (pss_one (ps_ret (pe_disp (pps_cons pe_str (pe_revL (elc (sa := Option.none) (S0 := openS ns) (fun (x : Int) => True) (fun (x : Int) => [some (.b (encs ns)), some (.p (enc (stir ns))), some (.p (enc x))]) (fun (x : Int) => if x < 0 then -x else x) (ij_L (xs := ns) (δ := [some (.b (encs ns)), some (.p (enc (stir ns))), Option.none]) (S := openS ns) (ev_varB 0 rfl (pv 0))) (fun _ _ => trivial)
      (fun x s H C cl fp => tg_name (pg_name (i := 2) sc__law_source.nd rfl (.inl rfl))) (fun x _ s H C cl fp => ev_abs (by rfl) T.z_abs (ev_var 2 rfl (pv 2))) (by rfl) sc__law_source.nd (blk_of (own := [("cell", 2)]) (by rfl)) (by decide)))
      (pps_cons pe_str pe_int (pps_cons pe_str (pv 1) (pps_cons pe_str pe_int pps_nil)))) rfl rfl (by intro h; cases h) (by decide))))), ?_⟩
  refine ⟨.ref a, rfl, a, rfl, ⟨_, hs⟩, fun i k σ H' => ∃ x, σ = [some (.ref a), some (.int (stir (ns.take i))), x] ∧ H' = H ∧ i + k = ns.length, ⟨ns.length, none, rfl, rfl, by omega⟩, fun i k σ' H' => ?_⟩
  rintro ⟨x, rfl, rfl, hk⟩
  by_cases hi : i < ns.length
  · have hg : (ns.map V.int)[i]? = some (.int ns[i]) := by rw [List.getElem?_map, List.getElem?_eq_getElem hi]; rfl
    refine .inr ⟨⟨_, _, hs, hg⟩, fun σ H'' => ∃ x, σ = [some (.ref a), some (.int (stir (ns.take (i + 1)))), x] ∧ H'' = H', fun σ H'' ⟨x, e1, e2⟩ => ⟨k - 1, by omega, x, e1, e2, by omega⟩, fun v H'' hy => ?_⟩
    obtain ⟨rfl, fv⟩ := hy
    obtain rfl : v = .int ns[i] := Option.some.inj ((fv _ hs).symm.trans hg)
    refine ⟨.int (stir (ns.take i)), rfl, stir (ns.take i), 69069, rfl, rfl, .inr ⟨by decide, by decide⟩, .int ns[i], rfl, ns[i], 31, rfl, rfl, .inr ⟨by decide, by decide⟩, _, _, rfl, rfl, _, 5, rfl, rfl, .inl ⟨_, rfl, _, 2147483629, rfl, rfl, (show (0 : Int) < 2147483629 by decide), some (.int ns[i]), ?_, rfl⟩⟩
    have : stir (ns.take (i + 1)) = (stir (ns.take i) * 69069 + ns[i] * 31 + 5) % 2147483629 := by
      unfold stir
      rw [List.take_add_one, List.getElem?_eq_getElem hi, List.foldl_append]; rfl
    rw [this]; rfl
  · obtain rfl : i = ns.length := by omega
    refine .inl ⟨⟨_, hs, by rw [List.length_map]; omega⟩, ?_⟩
    rw [List.take_length]
    refine fun D hD => ?_
    have s1 : Same H' (upd H' D (.dK [])) := same_new hD
    have hs' : SqL K (upd H' D (.dK [])) a (ns.map .int) := (Ext.of_same (sa := Option.none) s1).sql .empty hs
    refine ⟨upd H' D (.dK []), ok_scriptB hs' hz, fun p H1 hp ok1 e1 hl => ?_⟩
    obtain ⟨vs, g1, g2, g3, g4⟩ := hl
    have hv := dp_ints g2
    subst hv
    have hD1 : H1 D = some (.dK []) := e1.cell D _ upd_same .empty
    refine ⟨p, _, rfl, .inl (.of g1), fun L hL => ⟨.int (stir ns), rfl, ?_⟩⟩
    have hDL : D ≠ L := fun z => by subst z; rw [hD1] at hL; cases hL
    refine ⟨by rw [upd_ne hDL]; exact hD1, [(.inr "cells", .ref L), (.inr "left", .int 1), (.inr "mixed", .int (stir ns)), (.inr "turn", .int 0)], rfl, by show (4 : Nat) ≤ 15; decide, ?_⟩
    refine q D L _ (fun b o e => ?_) ⟨?_, ?_, hDL, ?_⟩
    · have h0 := s1 _ _ e
      have h1 := e1.cell b o h0 .empty
      have nD : b ≠ D := fun z => by subst z; rw [hD] at e; cases e
      have nL : b ≠ L := fun z => by subst z; rw [hL] at h1; cases h1
      rw [upd_ne nD, upd_ne nL]; exact h1
    · show upd _ D _ D = _
      rw [upd_same]; rfl
    · show upd _ D _ L = _
      rw [upd_ne hDL.symm, upd_same]
      show some (HO.lst _) = some (HO.lst ((openS ns).cells.map V.int))
      unfold openS
      rw [List.map_reverse]
    · show ((ns.map _).reverse).length ≤ sizeLine
      rw [List.length_reverse, List.length_map]
      exact ble_line (Nat.ble_eq.mpr hz)

set_option maxHeartbeats 0 in
theorem ok__law_pick {P : Program} {w : World} {K : PySem.W.Frag} {mg : Str → Option Value} {base : Heap} (T : Kit K mg) : FnG P w K mg base 1 T.a__law_pick T.d__law_pick ["source", "many"] (spD K 2 R__law_pick) := by
  refine fnG_of T.F__law_pick sc__law_pick (fun vs H Q E h => ?_) fun cd A outer s H vs Q E hr hg h => ?_
  · obtain ⟨sa, sls, S, r, S', hl, _, _, hs, _⟩ := h
    rw [hs.length, hl]; rfl
  obtain ⟨sa, sls, S, r, S', hl, ⟨m, rfl, hm, rfl, rfl⟩, hS, hs, q⟩ := h
  obtain ⟨v1, v2, rfl, ⟨_, ⟨D, L⟩, rfl, rfl⟩, h2⟩ := sls2 hs
  obtain rfl := dpi h2
  have hS := hS _ rfl
  obtain ⟨hD, hL, hne, hz⟩ := id hS
  have hu := hr.un64 (Nat.zero_le _)
  have hu1 : (A.deeper (envOfC "_law_pick" (defScope s__law_pick) s.heap.objs.size T.a__law_pick cd)).units + 1 < cLine := by have := hr.un; omega
  have fin : ∀ (S' : Src) (i : Int), (pickB S m) = (i, S') → S'.cells.length ≤ S.cells.length → Q (.int i) (srcH H D L S') := fun S' i e hc => by
    refine q (.int i) _ [] (srcH_ext hS S') ?_ ?_ .nil fun _ z => nomatch z
    · rw [show m__law_pick m S = (i, S') from e]; exact srcH_rep hne (Nat.le_trans hc hz)
    · rw [show m__law_pick m S = (i, S') from e]; exact ⟨rfl, .int _, trivial⟩
  refine ⟨_, pss_cons (ps_while PassesOwn.never (PW.pt (pw_and (pt_cmpR op_gt (pv 1) pe_int (nomark _)) (pw_and (pt_cmpR op_lt (pe_dget hu1 (pv 0) pe_str (fun _ _ => rfl)) pe_int (nomark _)) (pw_and1 (pt_cmpR op_gt (pe_callB call_len_seq (by rfl) T.z_len PySem.boot_len (pa_cons (pe_dget hu1 (pv 0) pe_str (fun _ _ => rfl)) pa_nil)) pe_int (nomark _))))))
      (pss_one (ps_dput hu1 (pv 0) pe_str (pe_bm0 PySem.F.plainAttrs_list PySem.F.slot_list_pop PySem.F.type_list_pop mt_pop (pe_dget hu1 (pv 0) pe_str (fun _ _ => rfl))) (by rfl))))
   (pss_cons (ps_set (i := 2) sc__law_pick.nd rfl (.inl rfl) (pe_dget hu1 (pv 0) pe_str (fun _ _ => rfl)))
   (pss_cons (ps_if (PW.pt (pw_or (pt_cmpR op_lt (pv 1) pe_int (nomark _)) (pw_or1 (pt_cmpR op_gt (pv 2) pe_int (nomark _)))))
      (pss_cons (ps_dput hu1 (pv 0) pe_str (pe_op op_fdiv (pv 2) (pe_callB (call_max2 rfl) (by rfl) T.z_max PyProof.Rows.boot_max (pa_cons pe_int (pa_cons (pv 1) pa_nil)))) (by rfl))
        (pss_one (ps_ret (pe_op op_mod (pe_callTy call_int1 (by rfl) T.z_int PyProof.Rows.boot_int (pa_cons (pv 2) pa_nil)) (pe_callB (call_max2 rfl) (by rfl) T.z_max PyProof.Rows.boot_max (pa_cons pe_int (pa_cons (pv 1) pa_nil))))))) pss_nil)
   (pss_cons (ps_dput hu1 (pv 0) pe_str (pe_op op_add (pe_dget hu1 (pv 0) pe_str (fun _ _ => rfl)) pe_int) (by rfl))
   (pss_cons (ps_set (i := 3) sc__law_pick.nd rfl (.inl rfl) (pe_op op_mod (pe_callTy call_int1 (by rfl) T.z_int PyProof.Rows.boot_int (pa_cons (pe_op op_add (pe_dget hu1 (pv 0) pe_str (fun _ _ => rfl)) (pe_op op_mul (pe_dget hu1 (pv 0) pe_str (fun _ _ => rfl)) pe_int)) pa_nil)) pe_int))
   (pss_cons (ps_set (i := 3) sc__law_pick.nd rfl (.inl rfl) (pe_op op_mod (pe_callTy call_int1 (by rfl) T.z_int PyProof.Rows.boot_int (pa_cons (pe_op op_add (pe_op op_mul (pv 3) (pv 3)) (pe_op op_mul (pe_dget hu1 (pv 0) pe_str (fun _ _ => rfl)) pe_int)) pa_nil)) pe_int))
   (pss_cons (ps_dput hu1 (pv 0) pe_str (pv 3) (by rfl))
   (pss_one (ps_ret (pe_op op_mod (pe_callTy call_int1 (by rfl) T.z_int PyProof.Rows.boot_int (pa_cons (pe_op op_fdiv (pv 3) pe_int) pa_nil)) (pv 1)))))))))), ?_⟩
  rw [← srcH_at hS]
  have zz : (4 : Nat) < sizeLine := by rw [sizeLine_eq]; decide
  refine ⟨fun k σ H' => ∃ cs l, σ = [some (.ref D), some (.int m), none, none] ∧ H' = srcH H D L ⟨cs, l, S.mixed, S.turn⟩ ∧ k = cs.length ∧ (1 < m → pull k cs l = pulled S) ∧ (¬ 1 < m → cs = S.cells ∧ l = S.left) ∧ cs.length ≤ S.cells.length, ⟨_, S.cells, S.left, rfl, rfl, rfl, fun _ => rfl, fun _ => ⟨rfl, rfl⟩, Nat.le_refl _⟩, ?_⟩
  rintro k σ' H' ⟨cs, l, rfl, rfl, rfl, hp, hp0, hle⟩
  refine ⟨.int m, rfl, m, 1, rfl, rfl, _, rfl, ite2 (fun e0 => ⟨.ref D, rfl, D, .int l, rfl, get_src (.inr "left") _ _ srcH_d rfl, l, 2, rfl, rfl, _, rfl, ite2 (fun e1 => ⟨.ref D, rfl, D, .ref L, rfl, get_src (.inr "cells") _ _ srcH_d rfl, L, cs.map .int, rfl, .inl (.of (srcH_l hne)), (cs.map V.int).length, 0, rfl, rfl, _, rfl, ite2 (fun e2 => ?body) (fun e2 => ?r1)⟩) (fun e1 => ?r2)⟩) (fun e0 => ?r0)⟩
  case body =>
    have e0 : 1 < m := of_decide_eq_true e0
    have e1 : l < 2 := of_decide_eq_true e1
    have e2 : cs ≠ [] := fun z => by subst z; cases e2
    obtain ⟨c, x, rfl⟩ : ∃ c x, cs = c ++ [x] := ⟨cs.dropLast, cs.getLast e2, (List.dropLast_concat_getLast e2).symm⟩
    refine ⟨fun σ H' => ∃ k, k < (c ++ [x]).length ∧ ∃ cs l, σ = [some (.ref D), some (.int m), none, none] ∧ H' = srcH H D L ⟨cs, l, S.mixed, S.turn⟩ ∧ k = cs.length ∧ (1 < m → pull k cs l = pulled S) ∧ (¬ 1 < m → cs = S.cells ∧ l = S.left) ∧ cs.length ≤ S.cells.length, fun _ _ z => z, ?_⟩
    have hx : ((c ++ [x]).map V.int)[((c ++ [x]).map V.int).length - 1]? = some (.int x) := by simp
    refine ⟨.ref D, rfl, D, .ref L, rfl, get_src (.inr "cells") _ _ srcH_d rfl, .inl ⟨rfl, _, .of (srcH_l hne)⟩, L, _, .int x, rfl, rfl, srcH_l hne, hx, .ref D, rfl, D, _, rfl, .inl ⟨[(.inr "cells", .ref L), (.inr "left", .int l), (.inr "mixed", .int S.mixed), (.inr "turn", .int S.turn)], .inr "left", by rw [upd_ne hne]; exact srcH_d, rfl, zz, rfl⟩, ?_⟩
    rw [put_left]
    refine ⟨c.length, by simp, c, x, rfl, ?_, rfl, fun _ => ?_, fun z => absurd e0 z, by simp at hle; omega⟩
    · exact srcH_pop (S' := ⟨c, x, S.mixed, S.turn⟩) hne (by simp)
    · rw [← hp e0]
      show _ = pull ((c ++ [x]).length) (c ++ [x]) l
      rw [List.length_append]
      show _ = (if l < 2 ∧ c ++ [x] ≠ [] then pull c.length (c ++ [x]).dropLast ((c ++ [x]).getLast?.getD 0) else _)
      rw [if_pos ⟨e1, by simp⟩]
      simp
  case' r1 =>
    have hq : (1 < m ∧ pulled S = (cs, l)) ∨ (¬ 1 < m ∧ cs = S.cells ∧ l = S.left) := .inl ⟨of_decide_eq_true e0, (hp (of_decide_eq_true e0)).symm.trans (by
      cases cs with
      | nil => rfl
      | cons a b => exact absurd (decide_eq_true (by simp)) e2)⟩
    clear e0 e1 e2
  case' r2 =>
    have hq : (1 < m ∧ pulled S = (cs, l)) ∨ (¬ 1 < m ∧ cs = S.cells ∧ l = S.left) := .inl ⟨of_decide_eq_true e0, (hp (of_decide_eq_true e0)).symm.trans (by
      cases cs with
      | nil => rfl
      | cons a b =>
        show (if l < 2 ∧ _ then _ else _) = _
        rw [if_neg (fun z => e1 (decide_eq_true z.1))])⟩
    clear e0 e1
  case' r0 =>
    have hq : (1 < m ∧ pulled S = (cs, l)) ∨ (¬ 1 < m ∧ cs = S.cells ∧ l = S.left) := .inr ⟨fun z => e0 (decide_eq_true z), hp0 fun z => e0 (decide_eq_true z)⟩
    clear e0
  all_goals
    refine ⟨.ref D, rfl, D, .int l, rfl, get_src (.inr "left") _ _ srcH_d rfl, ?_⟩
    have mpos : 0 < max 1 m := by omega
    have mlt : max 1 m < 1073741824 := by (have hm2 : m < 1073741824 := hm; omega)
    have yes : (m < 2 ∨ 1 < l) → pickB S m = (l % max 1 m, ⟨cs, l / max 1 m, S.mixed, S.turn⟩) := fun z => by
      rcases hq with ⟨g1, g2⟩ | ⟨g1, rfl, rfl⟩
      · exact pickB_pos g1 g2 (by omega)
      · exact pickB_le g1
    have go : (m < 2 ∨ 1 < l) → _ := fun z => by
      have hh := srcH_d2 (H := H) (S := ⟨cs, l, S.mixed, S.turn⟩) (S' := ⟨cs, l / max 1 m, S.mixed, S.turn⟩) hne rfl
      have := fin ⟨cs, l / max 1 m, S.mixed, S.turn⟩ (l % max 1 m) (yes z) hle
      rw [← hh] at this
      exact this
    refine ⟨.int m, rfl, m, 2, rfl, rfl, _, rfl, ite2 (fun e1 => ?_) (fun e1 => ⟨.int l, rfl, l, 1, rfl, rfl, _, rfl, ite2 (fun e2 => ?_) (fun e2 => ?_)⟩)⟩
    · refine ⟨.int l, rfl, .int m, rfl, 1, m, rfl, ?_⟩
      rw [max1]
      refine ⟨l, max 1 m, rfl, rfl, ⟨mpos, mlt⟩, .ref D, rfl, D, _, rfl, .inl ⟨_, .inr "left", srcH_d, rfl, zz, rfl⟩, ?_⟩
      rw [put_left]
      refine ⟨.int l, rfl, .inl ⟨l, rfl, .int m, rfl, 1, m, rfl, ?_⟩⟩
      rw [max1]
      exact ⟨l, max 1 m, rfl, rfl, mpos, go (.inl (of_decide_eq_true e1))⟩
    · refine ⟨.int l, rfl, .int m, rfl, 1, m, rfl, ?_⟩
      rw [max1]
      refine ⟨l, max 1 m, rfl, rfl, ⟨mpos, mlt⟩, .ref D, rfl, D, _, rfl, .inl ⟨_, .inr "left", srcH_d, rfl, zz, rfl⟩, ?_⟩
      rw [put_left]
      refine ⟨.int l, rfl, .inl ⟨l, rfl, .int m, rfl, 1, m, rfl, ?_⟩⟩
      rw [max1]
      exact ⟨l, max 1 m, rfl, rfl, mpos, go (.inr (of_decide_eq_true e2))⟩
    · have e1 : ¬ m < 2 := fun z => e1 (decide_eq_true z)
      have e2 : ¬ 1 < l := fun z => e2 (decide_eq_true z)
      have hq2 : pulled S = (cs, l) := by
        rcases hq with ⟨_, g2⟩ | ⟨g1, _, _⟩
        · exact g2
        · omega
      refine ⟨.ref D, rfl, D, .int S.turn, rfl, get_src (.inr "turn") _ _ srcH_d rfl, S.turn, 1, rfl, rfl, .ref D, rfl, D, _, rfl, .inl ⟨_, .inr "turn", srcH_d, rfl, zz, rfl⟩, ?_⟩
      rw [put_turn]
      have hh := srcH_d2 (H := H) (S := ⟨cs, l, S.mixed, S.turn⟩) (S' := ⟨cs, l, S.mixed, S.turn + 1⟩) hne rfl
      have hx : upd (srcH H D L ⟨cs, l, S.mixed, S.turn⟩) D (.dK [(.inr "cells", .ref L), (.inr "left", .int l), (.inr "mixed", .int S.mixed), (.inr "turn", .int (S.turn + 1))]) = srcH H D L ⟨cs, l, S.mixed, S.turn + 1⟩ := hh
      rw [hx]
      refine ⟨.ref D, rfl, D, .int S.mixed, rfl, get_src (.inr "mixed") _ _ srcH_d rfl, .ref D, rfl, D, .int (S.turn + 1), rfl, get_src (.inr "turn") _ _ srcH_d rfl, S.turn + 1, 104729, rfl, rfl, .inr ⟨by decide, by decide⟩, S.mixed, (S.turn + 1) * 104729, rfl, rfl, .inl ⟨_, rfl, _, 998244353, rfl, rfl, (show (0 : Int) < 998244353 by decide), ?_⟩⟩
      have hb : ∀ x : Int, 0 ≤ x % 998244353 ∧ x % 998244353 < 998244353 := fun x => ⟨Int.emod_nonneg _ (by decide), Int.emod_lt_of_pos _ (by decide)⟩
      have hb1 := hb (S.mixed + (S.turn + 1) * 104729)
      refine ⟨.int ((S.mixed + (S.turn + 1) * 104729) % 998244353), rfl, .int ((S.mixed + (S.turn + 1) * 104729) % 998244353), rfl, _, _, rfl, rfl, .inl ⟨by omega, by omega⟩, .ref D, rfl, D, .int (S.turn + 1), rfl, get_src (.inr "turn") _ _ srcH_d rfl, S.turn + 1, 17, rfl, rfl, .inr ⟨by decide, by decide⟩, _, _, rfl, rfl, .inl ⟨_, rfl, _, 2147483647, rfl, rfl, (show (0 : Int) < 2147483647 by decide), ?_⟩⟩
      refine ⟨.int _, rfl, .ref D, rfl, D, _, rfl, .inl ⟨_, .inr "mixed", srcH_d, rfl, zz, rfl⟩, ?_⟩
      rw [put_mixed]
      have hh2 := srcH_d2 (H := H) (S := ⟨cs, l, S.mixed, S.turn + 1⟩) (S' := ⟨cs, l, ((S.mixed + (S.turn + 1) * 104729) % 998244353 * ((S.mixed + (S.turn + 1) * 104729) % 998244353) + (S.turn + 1) * 17) % 2147483647, S.turn + 1⟩) hne rfl
      have := fin ⟨cs, l, ((S.mixed + (S.turn + 1) * 104729) % 998244353 * ((S.mixed + (S.turn + 1) * 104729) % 998244353) + (S.turn + 1) * 17) % 2147483647, S.turn + 1⟩ _ (pickB_neg (by omega) hq2 e2) hle
      rw [← hh2] at this
      exact ⟨.int _, rfl, _, 16, rfl, rfl, ⟨by decide, by decide⟩, .inl ⟨_, rfl, .int m, rfl, _, m, rfl, rfl, by show 0 < m; omega, this⟩⟩

set_option maxHeartbeats 0 in
theorem ok__law_of {P : Program} {w : World} {K : PySem.W.Frag} {mg : Str → Option Value} {base : Heap} (T : Kit K mg) : FnG P w K mg base 2 T.a__law_of T.d__law_of ["source", "some"] (spD K 2 R__law_of) := fnD T.F__law_of sc__law_of rfl (by decide) (by
  intro sa sls S r S' hR cd A outer s H E hr hgd
  obtain ⟨some_0, rfl, hg, rfl, rfl⟩ := hR
  refine SB.start (δ' := [some (.src), some (.b (encs some_0))]) (rf := rf__law_of) (m := m__law_of some_0 S) rfl rfl ?_
  exact sb_ret (ev_ixLB hg.2 (ev_varB 1 rfl (pv 1)) (ev_call ⟨ok__law_pick T, T.G__law_pick, T.F__law_pick.kp, T.B__law_pick⟩ (hr.mono (by decide)) hgd (by rfl) (ea_cons (ev_varS 0 rfl (pv 0)) (ea_cons (ev_len (wlk_l _) (by rfl) T.z_len (ev_varB 1 rfl (pv 1))) ea_nil)) rfl ⟨_, rfl, hg.1, rfl, rfl⟩)) rfl)
set_option maxHeartbeats 0 in
theorem ok__law_web {P : Program} {w : World} {K : PySem.W.Frag} {mg : Str → Option Value} {base : Heap} (T : Kit K mg) : FnG P w K mg base 2 T.a__law_web T.d__law_web ["source", "p", "n", "few"] (spD K 4 R__law_web) := fnD T.F__law_web sc__law_web rfl (by decide) (by
  intro sa sls S r S' hR cd A outer s H E hr hgd
  obtain ⟨p_0, n_0, few_0, rfl, hg, rfl, rfl⟩ := hR
  refine SB.start (δ' := [some (.src), some (.p (enc p_0)), some (.p (enc n_0)), some (.p (enc few_0)), none, none, none]) (rf := rf__law_web) (m := m__law_web p_0 n_0 few_0 S) rfl rfl ?_
  refine stepV (Wf := (WR rf__law_web)) (δf := fun (ties_72 : (List (T3 Int Int Int))) => [some (.src), some (.p (enc p_0)), some (.p (enc n_0)), some (.p (enc few_0)), some (.l (encs ties_72)), none, none]) ([] : List (T3 Int Int Int)) (fun (ties_72 : (List (T3 Int Int Int))) => m__law_web_10 p_0 n_0 few_0 S ties_72) (fun (ties_72 : (List (T3 Int Int Int))) => g__law_web_10 p_0 n_0 few_0 S ties_72) (st_l (i := 4) (ps_set (i := 4) sc__law_web.nd rfl (by first | exact .inl rfl | exact .inr rfl) (el_lst (ds := encs ([] : List (T3 Int Int Int))) ea_nil))) hg (fun ties_72 hg_74 => ?_)
  refine forV (Wf := (WR rf__law_web)) (itm := itP1) (fun (n_101 : ((List (T3 Int Int Int)) × Src)) => m__law_web_9 p_0 n_0 n_101) (fun (n_101 : ((List (T3 Int Int Int)) × Src)) => g__law_web_9 p_0 n_0 n_101) (nf__law_web_1 p_0 n_0 few_0) ((ties_72, S) : ((List (T3 Int Int Int)) × Src)) (fun (n_78 : ((List (T3 Int Int Int)) × Src)) (q_79 : Int) => g__law_web_8 p_0 n_0 few_0 n_78 q_79) (fun n_78 q_79 => [some (.src), some (.p (enc p_0)), some (.p (enc n_0)), some (.p (enc few_0)), some (.l (encs n_78.1)), some (.p (enc q_79)), none]) (fun (n_78 : ((List (T3 Int Int Int)) × Src)) (q_79 : Int) => m__law_web_8 p_0 n_0 few_0 n_78 q_79) (ij_range1 hg_74.1 (by rfl) T.z_range (ea_cons (ev_var 2 rfl (pv 2)) ea_nil)) (And.intro rfl (And.intro rfl (And.intro rfl (And.intro rfl (And.intro rfl trivial))))) (fun n_78 q_79 => (tg_name (pg_name (i := 5) sc__law_web.nd rfl (by first | exact .inl rfl | exact .inr rfl)))) (fun n_78 q_79 hb_76 => ?_) hg_74.2.1 hg_74.2.2 (fun n_101 hg_102 => ?_)
  · refine forV (Wf := (WN (nf__law_web_1 p_0 n_0 few_0))) (itm := itP1) (fun (n_99 : ((List (T3 Int Int Int)) × Src)) => m__law_web_7 n_99) (fun (n_99 : ((List (T3 Int Int Int)) × Src)) => g__law_web_7 n_99) (nf__law_web_2 p_0 n_0 few_0 q_79) ((n_78.1, n_78.2) : ((List (T3 Int Int Int)) × Src)) (fun (n_85 : ((List (T3 Int Int Int)) × Src)) (q_86 : Int) => g__law_web_6 p_0 few_0 q_79 n_85 q_86) (fun n_85 q_86 => [some (.src), some (.p (enc p_0)), some (.p (enc n_0)), some (.p (enc few_0)), some (.l (encs n_85.1)), some (.p (enc q_79)), some (.p (enc q_86))]) (fun (n_85 : ((List (T3 Int Int Int)) × Src)) (q_86 : Int) => m__law_web_6 p_0 few_0 q_79 n_85 q_86) (ij_range2 hb_76.1 hb_76.2.1 hb_76.2.2.1 (by rfl) T.z_range (ea_cons (ev_add (ev_var 5 rfl (pv 5)) ev_int) (ea_cons (ev_var 2 rfl (pv 2)) ea_nil))) (And.intro rfl (And.intro rfl (And.intro rfl (And.intro rfl (And.intro rfl (And.intro rfl trivial)))))) (fun n_85 q_86 => (tg_name (pg_name (i := 6) sc__law_web.nd rfl (by first | exact .inl rfl | exact .inr rfl)))) (fun n_85 q_86 hb_83 => ?_) hb_76.2.2.2.1 hb_76.2.2.2.2 (fun n_99 hg_100 => ?_)
    · refine sb_ifE (Wf := (WN (nf__law_web_2 p_0 n_0 few_0 q_79))) (x := m__law_web_4 p_0 q_79 n_85 q_86 ((m__law_pick (3 : Int) n_85.2).2)) (y := m__law_web_5 n_85 ((m__law_pick (3 : Int) n_85.2).2)) (et_cmp op_ge rc_ge (ev_call ⟨ok__law_pick T, T.G__law_pick, T.F__law_pick.kp, T.B__law_pick⟩ (hr.mono (by decide)) hgd (by rfl) (ea_cons (ev_varS 0 rfl (pv 0)) (ea_cons ev_int ea_nil)) rfl ⟨_, rfl, hb_83.1, rfl, rfl⟩) (ev_var 3 rfl (pv 3)) (nomark _)) (fun hc_88 => ?_) (fun hc_89 => ?_)
      · have hg_91 := hb_83.2.1 hc_88
        generalize (m__law_pick (3 : Int) n_85.2).2 = S_90 at hg_91 ⊢
        refine stepVS (Wf := (WN (nf__law_web_2 p_0 n_0 few_0 q_79))) (δf := fun (ties_95 : (List (T3 Int Int Int))) => [some (.src), some (.p (enc p_0)), some (.p (enc n_0)), some (.p (enc few_0)), some (.l (encs ties_95)), some (.p (enc q_79)), some (.p (enc q_86))]) (n_85.1 ++ [(T3.mk q_79 q_86 ((1 : Int) + (m__law_pick (p_0 - (1 : Int)) S_90).1))]) (fun (ties_95 : (List (T3 Int Int Int))) (S_97 : Src) => m__law_web_3 ties_95 S_97) (fun (ties_95 : (List (T3 Int Int Int))) (S_97 : Src) => g__law_web_3 ties_95 S_97) (st_app (i := 4) rfl (pv 4) (ev_tup (ds := [enc q_79, enc q_86, enc ((1 : Int) + (m__law_pick (p_0 - (1 : Int)) S_90).1)]) (ea_cons (ev_var 5 rfl (pv 5)) (ea_cons (ev_var 6 rfl (pv 6)) (ea_cons (ev_add ev_int (ev_call ⟨ok__law_pick T, T.G__law_pick, T.F__law_pick.kp, T.B__law_pick⟩ (hr.mono (by decide)) hgd (by rfl) (ea_cons (ev_varS 0 rfl (pv 0)) (ea_cons (ev_sub (ev_var 1 rfl (pv 1)) ev_int) ea_nil)) rfl ⟨_, rfl, hg_91.1, rfl, rfl⟩)) ea_nil)))) hg_91.2.1 (fun h1 h2 => pe_bm PySem.F.plainAttrs_list PySem.F.slot_list_append PySem.F.type_list_append mt_append h1 h2)) hg_91.2.2 (fun ties_95 S_97 hg_98 => ?_)
        exact sb_nil rfl (And.intro rfl (And.intro rfl (And.intro rfl (And.intro rfl (And.intro rfl (And.intro rfl trivial))))))
      · have hg_92 := hb_83.2.2 hc_89
        generalize (m__law_pick (3 : Int) n_85.2).2 = S_90 at hg_92 ⊢
        exact sb_nil rfl (And.intro rfl (And.intro rfl (And.intro rfl (And.intro rfl (And.intro rfl (And.intro rfl trivial))))))
    · exact sb_nil rfl (And.intro rfl (And.intro rfl (And.intro rfl (And.intro rfl (And.intro rfl trivial)))))
  · exact sb_ret (ev_tup (ds := [enc p_0, enc n_0, enc n_101.1]) (ea_cons (ev_var 1 rfl (pv 1)) (ea_cons (ev_var 2 rfl (pv 2)) (ea_cons (ev_tuple (by rfl) T.z_tuple (ev_varL 4 rfl (pv 4))) ea_nil)))) rfl)
set_option maxHeartbeats 0 in
theorem ok__law_table {P : Program} {w : World} {K : PySem.W.Frag} {mg : Str → Option Value} {base : Heap} (T : Kit K mg) : FnG P w K mg base 1 T.a__law_table T.d__law_table ["web"] (spD K 1 R__law_table) := fnD T.F__law_table sc__law_table rfl (by decide) (by
  intro sa sls S r S' hR cd A outer s H E hr hgd
  obtain ⟨web_0, rfl, hg, rfl, rfl⟩ := hR
  refine SB.start (δ' := [some (.p (enc web_0)), none, none, none, none]) (rf := (rf__law_table S)) (m := m__law_table web_0) rfl rfl ?_
  refine stepV (Wf := (WR (rf__law_table S))) (δf := fun (rows_141 : (List (List Int))) => [some (.p (enc web_0)), none, some (.ll (encss rows_141)), none, none]) (List.map (fun (q_136 : Int) => (repL web_0.b ([(0 : Int)] : List Int))) (rngI 0 (Int.toNat web_0.b))) (fun (rows_141 : (List (List Int))) => m__law_table_6 web_0 rows_141) (fun (rows_141 : (List (List Int))) => g__law_table_6 web_0 rows_141) (st_m (i := 2) (plcM (fun (q_136 : Int) => (RepOk (List.length ([(0 : Int)] : List Int)) web_0.b)) (fun (q_136 : Int) => [some (.p (enc web_0)), some (.p (enc q_136)), none, none, none]) (fun (q_136 : Int) => (repL web_0.b ([(0 : Int)] : List Int))) (ij_range1 hg.1 (by rfl) T.z_range (ea_cons (ev_ixT rfl (ev_var 0 rfl (pv 0)) ev_int) ea_nil)) hg.2.1 (fun q_136 s H C cl fp => (tg_name (pg_name (i := 1) sc__law_table.nd rfl (by first | exact .inl rfl | exact .inr rfl)))) (fun q_136 hq_137 s H C cl fp => (el_repT hq_137 (el_lst (ds := encs ([(0 : Int)] : List Int)) (ea_cons ev_int ea_nil)) (ev_ixT rfl (ev_var 0 rfl (pv 0)) ev_int))) (by rfl) sc__law_table.nd (blk_of (own := [("u", 1)]) (by rfl)) (by decide) (by rfl) rfl (by rfl))) hg.2.2 (fun rows_141 hg_143 => ?_)
  refine forV (Wf := (WR (rf__law_table S))) (itm := itP1) (fun (n_156 : (List (List Int))) => m__law_table_5 n_156) (fun (n_156 : (List (List Int))) => g__law_table_5 n_156) (nf__law_table_1 web_0 S) (rows_141 : (List (List Int))) (fun (n_146 : (List (List Int))) (q_147 : (T3 Int Int Int)) => g__law_table_4 n_146 q_147) (fun n_146 q_147 => [some (.p (enc web_0)), some (.p (enc q_147.a)), some (.ll (encss n_146)), some (.p (enc q_147.b)), some (.p (enc q_147.c))]) (fun (n_146 : (List (List Int))) (q_147 : (T3 Int Int Int)) => m__law_table_4 n_146 q_147) (ij_T (ev_ixT rfl (ev_var 0 rfl (pv 0)) ev_int)) (And.intro rfl (And.intro rfl trivial)) (fun n_146 q_147 => (tg_tup (ds := [enc q_147.a, enc q_147.b, enc q_147.c]) (by rfl) (tgs_cons (tg_name (pg_name (i := 1) sc__law_table.nd rfl (by first | exact .inl rfl | exact .inr rfl))) (tgs_cons (tg_name (pg_name (i := 3) sc__law_table.nd rfl (by first | exact .inl rfl | exact .inr rfl))) (tgs_cons (tg_name (pg_name (i := 4) sc__law_table.nd rfl (by first | exact .inl rfl | exact .inr rfl))) tgs_nil))))) (fun n_146 q_147 hb_144 => ?_) hg_143.1 hg_143.2 (fun n_156 hg_157 => ?_)
  · refine stepV (Wf := (WN (nf__law_table_1 web_0 S))) (δf := fun (rows_149 : (List (List Int))) => [some (.p (enc web_0)), some (.p (enc q_147.a)), some (.ll (encss rows_149)), some (.p (enc q_147.b)), some (.p (enc q_147.c))]) (setAt2 n_146 q_147.a q_147.b q_147.c) (fun (rows_149 : (List (List Int))) => m__law_table_3 q_147 rows_149) (fun (rows_149 : (List (List Int))) => g__law_table_3 q_147 rows_149) (st_sto2 (i := 2) (tg_rowT (i := 2) rfl (pv 2) (ev_var 1 rfl (pv 1)) (ev_var 3 rfl (pv 3)) hb_144.1 (hpg := fun h1 h2 h3 => pg_sub h1 h2 h3)) (ev_var 4 rfl (pv 4)) (fun h1 h2 => ps_asg h1 h2)) hb_144.2 (fun rows_149 hg_151 => ?_)
    refine stepV (Wf := (WN (nf__law_table_1 web_0 S))) (δf := fun (rows_153 : (List (List Int))) => [some (.p (enc web_0)), some (.p (enc q_147.a)), some (.ll (encss rows_153)), some (.p (enc q_147.b)), some (.p (enc q_147.c))]) (setAt2 rows_149 q_147.b q_147.a q_147.c) (fun (rows_153 : (List (List Int))) => m__law_table_2 rows_153) (fun (rows_153 : (List (List Int))) => g__law_table_2 rows_153) (st_sto2 (i := 2) (tg_rowT (i := 2) rfl (pv 2) (ev_var 3 rfl (pv 3)) (ev_var 1 rfl (pv 1)) hg_151.1 (hpg := fun h1 h2 h3 => pg_sub h1 h2 h3)) (ev_var 4 rfl (pv 4)) (fun h1 h2 => ps_asg h1 h2)) hg_151.2 (fun rows_153 hg_155 => ?_)
    exact sb_nil rfl (And.intro rfl (And.intro rfl trivial))
  · exact sb_retOwn (i := 2) rfl trivial (pv 2) rfl)
set_option maxHeartbeats 0 in
theorem ok_table_of {P : Program} {w : World} {K : PySem.W.Frag} {mg : Str → Option Value} {base : Heap} (T : Kit K mg) : FnG P w K mg base 1 T.a_table_of T.d_table_of ["web"] (spD K 1 R_table_of) := fnD T.F_table_of sc_table_of rfl (by decide) (by
  intro sa sls S r S' hR cd A outer s H E hr hgd
  obtain ⟨web_0, rfl, hg, rfl, rfl⟩ := hR
  refine SB.start (δ' := [some (.p (enc web_0)), none, none, none, none, none, none, none, none]) (rf := (rf_table_of S)) (m := m_table_of web_0) rfl rfl ?_
  refine step0 (Wf := (WR (rf_table_of S))) (st_asg (ev_var 0 rfl (pv 0)) (tg_tup (ds := [enc web_0.a, enc web_0.b, enc web_0.c]) (by rfl) (tgs_cons (tg_name (pg_name (i := 1) sc_table_of.nd rfl (by first | exact .inl rfl | exact .inr rfl))) (tgs_cons (tg_name (pg_name (i := 2) sc_table_of.nd rfl (by first | exact .inl rfl | exact .inr rfl))) (tgs_cons (tg_name (pg_name (i := 3) sc_table_of.nd rfl (by first | exact .inl rfl | exact .inr rfl))) tgs_nil))))) ?_
  have hg_193 := hg
  refine stepV (Wf := (WR (rf_table_of S))) (δf := fun (rows_200 : (List (List Int))) => [some (.p (enc web_0)), some (.p (enc web_0.a)), some (.p (enc web_0.b)), some (.p (enc web_0.c)), none, some (.ll (encss rows_200)), none, none, none]) (List.map (fun (q_195 : Int) => (repL web_0.b ([(0 : Int)] : List Int))) (rngI 0 (Int.toNat web_0.b))) (fun (rows_200 : (List (List Int))) => m_table_of_5 web_0 rows_200) (fun (rows_200 : (List (List Int))) => g_table_of_5 web_0 rows_200) (st_m (i := 5) (plcM (fun (q_195 : Int) => (RepOk (List.length ([(0 : Int)] : List Int)) web_0.b)) (fun (q_195 : Int) => [some (.p (enc web_0)), some (.p (enc web_0.a)), some (.p (enc web_0.b)), some (.p (enc web_0.c)), some (.p (enc q_195)), none, none, none, none]) (fun (q_195 : Int) => (repL web_0.b ([(0 : Int)] : List Int))) (ij_range1 hg_193.1 (by rfl) T.z_range (ea_cons (ev_var 2 rfl (pv 2)) ea_nil)) hg_193.2.1 (fun q_195 s H C cl fp => (tg_name (pg_name (i := 4) sc_table_of.nd rfl (by first | exact .inl rfl | exact .inr rfl)))) (fun q_195 hq_196 s H C cl fp => (el_repT hq_196 (el_lst (ds := encs ([(0 : Int)] : List Int)) (ea_cons ev_int ea_nil)) (ev_var 2 rfl (pv 2)))) (by rfl) sc_table_of.nd (blk_of (own := [("u", 4)]) (by rfl)) (by decide) (by rfl) rfl (by rfl))) hg_193.2.2 (fun rows_200 hg_202 => ?_)
  refine forV (Wf := (WR (rf_table_of S))) (itm := itP1) (fun (n_212 : (List (List Int))) => m_table_of_4 n_212) (fun (n_212 : (List (List Int))) => g_table_of_4 n_212) (nf_table_of_1 web_0 S) (rows_200 : (List (List Int))) (fun (n_205 : (List (List Int))) (q_206 : (T3 Int Int Int)) => g_table_of_3 n_205 q_206) (fun n_205 q_206 => [some (.p (enc web_0)), some (.p (enc web_0.a)), some (.p (enc web_0.b)), some (.p (enc web_0.c)), some (.p (enc q_206.a)), some (.ll (encss n_205)), some (.p (enc q_206.b)), some (.p (enc q_206.c)), none]) (fun (n_205 : (List (List Int))) (q_206 : (T3 Int Int Int)) => m_table_of_3 n_205 q_206) (ij_T (ev_var 3 rfl (pv 3))) (And.intro rfl (And.intro rfl (And.intro rfl (And.intro rfl (And.intro rfl trivial))))) (fun n_205 q_206 => (tg_tup (ds := [enc q_206.a, enc q_206.b, enc q_206.c]) (by rfl) (tgs_cons (tg_name (pg_name (i := 4) sc_table_of.nd rfl (by first | exact .inl rfl | exact .inr rfl))) (tgs_cons (tg_name (pg_name (i := 6) sc_table_of.nd rfl (by first | exact .inl rfl | exact .inr rfl))) (tgs_cons (tg_name (pg_name (i := 7) sc_table_of.nd rfl (by first | exact .inl rfl | exact .inr rfl))) tgs_nil))))) (fun n_205 q_206 hb_203 => ?_) hg_202.1 hg_202.2 (fun n_212 hg_213 => ?_)
  · refine stepV (Wf := (WN (nf_table_of_1 web_0 S))) (δf := fun (rows_209 : (List (List Int))) => [some (.p (enc web_0)), some (.p (enc web_0.a)), some (.p (enc web_0.b)), some (.p (enc web_0.c)), some (.p (enc q_206.a)), some (.ll (encss rows_209)), some (.p (enc q_206.b)), some (.p (enc q_206.c)), none]) (setAt2 (setAt2 n_205 q_206.a q_206.b q_206.c) q_206.b q_206.a q_206.c) (fun (rows_209 : (List (List Int))) => m_table_of_2 rows_209) (fun (rows_209 : (List (List Int))) => g_table_of_2 rows_209) (st_sto22 (i := 5) (by rfl) (ev_tup (ds := [enc q_206.c, enc q_206.c]) (ea_cons (ev_var 7 rfl (pv 7)) (ea_cons (ev_var 7 rfl (pv 7)) ea_nil))) (tg_rowT (i := 5) rfl (pv 5) (ev_var 4 rfl (pv 4)) (ev_var 6 rfl (pv 6)) hb_203.1 (hpg := fun h1 h2 h3 => pg_sub h1 h2 h3)) (tg_rowT (i := 5) rfl (pv 5) (ev_var 6 rfl (pv 6)) (ev_var 4 rfl (pv 4)) hb_203.2.1 (hpg := fun h1 h2 h3 => pg_sub h1 h2 h3))) hb_203.2.2 (fun rows_209 hg_211 => ?_)
    exact sb_nil rfl (And.intro rfl (And.intro rfl (And.intro rfl (And.intro rfl (And.intro rfl trivial)))))
  · exact sb_ret (ev_tuple (by rfl) T.z_tuple (ev_of_new (elc (fun (q_214 : (List Int)) => True) (fun (q_214 : (List Int)) => [some (.p (enc web_0)), some (.p (enc web_0.a)), some (.p (enc web_0.b)), some (.p (enc web_0.c)), none, some (.bb (encss n_212)), none, none, some (.b (encs q_214))]) (fun (q_214 : (List Int)) => q_214) (ij_LL (ev_varLL 5 rfl (pv 5))) (fun _ _ => trivial) (fun q_214 s H C cl fp => (tg_name (pg_name (i := 8) sc_table_of.nd rfl (by first | exact .inl rfl | exact .inr rfl)))) (fun q_214 hq_215 s H C cl fp => (ev_tuple (by rfl) T.z_tuple (ev_varB 8 rfl (pv 8)))) (by rfl) sc_table_of.nd (blk_of (own := [("row", 8)]) (by rfl)) (by decide)))) rfl)
set_option maxHeartbeats 0 in
theorem ok_room_rows {P : Program} {w : World} {K : PySem.W.Frag} {mg : Str → Option Value} {base : Heap} (T : Kit K mg) : FnG P w K mg base 2 T.a_room_rows T.d_room_rows ["web"] (spD K 1 R_room_rows) := fnD T.F_room_rows sc_room_rows rfl (by decide) (by
  intro sa sls S r S' hR cd A outer s H E hr hgd
  obtain ⟨web_0, rfl, hg, rfl, rfl⟩ := hR
  refine SB.start (δ' := [some (.p (enc web_0)), none, none, none, none, none, none]) (rf := (rf_room_rows S)) (m := m_room_rows web_0) rfl rfl ?_
  refine step0 (Wf := (WR (rf_room_rows S))) (st_asg (ev_var 0 rfl (pv 0)) (tg_tup (ds := [enc web_0.a, enc web_0.b, enc web_0.c]) (by rfl) (tgs_cons (tg_name (pg_name (i := 1) sc_room_rows.nd rfl (by first | exact .inl rfl | exact .inr rfl))) (tgs_cons (tg_name (pg_name (i := 2) sc_room_rows.nd rfl (by first | exact .inl rfl | exact .inr rfl))) (tgs_cons (tg_name (pg_name (i := 3) sc_room_rows.nd rfl (by first | exact .inl rfl | exact .inr rfl))) tgs_nil))))) ?_
  have hg_228 := hg
  exact sb_ret (ev_tuple (by rfl) T.z_tuple (ev_of_new (elc (fun (q_230 : (Int × (List Int))) => (RngOk web_0.b)) (fun (q_230 : (Int × (List Int))) => [some (.p (enc web_0)), some (.p (enc web_0.a)), some (.p (enc web_0.b)), some (.p (enc web_0.c)), some (.p (enc q_230.1)), some (.p (enc q_230.2)), none]) (fun (q_230 : (Int × (List Int))) => ((List.map (fun (q_234 : Int) => (if decide (q_234 = q_230.1) = true then (1 : Int) else 0)) (rngI 0 (Int.toNat web_0.b))), q_230.2)) (ij_enum (wlk_t _) (by rfl) T.z_enumerate (ea_cons (ev_call ⟨ok_table_of T, T.G_table_of, T.F_table_of.kp, T.B_table_of⟩ (hr.mono (by decide)) hgd (by rfl) (ea_cons (ev_var 0 rfl (pv 0)) ea_nil) rfl ⟨_, rfl, hg_228.1, rfl, rfl⟩) ea_nil)) hg_228.2 (fun q_230 s H C cl fp => (tg_tupN (by rfl) (tgs_cons (tg_name (pg_name (i := 4) sc_room_rows.nd rfl (by first | exact .inl rfl | exact .inr rfl))) (tgs_cons (tg_name (pg_name (i := 5) sc_room_rows.nd rfl (by first | exact .inl rfl | exact .inr rfl))) tgs_nil)))) (fun q_230 hq_231 s H C cl fp => (ev_tup (ds := [enc (List.map (fun (q_234 : Int) => (if decide (q_234 = q_230.1) = true then (1 : Int) else 0)) (rngI 0 (Int.toNat web_0.b))), enc q_230.2]) (ea_cons (ev_tuple (by rfl) T.z_tuple (ev_of_new (elc (fun (q_234 : Int) => True) (fun (q_234 : Int) => [some (.p (enc web_0)), some (.p (enc web_0.a)), some (.p (enc web_0.b)), some (.p (enc web_0.c)), some (.p (enc q_230.1)), some (.p (enc q_230.2)), some (.p (enc q_234))]) (fun (q_234 : Int) => (if decide (q_234 = q_230.1) = true then (1 : Int) else 0)) (ij_range1 hq_231 (by rfl) T.z_range (ea_cons (ev_var 2 rfl (pv 2)) ea_nil)) (fun _ _ => trivial) (fun q_234 s H C cl fp => (tg_name (pg_name (i := 6) sc_room_rows.nd rfl (by first | exact .inl rfl | exact .inr rfl)))) (fun q_234 hq_235 s H C cl fp => (ev_intB (by rfl) T.z_int (ev_cmp op_eq rc_eqI (ev_var 6 rfl (pv 6)) (ev_var 4 rfl (pv 4)) (nomark _)))) (by rfl) sc_room_rows.nd (blk_of (own := [("u", 6)]) (by rfl)) (by decide)))) (ea_cons (ev_var 5 rfl (pv 5)) ea_nil)))) (by rfl) sc_room_rows.nd (blk_of (own := [("v", 4), ("row", 5)]) (by rfl)) (by decide)))) rfl)
set_option maxHeartbeats 0 in
theorem ok__law_row {P : Program} {w : World} {K : PySem.W.Frag} {mg : Str → Option Value} {base : Heap} (T : Kit K mg) : FnG P w K mg base 2 T.a__law_row T.d__law_row ["source", "p", "n"] (spD K 3 R__law_row) := fnD T.F__law_row sc__law_row rfl (by decide) (by
  intro sa sls S r S' hR cd A outer s H E hr hgd
  obtain ⟨p_0, n_0, rfl, hg, rfl, rfl⟩ := hR
  refine SB.start (δ' := [some (.src), some (.p (enc p_0)), some (.p (enc n_0)), none]) (rf := rf__law_row) (m := m__law_row p_0 n_0 S) rfl rfl ?_
  exact sb_ret (ev_tuple (by rfl) T.z_tuple (ev_of_new (elcS (fun (S_289 : Src) (q_285 : Int) => (g__law_pick p_0 (S_289))) (fun (q_285 : Int) => [some (.src), some (.p (enc p_0)), some (.p (enc n_0)), some (.p (enc q_285))]) (fun (S_289 : Src) (q_285 : Int) => ((m__law_pick p_0 (S_289)).1, (m__law_pick p_0 (S_289)).2)) (ij_range1 hg.1 (by rfl) T.z_range (ea_cons (ev_var 2 rfl (pv 2)) ea_nil)) hg.2 (fun q_285 s H C cl fp => (tg_name (pg_name (i := 3) sc__law_row.nd rfl (by first | exact .inl rfl | exact .inr rfl)))) (fun S_289 q_285 hq_286 s H C cl fp => (ev_call ⟨ok__law_pick T, T.G__law_pick, T.F__law_pick.kp, T.B__law_pick⟩ (hr.mono (by decide)) hgd (by rfl) (ea_cons (ev_varS 0 rfl (pv 0)) (ea_cons (ev_var 1 rfl (pv 1)) ea_nil)) rfl ⟨_, rfl, hq_286, rfl, rfl⟩)) (by rfl) sc__law_row.nd (blk_of (own := [("place", 3)]) (by rfl)) (by decide)))) rfl)
set_option maxHeartbeats 0 in
theorem ok__law_led_row {P : Program} {w : World} {K : PySem.W.Frag} {mg : Str → Option Value} {base : Heap} (T : Kit K mg) : FnG P w K mg base 1 T.a__law_led_row T.d__law_led_row ["p", "rows", "x"] (spD K 3 R__law_led_row) := fnD T.F__law_led_row sc__law_led_row rfl (by decide) (by
  intro sa sls S r S' hR cd A outer s H E hr hgd
  obtain ⟨p_0, rows_0, x_0, rfl, hg, rfl, rfl⟩ := hR
  refine SB.start (δ' := [some (.p (enc p_0)), some (.bb (encss rows_0)), some (.p (enc x_0)), none, none, none]) (rf := (rf__law_led_row S)) (m := m__law_led_row p_0 rows_0 x_0) rfl rfl ?_
  exact sb_ret (ev_tuple (by rfl) T.z_tuple (ev_of_new (elc (fun (q_317 : (List Int)) => (∀ q_320 ∈ (List.zip q_317 x_0), (CMul q_320.1 q_320.2)) ∧ (0 < p_0)) (fun (q_317 : (List Int)) => [some (.p (enc p_0)), some (.bb (encss rows_0)), some (.p (enc x_0)), some (.b (encs q_317)), none, none]) (fun (q_317 : (List Int)) => ((List.sum (List.map (fun (q_320 : (Int × Int)) => (q_320.1 * q_320.2)) (List.zip q_317 x_0))) % p_0)) (ij_LL (ev_varBB 1 rfl (pv 1))) hg (fun q_317 s H C cl fp => (tg_name (pg_name (i := 3) sc__law_led_row.nd rfl (by first | exact .inl rfl | exact .inr rfl)))) (fun q_317 hq_318 s H C cl fp => (ev_mod hq_318.2 (ev_intI (by rfl) T.z_int (ev_sum (by rfl) (by rfl) T.z_sum (ev_of_new (elc (fun (q_320 : (Int × Int)) => (CMul q_320.1 q_320.2)) (fun (q_320 : (Int × Int)) => [some (.p (enc p_0)), some (.bb (encss rows_0)), some (.p (enc x_0)), some (.b (encs q_317)), some (.p (enc q_320.1)), some (.p (enc q_320.2))]) (fun (q_320 : (Int × Int)) => (q_320.1 * q_320.2)) (ij_zip (wlk_l _) (wlk_t _) (by rfl) T.z_zip (ea_cons (ev_varB 3 rfl (pv 3)) (ea_cons (ev_var 2 rfl (pv 2)) ea_nil))) hq_318.1 (fun q_320 s H C cl fp => (tg_tupN (by rfl) (tgs_cons (tg_name (pg_name (i := 4) sc__law_led_row.nd rfl (by first | exact .inl rfl | exact .inr rfl))) (tgs_cons (tg_name (pg_name (i := 5) sc__law_led_row.nd rfl (by first | exact .inl rfl | exact .inr rfl))) tgs_nil)))) (fun q_320 hq_321 s H C cl fp => (ev_mul hq_321 (ev_var 4 rfl (pv 4)) (ev_var 5 rfl (pv 5)))) (by rfl) sc__law_led_row.nd (blk_of (own := [("a", 4), ("b", 5)]) (by rfl)) (by decide))))) (ev_var 0 rfl (pv 0)))) (by rfl) sc__law_led_row.nd (blk_of (own := [("row", 3)]) (by rfl)) (by decide)))) rfl)
set_option maxHeartbeats 0 in
theorem ok_row_times {P : Program} {w : World} {K : PySem.W.Frag} {mg : Str → Option Value} {base : Heap} (T : Kit K mg) : FnG P w K mg base 1 T.a_row_times T.d_row_times ["p", "c", "row"] (spD K 3 R_row_times) := fnD T.F_row_times sc_row_times rfl (by decide) (by
  intro sa sls S r S' hR cd A outer s H E hr hgd
  obtain ⟨p_0, c_0, row_0, rfl, hg, rfl, rfl⟩ := hR
  refine SB.start (δ' := [some (.p (enc p_0)), some (.p (enc c_0)), some (.p (enc row_0)), none]) (rf := (rf_row_times S)) (m := m_row_times p_0 c_0 row_0) rfl rfl ?_
  exact sb_ret (ev_tuple (by rfl) T.z_tuple (ev_of_new (elc (fun (q_351 : Int) => (CMul c_0 q_351) ∧ (0 < p_0)) (fun (q_351 : Int) => [some (.p (enc p_0)), some (.p (enc c_0)), some (.p (enc row_0)), some (.p (enc q_351))]) (fun (q_351 : Int) => ((c_0 * q_351) % p_0)) (ij_T (ev_var 2 rfl (pv 2))) hg (fun q_351 s H C cl fp => (tg_name (pg_name (i := 3) sc_row_times.nd rfl (by first | exact .inl rfl | exact .inr rfl)))) (fun q_351 hq_352 s H C cl fp => (ev_mod hq_352.2 (ev_mul hq_352.1 (ev_var 1 rfl (pv 1)) (ev_var 3 rfl (pv 3))) (ev_var 0 rfl (pv 0)))) (by rfl) sc_row_times.nd (blk_of (own := [("x", 3)]) (by rfl)) (by decide)))) rfl)
set_option maxHeartbeats 0 in
theorem ok_row_sum {P : Program} {w : World} {K : PySem.W.Frag} {mg : Str → Option Value} {base : Heap} (T : Kit K mg) : FnG P w K mg base 1 T.a_row_sum T.d_row_sum ["p", "one", "other"] (spD K 3 R_row_sum) := fnD T.F_row_sum sc_row_sum rfl (by decide) (by
  intro sa sls S r S' hR cd A outer s H E hr hgd
  obtain ⟨p_0, one_0, other_0, rfl, hg, rfl, rfl⟩ := hR
  refine SB.start (δ' := [some (.p (enc p_0)), some (.p (enc one_0)), some (.p (enc other_0)), none, none]) (rf := (rf_row_sum S)) (m := m_row_sum p_0 one_0 other_0) rfl rfl ?_
  exact sb_ret (ev_tuple (by rfl) T.z_tuple (ev_of_new (elc (fun (q_371 : (Int × Int)) => (0 < p_0)) (fun (q_371 : (Int × Int)) => [some (.p (enc p_0)), some (.p (enc one_0)), some (.p (enc other_0)), some (.p (enc q_371.1)), some (.p (enc q_371.2))]) (fun (q_371 : (Int × Int)) => ((q_371.1 + q_371.2) % p_0)) (ij_zip (wlk_t _) (wlk_t _) (by rfl) T.z_zip (ea_cons (ev_var 1 rfl (pv 1)) (ea_cons (ev_var 2 rfl (pv 2)) ea_nil))) hg (fun q_371 s H C cl fp => (tg_tupN (by rfl) (tgs_cons (tg_name (pg_name (i := 3) sc_row_sum.nd rfl (by first | exact .inl rfl | exact .inr rfl))) (tgs_cons (tg_name (pg_name (i := 4) sc_row_sum.nd rfl (by first | exact .inl rfl | exact .inr rfl))) tgs_nil)))) (fun q_371 hq_372 s H C cl fp => (ev_mod hq_372 (ev_add (ev_var 3 rfl (pv 3)) (ev_var 4 rfl (pv 4))) (ev_var 0 rfl (pv 0)))) (by rfl) sc_row_sum.nd (blk_of (own := [("x", 3), ("y", 4)]) (by rfl)) (by decide)))) rfl)
set_option maxHeartbeats 0 in
theorem ok_row_dot {P : Program} {w : World} {K : PySem.W.Frag} {mg : Str → Option Value} {base : Heap} (T : Kit K mg) : FnG P w K mg base 1 T.a_row_dot T.d_row_dot ["p", "one", "other"] (spD K 3 R_row_dot) := fnD T.F_row_dot sc_row_dot rfl (by decide) (by
  intro sa sls S r S' hR cd A outer s H E hr hgd
  obtain ⟨p_0, one_0, other_0, rfl, hg, rfl, rfl⟩ := hR
  refine SB.start (δ' := [some (.p (enc p_0)), some (.p (enc one_0)), some (.p (enc other_0)), none, none]) (rf := (rf_row_dot S)) (m := m_row_dot p_0 one_0 other_0) rfl rfl ?_
  exact sb_ret (ev_mod hg.2 (ev_sum (by rfl) (by rfl) T.z_sum (ev_of_new (elc (fun (q_407 : (Int × Int)) => (CMul q_407.1 q_407.2)) (fun (q_407 : (Int × Int)) => [some (.p (enc p_0)), some (.p (enc one_0)), some (.p (enc other_0)), some (.p (enc q_407.1)), some (.p (enc q_407.2))]) (fun (q_407 : (Int × Int)) => (q_407.1 * q_407.2)) (ij_zip (wlk_t _) (wlk_t _) (by rfl) T.z_zip (ea_cons (ev_var 1 rfl (pv 1)) (ea_cons (ev_var 2 rfl (pv 2)) ea_nil))) hg.1 (fun q_407 s H C cl fp => (tg_tupN (by rfl) (tgs_cons (tg_name (pg_name (i := 3) sc_row_dot.nd rfl (by first | exact .inl rfl | exact .inr rfl))) (tgs_cons (tg_name (pg_name (i := 4) sc_row_dot.nd rfl (by first | exact .inl rfl | exact .inr rfl))) tgs_nil)))) (fun q_407 hq_408 s H C cl fp => (ev_mul hq_408 (ev_var 3 rfl (pv 3)) (ev_var 4 rfl (pv 4)))) (by rfl) sc_row_dot.nd (blk_of (own := [("x", 3), ("y", 4)]) (by rfl)) (by decide)))) (ev_var 0 rfl (pv 0))) rfl)
set_option maxHeartbeats 0 in
theorem ok_is_in_room {P : Program} {w : World} {K : PySem.W.Frag} {mg : Str → Option Value} {base : Heap} (T : Kit K mg) : FnG P w K mg base 2 T.a_is_in_room T.d_is_in_room ["web", "member"] (spD K 2 R_is_in_room) := fnD T.F_is_in_room sc_is_in_room rfl (by decide) (by
  intro sa sls S r S' hR cd A outer s H E hr hgd
  obtain ⟨web_0, member_0, rfl, hg, rfl, rfl⟩ := hR
  refine SB.start (δ' := [some (.p (enc web_0)), some (.p (enc member_0)), none, none, none, none]) (rf := (rf_is_in_room S)) (m := m_is_in_room web_0 member_0) rfl rfl ?_
  refine step0 (Wf := (WR (rf_is_in_room S))) (st_asg (ev_var 1 rfl (pv 1)) (tg_tup (ds := [enc member_0.1, enc member_0.2]) (by rfl) (tgs_cons (tg_name (pg_name (i := 2) sc_is_in_room.nd rfl (by first | exact .inl rfl | exact .inr rfl))) (tgs_cons (tg_name (pg_name (i := 3) sc_is_in_room.nd rfl (by first | exact .inl rfl | exact .inr rfl))) tgs_nil)))) ?_
  have hg_418 := hg
  exact sb_ret (ev_all (by rfl) (by rfl) T.z_all (ev_of_new (elc (fun (q_420 : ((List Int) × Int)) => (g_row_dot web_0.a q_420.1 member_0.1)) (fun (q_420 : ((List Int) × Int)) => [some (.p (enc web_0)), some (.p (enc member_0)), some (.p (enc member_0.1)), some (.p (enc member_0.2)), some (.p (enc q_420.1)), some (.p (enc q_420.2))]) (fun (q_420 : ((List Int) × Int)) => decide ((m_row_dot web_0.a q_420.1 member_0.1) = q_420.2)) (ij_zip (wlk_t _) (wlk_t _) (by rfl) T.z_zip (ea_cons (ev_call ⟨ok_table_of T, T.G_table_of, T.F_table_of.kp, T.B_table_of⟩ (hr.mono (by decide)) hgd (by rfl) (ea_cons (ev_var 0 rfl (pv 0)) ea_nil) rfl ⟨_, rfl, hg_418.1, rfl, rfl⟩) (ea_cons (ev_var 3 rfl (pv 3)) ea_nil))) hg_418.2 (fun q_420 s H C cl fp => (tg_tupN (by rfl) (tgs_cons (tg_name (pg_name (i := 4) sc_is_in_room.nd rfl (by first | exact .inl rfl | exact .inr rfl))) (tgs_cons (tg_name (pg_name (i := 5) sc_is_in_room.nd rfl (by first | exact .inl rfl | exact .inr rfl))) tgs_nil)))) (fun q_420 hq_421 s H C cl fp => (ev_cmp op_eq rc_eqI (ev_call ⟨ok_row_dot T, T.G_row_dot, T.F_row_dot.kp, T.B_row_dot⟩ (hr.mono (by decide)) hgd (by rfl) (ea_cons (ev_ixT rfl (ev_var 0 rfl (pv 0)) ev_int) (ea_cons (ev_var 4 rfl (pv 4)) (ea_cons (ev_var 2 rfl (pv 2)) ea_nil))) rfl ⟨_, _, _, rfl, hq_421, rfl, rfl⟩) (ev_var 5 rfl (pv 5)) (nomark _))) (by rfl) sc_is_in_room.nd (blk_of (own := [("row", 4), ("number", 5)]) (by rfl)) (by decide)))) rfl)
set_option maxHeartbeats 0 in
theorem ok_form_of {P : Program} {w : World} {K : PySem.W.Frag} {mg : Str → Option Value} {base : Heap} (T : Kit K mg) : FnG P w K mg base 2 T.a_form_of T.d_form_of ["p", "one", "other"] (spD K 3 R_form_of) := fnD T.F_form_of sc_form_of rfl (by decide) (by
  intro sa sls S r S' hR cd A outer s H E hr hgd
  obtain ⟨p_0, one_0, other_0, rfl, hg, rfl, rfl⟩ := hR
  refine SB.start (δ' := [some (.p (enc p_0)), some (.p (enc one_0)), some (.p (enc other_0))]) (rf := (rf_form_of S)) (m := m_form_of p_0 one_0 other_0) rfl rfl ?_
  exact sb_ret (ev_mod hg.2.2 (ev_sub (ev_call ⟨ok_row_dot T, T.G_row_dot, T.F_row_dot.kp, T.B_row_dot⟩ (hr.mono (by decide)) hgd (by rfl) (ea_cons (ev_var 0 rfl (pv 0)) (ea_cons (ev_ixT rfl (ev_var 1 rfl (pv 1)) ev_int) (ea_cons (ev_ixT rfl (ev_var 2 rfl (pv 2)) ev_int) ea_nil))) rfl ⟨_, _, _, rfl, hg.1, rfl, rfl⟩) (ev_call ⟨ok_row_dot T, T.G_row_dot, T.F_row_dot.kp, T.B_row_dot⟩ (hr.mono (by decide)) hgd (by rfl) (ea_cons (ev_var 0 rfl (pv 0)) (ea_cons (ev_ixT rfl (ev_var 1 rfl (pv 1)) ev_int) (ea_cons (ev_ixT rfl (ev_var 2 rfl (pv 2)) ev_int) ea_nil))) rfl ⟨_, _, _, rfl, hg.2.1, rfl, rfl⟩)) (ev_var 0 rfl (pv 0))) rfl)
set_option maxHeartbeats 0 in
theorem ok__law_form {P : Program} {w : World} {K : PySem.W.Frag} {mg : Str → Option Value} {base : Heap} (T : Kit K mg) : FnG P w K mg base 1 T.a__law_form T.d__law_form ["p", "one", "other"] (spD K 3 R__law_form) := fnD T.F__law_form sc__law_form rfl (by decide) (by
  intro sa sls S r S' hR cd A outer s H E hr hgd
  obtain ⟨p_0, one_0, other_0, rfl, hg, rfl, rfl⟩ := hR
  refine SB.start (δ' := [some (.p (enc p_0)), some (.p (enc one_0)), some (.p (enc other_0)), none, none, none, none, none]) (rf := (rf__law_form S)) (m := m__law_form p_0 one_0 other_0) rfl rfl ?_
  refine stepV (Wf := (WR (rf__law_form S))) (δf := fun (total_473 : Int) => [some (.p (enc p_0)), some (.p (enc one_0)), some (.p (enc other_0)), some (.p (enc total_473)), none, none, none, none]) (0 : Int) (fun (total_473 : Int) => m__law_form_5 p_0 one_0 other_0 total_473) (fun (total_473 : Int) => g__law_form_5 p_0 one_0 other_0 total_473) (st_p (i := 3) (ps_set (i := 3) sc__law_form.nd rfl (by first | exact .inl rfl | exact .inr rfl) ev_int)) hg (fun total_473 hg_475 => ?_)
  refine forV (Wf := (WR (rf__law_form S))) (itm := itP4) (fun (n_486 : Int) => m__law_form_4 p_0 n_486) (fun (n_486 : Int) => g__law_form_4 p_0 n_486) (nf__law_form_1 p_0 one_0 other_0 S) (total_473 : Int) (fun (n_479 : Int) (q_480 : (((Int × Int) × Int) × Int)) => g__law_form_3 n_479 q_480) (fun n_479 q_480 => [some (.p (enc p_0)), some (.p (enc one_0)), some (.p (enc other_0)), some (.p (enc n_479)), some (.p (enc q_480.1.1.1)), some (.p (enc q_480.1.1.2)), some (.p (enc q_480.1.2)), some (.p (enc q_480.2))]) (fun (n_479 : Int) (q_480 : (((Int × Int) × Int) × Int)) => m__law_form_3 n_479 q_480) (ij_zip4 (wlk_t _) (wlk_t _) (wlk_t _) (wlk_t _) hg_475.1 (by rfl) T.z_zip (ea_cons (ev_ixT rfl (ev_var 1 rfl (pv 1)) ev_int) (ea_cons (ev_ixT rfl (ev_var 1 rfl (pv 1)) ev_int) (ea_cons (ev_ixT rfl (ev_var 2 rfl (pv 2)) ev_int) (ea_cons (ev_ixT rfl (ev_var 2 rfl (pv 2)) ev_int) ea_nil))))) (And.intro rfl (And.intro rfl (And.intro rfl (And.intro rfl trivial)))) (fun n_479 q_480 => (tg_tupN (by rfl) (tgs_cons (tg_name (pg_name (i := 4) sc__law_form.nd rfl (by first | exact .inl rfl | exact .inr rfl))) (tgs_cons (tg_name (pg_name (i := 5) sc__law_form.nd rfl (by first | exact .inl rfl | exact .inr rfl))) (tgs_cons (tg_name (pg_name (i := 6) sc__law_form.nd rfl (by first | exact .inl rfl | exact .inr rfl))) (tgs_cons (tg_name (pg_name (i := 7) sc__law_form.nd rfl (by first | exact .inl rfl | exact .inr rfl))) tgs_nil)))))) (fun n_479 q_480 hb_477 => ?_) hg_475.2.1 hg_475.2.2 (fun n_486 hg_487 => ?_)
  · refine stepV (Wf := (WN (nf__law_form_1 p_0 one_0 other_0 S))) (δf := fun (total_483 : Int) => [some (.p (enc p_0)), some (.p (enc one_0)), some (.p (enc other_0)), some (.p (enc total_483)), some (.p (enc q_480.1.1.1)), some (.p (enc q_480.1.1.2)), some (.p (enc q_480.1.2)), some (.p (enc q_480.2))]) ((n_479 + (q_480.1.1.1 * q_480.2)) - (q_480.1.1.2 * q_480.1.2)) (fun (total_483 : Int) => m__law_form_2 total_483) (fun (total_483 : Int) => g__law_form_2 total_483) (st_p (i := 3) (ps_set (i := 3) sc__law_form.nd rfl (by first | exact .inl rfl | exact .inr rfl) (ev_sub (ev_add (ev_var 3 rfl (pv 3)) (ev_mul hb_477.1 (ev_var 4 rfl (pv 4)) (ev_var 7 rfl (pv 7)))) (ev_mul hb_477.2.1 (ev_var 5 rfl (pv 5)) (ev_var 6 rfl (pv 6)))))) hb_477.2.2 (fun total_483 hg_485 => ?_)
    exact sb_nil rfl (And.intro rfl (And.intro rfl (And.intro rfl (And.intro rfl trivial))))
  · exact sb_ret (ev_mod hg_487 (ev_intI (by rfl) T.z_int (ev_var 3 rfl (pv 3))) (ev_var 0 rfl (pv 0))) rfl)
set_option maxHeartbeats 0 in
theorem ok__law_all {P : Program} {w : World} {K : PySem.W.Frag} {mg : Str → Option Value} {base : Heap} (T : Kit K mg) : FnG P w K mg base 1 T.a__law_all T.d__law_all ["p", "n"] (spD K 2 R__law_all) := fnD T.F__law_all sc__law_all rfl (by decide) (by
  intro sa sls S r S' hR cd A outer s H E hr hgd
  obtain ⟨p_0, n_0, rfl, hg, rfl, rfl⟩ := hR
  refine SB.start (δ' := [some (.p (enc p_0)), some (.p (enc n_0)), none, none, none, none, none]) (rf := (rf__law_all S)) (m := m__law_all p_0 n_0) rfl rfl ?_
  refine stepV (Wf := (WR (rf__law_all S))) (δf := fun (found_567 : (List (List Int))) => [some (.p (enc p_0)), some (.p (enc n_0)), some (.l (encs found_567)), none, none, none, none]) ([[]] : List (List (Int))) (fun (found_567 : (List (List Int))) => m__law_all_10 p_0 n_0 found_567) (fun (found_567 : (List (List Int))) => g__law_all_10 p_0 n_0 found_567) (st_l (i := 2) (ps_set (i := 2) sc__law_all.nd rfl (by first | exact .inl rfl | exact .inr rfl) (el_lst (ds := encs ([[]] : List (List (Int)))) (ea_cons (ev_tup (ds := []) ea_p0) ea_nil)))) hg (fun found_567 hg_569 => ?_)
  refine forV (Wf := (WR (rf__law_all S))) (itm := itP1) (fun (n_598 : (List (List Int))) => m__law_all_9 n_598) (fun (n_598 : (List (List Int))) => g__law_all_9 n_598) (nf__law_all_1 p_0 n_0 S) (found_567 : (List (List Int))) (fun (n_573 : (List (List Int))) (q_574 : Int) => g__law_all_8 p_0 n_573 q_574) (fun n_573 q_574 => [some (.p (enc p_0)), some (.p (enc n_0)), some (.l (encs n_573)), some (.p (enc q_574)), none, none, none]) (fun (n_573 : (List (List Int))) (q_574 : Int) => m__law_all_8 p_0 n_573 q_574) (ij_range1 hg_569.1 (by rfl) T.z_range (ea_cons (ev_var 1 rfl (pv 1)) ea_nil)) (And.intro rfl (And.intro rfl (And.intro rfl trivial))) (fun n_573 q_574 => (tg_name (pg_name (i := 3) sc__law_all.nd rfl (by first | exact .inl rfl | exact .inr rfl)))) (fun n_573 q_574 hb_571 => ?_) hg_569.2.1 hg_569.2.2 (fun n_598 hg_599 => ?_)
  · refine stepV (Wf := (WN (nf__law_all_1 p_0 n_0 S))) (δf := fun (late_576 : (List (List Int))) => [some (.p (enc p_0)), some (.p (enc n_0)), some (.l (encs n_573)), some (.p (enc q_574)), some (.l (encs late_576)), none, none]) ([] : List (List Int)) (fun (late_576 : (List (List Int))) => m__law_all_7 p_0 n_573 late_576) (fun (late_576 : (List (List Int))) => g__law_all_7 p_0 n_573 late_576) (st_l (i := 4) (ps_set (i := 4) sc__law_all.nd rfl (by first | exact .inl rfl | exact .inr rfl) (el_lst (ds := encs ([] : List (List Int))) ea_nil))) hb_571 (fun late_576 hg_578 => ?_)
    refine sb_frz 2 rfl ?_
    refine forV (Wf := (WN (nf__law_all_1 p_0 n_0 S))) (itm := itP1) (fun (n_593 : (List (List Int))) => m__law_all_6 n_593) (fun (n_593 : (List (List Int))) => g__law_all_6 n_593) (nf__law_all_2 p_0 n_0 n_573 q_574 S) (late_576 : (List (List Int))) (fun (n_581 : (List (List Int))) (q_582 : (List (Int))) => g__law_all_4 p_0 n_581 q_582) (fun n_581 q_582 => [some (.p (enc p_0)), some (.p (enc n_0)), some (.b (encs n_573)), some (.p (enc q_574)), some (.l (encs n_581)), some (.p (enc q_582)), none]) (fun (n_581 : (List (List Int))) (q_582 : (List (Int))) => m__law_all_4 p_0 n_581 q_582) (ij_L (ev_varB 2 rfl (pv 2))) (And.intro rfl (And.intro rfl (And.intro rfl (And.intro rfl (And.intro rfl trivial))))) (fun n_581 q_582 => (tg_name (pg_name (i := 5) sc__law_all.nd rfl (by first | exact .inl rfl | exact .inr rfl)))) (fun n_581 q_582 hb_579 => ?_) hg_578.1 hg_578.2 (fun n_593 hg_594 => ?_)
    · refine stepV (Wf := (WN (nf__law_all_2 p_0 n_0 n_573 q_574 S))) (δf := fun (late_590 : (List (List Int))) => [some (.p (enc p_0)), some (.p (enc n_0)), some (.b (encs n_573)), some (.p (enc q_574)), some (.l (encs late_590)), some (.p (enc q_582)), none]) (n_581 ++ (List.map (fun (q_584 : Int) => (q_582 ++ [(T1.mk q_584).a])) (rngI 0 (Int.toNat p_0)))) (fun (late_590 : (List (List Int))) => m__law_all_3 late_590) (fun (late_590 : (List (List Int))) => g__law_all_3 late_590) (st_l (i := 4) (ps_set (i := 4) sc__law_all.nd rfl (by first | exact .inl rfl | exact .inr rfl) (el_catB hb_579.2.2.1 (ec_var 4 rfl (pv 4)) (ec_new (elc (fun (q_584 : Int) => ((List.length q_582 : Int) + (List.length [(T1.mk q_584).a] : Int) ≤ 16777216)) (fun (q_584 : Int) => [some (.p (enc p_0)), some (.p (enc n_0)), some (.b (encs n_573)), some (.p (enc q_574)), some (.b (encs n_581)), some (.p (enc q_582)), some (.p (enc q_584))]) (fun (q_584 : Int) => (q_582 ++ [(T1.mk q_584).a])) (ij_range1 hb_579.1 (by rfl) T.z_range (ea_cons (ev_var 0 rfl (pv 0)) ea_nil)) hb_579.2.1 (fun q_584 s H C cl fp => (tg_name (pg_name (i := 6) sc__law_all.nd rfl (by first | exact .inl rfl | exact .inr rfl)))) (fun q_584 hq_585 s H C cl fp => (ev_catT hq_585 (ev_var 5 rfl (pv 5)) (ev_cast (x := ((T1.mk q_584) : (T1 Int))) (y := ([(T1.mk q_584).a] : (List Int))) (rfl) (ev_tup (ds := [enc q_584]) (ea_cons (ev_var 6 rfl (pv 6)) ea_nil))))) (by rfl) sc__law_all.nd (blk_of (own := [("x", 6)]) (by rfl)) (by decide)))))) hb_579.2.2.2 (fun late_590 hg_592 => ?_)
      exact sb_nil rfl (And.intro rfl (And.intro rfl (And.intro rfl (And.intro rfl (And.intro rfl trivial)))))
    · refine stepV (Wf := (WN (nf__law_all_1 p_0 n_0 S))) (δf := fun (found_595 : (List (List Int))) => [some (.p (enc p_0)), some (.p (enc n_0)), some (.l (encs found_595)), some (.p (enc q_574)), some (.l (encs n_593)), none, none]) (n_593) (fun (found_595 : (List (List Int))) => m__law_all_5 found_595) (fun (found_595 : (List (List Int))) => g__law_all_5 found_595) (st_l (i := 2) (ps_set (i := 2) sc__law_all.nd rfl (by first | exact .inl rfl | exact .inr rfl) (el_listB (by rfl) T.z_list (ev_varL 4 rfl (pv 4))))) hg_594 (fun found_595 hg_597 => ?_)
      exact sb_nil rfl (And.intro rfl (And.intro rfl (And.intro rfl trivial)))
  · exact sb_retOwn (i := 2) rfl trivial (pv 2) rfl)
set_option maxHeartbeats 0 in
theorem ok_changed_member {P : Program} {w : World} {K : PySem.W.Frag} {mg : Str → Option Value} {base : Heap} (T : Kit K mg) : FnG P w K mg base 1 T.a_changed_member T.d_changed_member ["p", "change", "member"] (spD K 3 R_changed_member) := fnD T.F_changed_member sc_changed_member rfl (by decide) (by
  intro sa sls S r S' hR cd A outer s H E hr hgd
  obtain ⟨p_0, change_0, member_0, rfl, hg, rfl, rfl⟩ := hR
  refine SB.start (δ' := [some (.p (enc p_0)), some (.p (enc change_0)), some (.p (enc member_0)), none, none, none, none, none, none, none, none, none, none, none, none]) (rf := (rf_changed_member S)) (m := m_changed_member p_0 change_0 member_0) rfl rfl ?_
  refine step0 (Wf := (WR (rf_changed_member S))) (st_asg (ev_var 2 rfl (pv 2)) (tg_tup (ds := [enc member_0.1, enc member_0.2]) (by rfl) (tgs_cons (tg_name (pg_name (i := 3) sc_changed_member.nd rfl (by first | exact .inl rfl | exact .inr rfl))) (tgs_cons (tg_name (pg_name (i := 4) sc_changed_member.nd rfl (by first | exact .inl rfl | exact .inr rfl))) tgs_nil)))) ?_
  have hg_765 := hg
  refine stepV (Wf := (WR (rf_changed_member S))) (δf := fun (first_773 : (List Int)) => [some (.p (enc p_0)), some (.p (enc change_0)), some (.p (enc member_0)), some (.p (enc member_0.1)), some (.p (enc member_0.2)), none, none, none, none, none, some (.b (encs first_773)), none, none, none, none]) (List.map (fun (q_766 : ((((Int × Int) × (Int × Int)) × Int) × Int)) => (((q_766.1.1.1.1 * q_766.1.2) + (q_766.1.1.1.2 * q_766.2)) % p_0)) (List.zip (List.zip change_0 member_0.1) member_0.2)) (fun (first_773 : (List Int)) => m_changed_member_2 p_0 change_0 member_0 first_773) (fun (first_773 : (List Int)) => g_changed_member_2 p_0 change_0 member_0 first_773) (st_lB (i := 10) (plc (fun (q_766 : ((((Int × Int) × (Int × Int)) × Int) × Int)) => (CMul q_766.1.1.1.1 q_766.1.2) ∧ (CMul q_766.1.1.1.2 q_766.2) ∧ (0 < p_0)) (fun (q_766 : ((((Int × Int) × (Int × Int)) × Int) × Int)) => [some (.p (enc p_0)), some (.p (enc change_0)), some (.p (enc member_0)), some (.p (enc member_0.1)), some (.p (enc member_0.2)), some (.p (enc q_766.1.1.1.1)), some (.p (enc q_766.1.1.1.2)), some (.p (enc q_766.1.1.2)), some (.p (enc q_766.1.2)), some (.p (enc q_766.2)), none, none, none, none, none]) (fun (q_766 : ((((Int × Int) × (Int × Int)) × Int) × Int)) => (((q_766.1.1.1.1 * q_766.1.2) + (q_766.1.1.1.2 * q_766.2)) % p_0)) (ij_zip3 (wlk_t _) (wlk_t _) (wlk_t _) (by rfl) T.z_zip (ea_cons (ev_var 1 rfl (pv 1)) (ea_cons (ev_var 3 rfl (pv 3)) (ea_cons (ev_var 4 rfl (pv 4)) ea_nil)))) hg_765.1 (fun q_766 s H C cl fp => (tg_tupN (by rfl) (tgs_cons (tg_tup (ds := [enc q_766.1.1.1, enc q_766.1.1.2]) (by rfl) (tgs_cons (tg_tup (ds := [enc q_766.1.1.1.1, enc q_766.1.1.1.2]) (by rfl) (tgs_cons (tg_name (pg_name (i := 5) sc_changed_member.nd rfl (by first | exact .inl rfl | exact .inr rfl))) (tgs_cons (tg_name (pg_name (i := 6) sc_changed_member.nd rfl (by first | exact .inl rfl | exact .inr rfl))) tgs_nil))) (tgs_cons (tg_name (pg_name (i := 7) sc_changed_member.nd rfl (by first | exact .inl rfl | exact .inr rfl))) tgs_nil))) (tgs_cons (tg_name (pg_name (i := 8) sc_changed_member.nd rfl (by first | exact .inl rfl | exact .inr rfl))) (tgs_cons (tg_name (pg_name (i := 9) sc_changed_member.nd rfl (by first | exact .inl rfl | exact .inr rfl))) tgs_nil))))) (fun q_766 hq_767 s H C cl fp => (ev_mod hq_767.2.2 (ev_add (ev_mul hq_767.1 (ev_var 5 rfl (pv 5)) (ev_var 8 rfl (pv 8))) (ev_mul hq_767.2.1 (ev_var 6 rfl (pv 6)) (ev_var 9 rfl (pv 9)))) (ev_var 0 rfl (pv 0)))) (by rfl) sc_changed_member.nd (blk_of (own := [("a", 5), ("b", 6), ("late", 7), ("u", 8), ("v", 9)]) (by rfl)) (by decide) (by rfl) rfl (by rfl))) hg_765.2 (fun first_773 hg_775 => ?_)
  refine stepV (Wf := (WR (rf_changed_member S))) (δf := fun (second_783 : (List Int)) => [some (.p (enc p_0)), some (.p (enc change_0)), some (.p (enc member_0)), some (.p (enc member_0.1)), some (.p (enc member_0.2)), none, none, none, none, none, some (.b (encs first_773)), none, none, none, some (.b (encs second_783))]) (List.map (fun (q_776 : ((((Int × Int) × (Int × Int)) × Int) × Int)) => (((q_776.1.1.2.1 * q_776.1.2) + (q_776.1.1.2.2 * q_776.2)) % p_0)) (List.zip (List.zip change_0 member_0.1) member_0.2)) (fun (second_783 : (List Int)) => m_changed_member_1 first_773 second_783) (fun (second_783 : (List Int)) => g_changed_member_1 first_773 second_783) (st_lB (i := 14) (plc (fun (q_776 : ((((Int × Int) × (Int × Int)) × Int) × Int)) => (CMul q_776.1.1.2.1 q_776.1.2) ∧ (CMul q_776.1.1.2.2 q_776.2) ∧ (0 < p_0)) (fun (q_776 : ((((Int × Int) × (Int × Int)) × Int) × Int)) => [some (.p (enc p_0)), some (.p (enc change_0)), some (.p (enc member_0)), some (.p (enc member_0.1)), some (.p (enc member_0.2)), none, none, none, some (.p (enc q_776.1.2)), some (.p (enc q_776.2)), some (.b (encs first_773)), some (.p (enc q_776.1.1.1)), some (.p (enc q_776.1.1.2.1)), some (.p (enc q_776.1.1.2.2)), none]) (fun (q_776 : ((((Int × Int) × (Int × Int)) × Int) × Int)) => (((q_776.1.1.2.1 * q_776.1.2) + (q_776.1.1.2.2 * q_776.2)) % p_0)) (ij_zip3 (wlk_t _) (wlk_t _) (wlk_t _) (by rfl) T.z_zip (ea_cons (ev_var 1 rfl (pv 1)) (ea_cons (ev_var 3 rfl (pv 3)) (ea_cons (ev_var 4 rfl (pv 4)) ea_nil)))) hg_775.1 (fun q_776 s H C cl fp => (tg_tupN (by rfl) (tgs_cons (tg_tup (ds := [enc q_776.1.1.1, enc q_776.1.1.2]) (by rfl) (tgs_cons (tg_name (pg_name (i := 11) sc_changed_member.nd rfl (by first | exact .inl rfl | exact .inr rfl))) (tgs_cons (tg_tup (ds := [enc q_776.1.1.2.1, enc q_776.1.1.2.2]) (by rfl) (tgs_cons (tg_name (pg_name (i := 12) sc_changed_member.nd rfl (by first | exact .inl rfl | exact .inr rfl))) (tgs_cons (tg_name (pg_name (i := 13) sc_changed_member.nd rfl (by first | exact .inl rfl | exact .inr rfl))) tgs_nil))) tgs_nil))) (tgs_cons (tg_name (pg_name (i := 8) sc_changed_member.nd rfl (by first | exact .inl rfl | exact .inr rfl))) (tgs_cons (tg_name (pg_name (i := 9) sc_changed_member.nd rfl (by first | exact .inl rfl | exact .inr rfl))) tgs_nil))))) (fun q_776 hq_777 s H C cl fp => (ev_mod hq_777.2.2 (ev_add (ev_mul hq_777.1 (ev_var 12 rfl (pv 12)) (ev_var 8 rfl (pv 8))) (ev_mul hq_777.2.1 (ev_var 13 rfl (pv 13)) (ev_var 9 rfl (pv 9)))) (ev_var 0 rfl (pv 0)))) (by rfl) sc_changed_member.nd (blk_of (own := [("early", 11), ("c", 12), ("d", 13), ("u", 8), ("v", 9)]) (by rfl)) (by decide) (by rfl) rfl (by rfl))) hg_775.2 (fun second_783 hg_785 => ?_)
  exact sb_ret (ev_tup (ds := [enc first_773, enc second_783]) (ea_cons (ev_tuple (by rfl) T.z_tuple (ev_varB 10 rfl (pv 10))) (ea_cons (ev_tuple (by rfl) T.z_tuple (ev_varB 14 rfl (pv 14))) ea_nil))) rfl)
set_option maxHeartbeats 0 in
theorem ok_small_about {P : Program} {w : World} {K : PySem.W.Frag} {mg : Str → Option Value} {base : Heap} (T : Kit K mg) : FnG P w K mg base 1 T.a_small_about T.d_small_about ["p", "table"] (spD K 2 R_small_about) := fnD T.F_small_about sc_small_about rfl (by decide) (by
  intro sa sls S r S' hR cd A outer s H E hr hgd
  obtain ⟨p_0, table_0, rfl, hg, rfl, rfl⟩ := hR
  refine SB.start (δ' := [some (.p (enc p_0)), some (.p (enc table_0)), none, none, none, none]) (rf := (rf_small_about S)) (m := m_small_about p_0 table_0) rfl rfl ?_
  refine step0 (Wf := (WR (rf_small_about S))) (st_asg (ev_var 1 rfl (pv 1)) (tg_tup (ds := [enc table_0.1, enc table_0.2]) (by rfl) (tgs_cons (tg_tup (ds := [enc table_0.1.1, enc table_0.1.2]) (by rfl) (tgs_cons (tg_name (pg_name (i := 2) sc_small_about.nd rfl (by first | exact .inl rfl | exact .inr rfl))) (tgs_cons (tg_name (pg_name (i := 3) sc_small_about.nd rfl (by first | exact .inl rfl | exact .inr rfl))) tgs_nil))) (tgs_cons (tg_tup (ds := [enc table_0.2.1, enc table_0.2.2]) (by rfl) (tgs_cons (tg_name (pg_name (i := 4) sc_small_about.nd rfl (by first | exact .inl rfl | exact .inr rfl))) (tgs_cons (tg_name (pg_name (i := 5) sc_small_about.nd rfl (by first | exact .inl rfl | exact .inr rfl))) tgs_nil))) tgs_nil)))) ?_
  have hg_806 := hg
  exact sb_ret (ev_tup (ds := [enc (table_0.2.2, ((-table_0.1.2) % p_0)), enc (((-table_0.2.1) % p_0), table_0.1.1)]) (ea_cons (ev_tup (ds := [enc table_0.2.2, enc ((-table_0.1.2) % p_0)]) (ea_cons (ev_var 5 rfl (pv 5)) (ea_cons (ev_mod hg_806.1 (ev_neg (ev_var 3 rfl (pv 3))) (ev_var 0 rfl (pv 0))) ea_nil))) (ea_cons (ev_tup (ds := [enc ((-table_0.2.1) % p_0), enc table_0.1.1]) (ea_cons (ev_mod hg_806.2 (ev_neg (ev_var 4 rfl (pv 4))) (ev_var 0 rfl (pv 0))) (ea_cons (ev_var 2 rfl (pv 2)) ea_nil))) ea_nil))) rfl)
set_option maxHeartbeats 0 in
theorem ok_change_back {P : Program} {w : World} {K : PySem.W.Frag} {mg : Str → Option Value} {base : Heap} (T : Kit K mg) : FnG P w K mg base 2 T.a_change_back T.d_change_back ["p", "change"] (spD K 2 R_change_back) := fnD T.F_change_back sc_change_back rfl (by decide) (by
  intro sa sls S r S' hR cd A outer s H E hr hgd
  obtain ⟨p_0, change_0, rfl, hg, rfl, rfl⟩ := hR
  refine SB.start (δ' := [some (.p (enc p_0)), some (.p (enc change_0)), none]) (rf := (rf_change_back S)) (m := m_change_back p_0 change_0) rfl rfl ?_
  exact sb_ret (ev_tuple (by rfl) T.z_tuple (ev_of_new (elc (fun (q_814 : ((Int × Int) × (Int × Int))) => (g_small_about p_0 q_814)) (fun (q_814 : ((Int × Int) × (Int × Int))) => [some (.p (enc p_0)), some (.p (enc change_0)), some (.p (enc q_814))]) (fun (q_814 : ((Int × Int) × (Int × Int))) => (m_small_about p_0 q_814)) (ij_T (ev_var 1 rfl (pv 1))) hg (fun q_814 s H C cl fp => (tg_name (pg_name (i := 2) sc_change_back.nd rfl (by first | exact .inl rfl | exact .inr rfl)))) (fun q_814 hq_815 s H C cl fp => (ev_call ⟨ok_small_about T, T.G_small_about, T.F_small_about.kp, T.B_small_about⟩ (hr.mono (by decide)) hgd (by rfl) (ea_cons (ev_var 0 rfl (pv 0)) (ea_cons (ev_var 2 rfl (pv 2)) ea_nil)) rfl ⟨_, _, rfl, hq_815, rfl, rfl⟩)) (by rfl) sc_change_back.nd (blk_of (own := [("table", 2)]) (by rfl)) (by decide)))) rfl)
set_option maxHeartbeats 0 in
theorem ok__law_changed {P : Program} {w : World} {K : PySem.W.Frag} {mg : Str → Option Value} {base : Heap} (T : Kit K mg) : FnG P w K mg base 1 T.a__law_changed T.d__law_changed ["p", "change", "x", "z"] (spD K 4 R__law_changed) := fnD T.F__law_changed sc__law_changed rfl (by decide) (by
  intro sa sls S r S' hR cd A outer s H E hr hgd
  obtain ⟨p_0, change_0, x_0, z_0, rfl, hg, rfl, rfl⟩ := hR
  refine SB.start (δ' := [some (.p (enc p_0)), some (.p (enc change_0)), some (.p (enc x_0)), some (.p (enc z_0)), none, none, none, none, none]) (rf := (rf__law_changed S)) (m := m__law_changed p_0 change_0 x_0 z_0) rfl rfl ?_
  refine stepV (Wf := (WR (rf__law_changed S))) (δf := fun (first_867 : (List Int)) => [some (.p (enc p_0)), some (.p (enc change_0)), some (.p (enc x_0)), some (.p (enc z_0)), none, none, none, some (.b (encs first_867)), none]) (List.map (fun (q_858 : ((((List Int) × (List Int)) × Int) × Int)) => ((((getI q_858.1.1.1 (0 : Int)) * q_858.1.2) + ((getI q_858.1.1.1 (1 : Int)) * q_858.2)) % p_0)) (List.zip (List.zip change_0 x_0) z_0)) (fun (first_867 : (List Int)) => m__law_changed_2 p_0 change_0 x_0 z_0 first_867) (fun (first_867 : (List Int)) => g__law_changed_2 p_0 change_0 x_0 z_0 first_867) (st_lB (i := 7) (plc (fun (q_858 : ((((List Int) × (List Int)) × Int) × Int)) => (InB q_858.1.1.1 (0 : Int)) ∧ (CMul (getI q_858.1.1.1 (0 : Int)) q_858.1.2) ∧ (InB q_858.1.1.1 (1 : Int)) ∧ (CMul (getI q_858.1.1.1 (1 : Int)) q_858.2) ∧ (0 < p_0)) (fun (q_858 : ((((List Int) × (List Int)) × Int) × Int)) => [some (.p (enc p_0)), some (.p (enc change_0)), some (.p (enc x_0)), some (.p (enc z_0)), some (.p (enc q_858.1.1)), some (.p (enc q_858.1.2)), some (.p (enc q_858.2)), none, none]) (fun (q_858 : ((((List Int) × (List Int)) × Int) × Int)) => ((((getI q_858.1.1.1 (0 : Int)) * q_858.1.2) + ((getI q_858.1.1.1 (1 : Int)) * q_858.2)) % p_0)) (ij_zip3 (wlk_t _) (wlk_t _) (wlk_t _) (by rfl) T.z_zip (ea_cons (ev_var 1 rfl (pv 1)) (ea_cons (ev_var 2 rfl (pv 2)) (ea_cons (ev_var 3 rfl (pv 3)) ea_nil)))) hg.1 (fun q_858 s H C cl fp => (tg_tupN (by rfl) (tgs_cons (tg_name (pg_name (i := 4) sc__law_changed.nd rfl (by first | exact .inl rfl | exact .inr rfl))) (tgs_cons (tg_name (pg_name (i := 5) sc__law_changed.nd rfl (by first | exact .inl rfl | exact .inr rfl))) (tgs_cons (tg_name (pg_name (i := 6) sc__law_changed.nd rfl (by first | exact .inl rfl | exact .inr rfl))) tgs_nil))))) (fun q_858 hq_859 s H C cl fp => (ev_mod hq_859.2.2.2.2 (ev_intI (by rfl) T.z_int (ev_add (ev_mul hq_859.2.1 (ev_ixL hq_859.1 (ev_ixT rfl (ev_var 4 rfl (pv 4)) ev_int) ev_int) (ev_var 5 rfl (pv 5))) (ev_mul hq_859.2.2.2.1 (ev_ixL hq_859.2.2.1 (ev_ixT rfl (ev_var 4 rfl (pv 4)) ev_int) ev_int) (ev_var 6 rfl (pv 6))))) (ev_var 0 rfl (pv 0)))) (by rfl) sc__law_changed.nd (blk_of (own := [("table", 4), ("a", 5), ("b", 6)]) (by rfl)) (by decide) (by rfl) rfl (by rfl))) hg.2 (fun first_867 hg_869 => ?_)
  refine stepV (Wf := (WR (rf__law_changed S))) (δf := fun (second_879 : (List Int)) => [some (.p (enc p_0)), some (.p (enc change_0)), some (.p (enc x_0)), some (.p (enc z_0)), none, none, none, some (.b (encs first_867)), some (.b (encs second_879))]) (List.map (fun (q_870 : ((((List Int) × (List Int)) × Int) × Int)) => ((((getI q_870.1.1.2 (0 : Int)) * q_870.1.2) + ((getI q_870.1.1.2 (1 : Int)) * q_870.2)) % p_0)) (List.zip (List.zip change_0 x_0) z_0)) (fun (second_879 : (List Int)) => m__law_changed_1 first_867 second_879) (fun (second_879 : (List Int)) => g__law_changed_1 first_867 second_879) (st_lB (i := 8) (plc (fun (q_870 : ((((List Int) × (List Int)) × Int) × Int)) => (InB q_870.1.1.2 (0 : Int)) ∧ (CMul (getI q_870.1.1.2 (0 : Int)) q_870.1.2) ∧ (InB q_870.1.1.2 (1 : Int)) ∧ (CMul (getI q_870.1.1.2 (1 : Int)) q_870.2) ∧ (0 < p_0)) (fun (q_870 : ((((List Int) × (List Int)) × Int) × Int)) => [some (.p (enc p_0)), some (.p (enc change_0)), some (.p (enc x_0)), some (.p (enc z_0)), some (.p (enc q_870.1.1)), some (.p (enc q_870.1.2)), some (.p (enc q_870.2)), some (.b (encs first_867)), none]) (fun (q_870 : ((((List Int) × (List Int)) × Int) × Int)) => ((((getI q_870.1.1.2 (0 : Int)) * q_870.1.2) + ((getI q_870.1.1.2 (1 : Int)) * q_870.2)) % p_0)) (ij_zip3 (wlk_t _) (wlk_t _) (wlk_t _) (by rfl) T.z_zip (ea_cons (ev_var 1 rfl (pv 1)) (ea_cons (ev_var 2 rfl (pv 2)) (ea_cons (ev_var 3 rfl (pv 3)) ea_nil)))) hg_869.1 (fun q_870 s H C cl fp => (tg_tupN (by rfl) (tgs_cons (tg_name (pg_name (i := 4) sc__law_changed.nd rfl (by first | exact .inl rfl | exact .inr rfl))) (tgs_cons (tg_name (pg_name (i := 5) sc__law_changed.nd rfl (by first | exact .inl rfl | exact .inr rfl))) (tgs_cons (tg_name (pg_name (i := 6) sc__law_changed.nd rfl (by first | exact .inl rfl | exact .inr rfl))) tgs_nil))))) (fun q_870 hq_871 s H C cl fp => (ev_mod hq_871.2.2.2.2 (ev_intI (by rfl) T.z_int (ev_add (ev_mul hq_871.2.1 (ev_ixL hq_871.1 (ev_ixT rfl (ev_var 4 rfl (pv 4)) ev_int) ev_int) (ev_var 5 rfl (pv 5))) (ev_mul hq_871.2.2.2.1 (ev_ixL hq_871.2.2.1 (ev_ixT rfl (ev_var 4 rfl (pv 4)) ev_int) ev_int) (ev_var 6 rfl (pv 6))))) (ev_var 0 rfl (pv 0)))) (by rfl) sc__law_changed.nd (blk_of (own := [("table", 4), ("a", 5), ("b", 6)]) (by rfl)) (by decide) (by rfl) rfl (by rfl))) hg_869.2 (fun second_879 hg_881 => ?_)
  exact sb_ret (ev_tup (ds := [enc first_867, enc second_879]) (ea_cons (ev_tuple (by rfl) T.z_tuple (ev_varB 7 rfl (pv 7))) (ea_cons (ev_tuple (by rfl) T.z_tuple (ev_varB 8 rfl (pv 8))) ea_nil))) rfl)
set_option maxHeartbeats 0 in
theorem ok__law_about {P : Program} {w : World} {K : PySem.W.Frag} {mg : Str → Option Value} {base : Heap} (T : Kit K mg) : FnG P w K mg base 1 T.a__law_about T.d__law_about ["p", "change"] (spD K 2 R__law_about) := fnD T.F__law_about sc__law_about rfl (by decide) (by
  intro sa sls S r S' hR cd A outer s H E hr hgd
  obtain ⟨p_0, change_0, rfl, hg, rfl, rfl⟩ := hR
  refine SB.start (δ' := [some (.p (enc p_0)), some (.p (enc change_0)), none, none, none, none]) (rf := (rf__law_about S)) (m := m__law_about p_0 change_0) rfl rfl ?_
  exact sb_ret (ev_tuple (by rfl) T.z_tuple (ev_of_new (elc (fun (q_906 : ((Int × Int) × (Int × Int))) => (0 < p_0) ∧ (0 < p_0)) (fun (q_906 : ((Int × Int) × (Int × Int))) => [some (.p (enc p_0)), some (.p (enc change_0)), some (.p (enc q_906.1.1)), some (.p (enc q_906.1.2)), some (.p (enc q_906.2.1)), some (.p (enc q_906.2.2))]) (fun (q_906 : ((Int × Int) × (Int × Int))) => ((q_906.2.2, (((0 : Int) - q_906.1.2) % p_0)), ((((0 : Int) - q_906.2.1) % p_0), q_906.1.1))) (ij_T (ev_cast (x := (change_0 : (List ((List Int) × (List Int))))) (y := ((List.map (fun (z_902 : ((List Int) × (List Int))) => ((getI z_902.1 0, getI z_902.1 1), (getI z_902.2 0, getI z_902.2 1))) change_0) : (List ((Int × Int) × (Int × Int))))) ((enc_map (fun z_902 hz => (enc_p2 ((enc_s2 (hg.1 z_902 hz).1)) ((enc_s2 (hg.1 z_902 hz).2)))))) (ev_var 1 rfl (pv 1)))) hg.2 (fun q_906 s H C cl fp => (tg_tup (ds := [enc q_906.1, enc q_906.2]) (by rfl) (tgs_cons (tg_tup (ds := [enc q_906.1.1, enc q_906.1.2]) (by rfl) (tgs_cons (tg_name (pg_name (i := 2) sc__law_about.nd rfl (by first | exact .inl rfl | exact .inr rfl))) (tgs_cons (tg_name (pg_name (i := 3) sc__law_about.nd rfl (by first | exact .inl rfl | exact .inr rfl))) tgs_nil))) (tgs_cons (tg_tup (ds := [enc q_906.2.1, enc q_906.2.2]) (by rfl) (tgs_cons (tg_name (pg_name (i := 4) sc__law_about.nd rfl (by first | exact .inl rfl | exact .inr rfl))) (tgs_cons (tg_name (pg_name (i := 5) sc__law_about.nd rfl (by first | exact .inl rfl | exact .inr rfl))) tgs_nil))) tgs_nil)))) (fun q_906 hq_907 s H C cl fp => (ev_tup (ds := [enc (q_906.2.2, (((0 : Int) - q_906.1.2) % p_0)), enc ((((0 : Int) - q_906.2.1) % p_0), q_906.1.1)]) (ea_cons (ev_tup (ds := [enc q_906.2.2, enc (((0 : Int) - q_906.1.2) % p_0)]) (ea_cons (ev_var 5 rfl (pv 5)) (ea_cons (ev_mod hq_907.1 (ev_intI (by rfl) T.z_int (ev_sub ev_int (ev_var 3 rfl (pv 3)))) (ev_var 0 rfl (pv 0))) ea_nil))) (ea_cons (ev_tup (ds := [enc (((0 : Int) - q_906.2.1) % p_0), enc q_906.1.1]) (ea_cons (ev_mod hq_907.2 (ev_intI (by rfl) T.z_int (ev_sub ev_int (ev_var 4 rfl (pv 4)))) (ev_var 0 rfl (pv 0))) (ea_cons (ev_var 2 rfl (pv 2)) ea_nil))) ea_nil)))) (by rfl) sc__law_about.nd (blk_of (own := [("a", 2), ("b", 3), ("c", 4), ("d", 5)]) (by rfl)) (by decide)))) rfl)
set_option maxHeartbeats 0 in
theorem ok_small_times {P : Program} {w : World} {K : PySem.W.Frag} {mg : Str → Option Value} {base : Heap} (T : Kit K mg) : FnG P w K mg base 2 T.a_small_times T.d_small_times ["p", "one", "other"] (spD K 3 R_small_times) := fnD T.F_small_times sc_small_times rfl (by decide) (by
  intro sa sls S r S' hR cd A outer s H E hr hgd
  obtain ⟨p_0, one_0, other_0, rfl, hg, rfl, rfl⟩ := hR
  refine SB.start (δ' := [some (.p (enc p_0)), some (.p (enc one_0)), some (.p (enc other_0)), none, none, none]) (rf := (rf_small_times S)) (m := m_small_times p_0 one_0 other_0) rfl rfl ?_
  refine stepV (Wf := (WR (rf_small_times S))) (δf := fun (columns_954 : ((Int × Int) × (Int × Int))) => [some (.p (enc p_0)), some (.p (enc one_0)), some (.p (enc other_0)), some (.p (enc columns_954)), none, none]) ((other_0.1.1, other_0.2.1), (other_0.1.2, other_0.2.2)) (fun (columns_954 : ((Int × Int) × (Int × Int))) => m_small_times_1 p_0 one_0 columns_954) (fun (columns_954 : ((Int × Int) × (Int × Int))) => g_small_times_1 p_0 one_0 columns_954) (st_p (i := 3) (ps_set (i := 3) sc_small_times.nd rfl (by first | exact .inl rfl | exact .inr rfl) (ev_zz (t := other_0) (by rfl) (by rfl) T.z_tuple (by rfl) T.z_zip (ev_var 2 rfl (pv 2))))) hg (fun columns_954 hg_956 => ?_)
  exact sb_ret (ev_tuple (by rfl) T.z_tuple (ev_of_new (elc (fun (q_957 : (Int × Int)) => (∀ q_960 ∈ [columns_954.1, columns_954.2], (g_row_dot p_0 [q_957.1, q_957.2] [q_960.1, q_960.2]))) (fun (q_957 : (Int × Int)) => [some (.p (enc p_0)), some (.p (enc one_0)), some (.p (enc other_0)), some (.p (enc columns_954)), some (.p (enc q_957)), none]) (fun (q_957 : (Int × Int)) => (List.map (fun (q_960 : (Int × Int)) => (m_row_dot p_0 [q_957.1, q_957.2] [q_960.1, q_960.2])) [columns_954.1, columns_954.2])) (ij_T (ev_cast (x := (one_0 : ((Int × Int) × (Int × Int)))) (y := ([one_0.1, one_0.2] : (List (Int × Int)))) (rfl) (ev_var 1 rfl (pv 1)))) hg_956 (fun q_957 s H C cl fp => (tg_name (pg_name (i := 4) sc_small_times.nd rfl (by first | exact .inl rfl | exact .inr rfl)))) (fun q_957 hq_958 s H C cl fp => (ev_tuple (by rfl) T.z_tuple (ev_of_new (elc (fun (q_960 : (Int × Int)) => (g_row_dot p_0 [q_957.1, q_957.2] [q_960.1, q_960.2])) (fun (q_960 : (Int × Int)) => [some (.p (enc p_0)), some (.p (enc one_0)), some (.p (enc other_0)), some (.p (enc columns_954)), some (.p (enc q_957)), some (.p (enc q_960))]) (fun (q_960 : (Int × Int)) => (m_row_dot p_0 [q_957.1, q_957.2] [q_960.1, q_960.2])) (ij_T (ev_cast (x := (columns_954 : ((Int × Int) × (Int × Int)))) (y := ([columns_954.1, columns_954.2] : (List (Int × Int)))) (rfl) (ev_var 3 rfl (pv 3)))) hq_958 (fun q_960 s H C cl fp => (tg_name (pg_name (i := 5) sc_small_times.nd rfl (by first | exact .inl rfl | exact .inr rfl)))) (fun q_960 hq_961 s H C cl fp => (ev_call ⟨ok_row_dot T, T.G_row_dot, T.F_row_dot.kp, T.B_row_dot⟩ (hr.mono (by decide)) hgd (by rfl) (ea_cons (ev_var 0 rfl (pv 0)) (ea_cons (ev_cast (x := (q_957 : (Int × Int))) (y := ([q_957.1, q_957.2] : (List Int))) (rfl) (ev_var 4 rfl (pv 4))) (ea_cons (ev_cast (x := (q_960 : (Int × Int))) (y := ([q_960.1, q_960.2] : (List Int))) (rfl) (ev_var 5 rfl (pv 5))) ea_nil))) rfl ⟨_, _, _, rfl, hq_961, rfl, rfl⟩)) (by rfl) sc_small_times.nd (blk_of (own := [("column", 5)]) (by rfl)) (by decide))))) (by rfl) sc_small_times.nd (blk_of (own := [("row", 4)]) (by rfl)) (by decide)))) rfl)
set_option maxHeartbeats 0 in
theorem ok_change_behind {P : Program} {w : World} {K : PySem.W.Frag} {mg : Str → Option Value} {base : Heap} (T : Kit K mg) : FnG P w K mg base 3 T.a_change_behind T.d_change_behind ["p", "one", "other"] (spD K 3 R_change_behind) := fnD T.F_change_behind sc_change_behind rfl (by decide) (by
  intro sa sls S r S' hR cd A outer s H E hr hgd
  obtain ⟨p_0, one_0, other_0, rfl, hg, rfl, rfl⟩ := hR
  refine SB.start (δ' := [some (.p (enc p_0)), some (.p (enc one_0)), some (.p (enc other_0)), none, none]) (rf := (rf_change_behind S)) (m := m_change_behind p_0 one_0 other_0) rfl rfl ?_
  exact sb_ret (ev_tuple (by rfl) T.z_tuple (ev_of_new (elc (fun (q_972 : (((Int × Int) × (Int × Int)) × ((Int × Int) × (Int × Int)))) => (g_small_times p_0 q_972.2 q_972.1)) (fun (q_972 : (((Int × Int) × (Int × Int)) × ((Int × Int) × (Int × Int)))) => [some (.p (enc p_0)), some (.p (enc one_0)), some (.p (enc other_0)), some (.p (enc q_972.1)), some (.p (enc q_972.2))]) (fun (q_972 : (((Int × Int) × (Int × Int)) × ((Int × Int) × (Int × Int)))) => (m_small_times p_0 q_972.2 q_972.1)) (ij_zip (wlk_t _) (wlk_t _) (by rfl) T.z_zip (ea_cons (ev_var 1 rfl (pv 1)) (ea_cons (ev_var 2 rfl (pv 2)) ea_nil))) hg (fun q_972 s H C cl fp => (tg_tupN (by rfl) (tgs_cons (tg_name (pg_name (i := 3) sc_change_behind.nd rfl (by first | exact .inl rfl | exact .inr rfl))) (tgs_cons (tg_name (pg_name (i := 4) sc_change_behind.nd rfl (by first | exact .inl rfl | exact .inr rfl))) tgs_nil)))) (fun q_972 hq_973 s H C cl fp => (ev_call ⟨ok_small_times T, T.G_small_times, T.F_small_times.kp, T.B_small_times⟩ (hr.mono (by decide)) hgd (by rfl) (ea_cons (ev_var 0 rfl (pv 0)) (ea_cons (ev_var 4 rfl (pv 4)) (ea_cons (ev_var 3 rfl (pv 3)) ea_nil))) rfl ⟨_, _, _, rfl, hq_973, rfl, rfl⟩)) (by rfl) sc_change_behind.nd (blk_of (own := [("early", 3), ("late", 4)]) (by rfl)) (by decide)))) rfl)
set_option maxHeartbeats 0 in
theorem ok__law_small {P : Program} {w : World} {K : PySem.W.Frag} {mg : Str → Option Value} {base : Heap} (T : Kit K mg) : FnG P w K mg base 1 T.a__law_small T.d__law_small ["p", "one", "other"] (spD K 3 R__law_small) := fnD T.F__law_small sc__law_small rfl (by decide) (by
  intro sa sls S r S' hR cd A outer s H E hr hgd
  obtain ⟨p_0, one_0, other_0, rfl, hg, rfl, rfl⟩ := hR
  refine SB.start (δ' := [some (.p (enc p_0)), some (.p (enc one_0)), some (.p (enc other_0)), none, none, none]) (rf := (rf__law_small S)) (m := m__law_small p_0 one_0 other_0) rfl rfl ?_
  refine stepV (Wf := (WR (rf__law_small S))) (δf := fun (found_1023 : (List (List Int))) => [some (.p (enc p_0)), some (.p (enc one_0)), some (.p (enc other_0)), some (.l (encs found_1023)), none, none]) ([] : List (List Int)) (fun (found_1023 : (List (List Int))) => m__law_small_5 p_0 one_0 other_0 found_1023) (fun (found_1023 : (List (List Int))) => g__law_small_5 p_0 one_0 other_0 found_1023) (st_l (i := 3) (ps_set (i := 3) sc__law_small.nd rfl (by first | exact .inl rfl | exact .inr rfl) (el_lst (ds := encs ([] : List (List Int))) ea_nil))) hg (fun found_1023 hg_1025 => ?_)
  refine forV (Wf := (WR (rf__law_small S))) (itm := itP1) (fun (n_1049 : (List (List Int))) => m__law_small_4 n_1049) (fun (n_1049 : (List (List Int))) => g__law_small_4 n_1049) (nf__law_small_1 p_0 one_0 other_0 S) (found_1023 : (List (List Int))) (fun (n_1029 : (List (List Int))) (q_1030 : Int) => g__law_small_3 p_0 one_0 other_0 n_1029 q_1030) (fun n_1029 q_1030 => [some (.p (enc p_0)), some (.p (enc one_0)), some (.p (enc other_0)), some (.l (encs n_1029)), some (.p (enc q_1030)), none]) (fun (n_1029 : (List (List Int))) (q_1030 : Int) => m__law_small_3 p_0 one_0 other_0 n_1029 q_1030) (ij_range1 hg_1025.1 (by rfl) T.z_range (ea_cons ev_int ea_nil)) (And.intro rfl (And.intro rfl (And.intro rfl (And.intro rfl trivial)))) (fun n_1029 q_1030 => (tg_name (pg_name (i := 4) sc__law_small.nd rfl (by first | exact .inl rfl | exact .inr rfl)))) (fun n_1029 q_1030 hb_1027 => ?_) hg_1025.2.1 hg_1025.2.2 (fun n_1049 hg_1050 => ?_)
  · refine stepV (Wf := (WN (nf__law_small_1 p_0 one_0 other_0 S))) (δf := fun (found_1046 : (List (List Int))) => [some (.p (enc p_0)), some (.p (enc one_0)), some (.p (enc other_0)), some (.l (encs found_1046)), some (.p (enc q_1030)), none]) (n_1029 ++ [(List.map (fun (q_1032 : Int) => ((((getI (getI [other_0.1, other_0.2] q_1030) (0 : Int)) * (getI one_0.1 q_1032)) + ((getI (getI [other_0.1, other_0.2] q_1030) (1 : Int)) * (getI one_0.2 q_1032))) % p_0)) (rngI 0 (Int.toNat (2 : Int))))]) (fun (found_1046 : (List (List Int))) => m__law_small_2 found_1046) (fun (found_1046 : (List (List Int))) => g__law_small_2 found_1046) (st_app (i := 3) rfl (pv 3) (ev_tuple (by rfl) T.z_tuple (ev_of_new (elc (fun (q_1032 : Int) => (InB [other_0.1, other_0.2] q_1030) ∧ (InB (getI [other_0.1, other_0.2] q_1030) (0 : Int)) ∧ (InB one_0.1 q_1032) ∧ (CMul (getI (getI [other_0.1, other_0.2] q_1030) (0 : Int)) (getI one_0.1 q_1032)) ∧ (InB [other_0.1, other_0.2] q_1030) ∧ (InB (getI [other_0.1, other_0.2] q_1030) (1 : Int)) ∧ (InB one_0.2 q_1032) ∧ (CMul (getI (getI [other_0.1, other_0.2] q_1030) (1 : Int)) (getI one_0.2 q_1032)) ∧ (0 < p_0)) (fun (q_1032 : Int) => [some (.p (enc p_0)), some (.p (enc one_0)), some (.p (enc other_0)), some (.b (encs n_1029)), some (.p (enc q_1030)), some (.p (enc q_1032))]) (fun (q_1032 : Int) => ((((getI (getI [other_0.1, other_0.2] q_1030) (0 : Int)) * (getI one_0.1 q_1032)) + ((getI (getI [other_0.1, other_0.2] q_1030) (1 : Int)) * (getI one_0.2 q_1032))) % p_0)) (ij_range1 hb_1027.1 (by rfl) T.z_range (ea_cons ev_int ea_nil)) hb_1027.2.1 (fun q_1032 s H C cl fp => (tg_name (pg_name (i := 5) sc__law_small.nd rfl (by first | exact .inl rfl | exact .inr rfl)))) (fun q_1032 hq_1033 s H C cl fp => (ev_mod hq_1033.2.2.2.2.2.2.2.2 (ev_intI (by rfl) T.z_int (ev_add (ev_mul hq_1033.2.2.2.1 (ev_ixL hq_1033.2.1 (ev_ixL hq_1033.1 (ev_cast (x := (other_0 : ((List Int) × (List Int)))) (y := ([other_0.1, other_0.2] : (List (List Int)))) (rfl) (ev_var 2 rfl (pv 2))) (ev_var 4 rfl (pv 4))) ev_int) (ev_ixL hq_1033.2.2.1 (ev_ixT rfl (ev_var 1 rfl (pv 1)) ev_int) (ev_var 5 rfl (pv 5)))) (ev_mul hq_1033.2.2.2.2.2.2.2.1 (ev_ixL hq_1033.2.2.2.2.2.1 (ev_ixL hq_1033.2.2.2.2.1 (ev_cast (x := (other_0 : ((List Int) × (List Int)))) (y := ([other_0.1, other_0.2] : (List (List Int)))) (rfl) (ev_var 2 rfl (pv 2))) (ev_var 4 rfl (pv 4))) ev_int) (ev_ixL hq_1033.2.2.2.2.2.2.1 (ev_ixT rfl (ev_var 1 rfl (pv 1)) ev_int) (ev_var 5 rfl (pv 5)))))) (ev_var 0 rfl (pv 0)))) (by rfl) sc__law_small.nd (blk_of (own := [("j", 5)]) (by rfl)) (by decide)))) hb_1027.2.2.1 (fun h1 h2 => pe_bm PySem.F.plainAttrs_list PySem.F.slot_list_append PySem.F.type_list_append mt_append h1 h2)) hb_1027.2.2.2 (fun found_1046 hg_1048 => ?_)
    exact sb_nil rfl (And.intro rfl (And.intro rfl (And.intro rfl (And.intro rfl trivial))))
  · exact sb_ret (ev_tuple (by rfl) T.z_tuple (ev_varL 3 rfl (pv 3))) rfl)
set_option maxHeartbeats 0 in
theorem ok_small_det {P : Program} {w : World} {K : PySem.W.Frag} {mg : Str → Option Value} {base : Heap} (T : Kit K mg) : FnG P w K mg base 1 T.a_small_det T.d_small_det ["p", "table"] (spD K 2 R_small_det) := fnD T.F_small_det sc_small_det rfl (by decide) (by
  intro sa sls S r S' hR cd A outer s H E hr hgd
  obtain ⟨p_0, table_0, rfl, hg, rfl, rfl⟩ := hR
  refine SB.start (δ' := [some (.p (enc p_0)), some (.p (enc table_0))]) (rf := (rf_small_det S)) (m := m_small_det p_0 table_0) rfl rfl ?_
  exact sb_ret (ev_mod hg.2.2 (ev_sub (ev_mul hg.1 (ev_ixT rfl (ev_ixT rfl (ev_var 1 rfl (pv 1)) ev_int) ev_int) (ev_ixT rfl (ev_ixT rfl (ev_var 1 rfl (pv 1)) ev_int) ev_int)) (ev_mul hg.2.1 (ev_ixT rfl (ev_ixT rfl (ev_var 1 rfl (pv 1)) ev_int) ev_int) (ev_ixT rfl (ev_ixT rfl (ev_var 1 rfl (pv 1)) ev_int) ev_int))) (ev_var 0 rfl (pv 0))) rfl)
set_option maxHeartbeats 0 in
theorem ok_is_proper {P : Program} {w : World} {K : PySem.W.Frag} {mg : Str → Option Value} {base : Heap} (T : Kit K mg) : FnG P w K mg base 2 T.a_is_proper T.d_is_proper ["p", "change"] (spD K 2 R_is_proper) := fnD T.F_is_proper sc_is_proper rfl (by decide) (by
  intro sa sls S r S' hR cd A outer s H E hr hgd
  obtain ⟨p_0, change_0, rfl, hg, rfl, rfl⟩ := hR
  refine SB.start (δ' := [some (.p (enc p_0)), some (.p (enc change_0)), none]) (rf := (rf_is_proper S)) (m := m_is_proper p_0 change_0) rfl rfl ?_
  exact sb_ret (ev_all (by rfl) (by rfl) T.z_all (ev_of_new (elc (fun (q_1150 : ((Int × Int) × (Int × Int))) => (g_small_det p_0 q_1150)) (fun (q_1150 : ((Int × Int) × (Int × Int))) => [some (.p (enc p_0)), some (.p (enc change_0)), some (.p (enc q_1150))]) (fun (q_1150 : ((Int × Int) × (Int × Int))) => decide ((m_small_det p_0 q_1150) = (1 : Int))) (ij_T (ev_var 1 rfl (pv 1))) hg (fun q_1150 s H C cl fp => (tg_name (pg_name (i := 2) sc_is_proper.nd rfl (by first | exact .inl rfl | exact .inr rfl)))) (fun q_1150 hq_1151 s H C cl fp => (ev_cmp op_eq rc_eqI (ev_call ⟨ok_small_det T, T.G_small_det, T.F_small_det.kp, T.B_small_det⟩ (hr.mono (by decide)) hgd (by rfl) (ea_cons (ev_var 0 rfl (pv 0)) (ea_cons (ev_var 2 rfl (pv 2)) ea_nil)) rfl ⟨_, _, rfl, hq_1151, rfl, rfl⟩) ev_int (nomark _))) (by rfl) sc_is_proper.nd (blk_of (own := [("table", 2)]) (by rfl)) (by decide)))) rfl)
set_option maxHeartbeats 0 in
theorem ok_same_change {P : Program} {w : World} {K : PySem.W.Frag} {mg : Str → Option Value} {base : Heap} (T : Kit K mg) : FnG P w K mg base 1 T.a_same_change T.d_same_change ["n"] (spD K 1 R_same_change) := fnD T.F_same_change sc_same_change rfl (by decide) (by
  intro sa sls S r S' hR cd A outer s H E hr hgd
  obtain ⟨n_0, rfl, hg, rfl, rfl⟩ := hR
  refine SB.start (δ' := [some (.p (enc n_0))]) (rf := (rf_same_change S)) (m := m_same_change n_0) rfl rfl ?_
  exact sb_ret (ev_repT hg (ev_cast (x := ((T1.mk ((((1 : Int), (0 : Int)), ((0 : Int), (1 : Int))) : ((Int × Int) × (Int × Int)))) : (T1 ((Int × Int) × (Int × Int))))) (y := ([(T1.mk ((((1 : Int), (0 : Int)), ((0 : Int), (1 : Int))) : ((Int × Int) × (Int × Int)))).a] : (List ((Int × Int) × (Int × Int))))) (rfl) (ev_tup (ds := [enc ((((1 : Int), (0 : Int)), ((0 : Int), (1 : Int))) : ((Int × Int) × (Int × Int)))]) (ea_cons (ev_konst (by rfl) T.G_SAME T.D_SAME (pu_of _ rfl)) ea_nil))) (ev_var 0 rfl (pv 0))) rfl)
set_option maxHeartbeats 0 in
theorem ok__law_changes_right {P : Program} {w : World} {K : PySem.W.Frag} {mg : Str → Option Value} {base : Heap} (T : Kit K mg) : FnG P w K mg base 4 T.a__law_changes_right T.d__law_changes_right ["source", "p", "n"] (spD K 3 R__law_changes_right) := fnD T.F__law_changes_right sc__law_changes_right rfl (by decide) (by
  intro sa sls S r S' hR cd A outer s H E hr hgd
  obtain ⟨p_0, n_0, rfl, hg, rfl, rfl⟩ := hR
  refine SB.start (δ' := [some (.src), some (.p (enc p_0)), some (.p (enc n_0)), none, none, none, none, none, none, none, none, none, none, none, none, none, none, none, none, none, none]) (rf := rf__law_changes_right) (m := m__law_changes_right p_0 n_0 S) rfl rfl ?_
  refine stepV (Wf := (WR rf__law_changes_right)) (δf := fun (some_1195 : (List (List ((List Int) × (List Int))))) => [some (.src), some (.p (enc p_0)), some (.p (enc n_0)), some (.l (encs some_1195)), none, none, none, none, none, none, none, none, none, none, none, none, none, none, none, none, none]) ([] : List (List ((List Int) × (List Int)))) (fun (some_1195 : (List (List ((List Int) × (List Int))))) => m__law_changes_right_23 p_0 n_0 S some_1195) (fun (some_1195 : (List (List ((List Int) × (List Int))))) => g__law_changes_right_23 p_0 n_0 S some_1195) (st_l (i := 3) (ps_set (i := 3) sc__law_changes_right.nd rfl (by first | exact .inl rfl | exact .inr rfl) (el_lst (ds := encs ([] : List (List ((List Int) × (List Int))))) ea_nil))) hg (fun some_1195 hg_1197 => ?_)
  refine forV (Wf := (WR rf__law_changes_right)) (itm := itP1) (fun (n_1216 : ((List (List ((List Int) × (List Int)))) × Src)) => m__law_changes_right_22 p_0 n_0 n_1216) (fun (n_1216 : ((List (List ((List Int) × (List Int)))) × Src)) => g__law_changes_right_22 p_0 n_0 n_1216) (nf__law_changes_right_1 p_0 n_0) ((some_1195, S) : ((List (List ((List Int) × (List Int)))) × Src)) (fun (n_1201 : ((List (List ((List Int) × (List Int)))) × Src)) (q_1202 : Int) => g__law_changes_right_3 p_0 n_0 n_1201 q_1202) (fun n_1201 q_1202 => [some (.src), some (.p (enc p_0)), some (.p (enc n_0)), some (.l (encs n_1201.1)), some (.p (enc q_1202)), none, none, none, none, none, none, none, none, none, none, none, none, none, none, none, none]) (fun (n_1201 : ((List (List ((List Int) × (List Int)))) × Src)) (q_1202 : Int) => m__law_changes_right_3 p_0 n_0 n_1201 q_1202) (ij_range1 hg_1197.1 (by rfl) T.z_range (ea_cons ev_int ea_nil)) (And.intro rfl (And.intro rfl (And.intro rfl (And.intro rfl trivial)))) (fun n_1201 q_1202 => (tg_name (pg_name (i := 4) sc__law_changes_right.nd rfl (by first | exact .inl rfl | exact .inr rfl)))) (fun n_1201 q_1202 hb_1199 => ?_) hg_1197.2.1 hg_1197.2.2 (fun n_1216 hg_1217 => ?_)
  · refine stepVS (Wf := (WN (nf__law_changes_right_1 p_0 n_0))) (δf := fun (some_1212 : (List (List ((List Int) × (List Int))))) => [some (.src), some (.p (enc p_0)), some (.p (enc n_0)), some (.l (encs some_1212)), some (.p (enc q_1202)), none, none, none, none, none, none, none, none, none, none, none, none, none, none, none, none]) (n_1201.1 ++ [(mapS (fun (S_1209 : Src) (q_1204 : Int) => (((m__law_row p_0 (2 : Int) (S_1209)).1, (m__law_row p_0 (2 : Int) ((m__law_row p_0 (2 : Int) (S_1209)).2)).1), (m__law_row p_0 (2 : Int) ((m__law_row p_0 (2 : Int) (S_1209)).2)).2)) n_1201.2 (rngI 0 (Int.toNat n_0))).1]) (fun (some_1212 : (List (List ((List Int) × (List Int))))) (S_1214 : Src) => m__law_changes_right_2 some_1212 S_1214) (fun (some_1212 : (List (List ((List Int) × (List Int))))) (S_1214 : Src) => g__law_changes_right_2 some_1212 S_1214) (st_app (i := 3) rfl (pv 3) (ev_tuple (by rfl) T.z_tuple (ev_of_new (elcS (fun (S_1209 : Src) (q_1204 : Int) => (g__law_row p_0 (2 : Int) (S_1209)) ∧ (g__law_row p_0 (2 : Int) ((m__law_row p_0 (2 : Int) (S_1209)).2))) (fun (q_1204 : Int) => [some (.src), some (.p (enc p_0)), some (.p (enc n_0)), some (.b (encs n_1201.1)), some (.p (enc q_1202)), some (.p (enc q_1204)), none, none, none, none, none, none, none, none, none, none, none, none, none, none, none]) (fun (S_1209 : Src) (q_1204 : Int) => (((m__law_row p_0 (2 : Int) (S_1209)).1, (m__law_row p_0 (2 : Int) ((m__law_row p_0 (2 : Int) (S_1209)).2)).1), (m__law_row p_0 (2 : Int) ((m__law_row p_0 (2 : Int) (S_1209)).2)).2)) (ij_range1 hb_1199.1 (by rfl) T.z_range (ea_cons (ev_var 2 rfl (pv 2)) ea_nil)) hb_1199.2.1 (fun q_1204 s H C cl fp => (tg_name (pg_name (i := 5) sc__law_changes_right.nd rfl (by first | exact .inl rfl | exact .inr rfl)))) (fun S_1209 q_1204 hq_1205 s H C cl fp => (ev_tup (ds := [enc ((m__law_row p_0 (2 : Int) (S_1209)).1), enc ((m__law_row p_0 (2 : Int) ((m__law_row p_0 (2 : Int) (S_1209)).2)).1)]) (ea_cons (ev_call ⟨ok__law_row T, T.G__law_row, T.F__law_row.kp, T.B__law_row⟩ (hr.mono (by decide)) hgd (by rfl) (ea_cons (ev_varS 0 rfl (pv 0)) (ea_cons (ev_var 1 rfl (pv 1)) (ea_cons ev_int ea_nil))) rfl ⟨_, _, rfl, hq_1205.1, rfl, rfl⟩) (ea_cons (ev_call ⟨ok__law_row T, T.G__law_row, T.F__law_row.kp, T.B__law_row⟩ (hr.mono (by decide)) hgd (by rfl) (ea_cons (ev_varS 0 rfl (pv 0)) (ea_cons (ev_var 1 rfl (pv 1)) (ea_cons ev_int ea_nil))) rfl ⟨_, _, rfl, hq_1205.2, rfl, rfl⟩) ea_nil)))) (by rfl) sc__law_changes_right.nd (blk_of (own := [("v", 5)]) (by rfl)) (by decide)))) hb_1199.2.2.1 (fun h1 h2 => pe_bm PySem.F.plainAttrs_list PySem.F.slot_list_append PySem.F.type_list_append mt_append h1 h2)) hb_1199.2.2.2 (fun some_1212 S_1214 hg_1215 => ?_)
    exact sb_nil rfl (And.intro rfl (And.intro rfl (And.intro rfl (And.intro rfl trivial))))
  · refine stepV (Wf := (WR rf__law_changes_right)) (δf := fun (w_1218 : ((List ((List Int) × (List Int))) × (List ((List Int) × (List Int))))) => [some (.src), some (.p (enc p_0)), some (.p (enc n_0)), some (.l (encs n_1216.1)), none, none, some (.p (enc ((w_1218).1))), some (.p (enc ((w_1218).2))), none, none, none, none, none, none, none, none, none, none, none, none, none]) ((getI n_1216.1 0), (getI n_1216.1 1)) (fun (w_1218 : ((List ((List Int) × (List Int))) × (List ((List Int) × (List Int))))) => m__law_changes_right_21 p_0 n_0 n_1216 w_1218) (fun (w_1218 : ((List ((List Int) × (List Int))) × (List ((List Int) × (List Int))))) => g__law_changes_right_21 p_0 n_0 n_1216 w_1218) (st_unl (encs_s2 hg_1217.1) (ev_varL 3 rfl (pv 3)) (tgs_cons (tg_name (pg_name (i := 6) sc__law_changes_right.nd rfl (by first | exact .inl rfl | exact .inr rfl))) (tgs_cons (tg_name (pg_name (i := 7) sc__law_changes_right.nd rfl (by first | exact .inl rfl | exact .inr rfl))) tgs_nil)) (by rfl)) hg_1217.2 (fun w_1218 hg_1221 => ?_)
    refine stepVS (Wf := (WR rf__law_changes_right)) (δf := fun (w_1230 : (((List Int) × (List Int)) × ((List Int) × (List Int)))) => [some (.src), some (.p (enc p_0)), some (.p (enc n_0)), some (.l (encs n_1216.1)), none, none, some (.p (enc ((w_1218).1))), some (.p (enc ((w_1218).2))), some (.p (enc ((w_1230).1))), some (.p (enc ((w_1230).2))), none, none, none, none, none, none, none, none, none, none, none]) ((getI ((mapS (fun (S_1228 : Src) (q_1223 : Int) => (((m__law_row p_0 n_0 (S_1228)).1, (m__law_row p_0 n_0 ((m__law_row p_0 n_0 (S_1228)).2)).1), (m__law_row p_0 n_0 ((m__law_row p_0 n_0 (S_1228)).2)).2)) n_1216.2 (rngI 0 (Int.toNat (2 : Int)))).1) 0), (getI ((mapS (fun (S_1228 : Src) (q_1223 : Int) => (((m__law_row p_0 n_0 (S_1228)).1, (m__law_row p_0 n_0 ((m__law_row p_0 n_0 (S_1228)).2)).1), (m__law_row p_0 n_0 ((m__law_row p_0 n_0 (S_1228)).2)).2)) n_1216.2 (rngI 0 (Int.toNat (2 : Int)))).1) 1)) (fun (w_1230 : (((List Int) × (List Int)) × ((List Int) × (List Int)))) (S_1233 : Src) => m__law_changes_right_20 p_0 n_0 w_1218 w_1230 S_1233) (fun (w_1230 : (((List Int) × (List Int)) × ((List Int) × (List Int)))) (S_1233 : Src) => g__law_changes_right_20 p_0 n_0 w_1218 w_1230 S_1233) (st_unl (encs_s2 hg_1221.2.2.1) (ev_of_new (elcS (fun (S_1228 : Src) (q_1223 : Int) => (g__law_row p_0 n_0 (S_1228)) ∧ (g__law_row p_0 n_0 ((m__law_row p_0 n_0 (S_1228)).2))) (fun (q_1223 : Int) => [some (.src), some (.p (enc p_0)), some (.p (enc n_0)), some (.b (encs n_1216.1)), some (.p (enc q_1223)), none, some (.p (enc ((w_1218).1))), some (.p (enc ((w_1218).2))), none, none, none, none, none, none, none, none, none, none, none, none, none]) (fun (S_1228 : Src) (q_1223 : Int) => (((m__law_row p_0 n_0 (S_1228)).1, (m__law_row p_0 n_0 ((m__law_row p_0 n_0 (S_1228)).2)).1), (m__law_row p_0 n_0 ((m__law_row p_0 n_0 (S_1228)).2)).2)) (ij_range1 hg_1221.1 (by rfl) T.z_range (ea_cons ev_int ea_nil)) hg_1221.2.1 (fun q_1223 s H C cl fp => (tg_name (pg_name (i := 4) sc__law_changes_right.nd rfl (by first | exact .inl rfl | exact .inr rfl)))) (fun S_1228 q_1223 hq_1224 s H C cl fp => (ev_tup (ds := [enc ((m__law_row p_0 n_0 (S_1228)).1), enc ((m__law_row p_0 n_0 ((m__law_row p_0 n_0 (S_1228)).2)).1)]) (ea_cons (ev_call ⟨ok__law_row T, T.G__law_row, T.F__law_row.kp, T.B__law_row⟩ (hr.mono (by decide)) hgd (by rfl) (ea_cons (ev_varS 0 rfl (pv 0)) (ea_cons (ev_var 1 rfl (pv 1)) (ea_cons (ev_var 2 rfl (pv 2)) ea_nil))) rfl ⟨_, _, rfl, hq_1224.1, rfl, rfl⟩) (ea_cons (ev_call ⟨ok__law_row T, T.G__law_row, T.F__law_row.kp, T.B__law_row⟩ (hr.mono (by decide)) hgd (by rfl) (ea_cons (ev_varS 0 rfl (pv 0)) (ea_cons (ev_var 1 rfl (pv 1)) (ea_cons (ev_var 2 rfl (pv 2)) ea_nil))) rfl ⟨_, _, rfl, hq_1224.2, rfl, rfl⟩) ea_nil)))) (by rfl) sc__law_changes_right.nd (blk_of (own := [("turn", 4)]) (by rfl)) (by decide))) (tgs_cons (tg_name (pg_name (i := 8) sc__law_changes_right.nd rfl (by first | exact .inl rfl | exact .inr rfl))) (tgs_cons (tg_name (pg_name (i := 9) sc__law_changes_right.nd rfl (by first | exact .inl rfl | exact .inr rfl))) tgs_nil)) (by rfl)) hg_1221.2.2.2 (fun w_1230 S_1233 hg_1234 => ?_)
    refine stepV (Wf := (WR rf__law_changes_right)) (δf := fun (z_1245 : (((List Int) × (List Int)) × (List ((Int × Int) × (Int × Int))))) => [some (.src), some (.p (enc p_0)), some (.p (enc n_0)), some (.l (encs n_1216.1)), none, none, some (.p (enc ((w_1218).1))), some (.p (enc ((w_1218).2))), some (.p (enc ((w_1230).1))), some (.p (enc ((w_1230).2))), some (.p (enc z_1245.1)), some (.p (enc z_1245.2)), none, none, none, none, none, none, none, none, none]) ((m_changed_member p_0 (List.map (fun (z_1235 : ((List Int) × (List Int))) => ((getI z_1235.1 0, getI z_1235.1 1), (getI z_1235.2 0, getI z_1235.2 1))) ((w_1218).1)) ((w_1230).1)), (m_change_back p_0 (List.map (fun (z_1240 : ((List Int) × (List Int))) => ((getI z_1240.1 0, getI z_1240.1 1), (getI z_1240.2 0, getI z_1240.2 1))) ((w_1218).1)))) (fun (z_1245 : (((List Int) × (List Int)) × (List ((Int × Int) × (Int × Int))))) => m__law_changes_right_19 p_0 n_0 w_1218 w_1230 S_1233 z_1245) (fun (z_1245 : (((List Int) × (List Int)) × (List ((Int × Int) × (Int × Int))))) => g__law_changes_right_19 p_0 n_0 w_1218 w_1230 S_1233 z_1245) (st_par (i := 10) (j := 11) (eo_p (ev_call ⟨ok_changed_member T, T.G_changed_member, T.F_changed_member.kp, T.B_changed_member⟩ (hr.mono (by decide)) hgd (by rfl) (ea_cons (ev_var 1 rfl (pv 1)) (ea_cons (ev_cast (x := ((w_1218).1 : (List ((List Int) × (List Int))))) (y := ((List.map (fun (z_1235 : ((List Int) × (List Int))) => ((getI z_1235.1 0, getI z_1235.1 1), (getI z_1235.2 0, getI z_1235.2 1))) ((w_1218).1)) : (List ((Int × Int) × (Int × Int))))) ((enc_map (fun z_1235 hz => (enc_p2 ((enc_s2 (hg_1234.1 z_1235 hz).1)) ((enc_s2 (hg_1234.1 z_1235 hz).2)))))) (ev_var 6 rfl (pv 6))) (ea_cons (ev_var 8 rfl (pv 8)) ea_nil))) rfl ⟨_, _, _, rfl, hg_1234.2.1, rfl, rfl⟩)) (eo_p (ev_call ⟨ok_change_back T, T.G_change_back, T.F_change_back.kp, T.B_change_back⟩ (hr.mono (by decide)) hgd (by rfl) (ea_cons (ev_var 1 rfl (pv 1)) (ea_cons (ev_cast (x := ((w_1218).1 : (List ((List Int) × (List Int))))) (y := ((List.map (fun (z_1240 : ((List Int) × (List Int))) => ((getI z_1240.1 0, getI z_1240.1 1), (getI z_1240.2 0, getI z_1240.2 1))) ((w_1218).1)) : (List ((Int × Int) × (Int × Int))))) ((enc_map (fun z_1240 hz => (enc_p2 ((enc_s2 (hg_1234.2.2.1 z_1240 hz).1)) ((enc_s2 (hg_1234.2.2.1 z_1240 hz).2)))))) (ev_var 6 rfl (pv 6))) ea_nil)) rfl ⟨_, _, rfl, hg_1234.2.2.2.1, rfl, rfl⟩)) (by rfl) sc__law_changes_right.nd rfl rfl (by decide) (by rfl) (by rfl) (by rfl)) hg_1234.2.2.2.2 (fun z_1245 hg_1247 => ?_)
    refine sb_if (Wf := (WR rf__law_changes_right)) (x := m__law_changes_right_17 S_1233) (y := m__law_changes_right_18 p_0 n_0 w_1218 w_1230 S_1233 z_1245) (et_pw (ew_orP (et_cmp op_ne rc_neS (ev_repr hr hgd hg_1247.1 (by rfl) T.z_repr (ed_p (ev_var 10 rfl (pv 10)))) (ev_repr hr hgd hg_1247.2.2.1 (by rfl) T.z_repr (ed_p (ev_call ⟨ok__law_changed T, T.G__law_changed, T.F__law_changed.kp, T.B__law_changed⟩ (hr.mono (by decide)) hgd (by rfl) (ea_cons (ev_var 1 rfl (pv 1)) (ea_cons (ev_var 6 rfl (pv 6)) (ea_cons (ev_ixT rfl (ev_var 8 rfl (pv 8)) ev_int) (ea_cons (ev_ixT rfl (ev_var 8 rfl (pv 8)) ev_int) ea_nil)))) rfl ⟨_, _, _, _, rfl, hg_1247.2.1, rfl, rfl⟩))) (nomark _)) fun hc_1251 => (ew_or1 (et_cmp op_ne rc_neS (ev_repr hr hgd (hg_1247.2.2.2.1 hc_1251).1 (by rfl) T.z_repr (ed_p (ev_var 11 rfl (pv 11)))) (ev_repr hr hgd (hg_1247.2.2.2.1 hc_1251).2.2 (by rfl) T.z_repr (ed_p (ev_call ⟨ok__law_about T, T.G__law_about, T.F__law_about.kp, T.B__law_about⟩ (hr.mono (by decide)) hgd (by rfl) (ea_cons (ev_var 1 rfl (pv 1)) (ea_cons (ev_var 6 rfl (pv 6)) ea_nil)) rfl ⟨_, _, rfl, (hg_1247.2.2.2.1 hc_1251).2.1, rfl, rfl⟩))) (nomark _))))) (fun hc_1256 => ?_) (fun hc_1257 => ?_)
    · have hg_1258 := hg_1247.2.2.2.2.1 hc_1256
      exact sb_ret ev_bl rfl
    · have hg_1259 := hg_1247.2.2.2.2.2 hc_1257
      refine stepV (Wf := (WR rf__law_changes_right)) (δf := fun (both_1269 : (List (List (List Int)))) => [some (.src), some (.p (enc p_0)), some (.p (enc n_0)), some (.l (encs n_1216.1)), none, none, some (.p (enc ((w_1218).1))), some (.p (enc ((w_1218).2))), some (.p (enc ((w_1230).1))), some (.p (enc ((w_1230).2))), some (.p (enc z_1245.1)), some (.p (enc z_1245.2)), some (.p (enc both_1269)), none, none, none, none, none, none, none, none]) (m_change_behind p_0 (List.map (fun (z_1260 : ((List Int) × (List Int))) => ((getI z_1260.1 0, getI z_1260.1 1), (getI z_1260.2 0, getI z_1260.2 1))) ((w_1218).1)) (List.map (fun (z_1264 : ((List Int) × (List Int))) => ((getI z_1264.1 0, getI z_1264.1 1), (getI z_1264.2 0, getI z_1264.2 1))) ((w_1218).2))) (fun (both_1269 : (List (List (List Int)))) => m__law_changes_right_16 p_0 n_0 w_1218 w_1230 S_1233 z_1245 both_1269) (fun (both_1269 : (List (List (List Int)))) => g__law_changes_right_16 p_0 n_0 w_1218 w_1230 S_1233 z_1245 both_1269) (st_p (i := 12) (ps_set (i := 12) sc__law_changes_right.nd rfl (by first | exact .inl rfl | exact .inr rfl) (ev_call ⟨ok_change_behind T, T.G_change_behind, T.F_change_behind.kp, T.B_change_behind⟩ (hr.mono (by decide)) hgd (by rfl) (ea_cons (ev_var 1 rfl (pv 1)) (ea_cons (ev_cast (x := ((w_1218).1 : (List ((List Int) × (List Int))))) (y := ((List.map (fun (z_1260 : ((List Int) × (List Int))) => ((getI z_1260.1 0, getI z_1260.1 1), (getI z_1260.2 0, getI z_1260.2 1))) ((w_1218).1)) : (List ((Int × Int) × (Int × Int))))) ((enc_map (fun z_1260 hz => (enc_p2 ((enc_s2 (hg_1259.1 z_1260 hz).1)) ((enc_s2 (hg_1259.1 z_1260 hz).2)))))) (ev_var 6 rfl (pv 6))) (ea_cons (ev_cast (x := ((w_1218).2 : (List ((List Int) × (List Int))))) (y := ((List.map (fun (z_1264 : ((List Int) × (List Int))) => ((getI z_1264.1 0, getI z_1264.1 1), (getI z_1264.2 0, getI z_1264.2 1))) ((w_1218).2)) : (List ((Int × Int) × (Int × Int))))) ((enc_map (fun z_1264 hz => (enc_p2 ((enc_s2 (hg_1259.2.1 z_1264 hz).1)) ((enc_s2 (hg_1259.2.1 z_1264 hz).2)))))) (ev_var 7 rfl (pv 7))) ea_nil))) rfl ⟨_, _, _, rfl, hg_1259.2.2.1, rfl, rfl⟩))) hg_1259.2.2.2 (fun both_1269 hg_1271 => ?_)
      refine sb_if (Wf := (WR rf__law_changes_right)) (x := m__law_changes_right_14 S_1233) (y := m__law_changes_right_15 p_0 n_0 w_1218 w_1230 S_1233 z_1245 both_1269) (et_cmp op_ne rc_neS (ev_repr hr hgd hg_1271.1 (by rfl) T.z_repr (ed_p (ev_var 12 rfl (pv 12)))) (ev_repr hr hgd hg_1271.2.2.1 (by rfl) T.z_repr (ed_p (ev_tuple (by rfl) T.z_tuple (ev_of_new (elc (fun (q_1273 : (((List Int) × (List Int)) × ((List Int) × (List Int)))) => (g__law_small p_0 q_1273.1 q_1273.2)) (fun (q_1273 : (((List Int) × (List Int)) × ((List Int) × (List Int)))) => [some (.src), some (.p (enc p_0)), some (.p (enc n_0)), some (.b (encs n_1216.1)), none, none, some (.p (enc ((w_1218).1))), some (.p (enc ((w_1218).2))), some (.p (enc ((w_1230).1))), some (.p (enc ((w_1230).2))), some (.p (enc z_1245.1)), some (.p (enc z_1245.2)), some (.p (enc both_1269)), some (.p (enc q_1273.1)), some (.p (enc q_1273.2)), none, none, none, none, none, none]) (fun (q_1273 : (((List Int) × (List Int)) × ((List Int) × (List Int)))) => (m__law_small p_0 q_1273.1 q_1273.2)) (ij_zip (wlk_t _) (wlk_t _) (by rfl) T.z_zip (ea_cons (ev_var 6 rfl (pv 6)) (ea_cons (ev_var 7 rfl (pv 7)) ea_nil))) hg_1271.2.1 (fun q_1273 s H C cl fp => (tg_tupN (by rfl) (tgs_cons (tg_name (pg_name (i := 13) sc__law_changes_right.nd rfl (by first | exact .inl rfl | exact .inr rfl))) (tgs_cons (tg_name (pg_name (i := 14) sc__law_changes_right.nd rfl (by first | exact .inl rfl | exact .inr rfl))) tgs_nil)))) (fun q_1273 hq_1274 s H C cl fp => (ev_call ⟨ok__law_small T, T.G__law_small, T.F__law_small.kp, T.B__law_small⟩ (hr.mono (by decide)) hgd (by rfl) (ea_cons (ev_var 1 rfl (pv 1)) (ea_cons (ev_var 13 rfl (pv 13)) (ea_cons (ev_var 14 rfl (pv 14)) ea_nil))) rfl ⟨_, _, _, rfl, hq_1274, rfl, rfl⟩)) (by rfl) sc__law_changes_right.nd (blk_of (own := [("a", 13), ("b", 14)]) (by rfl)) (by decide)))))) (nomark _)) (fun hc_1279 => ?_) (fun hc_1280 => ?_)
      · have hg_1281 := hg_1271.2.2.2.1 hc_1279
        exact sb_ret ev_bl rfl
      · have hg_1282 := hg_1271.2.2.2.2 hc_1280
        refine sb_if (Wf := (WR rf__law_changes_right)) (x := m__law_changes_right_12 S_1233) (y := m__law_changes_right_13 p_0 n_0 w_1218 w_1230 S_1233 z_1245 both_1269) (et_pw (ew_orP (et_cmp (op_neD (hr.un64 (Nat.zero_le _))) (rc_neT ((m_changed_member p_0 (List.map (fun (z_1283 : (List (List Int))) => ((getI ((getI z_1283 0, getI z_1283 1).1) 0, getI ((getI z_1283 0, getI z_1283 1).1) 1), (getI ((getI z_1283 0, getI z_1283 1).2) 0, getI ((getI z_1283 0, getI z_1283 1).2) 1))) both_1269) ((w_1230).1)) : ((List Int) × (List Int))) ((m_changed_member p_0 (List.map (fun (z_1289 : ((List Int) × (List Int))) => ((getI z_1289.1 0, getI z_1289.1 1), (getI z_1289.2 0, getI z_1289.2 1))) ((w_1218).2)) z_1245.1) : ((List Int) × (List Int)))) (ev_call ⟨ok_changed_member T, T.G_changed_member, T.F_changed_member.kp, T.B_changed_member⟩ (hr.mono (by decide)) hgd (by rfl) (ea_cons (ev_var 1 rfl (pv 1)) (ea_cons (ev_cast (x := (both_1269 : (List (List (List Int))))) (y := ((List.map (fun (z_1283 : (List (List Int))) => ((getI ((getI z_1283 0, getI z_1283 1).1) 0, getI ((getI z_1283 0, getI z_1283 1).1) 1), (getI ((getI z_1283 0, getI z_1283 1).2) 0, getI ((getI z_1283 0, getI z_1283 1).2) 1))) both_1269) : (List ((Int × Int) × (Int × Int))))) ((enc_map (fun z_1283 hz => ((enc_s2 (hg_1282.1 z_1283 hz).1).trans (enc_p2 ((enc_s2 (hg_1282.1 z_1283 hz).2.1)) ((enc_s2 (hg_1282.1 z_1283 hz).2.2))))))) (ev_var 12 rfl (pv 12))) (ea_cons (ev_var 8 rfl (pv 8)) ea_nil))) rfl ⟨_, _, _, rfl, hg_1282.2.1, rfl, rfl⟩) (ev_call ⟨ok_changed_member T, T.G_changed_member, T.F_changed_member.kp, T.B_changed_member⟩ (hr.mono (by decide)) hgd (by rfl) (ea_cons (ev_var 1 rfl (pv 1)) (ea_cons (ev_cast (x := ((w_1218).2 : (List ((List Int) × (List Int))))) (y := ((List.map (fun (z_1289 : ((List Int) × (List Int))) => ((getI z_1289.1 0, getI z_1289.1 1), (getI z_1289.2 0, getI z_1289.2 1))) ((w_1218).2)) : (List ((Int × Int) × (Int × Int))))) ((enc_map (fun z_1289 hz => (enc_p2 ((enc_s2 (hg_1282.2.2.1 z_1289 hz).1)) ((enc_s2 (hg_1282.2.2.1 z_1289 hz).2)))))) (ev_var 7 rfl (pv 7))) (ea_cons (ev_var 10 rfl (pv 10)) ea_nil))) rfl ⟨_, _, _, rfl, hg_1282.2.2.2.1, rfl, rfl⟩) (nomark _)) fun hc_1294 => (ew_or1 (et_cmp (op_neD (hr.un64 (Nat.zero_le _))) (rc_neT ((List.map (fun (z_1296 : ((Int × Int) × (Int × Int))) => ([z_1296.1.1, z_1296.1.2], [z_1296.2.1, z_1296.2.2])) (m_change_back p_0 z_1245.2)) : (List ((List Int) × (List Int)))) ((w_1218).1 : (List ((List Int) × (List Int))))) (ev_cast (x := ((m_change_back p_0 z_1245.2) : (List ((Int × Int) × (Int × Int))))) (y := ((List.map (fun (z_1296 : ((Int × Int) × (Int × Int))) => ([z_1296.1.1, z_1296.1.2], [z_1296.2.1, z_1296.2.2])) (m_change_back p_0 z_1245.2)) : (List ((List Int) × (List Int))))) ((enc_map (fun _ _ => rfl))) (ev_call ⟨ok_change_back T, T.G_change_back, T.F_change_back.kp, T.B_change_back⟩ (hr.mono (by decide)) hgd (by rfl) (ea_cons (ev_var 1 rfl (pv 1)) (ea_cons (ev_var 11 rfl (pv 11)) ea_nil)) rfl ⟨_, _, rfl, (hg_1282.2.2.2.2.1 hc_1294), rfl, rfl⟩)) (ev_var 6 rfl (pv 6)) (nomark _))))) (fun hc_1298 => ?_) (fun hc_1299 => ?_)
        · have hg_1300 := hg_1282.2.2.2.2.2.1 hc_1298
          exact sb_ret ev_bl rfl
        · have hg_1301 := hg_1282.2.2.2.2.2.2 hc_1299
          refine sb_if (Wf := (WR rf__law_changes_right)) (x := m__law_changes_right_10 S_1233) (y := m__law_changes_right_11 p_0 n_0 w_1218 S_1233 z_1245 both_1269) (et_cmp op_ne rc_neI (ev_call ⟨ok_form_of T, T.G_form_of, T.F_form_of.kp, T.B_form_of⟩ (hr.mono (by decide)) hgd (by rfl) (ea_cons (ev_var 1 rfl (pv 1)) (ea_cons (ev_var 10 rfl (pv 10)) (ea_cons (ev_var 9 rfl (pv 9)) ea_nil))) rfl ⟨_, _, _, rfl, hg_1301.1, rfl, rfl⟩) (ev_call ⟨ok_form_of T, T.G_form_of, T.F_form_of.kp, T.B_form_of⟩ (hr.mono (by decide)) hgd (by rfl) (ea_cons (ev_var 1 rfl (pv 1)) (ea_cons (ev_var 8 rfl (pv 8)) (ea_cons (ev_call ⟨ok_changed_member T, T.G_changed_member, T.F_changed_member.kp, T.B_changed_member⟩ (hr.mono (by decide)) hgd (by rfl) (ea_cons (ev_var 1 rfl (pv 1)) (ea_cons (ev_var 11 rfl (pv 11)) (ea_cons (ev_var 9 rfl (pv 9)) ea_nil))) rfl ⟨_, _, _, rfl, hg_1301.2.1, rfl, rfl⟩) ea_nil))) rfl ⟨_, _, _, rfl, hg_1301.2.2.1, rfl, rfl⟩) (nomark _)) (fun hc_1305 => ?_) (fun hc_1306 => ?_)
          · have hg_1307 := hg_1301.2.2.2.1 hc_1305
            exact sb_ret ev_bl rfl
          · have hg_1308 := hg_1301.2.2.2.2 hc_1306
            refine sb_if (Wf := (WR rf__law_changes_right)) (x := m__law_changes_right_8 S_1233) (y := m__law_changes_right_9 p_0 n_0 w_1218 S_1233 z_1245) (et_cmp (op_neD (hr.un64 (Nat.zero_le _))) (rc_neT ((List.map (fun (z_1321 : ((Int × Int) × (Int × Int))) => [[z_1321.1.1, z_1321.1.2], [z_1321.2.1, z_1321.2.2]]) (m_change_back p_0 (List.map (fun (z_1309 : (List (List Int))) => ((getI ((getI z_1309 0, getI z_1309 1).1) 0, getI ((getI z_1309 0, getI z_1309 1).1) 1), (getI ((getI z_1309 0, getI z_1309 1).2) 0, getI ((getI z_1309 0, getI z_1309 1).2) 1))) both_1269))) : (List (List (List Int)))) ((m_change_behind p_0 (m_change_back p_0 (List.map (fun (z_1315 : ((List Int) × (List Int))) => ((getI z_1315.1 0, getI z_1315.1 1), (getI z_1315.2 0, getI z_1315.2 1))) ((w_1218).2))) z_1245.2) : (List (List (List Int))))) (ev_cast (x := ((m_change_back p_0 (List.map (fun (z_1309 : (List (List Int))) => ((getI ((getI z_1309 0, getI z_1309 1).1) 0, getI ((getI z_1309 0, getI z_1309 1).1) 1), (getI ((getI z_1309 0, getI z_1309 1).2) 0, getI ((getI z_1309 0, getI z_1309 1).2) 1))) both_1269)) : (List ((Int × Int) × (Int × Int))))) (y := ((List.map (fun (z_1321 : ((Int × Int) × (Int × Int))) => [[z_1321.1.1, z_1321.1.2], [z_1321.2.1, z_1321.2.2]]) (m_change_back p_0 (List.map (fun (z_1309 : (List (List Int))) => ((getI ((getI z_1309 0, getI z_1309 1).1) 0, getI ((getI z_1309 0, getI z_1309 1).1) 1), (getI ((getI z_1309 0, getI z_1309 1).2) 0, getI ((getI z_1309 0, getI z_1309 1).2) 1))) both_1269))) : (List (List (List Int))))) ((enc_map (fun _ _ => rfl))) (ev_call ⟨ok_change_back T, T.G_change_back, T.F_change_back.kp, T.B_change_back⟩ (hr.mono (by decide)) hgd (by rfl) (ea_cons (ev_var 1 rfl (pv 1)) (ea_cons (ev_cast (x := (both_1269 : (List (List (List Int))))) (y := ((List.map (fun (z_1309 : (List (List Int))) => ((getI ((getI z_1309 0, getI z_1309 1).1) 0, getI ((getI z_1309 0, getI z_1309 1).1) 1), (getI ((getI z_1309 0, getI z_1309 1).2) 0, getI ((getI z_1309 0, getI z_1309 1).2) 1))) both_1269) : (List ((Int × Int) × (Int × Int))))) ((enc_map (fun z_1309 hz => ((enc_s2 (hg_1308.1 z_1309 hz).1).trans (enc_p2 ((enc_s2 (hg_1308.1 z_1309 hz).2.1)) ((enc_s2 (hg_1308.1 z_1309 hz).2.2))))))) (ev_var 12 rfl (pv 12))) ea_nil)) rfl ⟨_, _, rfl, hg_1308.2.1, rfl, rfl⟩)) (ev_call ⟨ok_change_behind T, T.G_change_behind, T.F_change_behind.kp, T.B_change_behind⟩ (hr.mono (by decide)) hgd (by rfl) (ea_cons (ev_var 1 rfl (pv 1)) (ea_cons (ev_call ⟨ok_change_back T, T.G_change_back, T.F_change_back.kp, T.B_change_back⟩ (hr.mono (by decide)) hgd (by rfl) (ea_cons (ev_var 1 rfl (pv 1)) (ea_cons (ev_cast (x := ((w_1218).2 : (List ((List Int) × (List Int))))) (y := ((List.map (fun (z_1315 : ((List Int) × (List Int))) => ((getI z_1315.1 0, getI z_1315.1 1), (getI z_1315.2 0, getI z_1315.2 1))) ((w_1218).2)) : (List ((Int × Int) × (Int × Int))))) ((enc_map (fun z_1315 hz => (enc_p2 ((enc_s2 (hg_1308.2.2.1 z_1315 hz).1)) ((enc_s2 (hg_1308.2.2.1 z_1315 hz).2)))))) (ev_var 7 rfl (pv 7))) ea_nil)) rfl ⟨_, _, rfl, hg_1308.2.2.2.1, rfl, rfl⟩) (ea_cons (ev_var 11 rfl (pv 11)) ea_nil))) rfl ⟨_, _, _, rfl, hg_1308.2.2.2.2.1, rfl, rfl⟩) (nomark _)) (fun hc_1322 => ?_) (fun hc_1323 => ?_)
            · have hg_1324 := hg_1308.2.2.2.2.2.1 hc_1322
              exact sb_ret ev_bl rfl
            · have hg_1325 := hg_1308.2.2.2.2.2.2 hc_1323
              refine stepV (Wf := (WR rf__law_changes_right)) (δf := fun (dets_1337 : (List Int)) => [some (.src), some (.p (enc p_0)), some (.p (enc n_0)), some (.l (encs n_1216.1)), none, none, some (.p (enc ((w_1218).1))), some (.p (enc ((w_1218).2))), some (.p (enc ((w_1230).1))), some (.p (enc ((w_1230).2))), some (.p (enc z_1245.1)), some (.p (enc z_1245.2)), some (.p (enc both_1269)), none, none, none, none, some (.b (encs dets_1337)), none, none, none]) (List.map (fun (q_1330 : ((Int × Int) × (Int × Int))) => (((q_1330.1.1 * q_1330.2.2) - (q_1330.1.2 * q_1330.2.1)) % p_0)) (List.map (fun (z_1326 : ((List Int) × (List Int))) => ((getI z_1326.1 0, getI z_1326.1 1), (getI z_1326.2 0, getI z_1326.2 1))) ((w_1218).1))) (fun (dets_1337 : (List Int)) => m__law_changes_right_7 p_0 n_0 w_1218 S_1233 z_1245 dets_1337) (fun (dets_1337 : (List Int)) => g__law_changes_right_7 p_0 n_0 w_1218 S_1233 z_1245 dets_1337) (st_lB (i := 17) (plc (fun (q_1330 : ((Int × Int) × (Int × Int))) => (CMul q_1330.1.1 q_1330.2.2) ∧ (CMul q_1330.1.2 q_1330.2.1) ∧ (0 < p_0)) (fun (q_1330 : ((Int × Int) × (Int × Int))) => [some (.src), some (.p (enc p_0)), some (.p (enc n_0)), some (.b (encs n_1216.1)), none, none, some (.p (enc ((w_1218).1))), some (.p (enc ((w_1218).2))), some (.p (enc ((w_1230).1))), some (.p (enc ((w_1230).2))), some (.p (enc z_1245.1)), some (.p (enc z_1245.2)), some (.p (enc both_1269)), some (.p (enc q_1330.1.1)), some (.p (enc q_1330.1.2)), some (.p (enc q_1330.2.1)), some (.p (enc q_1330.2.2)), none, none, none, none]) (fun (q_1330 : ((Int × Int) × (Int × Int))) => (((q_1330.1.1 * q_1330.2.2) - (q_1330.1.2 * q_1330.2.1)) % p_0)) (ij_T (ev_cast (x := ((w_1218).1 : (List ((List Int) × (List Int))))) (y := ((List.map (fun (z_1326 : ((List Int) × (List Int))) => ((getI z_1326.1 0, getI z_1326.1 1), (getI z_1326.2 0, getI z_1326.2 1))) ((w_1218).1)) : (List ((Int × Int) × (Int × Int))))) ((enc_map (fun z_1326 hz => (enc_p2 ((enc_s2 (hg_1325.1 z_1326 hz).1)) ((enc_s2 (hg_1325.1 z_1326 hz).2)))))) (ev_var 6 rfl (pv 6)))) hg_1325.2.1 (fun q_1330 s H C cl fp => (tg_tup (ds := [enc q_1330.1, enc q_1330.2]) (by rfl) (tgs_cons (tg_tup (ds := [enc q_1330.1.1, enc q_1330.1.2]) (by rfl) (tgs_cons (tg_name (pg_name (i := 13) sc__law_changes_right.nd rfl (by first | exact .inl rfl | exact .inr rfl))) (tgs_cons (tg_name (pg_name (i := 14) sc__law_changes_right.nd rfl (by first | exact .inl rfl | exact .inr rfl))) tgs_nil))) (tgs_cons (tg_tup (ds := [enc q_1330.2.1, enc q_1330.2.2]) (by rfl) (tgs_cons (tg_name (pg_name (i := 15) sc__law_changes_right.nd rfl (by first | exact .inl rfl | exact .inr rfl))) (tgs_cons (tg_name (pg_name (i := 16) sc__law_changes_right.nd rfl (by first | exact .inl rfl | exact .inr rfl))) tgs_nil))) tgs_nil)))) (fun q_1330 hq_1331 s H C cl fp => (ev_mod hq_1331.2.2 (ev_intI (by rfl) T.z_int (ev_sub (ev_mul hq_1331.1 (ev_var 13 rfl (pv 13)) (ev_var 16 rfl (pv 16))) (ev_mul hq_1331.2.1 (ev_var 14 rfl (pv 14)) (ev_var 15 rfl (pv 15))))) (ev_var 1 rfl (pv 1)))) (by rfl) sc__law_changes_right.nd (blk_of (own := [("a", 13), ("b", 14), ("c", 15), ("d", 16)]) (by rfl)) (by decide) (by rfl) rfl (by rfl))) hg_1325.2.2 (fun dets_1337 hg_1339 => ?_)
              refine sb_if (Wf := (WR rf__law_changes_right)) (x := m__law_changes_right_5 S_1233) (y := m__law_changes_right_6 p_0 n_0 w_1218 S_1233 z_1245 dets_1337) (et_pw (ew_orP (et_cmp (op_neD (hr.un64 (Nat.zero_le _))) (rc_neL ((List.map (fun (q_1340 : ((List Int) × (List Int))) => (m_small_det p_0 ((getI q_1340.1 0, getI q_1340.1 1), (getI q_1340.2 0, getI q_1340.2 1)))) (w_1218).1) : (List Int)) (dets_1337 : (List Int))) (ev_of_new (elc (fun (q_1340 : ((List Int) × (List Int))) => (List.length q_1340.1 = 2) ∧ (List.length q_1340.2 = 2) ∧ (g_small_det p_0 ((getI q_1340.1 0, getI q_1340.1 1), (getI q_1340.2 0, getI q_1340.2 1)))) (fun (q_1340 : ((List Int) × (List Int))) => [some (.src), some (.p (enc p_0)), some (.p (enc n_0)), some (.b (encs n_1216.1)), none, none, some (.p (enc ((w_1218).1))), some (.p (enc ((w_1218).2))), some (.p (enc ((w_1230).1))), some (.p (enc ((w_1230).2))), some (.p (enc z_1245.1)), some (.p (enc z_1245.2)), some (.p (enc both_1269)), none, none, none, none, some (.b (encs dets_1337)), some (.p (enc q_1340)), none, none]) (fun (q_1340 : ((List Int) × (List Int))) => (m_small_det p_0 ((getI q_1340.1 0, getI q_1340.1 1), (getI q_1340.2 0, getI q_1340.2 1)))) (ij_T (ev_var 6 rfl (pv 6))) hg_1339.1 (fun q_1340 s H C cl fp => (tg_name (pg_name (i := 18) sc__law_changes_right.nd rfl (by first | exact .inl rfl | exact .inr rfl)))) (fun q_1340 hq_1341 s H C cl fp => (ev_call ⟨ok_small_det T, T.G_small_det, T.F_small_det.kp, T.B_small_det⟩ (hr.mono (by decide)) hgd (by rfl) (ea_cons (ev_var 1 rfl (pv 1)) (ea_cons (ev_cast (x := (q_1340 : ((List Int) × (List Int)))) (y := (((getI q_1340.1 0, getI q_1340.1 1), (getI q_1340.2 0, getI q_1340.2 1)) : ((Int × Int) × (Int × Int)))) ((enc_p2 ((enc_s2 hq_1341.1)) ((enc_s2 hq_1341.2.1)))) (ev_var 18 rfl (pv 18))) ea_nil)) rfl ⟨_, _, rfl, hq_1341.2.2, rfl, rfl⟩)) (by rfl) sc__law_changes_right.nd (blk_of (own := [("table", 18)]) (by rfl)) (by decide))) (ev_varB 17 rfl (pv 17)) (nomark _)) fun hc_1347 => (ew_or1 (et_cmp op_ne rc_neS (ev_repr hr hgd (hg_1339.2.1 hc_1347).2.2.1 (by rfl) T.z_repr (ed_p (ev_call ⟨ok_is_proper T, T.G_is_proper, T.F_is_proper.kp, T.B_is_proper⟩ (hr.mono (by decide)) hgd (by rfl) (ea_cons (ev_var 1 rfl (pv 1)) (ea_cons (ev_cast (x := ((w_1218).1 : (List ((List Int) × (List Int))))) (y := ((List.map (fun (z_1348 : ((List Int) × (List Int))) => ((getI z_1348.1 0, getI z_1348.1 1), (getI z_1348.2 0, getI z_1348.2 1))) ((w_1218).1)) : (List ((Int × Int) × (Int × Int))))) ((enc_map (fun z_1348 hz => (enc_p2 ((enc_s2 ((hg_1339.2.1 hc_1347).1 z_1348 hz).1)) ((enc_s2 ((hg_1339.2.1 hc_1347).1 z_1348 hz).2)))))) (ev_var 6 rfl (pv 6))) ea_nil)) rfl ⟨_, _, rfl, (hg_1339.2.1 hc_1347).2.1, rfl, rfl⟩))) (ev_repr hr hgd (hg_1339.2.1 hc_1347).2.2.2.2 (by rfl) T.z_repr (ed_p (ev_cmp (op_eqD (hr.un64 (Nat.zero_le _))) (rc_eqL (dets_1337 : (List Int)) ((repL n_0 ([(1 : Int)] : List Int)) : (List Int))) (ev_varB 17 rfl (pv 17)) (ev_of_new (el_repT (hg_1339.2.1 hc_1347).2.2.2.1 (el_lst (ds := encs ([(1 : Int)] : List Int)) (ea_cons ev_int ea_nil)) (ev_var 2 rfl (pv 2)))) (nomark _)))) (nomark _))))) (fun hc_1357 => ?_) (fun hc_1358 => ?_)
              · have hg_1359 := hg_1339.2.2.1 hc_1357
                exact sb_ret ev_bl rfl
              · have hg_1360 := hg_1339.2.2.2 hc_1358
                refine stepV (Wf := (WR rf__law_changes_right)) (δf := fun (due_1364 : (List ((Int × Int) × (Int × Int)))) => [some (.src), some (.p (enc p_0)), some (.p (enc n_0)), some (.l (encs n_1216.1)), none, none, some (.p (enc ((w_1218).1))), some (.p (enc ((w_1218).2))), some (.p (enc ((w_1230).1))), some (.p (enc ((w_1230).2))), some (.p (enc z_1245.1)), some (.p (enc z_1245.2)), some (.p (enc both_1269)), none, none, none, none, some (.b (encs dets_1337)), none, none, some (.p (enc due_1364))]) (List.map (fun (q_1361 : Int) => ((q_1361, (0 : Int)), ((0 : Int), q_1361))) dets_1337) (fun (due_1364 : (List ((Int × Int) × (Int × Int)))) => m__law_changes_right_4 p_0 n_0 w_1218 S_1233 z_1245 due_1364) (fun (due_1364 : (List ((Int × Int) × (Int × Int)))) => g__law_changes_right_4 p_0 n_0 w_1218 S_1233 z_1245 due_1364) (st_p (i := 20) (ps_set (i := 20) sc__law_changes_right.nd rfl (by first | exact .inl rfl | exact .inr rfl) (ev_tuple (by rfl) T.z_tuple (ev_of_new (elc (fun (q_1361 : Int) => True) (fun (q_1361 : Int) => [some (.src), some (.p (enc p_0)), some (.p (enc n_0)), some (.b (encs n_1216.1)), none, none, some (.p (enc ((w_1218).1))), some (.p (enc ((w_1218).2))), some (.p (enc ((w_1230).1))), some (.p (enc ((w_1230).2))), some (.p (enc z_1245.1)), some (.p (enc z_1245.2)), some (.p (enc both_1269)), none, none, none, none, some (.b (encs dets_1337)), none, some (.p (enc q_1361)), none]) (fun (q_1361 : Int) => ((q_1361, (0 : Int)), ((0 : Int), q_1361))) (ij_L (ev_varB 17 rfl (pv 17))) (fun _ _ => trivial) (fun q_1361 s H C cl fp => (tg_name (pg_name (i := 19) sc__law_changes_right.nd rfl (by first | exact .inl rfl | exact .inr rfl)))) (fun q_1361 hq_1362 s H C cl fp => (ev_tup (ds := [enc (q_1361, (0 : Int)), enc ((0 : Int), q_1361)]) (ea_cons (ev_tup (ds := [enc q_1361, enc (0 : Int)]) (ea_cons (ev_var 19 rfl (pv 19)) (ea_cons ev_int ea_nil))) (ea_cons (ev_tup (ds := [enc (0 : Int), enc q_1361]) (ea_cons ev_int (ea_cons (ev_var 19 rfl (pv 19)) ea_nil))) ea_nil)))) (by rfl) sc__law_changes_right.nd (blk_of (own := [("x", 19)]) (by rfl)) (by decide)))))) hg_1360 (fun due_1364 hg_1366 => ?_)
                exact sb_ret (ev_andP (ev_cmp (op_eqD (hr.un64 (Nat.zero_le _))) (rc_eqT ((m_change_behind p_0 (List.map (fun (z_1367 : ((List Int) × (List Int))) => ((getI z_1367.1 0, getI z_1367.1 1), (getI z_1367.2 0, getI z_1367.2 1))) ((w_1218).1)) z_1245.2) : (List (List (List Int)))) ((List.map (fun (z_1372 : ((Int × Int) × (Int × Int))) => [[z_1372.1.1, z_1372.1.2], [z_1372.2.1, z_1372.2.2]]) due_1364) : (List (List (List Int))))) (ev_call ⟨ok_change_behind T, T.G_change_behind, T.F_change_behind.kp, T.B_change_behind⟩ (hr.mono (by decide)) hgd (by rfl) (ea_cons (ev_var 1 rfl (pv 1)) (ea_cons (ev_cast (x := ((w_1218).1 : (List ((List Int) × (List Int))))) (y := ((List.map (fun (z_1367 : ((List Int) × (List Int))) => ((getI z_1367.1 0, getI z_1367.1 1), (getI z_1367.2 0, getI z_1367.2 1))) ((w_1218).1)) : (List ((Int × Int) × (Int × Int))))) ((enc_map (fun z_1367 hz => (enc_p2 ((enc_s2 (hg_1366.1 z_1367 hz).1)) ((enc_s2 (hg_1366.1 z_1367 hz).2)))))) (ev_var 6 rfl (pv 6))) (ea_cons (ev_var 11 rfl (pv 11)) ea_nil))) rfl ⟨_, _, _, rfl, hg_1366.2.1, rfl, rfl⟩) (ev_cast (x := (due_1364 : (List ((Int × Int) × (Int × Int))))) (y := ((List.map (fun (z_1372 : ((Int × Int) × (Int × Int))) => [[z_1372.1.1, z_1372.1.2], [z_1372.2.1, z_1372.2.2]]) due_1364) : (List (List (List Int))))) ((enc_map (fun _ _ => rfl))) (ev_var 20 rfl (pv 20))) (nomark _)) fun hc_1373 => (ev_one (ev_cmp (op_eqD (hr.un64 (Nat.zero_le _))) (rc_eqT ((m_change_behind p_0 (List.map (fun (z_1375 : ((List Int) × (List Int))) => ((getI z_1375.1 0, getI z_1375.1 1), (getI z_1375.2 0, getI z_1375.2 1))) ((w_1218).1)) (m_same_change n_0)) : (List (List (List Int)))) ((List.map (fun (z_1380 : ((List Int) × (List Int))) => [z_1380.1, z_1380.2]) ((w_1218).1)) : (List (List (List Int))))) (ev_call ⟨ok_change_behind T, T.G_change_behind, T.F_change_behind.kp, T.B_change_behind⟩ (hr.mono (by decide)) hgd (by rfl) (ea_cons (ev_var 1 rfl (pv 1)) (ea_cons (ev_cast (x := ((w_1218).1 : (List ((List Int) × (List Int))))) (y := ((List.map (fun (z_1375 : ((List Int) × (List Int))) => ((getI z_1375.1 0, getI z_1375.1 1), (getI z_1375.2 0, getI z_1375.2 1))) ((w_1218).1)) : (List ((Int × Int) × (Int × Int))))) ((enc_map (fun z_1375 hz => (enc_p2 ((enc_s2 ((hg_1366.2.2 hc_1373).2.1 z_1375 hz).1)) ((enc_s2 ((hg_1366.2.2 hc_1373).2.1 z_1375 hz).2)))))) (ev_var 6 rfl (pv 6))) (ea_cons (ev_call ⟨ok_same_change T, T.G_same_change, T.F_same_change.kp, T.B_same_change⟩ (hr.mono (by decide)) hgd (by rfl) (ea_cons (ev_var 2 rfl (pv 2)) ea_nil) rfl ⟨_, rfl, (hg_1366.2.2 hc_1373).1, rfl, rfl⟩) ea_nil))) rfl ⟨_, _, _, rfl, (hg_1366.2.2 hc_1373).2.2, rfl, rfl⟩) (ev_cast (x := ((w_1218).1 : (List ((List Int) × (List Int))))) (y := ((List.map (fun (z_1380 : ((List Int) × (List Int))) => [z_1380.1, z_1380.2]) ((w_1218).1)) : (List (List (List Int))))) ((enc_map (fun _ _ => rfl))) (ev_var 6 rfl (pv 6))) (nomark _)))) rfl)
set_option maxHeartbeats 0 in
theorem ok_law {P : Program} {w : World} {K : PySem.W.Frag} {mg : Str → Option Value} {base : Heap} (T : Kit K mg) : FnG P w K mg base 5 T.a_law T.d_law ["script"] (spLaw K g_law m_law) := by
  refine fnG_of T.F_law sc_law (fun vs H Q E h => ?_) fun cd A outer s H vs Q E hr hgd h => ?_
  · obtain ⟨a, ns, rfl, _⟩ := h; rfl
  obtain ⟨a, ns, rfl, hs, hz, hg, hm, q⟩ := h
  have body : ∀ (sa : SA) (S : Src), g_law S → SB (bx P w K mg base ["script", "source", "lap", "p", "n", "web", "rows", "told", "v", "u", "due", "row", "turn", "x", "y", "z", "one", "other", "c", "both", "member", "is_in", "k", "has_noughts", "every", "many"] "law" (defScope s_law) T.a_law cd A outer s H E) sa [none, some (.src), none, none, none, none, none, none, none, none, none, none, none, none, none, none, none, none, none, none, none, none, none, none, none, none] S ((defBody s_law).drop 1) (WR rf_law (m_law S)) := fun sa S hg => by
    refine forR (itm := itP1) (fun (n_1626 : Src) => m_law_45 n_1626) (fun (n_1626 : Src) => g_law_45 n_1626) nf_law_1 rf_law (S : Src) (fun (n_1395 : Src) (q_1396 : Int) => g_law_44 n_1395 q_1396) (fun n_1395 q_1396 => [none, some (.src), some (.p (enc q_1396)), none, none, none, none, none, none, none, none, none, none, none, none, none, none, none, none, none, none, none, none, none, none, none]) (fun (n_1395 : Src) (q_1396 : Int) => m_law_44 n_1395 q_1396) (ij_range1 hg.1 (by rfl) T.z_range (ea_cons ev_int ea_nil)) (And.intro rfl trivial) (fun n_1395 q_1396 => (tg_name (pg_name (i := 2) sc_law.nd rfl (by first | exact .inl rfl | exact .inr rfl)))) (fun n_1395 q_1396 hb_1393 => ?_) hg.2.1 hg.2.2 (fun n_1626 hg_1627 => ?_)
    · refine stepVS (Wf := (WX nf_law_1 rf_law)) (δf := fun (p_1399 : Int) => [none, some (.src), some (.p (enc q_1396)), some (.p (enc p_1399)), none, none, none, none, none, none, none, none, none, none, none, none, none, none, none, none, none, none, none, none, none, none]) ((m__law_of ([(2 : Int), (3 : Int), (5 : Int), (7 : Int)] : List Int) n_1395).1) (fun (p_1399 : Int) (S_1401 : Src) => m_law_43 q_1396 p_1399 S_1401) (fun (p_1399 : Int) (S_1401 : Src) => g_law_43 q_1396 p_1399 S_1401) (st_p (i := 3) (ps_set (i := 3) sc_law.nd rfl (by first | exact .inl rfl | exact .inr rfl) (ev_call ⟨ok__law_of T, T.G__law_of, T.F__law_of.kp, T.B__law_of⟩ (hr.mono (by decide)) hgd (by rfl) (ea_cons (ev_varS 1 rfl (pv 1)) (ea_cons (ev_of_new (el_lst (ds := encs ([(2 : Int), (3 : Int), (5 : Int), (7 : Int)] : List Int)) (ea_cons ev_int (ea_cons ev_int (ea_cons ev_int (ea_cons ev_int ea_nil)))))) ea_nil)) rfl ⟨_, rfl, hb_1393.1, rfl, rfl⟩))) hb_1393.2 (fun p_1399 S_1401 hg_1402 => ?_)
      refine stepVS (Wf := (WX nf_law_1 rf_law)) (δf := fun (n_1408 : Int) => [none, some (.src), some (.p (enc q_1396)), some (.p (enc p_1399)), some (.p (enc n_1408)), none, none, none, none, none, none, none, none, none, none, none, none, none, none, none, none, none, none, none, none, none]) ((1 : Int) + (m__law_pick (if decide (q_1396 < (4 : Int)) = true then (dixI [((2 : Int), (5 : Int)), ((3 : Int), (3 : Int)), ((5 : Int), (2 : Int)), ((7 : Int), (2 : Int))] p_1399) else (8 : Int)) S_1401).1) (fun (n_1408 : Int) (S_1410 : Src) => m_law_42 q_1396 p_1399 n_1408 S_1410) (fun (n_1408 : Int) (S_1410 : Src) => g_law_42 q_1396 p_1399 n_1408 S_1410) (st_p (i := 4) (ps_set (i := 4) sc_law.nd rfl (by first | exact .inl rfl | exact .inr rfl) (ev_add ev_int (ev_call ⟨ok__law_pick T, T.G__law_pick, T.F__law_pick.kp, T.B__law_pick⟩ (hr.mono (by decide)) hgd (by rfl) (ea_cons (ev_varS 1 rfl (pv 1)) (ea_cons (ev_ifp (x := ((dixI [((2 : Int), (5 : Int)), ((3 : Int), (3 : Int)), ((5 : Int), (2 : Int)), ((7 : Int), (2 : Int))] p_1399) : Int)) (y := ((8 : Int) : Int)) (et_cmp op_lt rc_lt (ev_var 2 rfl (pv 2)) ev_int (nomark _)) (fun hc_1403 => (ev_dix (kvs := [((2 : Int), (5 : Int)), ((3 : Int), (3 : Int)), ((5 : Int), (2 : Int)), ((7 : Int), (2 : Int))]) (hr.un64 (Nat.zero_le _)) (pps_cons pe_int pe_int (pps_cons pe_int pe_int (pps_cons pe_int pe_int (pps_cons pe_int pe_int pps_nil)))) (by rfl) (by decide) (hg_1402.1 hc_1403) (ev_var 3 rfl (pv 3)))) (fun hc_1404 => ev_int)) ea_nil)) rfl ⟨_, rfl, hg_1402.2.1, rfl, rfl⟩)))) hg_1402.2.2 (fun n_1408 S_1410 hg_1411 => ?_)
      refine stepVS (Wf := (WX nf_law_1 rf_law)) (δf := fun (web_1414 : (T3 Int Int (List (T3 Int Int Int)))) => [none, some (.src), some (.p (enc q_1396)), some (.p (enc p_1399)), some (.p (enc n_1408)), some (.p (enc web_1414)), none, none, none, none, none, none, none, none, none, none, none, none, none, none, none, none, none, none, none, none]) ((m__law_web p_1399 n_1408 ((m__law_pick (3 : Int) S_1410).1) ((m__law_pick (3 : Int) S_1410).2)).1) (fun (web_1414 : (T3 Int Int (List (T3 Int Int Int)))) (S_1416 : Src) => m_law_41 q_1396 p_1399 n_1408 web_1414 S_1416) (fun (web_1414 : (T3 Int Int (List (T3 Int Int Int)))) (S_1416 : Src) => g_law_41 q_1396 p_1399 n_1408 web_1414 S_1416) (st_p (i := 5) (ps_set (i := 5) sc_law.nd rfl (by first | exact .inl rfl | exact .inr rfl) (ev_call ⟨ok__law_web T, T.G__law_web, T.F__law_web.kp, T.B__law_web⟩ (hr.mono (by decide)) hgd (by rfl) (ea_cons (ev_varS 1 rfl (pv 1)) (ea_cons (ev_var 3 rfl (pv 3)) (ea_cons (ev_var 4 rfl (pv 4)) (ea_cons (ev_call ⟨ok__law_pick T, T.G__law_pick, T.F__law_pick.kp, T.B__law_pick⟩ (hr.mono (by decide)) hgd (by rfl) (ea_cons (ev_varS 1 rfl (pv 1)) (ea_cons ev_int ea_nil)) rfl ⟨_, rfl, hg_1411.1, rfl, rfl⟩) ea_nil)))) rfl ⟨_, _, _, rfl, hg_1411.2.1, rfl, rfl⟩))) hg_1411.2.2 (fun web_1414 S_1416 hg_1417 => ?_)
      refine stepV (Wf := (WX nf_law_1 rf_law)) (δf := fun (rows_1419 : (List (List Int))) => [none, some (.src), some (.p (enc q_1396)), some (.p (enc p_1399)), some (.p (enc n_1408)), some (.p (enc web_1414)), some (.bb (encss rows_1419)), none, none, none, none, none, none, none, none, none, none, none, none, none, none, none, none, none, none, none]) (m__law_table web_1414) (fun (rows_1419 : (List (List Int))) => m_law_40 q_1396 p_1399 n_1408 web_1414 S_1416 rows_1419) (fun (rows_1419 : (List (List Int))) => g_law_40 q_1396 p_1399 n_1408 web_1414 S_1416 rows_1419) (st_mB (i := 6) (ps_set (i := 6) sc_law.nd rfl (by first | exact .inl rfl | exact .inr rfl) (em_call ⟨ok__law_table T, T.G__law_table, T.F__law_table.kp, T.B__law_table⟩ (hr.mono (by decide)) hgd (by rfl) (ea_cons (ev_var 5 rfl (pv 5)) ea_nil) rfl ⟨_, rfl, hg_1417.1, rfl, rfl⟩))) hg_1417.2 (fun rows_1419 hg_1421 => ?_)
      refine stepV (Wf := (WX nf_law_1 rf_law)) (δf := fun (told_1423 : (List ((List Int) × (List Int)))) => [none, some (.src), some (.p (enc q_1396)), some (.p (enc p_1399)), some (.p (enc n_1408)), some (.p (enc web_1414)), some (.bb (encss rows_1419)), some (.p (enc told_1423)), none, none, none, none, none, none, none, none, none, none, none, none, none, none, none, none, none, none]) (m_room_rows web_1414) (fun (told_1423 : (List ((List Int) × (List Int)))) => m_law_39 q_1396 p_1399 n_1408 web_1414 S_1416 rows_1419 told_1423) (fun (told_1423 : (List ((List Int) × (List Int)))) => g_law_39 q_1396 p_1399 n_1408 web_1414 S_1416 rows_1419 told_1423) (st_p (i := 7) (ps_set (i := 7) sc_law.nd rfl (by first | exact .inl rfl | exact .inr rfl) (ev_call ⟨ok_room_rows T, T.G_room_rows, T.F_room_rows.kp, T.B_room_rows⟩ (hr.mono (by decide)) hgd (by rfl) (ea_cons (ev_var 5 rfl (pv 5)) ea_nil) rfl ⟨_, rfl, hg_1421.1, rfl, rfl⟩))) hg_1421.2 (fun told_1423 hg_1425 => ?_)
      refine stepV (Wf := (WX nf_law_1 rf_law)) (δf := fun (due_1436 : (List ((List Int) × (List Int)))) => [none, some (.src), some (.p (enc q_1396)), some (.p (enc p_1399)), some (.p (enc n_1408)), some (.p (enc web_1414)), some (.bb (encss rows_1419)), some (.p (enc told_1423)), none, none, some (.p (enc due_1436)), none, none, none, none, none, none, none, none, none, none, none, none, none, none, none]) (List.map (fun (q_1427 : Int) => ((List.map (fun (q_1431 : Int) => (if decide (q_1431 = q_1427) = true then (1 : Int) else 0)) (rngI 0 (Int.toNat n_1408))), (getI rows_1419 q_1427))) (rngI 0 (Int.toNat n_1408))) (fun (due_1436 : (List ((List Int) × (List Int)))) => m_law_38 q_1396 p_1399 n_1408 web_1414 S_1416 rows_1419 told_1423 due_1436) (fun (due_1436 : (List ((List Int) × (List Int)))) => g_law_38 q_1396 p_1399 n_1408 web_1414 S_1416 rows_1419 told_1423 due_1436) (st_p (i := 10) (ps_set (i := 10) sc_law.nd rfl (by first | exact .inl rfl | exact .inr rfl) (ev_tuple (by rfl) T.z_tuple (ev_of_new (elc (fun (q_1427 : Int) => (RngOk n_1408) ∧ (InB rows_1419 q_1427)) (fun (q_1427 : Int) => [none, some (.src), some (.p (enc q_1396)), some (.p (enc p_1399)), some (.p (enc n_1408)), some (.p (enc web_1414)), some (.bb (encss rows_1419)), some (.p (enc told_1423)), some (.p (enc q_1427)), none, none, none, none, none, none, none, none, none, none, none, none, none, none, none, none, none]) (fun (q_1427 : Int) => ((List.map (fun (q_1431 : Int) => (if decide (q_1431 = q_1427) = true then (1 : Int) else 0)) (rngI 0 (Int.toNat n_1408))), (getI rows_1419 q_1427))) (ij_range1 hg_1425.1 (by rfl) T.z_range (ea_cons (ev_var 4 rfl (pv 4)) ea_nil)) hg_1425.2.1 (fun q_1427 s H C cl fp => (tg_name (pg_name (i := 8) sc_law.nd rfl (by first | exact .inl rfl | exact .inr rfl)))) (fun q_1427 hq_1428 s H C cl fp => (ev_tup (ds := [enc (List.map (fun (q_1431 : Int) => (if decide (q_1431 = q_1427) = true then (1 : Int) else 0)) (rngI 0 (Int.toNat n_1408))), enc (getI rows_1419 q_1427)]) (ea_cons (ev_tuple (by rfl) T.z_tuple (ev_of_new (elc (fun (q_1431 : Int) => True) (fun (q_1431 : Int) => [none, some (.src), some (.p (enc q_1396)), some (.p (enc p_1399)), some (.p (enc n_1408)), some (.p (enc web_1414)), some (.bb (encss rows_1419)), some (.p (enc told_1423)), some (.p (enc q_1427)), some (.p (enc q_1431)), none, none, none, none, none, none, none, none, none, none, none, none, none, none, none, none]) (fun (q_1431 : Int) => (if decide (q_1431 = q_1427) = true then (1 : Int) else 0)) (ij_range1 hq_1428.1 (by rfl) T.z_range (ea_cons (ev_var 4 rfl (pv 4)) ea_nil)) (fun _ _ => trivial) (fun q_1431 s H C cl fp => (tg_name (pg_name (i := 9) sc_law.nd rfl (by first | exact .inl rfl | exact .inr rfl)))) (fun q_1431 hq_1432 s H C cl fp => (ev_intB (by rfl) T.z_int (ev_cmp op_eq rc_eqI (ev_var 9 rfl (pv 9)) (ev_var 8 rfl (pv 8)) (nomark _)))) (by rfl) sc_law.nd (blk_of (own := [("u", 9)]) (by rfl)) (by decide)))) (ea_cons (ev_tuple (by rfl) T.z_tuple (ev_ixLBB hq_1428.2 (ev_varBB 6 rfl (pv 6)) (ev_var 8 rfl (pv 8)))) ea_nil)))) (by rfl) sc_law.nd (blk_of (own := [("v", 8)]) (by rfl)) (by decide)))))) hg_1425.2.2 (fun due_1436 hg_1438 => ?_)
      refine sb_if (Wf := (WX nf_law_1 rf_law)) (x := m_law_36 S_1416) (y := m_law_37 q_1396 p_1399 n_1408 web_1414 S_1416 rows_1419 told_1423) (et_pw (ew_orP (et_cmp op_ne rc_neS (ev_repr hr hgd hg_1438.1 (by rfl) T.z_repr (ed_p (ev_var 7 rfl (pv 7)))) (ev_repr hr hgd hg_1438.2.1 (by rfl) T.z_repr (ed_p (ev_var 10 rfl (pv 10)))) (nomark _)) fun hc_1441 => (ew_or1 (et_cmp (op_neD (hr.un64 (Nat.zero_le _))) (rc_neT ((m_table_of web_1414) : (List (List Int))) ((List.map (fun (q_1443 : (List Int)) => q_1443) rows_1419) : (List (List Int)))) (ev_call ⟨ok_table_of T, T.G_table_of, T.F_table_of.kp, T.B_table_of⟩ (hr.mono (by decide)) hgd (by rfl) (ea_cons (ev_var 5 rfl (pv 5)) ea_nil) rfl ⟨_, rfl, (hg_1438.2.2.1 hc_1441), rfl, rfl⟩) (ev_tuple (by rfl) T.z_tuple (ev_of_new (elc (fun (q_1443 : (List Int)) => True) (fun (q_1443 : (List Int)) => [none, some (.src), some (.p (enc q_1396)), some (.p (enc p_1399)), some (.p (enc n_1408)), some (.p (enc web_1414)), some (.bb (encss rows_1419)), some (.p (enc told_1423)), none, none, some (.p (enc due_1436)), some (.b (encs q_1443)), none, none, none, none, none, none, none, none, none, none, none, none, none, none]) (fun (q_1443 : (List Int)) => q_1443) (ij_LL (ev_varBB 6 rfl (pv 6))) (fun _ _ => trivial) (fun q_1443 s H C cl fp => (tg_name (pg_name (i := 11) sc_law.nd rfl (by first | exact .inl rfl | exact .inr rfl)))) (fun q_1443 hq_1444 s H C cl fp => (ev_tuple (by rfl) T.z_tuple (ev_varB 11 rfl (pv 11)))) (by rfl) sc_law.nd (blk_of (own := [("row", 11)]) (by rfl)) (by decide)))) (nomark _))))) (fun hc_1447 => ?_) (fun hc_1448 => ?_)
      · have hg_1449 := hg_1438.2.2.2.1 hc_1447
        exact sb_ret ev_bl ⟨_, rfl, rfl⟩
      · have hg_1450 := hg_1438.2.2.2.2 hc_1448
        refine stepVS (Wf := (WX nf_law_1 rf_law)) (δf := fun (w_1458 : (T3 (List Int) (List Int) (List Int))) => [none, some (.src), some (.p (enc q_1396)), some (.p (enc p_1399)), some (.p (enc n_1408)), some (.p (enc web_1414)), some (.bb (encss rows_1419)), some (.p (enc told_1423)), none, none, some (.p (enc due_1436)), none, none, some (.p (enc ((w_1458).a))), some (.p (enc ((w_1458).b))), some (.p (enc ((w_1458).c))), none, none, none, none, none, none, none, none, none, none]) (T3.mk (getI ((mapS (fun (S_1456 : Src) (q_1452 : Int) => ((m__law_row p_1399 n_1408 (S_1456)).1, (m__law_row p_1399 n_1408 (S_1456)).2)) S_1416 (rngI 0 (Int.toNat (3 : Int)))).1) 0) (getI ((mapS (fun (S_1456 : Src) (q_1452 : Int) => ((m__law_row p_1399 n_1408 (S_1456)).1, (m__law_row p_1399 n_1408 (S_1456)).2)) S_1416 (rngI 0 (Int.toNat (3 : Int)))).1) 1) (getI ((mapS (fun (S_1456 : Src) (q_1452 : Int) => ((m__law_row p_1399 n_1408 (S_1456)).1, (m__law_row p_1399 n_1408 (S_1456)).2)) S_1416 (rngI 0 (Int.toNat (3 : Int)))).1) 2)) (fun (w_1458 : (T3 (List Int) (List Int) (List Int))) (S_1461 : Src) => m_law_35 q_1396 p_1399 n_1408 web_1414 rows_1419 told_1423 w_1458 S_1461) (fun (w_1458 : (T3 (List Int) (List Int) (List Int))) (S_1461 : Src) => g_law_35 q_1396 p_1399 n_1408 web_1414 rows_1419 told_1423 w_1458 S_1461) (st_unl (encs_s3 hg_1450.2.2.1) (ev_of_new (elcS (fun (S_1456 : Src) (q_1452 : Int) => (g__law_row p_1399 n_1408 (S_1456))) (fun (q_1452 : Int) => [none, some (.src), some (.p (enc q_1396)), some (.p (enc p_1399)), some (.p (enc n_1408)), some (.p (enc web_1414)), some (.bb (encss rows_1419)), some (.p (enc told_1423)), none, none, some (.p (enc due_1436)), none, some (.p (enc q_1452)), none, none, none, none, none, none, none, none, none, none, none, none, none]) (fun (S_1456 : Src) (q_1452 : Int) => ((m__law_row p_1399 n_1408 (S_1456)).1, (m__law_row p_1399 n_1408 (S_1456)).2)) (ij_range1 hg_1450.1 (by rfl) T.z_range (ea_cons ev_int ea_nil)) hg_1450.2.1 (fun q_1452 s H C cl fp => (tg_name (pg_name (i := 12) sc_law.nd rfl (by first | exact .inl rfl | exact .inr rfl)))) (fun S_1456 q_1452 hq_1453 s H C cl fp => (ev_call ⟨ok__law_row T, T.G__law_row, T.F__law_row.kp, T.B__law_row⟩ (hr.mono (by decide)) hgd (by rfl) (ea_cons (ev_varS 1 rfl (pv 1)) (ea_cons (ev_var 3 rfl (pv 3)) (ea_cons (ev_var 4 rfl (pv 4)) ea_nil))) rfl ⟨_, _, rfl, hq_1453, rfl, rfl⟩)) (by rfl) sc_law.nd (blk_of (own := [("turn", 12)]) (by rfl)) (by decide))) (tgs_cons (tg_name (pg_name (i := 13) sc_law.nd rfl (by first | exact .inl rfl | exact .inr rfl))) (tgs_cons (tg_name (pg_name (i := 14) sc_law.nd rfl (by first | exact .inl rfl | exact .inr rfl))) (tgs_cons (tg_name (pg_name (i := 15) sc_law.nd rfl (by first | exact .inl rfl | exact .inr rfl))) tgs_nil))) (by rfl)) hg_1450.2.2.2 (fun w_1458 S_1461 hg_1462 => ?_)
        refine stepV (Wf := (WX nf_law_1 rf_law)) (δf := fun (z_1465 : (((List Int) × (List Int)) × ((List Int) × (List Int)))) => [none, some (.src), some (.p (enc q_1396)), some (.p (enc p_1399)), some (.p (enc n_1408)), some (.p (enc web_1414)), some (.bb (encss rows_1419)), some (.p (enc told_1423)), none, none, some (.p (enc due_1436)), none, none, some (.p (enc ((w_1458).a))), some (.p (enc ((w_1458).b))), some (.p (enc ((w_1458).c))), some (.p (enc z_1465.1)), some (.p (enc z_1465.2)), none, none, none, none, none, none, none, none]) (((w_1458).a, (m__law_led_row p_1399 rows_1419 ((w_1458).a))), ((w_1458).b, (m__law_led_row p_1399 rows_1419 ((w_1458).b)))) (fun (z_1465 : (((List Int) × (List Int)) × ((List Int) × (List Int)))) => m_law_34 q_1396 p_1399 n_1408 web_1414 rows_1419 told_1423 w_1458 S_1461 z_1465) (fun (z_1465 : (((List Int) × (List Int)) × ((List Int) × (List Int)))) => g_law_34 q_1396 p_1399 n_1408 web_1414 rows_1419 told_1423 w_1458 S_1461 z_1465) (st_par (i := 16) (j := 17) (eo_p (ev_tup (ds := [enc ((w_1458).a), enc (m__law_led_row p_1399 rows_1419 ((w_1458).a))]) (ea_cons (ev_var 13 rfl (pv 13)) (ea_cons (ev_call ⟨ok__law_led_row T, T.G__law_led_row, T.F__law_led_row.kp, T.B__law_led_row⟩ (hr.mono (by decide)) hgd (by rfl) (ea_cons (ev_var 3 rfl (pv 3)) (ea_cons (ev_varBB 6 rfl (pv 6)) (ea_cons (ev_var 13 rfl (pv 13)) ea_nil))) rfl ⟨_, _, _, rfl, hg_1462.1, rfl, rfl⟩) ea_nil)))) (eo_p (ev_tup (ds := [enc ((w_1458).b), enc (m__law_led_row p_1399 rows_1419 ((w_1458).b))]) (ea_cons (ev_var 14 rfl (pv 14)) (ea_cons (ev_call ⟨ok__law_led_row T, T.G__law_led_row, T.F__law_led_row.kp, T.B__law_led_row⟩ (hr.mono (by decide)) hgd (by rfl) (ea_cons (ev_var 3 rfl (pv 3)) (ea_cons (ev_varBB 6 rfl (pv 6)) (ea_cons (ev_var 14 rfl (pv 14)) ea_nil))) rfl ⟨_, _, _, rfl, hg_1462.2.1, rfl, rfl⟩) ea_nil)))) (by rfl) sc_law.nd rfl rfl (by decide) (by rfl) (by rfl) (by rfl)) hg_1462.2.2 (fun z_1465 hg_1467 => ?_)
        refine stepVS (Wf := (WX nf_law_1 rf_law)) (δf := fun (c_1469 : Int) => [none, some (.src), some (.p (enc q_1396)), some (.p (enc p_1399)), some (.p (enc n_1408)), some (.p (enc web_1414)), some (.bb (encss rows_1419)), some (.p (enc told_1423)), none, none, some (.p (enc due_1436)), none, none, some (.p (enc ((w_1458).a))), some (.p (enc ((w_1458).b))), some (.p (enc ((w_1458).c))), some (.p (enc z_1465.1)), some (.p (enc z_1465.2)), some (.p (enc c_1469)), none, none, none, none, none, none, none]) ((m__law_pick p_1399 S_1461).1) (fun (c_1469 : Int) (S_1471 : Src) => m_law_33 q_1396 p_1399 n_1408 web_1414 rows_1419 told_1423 w_1458 z_1465 c_1469 S_1471) (fun (c_1469 : Int) (S_1471 : Src) => g_law_33 q_1396 p_1399 n_1408 web_1414 rows_1419 told_1423 w_1458 z_1465 c_1469 S_1471) (st_p (i := 18) (ps_set (i := 18) sc_law.nd rfl (by first | exact .inl rfl | exact .inr rfl) (ev_call ⟨ok__law_pick T, T.G__law_pick, T.F__law_pick.kp, T.B__law_pick⟩ (hr.mono (by decide)) hgd (by rfl) (ea_cons (ev_varS 1 rfl (pv 1)) (ea_cons (ev_var 3 rfl (pv 3)) ea_nil)) rfl ⟨_, rfl, hg_1467.1, rfl, rfl⟩))) hg_1467.2 (fun c_1469 S_1471 hg_1472 => ?_)
        refine stepV (Wf := (WX nf_law_1 rf_law)) (δf := fun (both_1477 : ((List Int) × (List Int))) => [none, some (.src), some (.p (enc q_1396)), some (.p (enc p_1399)), some (.p (enc n_1408)), some (.p (enc web_1414)), some (.bb (encss rows_1419)), some (.p (enc told_1423)), none, none, some (.p (enc due_1436)), none, none, some (.p (enc ((w_1458).a))), some (.p (enc ((w_1458).b))), some (.p (enc ((w_1458).c))), some (.p (enc z_1465.1)), some (.p (enc z_1465.2)), some (.p (enc c_1469)), some (.p (enc both_1477)), none, none, none, none, none, none]) ((m_row_sum p_1399 ((w_1458).a) (m_row_times p_1399 c_1469 ((w_1458).b))), (m_row_sum p_1399 z_1465.1.2 (m_row_times p_1399 c_1469 z_1465.2.2))) (fun (both_1477 : ((List Int) × (List Int))) => m_law_32 q_1396 p_1399 n_1408 web_1414 rows_1419 told_1423 w_1458 z_1465 S_1471 both_1477) (fun (both_1477 : ((List Int) × (List Int))) => g_law_32 q_1396 p_1399 n_1408 web_1414 rows_1419 told_1423 w_1458 z_1465 S_1471 both_1477) (st_p (i := 19) (ps_set (i := 19) sc_law.nd rfl (by first | exact .inl rfl | exact .inr rfl) (ev_tup (ds := [enc (m_row_sum p_1399 ((w_1458).a) (m_row_times p_1399 c_1469 ((w_1458).b))), enc (m_row_sum p_1399 z_1465.1.2 (m_row_times p_1399 c_1469 z_1465.2.2))]) (ea_cons (ev_call ⟨ok_row_sum T, T.G_row_sum, T.F_row_sum.kp, T.B_row_sum⟩ (hr.mono (by decide)) hgd (by rfl) (ea_cons (ev_var 3 rfl (pv 3)) (ea_cons (ev_var 13 rfl (pv 13)) (ea_cons (ev_call ⟨ok_row_times T, T.G_row_times, T.F_row_times.kp, T.B_row_times⟩ (hr.mono (by decide)) hgd (by rfl) (ea_cons (ev_var 3 rfl (pv 3)) (ea_cons (ev_var 18 rfl (pv 18)) (ea_cons (ev_var 14 rfl (pv 14)) ea_nil))) rfl ⟨_, _, _, rfl, hg_1472.1, rfl, rfl⟩) ea_nil))) rfl ⟨_, _, _, rfl, hg_1472.2.1, rfl, rfl⟩) (ea_cons (ev_call ⟨ok_row_sum T, T.G_row_sum, T.F_row_sum.kp, T.B_row_sum⟩ (hr.mono (by decide)) hgd (by rfl) (ea_cons (ev_var 3 rfl (pv 3)) (ea_cons (ev_ixT rfl (ev_var 16 rfl (pv 16)) ev_int) (ea_cons (ev_call ⟨ok_row_times T, T.G_row_times, T.F_row_times.kp, T.B_row_times⟩ (hr.mono (by decide)) hgd (by rfl) (ea_cons (ev_var 3 rfl (pv 3)) (ea_cons (ev_var 18 rfl (pv 18)) (ea_cons (ev_ixT rfl (ev_var 17 rfl (pv 17)) ev_int) ea_nil))) rfl ⟨_, _, _, rfl, hg_1472.2.2.1, rfl, rfl⟩) ea_nil))) rfl ⟨_, _, _, rfl, hg_1472.2.2.2.1, rfl, rfl⟩) ea_nil))))) hg_1472.2.2.2.2 (fun both_1477 hg_1479 => ?_)
        refine sb_if (Wf := (WX nf_law_1 rf_law)) (x := m_law_30 S_1471) (y := m_law_31 q_1396 p_1399 n_1408 web_1414 rows_1419 told_1423 w_1458 z_1465 S_1471) (et_cmp (op_neD (hr.un64 (Nat.zero_le _))) (rc_neL ((List.map (fun (q_1480 : ((List Int) × (List Int))) => (m_is_in_room web_1414 q_1480)) [(T3.mk z_1465.1 z_1465.2 both_1477).a, (T3.mk z_1465.1 z_1465.2 both_1477).b, (T3.mk z_1465.1 z_1465.2 both_1477).c]) : (List Bool)) ((repL (3 : Int) ([true] : List Bool)) : (List Bool))) (ev_of_new (elc (fun (q_1480 : ((List Int) × (List Int))) => (g_is_in_room web_1414 q_1480)) (fun (q_1480 : ((List Int) × (List Int))) => [none, some (.src), some (.p (enc q_1396)), some (.p (enc p_1399)), some (.p (enc n_1408)), some (.p (enc web_1414)), some (.bb (encss rows_1419)), some (.p (enc told_1423)), none, none, some (.p (enc due_1436)), none, none, some (.p (enc ((w_1458).a))), some (.p (enc ((w_1458).b))), some (.p (enc ((w_1458).c))), some (.p (enc z_1465.1)), some (.p (enc z_1465.2)), some (.p (enc c_1469)), some (.p (enc both_1477)), some (.p (enc q_1480)), none, none, none, none, none]) (fun (q_1480 : ((List Int) × (List Int))) => (m_is_in_room web_1414 q_1480)) (ij_T (ev_cast (x := ((T3.mk z_1465.1 z_1465.2 both_1477) : (T3 ((List Int) × (List Int)) ((List Int) × (List Int)) ((List Int) × (List Int))))) (y := ([(T3.mk z_1465.1 z_1465.2 both_1477).a, (T3.mk z_1465.1 z_1465.2 both_1477).b, (T3.mk z_1465.1 z_1465.2 both_1477).c] : (List ((List Int) × (List Int))))) (rfl) (ev_tup (ds := [enc z_1465.1, enc z_1465.2, enc both_1477]) (ea_cons (ev_var 16 rfl (pv 16)) (ea_cons (ev_var 17 rfl (pv 17)) (ea_cons (ev_var 19 rfl (pv 19)) ea_nil)))))) hg_1479.1 (fun q_1480 s H C cl fp => (tg_name (pg_name (i := 20) sc_law.nd rfl (by first | exact .inl rfl | exact .inr rfl)))) (fun q_1480 hq_1481 s H C cl fp => (ev_call ⟨ok_is_in_room T, T.G_is_in_room, T.F_is_in_room.kp, T.B_is_in_room⟩ (hr.mono (by decide)) hgd (by rfl) (ea_cons (ev_var 5 rfl (pv 5)) (ea_cons (ev_var 20 rfl (pv 20)) ea_nil)) rfl ⟨_, _, rfl, hq_1481, rfl, rfl⟩)) (by rfl) sc_law.nd (blk_of (own := [("member", 20)]) (by rfl)) (by decide))) (ev_of_new (el_repT hg_1479.2.1 (el_lst (ds := encs ([true] : List Bool)) (ea_cons ev_bl ea_nil)) ev_int)) (nomark _)) (fun hc_1486 => ?_) (fun hc_1487 => ?_)
        · have hg_1488 := hg_1479.2.2.1 hc_1486
          exact sb_ret ev_bl ⟨_, rfl, rfl⟩
        · have hg_1489 := hg_1479.2.2.2 hc_1487
          refine sb_if (Wf := (WX nf_law_1 rf_law)) (x := m_law_28 S_1471) (y := m_law_29 q_1396 p_1399 n_1408 web_1414 rows_1419 told_1423 w_1458 z_1465 S_1471) (et_pw (ew_orP (et_cmp op_ne rc_neI (ev_call ⟨ok_form_of T, T.G_form_of, T.F_form_of.kp, T.B_form_of⟩ (hr.mono (by decide)) hgd (by rfl) (ea_cons (ev_var 3 rfl (pv 3)) (ea_cons (ev_var 16 rfl (pv 16)) (ea_cons (ev_var 17 rfl (pv 17)) ea_nil))) rfl ⟨_, _, _, rfl, hg_1489.1, rfl, rfl⟩) ev_int (nomark _)) fun hc_1491 => (ew_or1 (et_cmp op_ne rc_neI (ev_call ⟨ok_form_of T, T.G_form_of, T.F_form_of.kp, T.B_form_of⟩ (hr.mono (by decide)) hgd (by rfl) (ea_cons (ev_var 3 rfl (pv 3)) (ea_cons (ev_tup (ds := [enc ((w_1458).a), enc ((w_1458).c)]) (ea_cons (ev_var 13 rfl (pv 13)) (ea_cons (ev_var 15 rfl (pv 15)) ea_nil))) (ea_cons (ev_var 17 rfl (pv 17)) ea_nil))) rfl ⟨_, _, _, rfl, (hg_1489.2.1 hc_1491).1, rfl, rfl⟩) (ev_call ⟨ok__law_form T, T.G__law_form, T.F__law_form.kp, T.B__law_form⟩ (hr.mono (by decide)) hgd (by rfl) (ea_cons (ev_var 3 rfl (pv 3)) (ea_cons (ev_tup (ds := [enc ((w_1458).a), enc ((w_1458).c)]) (ea_cons (ev_var 13 rfl (pv 13)) (ea_cons (ev_var 15 rfl (pv 15)) ea_nil))) (ea_cons (ev_var 17 rfl (pv 17)) ea_nil))) rfl ⟨_, _, _, rfl, (hg_1489.2.1 hc_1491).2, rfl, rfl⟩) (nomark _))))) (fun hc_1495 => ?_) (fun hc_1496 => ?_)
          · have hg_1497 := hg_1489.2.2.1 hc_1495
            exact sb_ret ev_bl ⟨_, rfl, rfl⟩
          · have hg_1498 := hg_1489.2.2.2 hc_1496
            refine forX (itm := itP1) (fun (n_1528 : Unit) => m_law_27 q_1396 p_1399 n_1408 web_1414 told_1423 S_1471 n_1528) (fun (n_1528 : Unit) => g_law_27 q_1396 p_1399 n_1408 web_1414 told_1423 S_1471 n_1528) (nf_law_2 q_1396 p_1399 n_1408 web_1414 rows_1419 told_1423 due_1436 w_1458 z_1465 c_1469 S_1471 both_1477) rf_law (() : Unit) (fun (n_1504 : Unit) (q_1505 : ((List Int) × (List Int))) => g_law_7 p_1399 web_1414 rows_1419 told_1423 w_1458 S_1471 n_1504 q_1505) (fun n_1504 q_1505 => [none, some (.src), some (.p (enc q_1396)), some (.p (enc p_1399)), some (.p (enc n_1408)), some (.p (enc web_1414)), some (.bb (encss rows_1419)), some (.p (enc told_1423)), none, none, some (.p (enc due_1436)), none, none, some (.p (enc ((w_1458).a))), some (.p (enc ((w_1458).b))), some (.p (enc ((w_1458).c))), some (.p (enc z_1465.1)), some (.p (enc z_1465.2)), some (.p (enc c_1469)), some (.p (enc both_1477)), some (.p (enc q_1505)), none, none, none, none, none]) (fun (n_1504 : Unit) (q_1505 : ((List Int) × (List Int))) => m_law_7 p_1399 web_1414 rows_1419 told_1423 w_1458 S_1471 n_1504 q_1505) (ij_L (ev_of_new (el_lst (ds := encs ([((w_1458).a, (w_1458).c), ((w_1458).a, z_1465.2.2), ((w_1458).a, ([(T1.mk (((getI z_1465.1.2 (0 : Int)) + (1 : Int)) % p_1399)).a] ++ (cutL z_1465.1.2 (some (1 : Int)) Option.none)))] : List ((List Int) × (List Int)))) (ea_cons (ev_tup (ds := [enc ((w_1458).a), enc ((w_1458).c)]) (ea_cons (ev_var 13 rfl (pv 13)) (ea_cons (ev_var 15 rfl (pv 15)) ea_nil))) (ea_cons (ev_tup (ds := [enc ((w_1458).a), enc z_1465.2.2]) (ea_cons (ev_var 13 rfl (pv 13)) (ea_cons (ev_ixT rfl (ev_var 17 rfl (pv 17)) ev_int) ea_nil))) (ea_cons (ev_tup (ds := [enc ((w_1458).a), enc ([(T1.mk (((getI z_1465.1.2 (0 : Int)) + (1 : Int)) % p_1399)).a] ++ (cutL z_1465.1.2 (some (1 : Int)) Option.none))]) (ea_cons (ev_var 13 rfl (pv 13)) (ea_cons (ev_catT hg_1498.2.2.1 (ev_cast (x := ((T1.mk (((getI z_1465.1.2 (0 : Int)) + (1 : Int)) % p_1399)) : (T1 Int))) (y := ([(T1.mk (((getI z_1465.1.2 (0 : Int)) + (1 : Int)) % p_1399)).a] : (List Int))) (rfl) (ev_tup (ds := [enc (((getI z_1465.1.2 (0 : Int)) + (1 : Int)) % p_1399)]) (ea_cons (ev_mod hg_1498.2.1 (ev_intI (by rfl) T.z_int (ev_add (ev_ixL hg_1498.1 (ev_ixT rfl (ev_var 16 rfl (pv 16)) ev_int) ev_int) ev_int)) (ev_var 3 rfl (pv 3))) ea_nil))) (ev_slT (ev_ixT rfl (ev_var 16 rfl (pv 16)) ev_int) (ep_some ev_int) ep_none)) ea_nil))) ea_nil)))))) (And.intro rfl (And.intro rfl (And.intro rfl (And.intro rfl (And.intro rfl (And.intro rfl (And.intro rfl (And.intro rfl (And.intro rfl (And.intro rfl (And.intro rfl (And.intro rfl (And.intro rfl (And.intro rfl (And.intro rfl trivial))))))))))))))) (fun n_1504 q_1505 => (tg_name (pg_name (i := 20) sc_law.nd rfl (by first | exact .inl rfl | exact .inr rfl)))) (fun n_1504 q_1505 hb_1502 => ?_) hg_1498.2.2.2.1 hg_1498.2.2.2.2 (fun n_1528 hg_1529 => ?_)
            · refine stepV (Wf := (WX (nf_law_2 q_1396 p_1399 n_1408 web_1414 rows_1419 told_1423 due_1436 w_1458 z_1465 c_1469 S_1471 both_1477) rf_law)) (δf := fun (is_in_1508 : Bool) => [none, some (.src), some (.p (enc q_1396)), some (.p (enc p_1399)), some (.p (enc n_1408)), some (.p (enc web_1414)), some (.bb (encss rows_1419)), some (.p (enc told_1423)), none, none, some (.p (enc due_1436)), none, none, some (.p (enc ((w_1458).a))), some (.p (enc ((w_1458).b))), some (.p (enc ((w_1458).c))), some (.p (enc z_1465.1)), some (.p (enc z_1465.2)), some (.p (enc c_1469)), some (.p (enc both_1477)), some (.p (enc q_1505)), some (.p (enc is_in_1508)), none, none, none, none]) (decide ((m__law_led_row p_1399 rows_1419 ((w_1458).a)) = q_1505.2)) (fun (is_in_1508 : Bool) => m_law_6 p_1399 web_1414 told_1423 S_1471 q_1505 is_in_1508) (fun (is_in_1508 : Bool) => g_law_6 p_1399 web_1414 told_1423 S_1471 q_1505 is_in_1508) (st_p (i := 21) (ps_set (i := 21) sc_law.nd rfl (by first | exact .inl rfl | exact .inr rfl) (ev_cmp (op_eqD (hr.un64 (Nat.zero_le _))) (rc_eqT ((m__law_led_row p_1399 rows_1419 ((w_1458).a)) : (List Int)) (q_1505.2 : (List Int))) (ev_call ⟨ok__law_led_row T, T.G__law_led_row, T.F__law_led_row.kp, T.B__law_led_row⟩ (hr.mono (by decide)) hgd (by rfl) (ea_cons (ev_var 3 rfl (pv 3)) (ea_cons (ev_varBB 6 rfl (pv 6)) (ea_cons (ev_var 13 rfl (pv 13)) ea_nil))) rfl ⟨_, _, _, rfl, hb_1502.1, rfl, rfl⟩) (ev_ixT rfl (ev_var 20 rfl (pv 20)) ev_int) (nomark _)))) hb_1502.2 (fun is_in_1508 hg_1510 => ?_)
              refine stepV (Wf := (WX (nf_law_2 q_1396 p_1399 n_1408 web_1414 rows_1419 told_1423 due_1436 w_1458 z_1465 c_1469 S_1471 both_1477) rf_law)) (δf := fun (has_noughts_1517 : Bool) => [none, some (.src), some (.p (enc q_1396)), some (.p (enc p_1399)), some (.p (enc n_1408)), some (.p (enc web_1414)), some (.bb (encss rows_1419)), some (.p (enc told_1423)), none, none, some (.p (enc due_1436)), none, none, some (.p (enc ((w_1458).a))), some (.p (enc ((w_1458).b))), some (.p (enc ((w_1458).c))), some (.p (enc z_1465.1)), some (.p (enc z_1465.2)), some (.p (enc c_1469)), some (.p (enc both_1477)), some (.p (enc q_1505)), some (.p (enc is_in_1508)), none, some (.p (enc has_noughts_1517)), none, none]) (decide ((List.map (fun (q_1511 : ((List Int) × (List Int))) => q_1511) (List.filter (fun (q_1511 : ((List Int) × (List Int))) => decide ((m_form_of p_1399 q_1511 q_1505) ≠ (0 : Int))) told_1423)) = ([] : List ((List Int) × (List Int))))) (fun (has_noughts_1517 : Bool) => m_law_5 web_1414 S_1471 q_1505 is_in_1508 has_noughts_1517) (fun (has_noughts_1517 : Bool) => g_law_5 web_1414 S_1471 q_1505 is_in_1508 has_noughts_1517) (st_p (i := 23) (ps_set (i := 23) sc_law.nd rfl (by first | exact .inl rfl | exact .inr rfl) (ev_cmp (op_eqD (hr.un64 (Nat.zero_le _))) (rc_eqL ((List.map (fun (q_1511 : ((List Int) × (List Int))) => q_1511) (List.filter (fun (q_1511 : ((List Int) × (List Int))) => decide ((m_form_of p_1399 q_1511 q_1505) ≠ (0 : Int))) told_1423)) : (List ((List Int) × (List Int)))) (([] : List ((List Int) × (List Int))) : (List ((List Int) × (List Int))))) (ev_of_new (elcf (fun (q_1511 : ((List Int) × (List Int))) => (g_form_of p_1399 q_1511 q_1505)) (fun (q_1511 : ((List Int) × (List Int))) => [none, some (.src), some (.p (enc q_1396)), some (.p (enc p_1399)), some (.p (enc n_1408)), some (.p (enc web_1414)), some (.bb (encss rows_1419)), some (.p (enc told_1423)), none, none, some (.p (enc due_1436)), none, none, some (.p (enc ((w_1458).a))), some (.p (enc ((w_1458).b))), some (.p (enc ((w_1458).c))), some (.p (enc z_1465.1)), some (.p (enc z_1465.2)), some (.p (enc c_1469)), some (.p (enc both_1477)), some (.p (enc q_1505)), some (.p (enc is_in_1508)), some (.p (enc q_1511)), none, none, none]) (fun (q_1511 : ((List Int) × (List Int))) => decide ((m_form_of p_1399 q_1511 q_1505) ≠ (0 : Int))) (fun (q_1511 : ((List Int) × (List Int))) => q_1511) (ij_T (ev_var 7 rfl (pv 7))) hg_1510.1 (fun q_1511 s H C cl fp => (tg_name (pg_name (i := 22) sc_law.nd rfl (by first | exact .inl rfl | exact .inr rfl)))) (fun q_1511 hq_1512 s H C cl fp => (et_cmp op_ne rc_neI (ev_call ⟨ok_form_of T, T.G_form_of, T.F_form_of.kp, T.B_form_of⟩ (hr.mono (by decide)) hgd (by rfl) (ea_cons (ev_var 3 rfl (pv 3)) (ea_cons (ev_var 22 rfl (pv 22)) (ea_cons (ev_var 20 rfl (pv 20)) ea_nil))) rfl ⟨_, _, _, rfl, hq_1512, rfl, rfl⟩) ev_int (nomark _))) (fun q_1511 hq_1512 hc_1514 s H C cl fp => (ev_var 22 rfl (pv 22))) (by rfl) sc_law.nd (blk_of (own := [("k", 22)]) (by rfl)) (by decide))) (ev_of_new (el_lst (ds := encs ([] : List ((List Int) × (List Int)))) ea_nil)) (nomark _)))) hg_1510.2 (fun has_noughts_1517 hg_1519 => ?_)
              refine sb_if (Wf := (WX (nf_law_2 q_1396 p_1399 n_1408 web_1414 rows_1419 told_1423 due_1436 w_1458 z_1465 c_1469 S_1471 both_1477) rf_law)) (x := m_law_3 S_1471) (y := m_law_4) (et_cmp op_ne rc_neS (ev_repr hr hgd hg_1519.2.1 (by rfl) T.z_repr (ed_lst (ds := [(enc (m_is_in_room web_1414 q_1505)), (enc has_noughts_1517)]) (eda_cons (ed_p (ev_call ⟨ok_is_in_room T, T.G_is_in_room, T.F_is_in_room.kp, T.B_is_in_room⟩ (hr.mono (by decide)) hgd (by rfl) (ea_cons (ev_var 5 rfl (pv 5)) (ea_cons (ev_var 20 rfl (pv 20)) ea_nil)) rfl ⟨_, _, rfl, hg_1519.1, rfl, rfl⟩)) (eda_cons (ed_p (ev_var 23 rfl (pv 23))) eda_nil)))) (ev_repr hr hgd hg_1519.2.2.1 (by rfl) T.z_repr (ed_lst (ds := [(enc is_in_1508), (enc is_in_1508)]) (eda_cons (ed_p (ev_var 21 rfl (pv 21))) (eda_cons (ed_p (ev_var 21 rfl (pv 21))) eda_nil)))) (nomark _)) (fun hc_1524 => ?_) (fun hc_1525 => ?_)
              · have hg_1526 := hg_1519.2.2.2.1 hc_1524
                exact sb_ret ev_bl ⟨_, rfl, rfl⟩
              · have hg_1527 := hg_1519.2.2.2.2 hc_1525
                exact sb_nil ⟨_, rfl, rfl⟩ (And.intro rfl (And.intro rfl (And.intro rfl (And.intro rfl (And.intro rfl (And.intro rfl (And.intro rfl (And.intro rfl (And.intro rfl (And.intro rfl (And.intro rfl (And.intro rfl (And.intro rfl (And.intro rfl (And.intro rfl trivial)))))))))))))))
            · refine ifX (nf := (nf_law_8 q_1396 p_1399 n_1408 web_1414 rows_1419 told_1423 due_1436 w_1458 z_1465 c_1469 S_1471 both_1477)) (x := m_law_22 p_1399 n_1408 web_1414 told_1423 S_1471) (y := m_law_23) (fun (n_1619 : Unit) => m_law_26 p_1399 n_1408 S_1471 n_1619) (fun (n_1619 : Unit) => g_law_26 p_1399 n_1408 S_1471 n_1619) (et_cmp op_lt rc_lt (ev_var 2 rfl (pv 2)) ev_int (nomark _)) (fun hc_1530 => ?_) (fun hc_1531 => ?_) hg_1529.2.2 (fun n_1619 hg_1577 => ?_)
              · have hg_1575 := hg_1529.1 hc_1530
                refine stepV (Wf := (WX (nf_law_8 q_1396 p_1399 n_1408 web_1414 rows_1419 told_1423 due_1436 w_1458 z_1465 c_1469 S_1471 both_1477) rf_law)) (δf := fun (z_1579 : ((List (List Int)) × Int)) => [none, some (.src), some (.p (enc q_1396)), some (.p (enc p_1399)), some (.p (enc n_1408)), some (.p (enc web_1414)), some (.bb (encss rows_1419)), some (.p (enc told_1423)), none, none, some (.p (enc due_1436)), none, none, some (.p (enc ((w_1458).a))), some (.p (enc ((w_1458).b))), some (.p (enc ((w_1458).c))), some (.p (enc z_1465.1)), some (.p (enc z_1465.2)), some (.p (enc c_1469)), some (.p (enc both_1477)), none, none, none, none, some (.b (encs z_1579.1)), some (.p (enc z_1579.2))]) ((m__law_all p_1399 n_1408), (0 : Int)) (fun (z_1579 : ((List (List Int)) × Int)) => m_law_21 p_1399 web_1414 told_1423 S_1471 z_1579) (fun (z_1579 : ((List (List Int)) × Int)) => g_law_21 p_1399 web_1414 told_1423 S_1471 z_1579) (Step.frz' 24 (st_par (i := 24) (j := 25) (eo_l (el_call ⟨ok__law_all T, T.G__law_all, T.F__law_all.kp, T.B__law_all⟩ (hr.mono (by decide)) hgd (by rfl) (ea_cons (ev_var 3 rfl (pv 3)) (ea_cons (ev_var 4 rfl (pv 4)) ea_nil)) rfl ⟨_, _, rfl, hg_1575.1, rfl, rfl⟩)) (eo_p ev_int) (by rfl) sc_law.nd rfl rfl (by decide) (by rfl) (by rfl) (by rfl)) (by rfl) (by rfl)) hg_1575.2 (fun z_1579 hg_1581 => ?_)
                refine forX (itm := itP1) (fun (n_1613 : Int) => m_law_20 S_1471 z_1579 n_1613) (fun (n_1613 : Int) => g_law_20 S_1471 z_1579 n_1613) (nf_law_9 q_1396 p_1399 n_1408 web_1414 rows_1419 told_1423 due_1436 w_1458 z_1465 c_1469 S_1471 both_1477 z_1579) rf_law (z_1579.2 : Int) (fun (n_1584 : Int) (q_1585 : (List Int)) => g_law_17 p_1399 web_1414 told_1423 S_1471 z_1579 n_1584 q_1585) (fun n_1584 q_1585 => [none, some (.src), some (.p (enc q_1396)), some (.p (enc p_1399)), some (.p (enc n_1408)), some (.p (enc web_1414)), some (.bb (encss rows_1419)), some (.p (enc told_1423)), none, none, some (.p (enc due_1436)), none, none, some (.p (enc q_1585)), some (.p (enc ((w_1458).b))), none, some (.p (enc z_1465.1)), some (.p (enc z_1465.2)), some (.p (enc c_1469)), some (.p (enc both_1477)), none, none, none, none, some (.b (encs z_1579.1)), some (.p (enc n_1584))]) (fun (n_1584 : Int) (q_1585 : (List Int)) => m_law_17 p_1399 web_1414 told_1423 S_1471 z_1579 n_1584 q_1585) (ij_L (ev_varB 24 rfl (pv 24))) (And.intro rfl (And.intro rfl (And.intro rfl (And.intro rfl (And.intro rfl (And.intro rfl (And.intro rfl (And.intro rfl (And.intro rfl (And.intro rfl (And.intro rfl (And.intro rfl (And.intro rfl (And.intro rfl (And.intro rfl trivial))))))))))))))) (fun n_1584 q_1585 => (tg_name (pg_name (i := 13) sc_law.nd rfl (by first | exact .inl rfl | exact .inr rfl)))) (fun n_1584 q_1585 hb_1582 => ?_) hg_1581.1 hg_1581.2 (fun n_1613 hg_1614 => ?_)
                · refine forX (itm := itP1) (fun (n_1611 : Int) => m_law_16 n_1611) (fun (n_1611 : Int) => g_law_16 n_1611) (nf_law_10 q_1396 p_1399 n_1408 web_1414 rows_1419 told_1423 due_1436 w_1458 z_1465 c_1469 S_1471 both_1477 z_1579 q_1585) rf_law (n_1584 : Int) (fun (n_1589 : Int) (q_1590 : (List Int)) => g_law_15 p_1399 web_1414 told_1423 S_1471 q_1585 n_1589 q_1590) (fun n_1589 q_1590 => [none, some (.src), some (.p (enc q_1396)), some (.p (enc p_1399)), some (.p (enc n_1408)), some (.p (enc web_1414)), some (.bb (encss rows_1419)), some (.p (enc told_1423)), none, none, some (.p (enc due_1436)), none, none, some (.p (enc q_1585)), some (.p (enc ((w_1458).b))), some (.p (enc q_1590)), some (.p (enc z_1465.1)), some (.p (enc z_1465.2)), some (.p (enc c_1469)), some (.p (enc both_1477)), none, none, none, none, some (.b (encs z_1579.1)), some (.p (enc n_1589))]) (fun (n_1589 : Int) (q_1590 : (List Int)) => m_law_15 p_1399 web_1414 told_1423 S_1471 q_1585 n_1589 q_1590) (ij_L (ev_varB 24 rfl (pv 24))) (And.intro rfl (And.intro rfl (And.intro rfl (And.intro rfl (And.intro rfl (And.intro rfl (And.intro rfl (And.intro rfl (And.intro rfl (And.intro rfl (And.intro rfl (And.intro rfl (And.intro rfl (And.intro rfl (And.intro rfl (And.intro rfl trivial)))))))))))))))) (fun n_1589 q_1590 => (tg_name (pg_name (i := 15) sc_law.nd rfl (by first | exact .inl rfl | exact .inr rfl)))) (fun n_1589 q_1590 hb_1587 => ?_) hb_1582.1 hb_1582.2 (fun n_1611 hg_1612 => ?_)
                  · refine stepV (Wf := (WX (nf_law_10 q_1396 p_1399 n_1408 web_1414 rows_1419 told_1423 due_1436 w_1458 z_1465 c_1469 S_1471 both_1477 z_1579 q_1585) rf_law)) (δf := fun (is_in_1598 : Bool) => [none, some (.src), some (.p (enc q_1396)), some (.p (enc p_1399)), some (.p (enc n_1408)), some (.p (enc web_1414)), some (.bb (encss rows_1419)), some (.p (enc told_1423)), none, none, some (.p (enc due_1436)), none, none, some (.p (enc q_1585)), some (.p (enc ((w_1458).b))), some (.p (enc q_1590)), some (.p (enc z_1465.1)), some (.p (enc z_1465.2)), some (.p (enc c_1469)), some (.p (enc both_1477)), none, some (.p (enc is_in_1598)), none, none, some (.b (encs z_1579.1)), some (.p (enc n_1589))]) (decide ((List.map (fun (q_1592 : ((List Int) × (List Int))) => q_1592) (List.filter (fun (q_1592 : ((List Int) × (List Int))) => decide ((m__law_form p_1399 q_1592 (q_1585, q_1590)) ≠ (0 : Int))) told_1423)) = ([] : List ((List Int) × (List Int))))) (fun (is_in_1598 : Bool) => m_law_14 web_1414 S_1471 q_1585 n_1589 q_1590 is_in_1598) (fun (is_in_1598 : Bool) => g_law_14 web_1414 S_1471 q_1585 n_1589 q_1590 is_in_1598) (st_p (i := 21) (ps_set (i := 21) sc_law.nd rfl (by first | exact .inl rfl | exact .inr rfl) (ev_cmp (op_eqD (hr.un64 (Nat.zero_le _))) (rc_eqL ((List.map (fun (q_1592 : ((List Int) × (List Int))) => q_1592) (List.filter (fun (q_1592 : ((List Int) × (List Int))) => decide ((m__law_form p_1399 q_1592 (q_1585, q_1590)) ≠ (0 : Int))) told_1423)) : (List ((List Int) × (List Int)))) (([] : List ((List Int) × (List Int))) : (List ((List Int) × (List Int))))) (ev_of_new (elcf (fun (q_1592 : ((List Int) × (List Int))) => (g__law_form p_1399 q_1592 (q_1585, q_1590))) (fun (q_1592 : ((List Int) × (List Int))) => [none, some (.src), some (.p (enc q_1396)), some (.p (enc p_1399)), some (.p (enc n_1408)), some (.p (enc web_1414)), some (.bb (encss rows_1419)), some (.p (enc told_1423)), none, none, some (.p (enc due_1436)), none, none, some (.p (enc q_1585)), some (.p (enc ((w_1458).b))), some (.p (enc q_1590)), some (.p (enc z_1465.1)), some (.p (enc z_1465.2)), some (.p (enc c_1469)), some (.p (enc both_1477)), none, none, some (.p (enc q_1592)), none, some (.b (encs z_1579.1)), some (.p (enc n_1589))]) (fun (q_1592 : ((List Int) × (List Int))) => decide ((m__law_form p_1399 q_1592 (q_1585, q_1590)) ≠ (0 : Int))) (fun (q_1592 : ((List Int) × (List Int))) => q_1592) (ij_T (ev_var 7 rfl (pv 7))) hb_1587.1 (fun q_1592 s H C cl fp => (tg_name (pg_name (i := 22) sc_law.nd rfl (by first | exact .inl rfl | exact .inr rfl)))) (fun q_1592 hq_1593 s H C cl fp => (et_cmp op_ne rc_neI (ev_call ⟨ok__law_form T, T.G__law_form, T.F__law_form.kp, T.B__law_form⟩ (hr.mono (by decide)) hgd (by rfl) (ea_cons (ev_var 3 rfl (pv 3)) (ea_cons (ev_var 22 rfl (pv 22)) (ea_cons (ev_tup (ds := [enc q_1585, enc q_1590]) (ea_cons (ev_var 13 rfl (pv 13)) (ea_cons (ev_var 15 rfl (pv 15)) ea_nil))) ea_nil))) rfl ⟨_, _, _, rfl, hq_1593, rfl, rfl⟩) ev_int (nomark _))) (fun q_1592 hq_1593 hc_1595 s H C cl fp => (ev_var 22 rfl (pv 22))) (by rfl) sc_law.nd (blk_of (own := [("k", 22)]) (by rfl)) (by decide))) (ev_of_new (el_lst (ds := encs ([] : List ((List Int) × (List Int)))) ea_nil)) (nomark _)))) hb_1587.2 (fun is_in_1598 hg_1600 => ?_)
                    refine stepV (Wf := (WX (nf_law_10 q_1396 p_1399 n_1408 web_1414 rows_1419 told_1423 due_1436 w_1458 z_1465 c_1469 S_1471 both_1477 z_1579 q_1585) rf_law)) (δf := fun (many_1601 : Int) => [none, some (.src), some (.p (enc q_1396)), some (.p (enc p_1399)), some (.p (enc n_1408)), some (.p (enc web_1414)), some (.bb (encss rows_1419)), some (.p (enc told_1423)), none, none, some (.p (enc due_1436)), none, none, some (.p (enc q_1585)), some (.p (enc ((w_1458).b))), some (.p (enc q_1590)), some (.p (enc z_1465.1)), some (.p (enc z_1465.2)), some (.p (enc c_1469)), some (.p (enc both_1477)), none, some (.p (enc is_in_1598)), none, none, some (.b (encs z_1579.1)), some (.p (enc many_1601))]) (n_1589 + (if is_in_1598 = true then (1 : Int) else 0)) (fun (many_1601 : Int) => m_law_13 web_1414 S_1471 q_1585 q_1590 is_in_1598 many_1601) (fun (many_1601 : Int) => g_law_13 web_1414 S_1471 q_1585 q_1590 is_in_1598 many_1601) (st_p (i := 25) (ps_set (i := 25) sc_law.nd rfl (by first | exact .inl rfl | exact .inr rfl) (ev_add (ev_var 25 rfl (pv 25)) (ev_intB (by rfl) T.z_int (ev_var 21 rfl (pv 21)))))) hg_1600 (fun many_1601 hg_1603 => ?_)
                    refine sb_if (Wf := (WX (nf_law_10 q_1396 p_1399 n_1408 web_1414 rows_1419 told_1423 due_1436 w_1458 z_1465 c_1469 S_1471 both_1477 z_1579 q_1585) rf_law)) (x := m_law_11 S_1471) (y := m_law_12 many_1601) (et_pw (ew_andP (et_val (ev_var 21 rfl (pv 21))) fun hc_1604 => (ew_and1 (et_cmp op_notBl rc_notBl (ev_call ⟨ok_is_in_room T, T.G_is_in_room, T.F_is_in_room.kp, T.B_is_in_room⟩ (hr.mono (by decide)) hgd (by rfl) (ea_cons (ev_var 5 rfl (pv 5)) (ea_cons (ev_tup (ds := [enc q_1585, enc q_1590]) (ea_cons (ev_var 13 rfl (pv 13)) (ea_cons (ev_var 15 rfl (pv 15)) ea_nil))) ea_nil)) rfl ⟨_, _, rfl, (hg_1603.1 hc_1604), rfl, rfl⟩) ev_bl (nomark _))))) (fun hc_1607 => ?_) (fun hc_1608 => ?_)
                    · have hg_1609 := hg_1603.2.1 hc_1607
                      exact sb_ret ev_bl ⟨_, rfl, rfl⟩
                    · have hg_1610 := hg_1603.2.2 hc_1608
                      exact sb_nil ⟨_, rfl, rfl⟩ (And.intro rfl (And.intro rfl (And.intro rfl (And.intro rfl (And.intro rfl (And.intro rfl (And.intro rfl (And.intro rfl (And.intro rfl (And.intro rfl (And.intro rfl (And.intro rfl (And.intro rfl (And.intro rfl (And.intro rfl (And.intro rfl trivial))))))))))))))))
                  · exact sb_nil ⟨_, rfl, rfl⟩ (And.intro rfl (And.intro rfl (And.intro rfl (And.intro rfl (And.intro rfl (And.intro rfl (And.intro rfl (And.intro rfl (And.intro rfl (And.intro rfl (And.intro rfl (And.intro rfl (And.intro rfl (And.intro rfl (And.intro rfl trivial)))))))))))))))
                · refine sb_if (Wf := (WX (nf_law_8 q_1396 p_1399 n_1408 web_1414 rows_1419 told_1423 due_1436 w_1458 z_1465 c_1469 S_1471 both_1477) rf_law)) (x := m_law_18 S_1471) (y := m_law_19) (et_cmp op_ne rc_neI (ev_var 25 rfl (pv 25)) (ev_len (wlk_l _) (by rfl) T.z_len (ev_varB 24 rfl (pv 24))) (nomark _)) (fun hc_1615 => ?_) (fun hc_1616 => ?_)
                  · have hg_1617 := hg_1614.1 hc_1615
                    exact sb_ret ev_bl ⟨_, rfl, rfl⟩
                  · have hg_1618 := hg_1614.2 hc_1616
                    exact sb_nil ⟨_, rfl, rfl⟩ (And.intro rfl (And.intro rfl (And.intro rfl (And.intro rfl (And.intro rfl (And.intro rfl (And.intro rfl (And.intro rfl (And.intro rfl (And.intro rfl (And.intro rfl (And.intro rfl (And.intro rfl trivial)))))))))))))
              · have hg_1576 := hg_1529.2.1 hc_1531
                exact sb_nil ⟨_, rfl, rfl⟩ (And.intro rfl (And.intro rfl (And.intro rfl (And.intro rfl (And.intro rfl (And.intro rfl (And.intro rfl (And.intro rfl (And.intro rfl (And.intro rfl (And.intro rfl (And.intro rfl (And.intro rfl trivial)))))))))))))
              · refine sb_if (Wf := (WX nf_law_1 rf_law)) (x := m_law_24 ((m__law_changes_right p_1399 n_1408 S_1471).2)) (y := m_law_25 ((m__law_changes_right p_1399 n_1408 S_1471).2)) (et_not (et_val (ev_call ⟨ok__law_changes_right T, T.G__law_changes_right, T.F__law_changes_right.kp, T.B__law_changes_right⟩ (hr.mono (by decide)) hgd (by rfl) (ea_cons (ev_varS 1 rfl (pv 1)) (ea_cons (ev_var 3 rfl (pv 3)) (ea_cons (ev_var 4 rfl (pv 4)) ea_nil))) rfl ⟨_, _, rfl, hg_1577.1, rfl, rfl⟩))) (fun hc_1621 => ?_) (fun hc_1622 => ?_)
                · have hg_1624 := hg_1577.2.1 hc_1621
                  generalize (m__law_changes_right p_1399 n_1408 S_1471).2 = S_1623 at hg_1624 ⊢
                  exact sb_ret ev_bl ⟨_, rfl, rfl⟩
                · have hg_1625 := hg_1577.2.2 hc_1622
                  generalize (m__law_changes_right p_1399 n_1408 S_1471).2 = S_1623 at hg_1625 ⊢
                  exact sb_nil ⟨_, rfl, rfl⟩ (And.intro rfl trivial)
    · exact sb_ret (ev_cmp (op_eqD (hr.un64 (Nat.zero_le _))) (rc_eqT ((m_room_rows (T3.mk ((T3.mk (2 : Int) (2 : Int) (T1.mk (T3.mk (0 : Int) (1 : Int) (1 : Int)))).a) ((T3.mk (2 : Int) (2 : Int) (T1.mk (T3.mk (0 : Int) (1 : Int) (1 : Int)))).b) [((T3.mk (2 : Int) (2 : Int) (T1.mk (T3.mk (0 : Int) (1 : Int) (1 : Int)))).c).a])) : (List ((List Int) × (List Int)))) ([([((((((1 : Int), (0 : Int)), ((0 : Int), (1 : Int))), (((0 : Int), (1 : Int)), ((1 : Int), (0 : Int)))).1).1).1, ((((((1 : Int), (0 : Int)), ((0 : Int), (1 : Int))), (((0 : Int), (1 : Int)), ((1 : Int), (0 : Int)))).1).1).2], [((((((1 : Int), (0 : Int)), ((0 : Int), (1 : Int))), (((0 : Int), (1 : Int)), ((1 : Int), (0 : Int)))).1).2).1, ((((((1 : Int), (0 : Int)), ((0 : Int), (1 : Int))), (((0 : Int), (1 : Int)), ((1 : Int), (0 : Int)))).1).2).2]), ([((((((1 : Int), (0 : Int)), ((0 : Int), (1 : Int))), (((0 : Int), (1 : Int)), ((1 : Int), (0 : Int)))).2).1).1, ((((((1 : Int), (0 : Int)), ((0 : Int), (1 : Int))), (((0 : Int), (1 : Int)), ((1 : Int), (0 : Int)))).2).1).2], [((((((1 : Int), (0 : Int)), ((0 : Int), (1 : Int))), (((0 : Int), (1 : Int)), ((1 : Int), (0 : Int)))).2).2).1, ((((((1 : Int), (0 : Int)), ((0 : Int), (1 : Int))), (((0 : Int), (1 : Int)), ((1 : Int), (0 : Int)))).2).2).2])] : (List ((List Int) × (List Int))))) (ev_call ⟨ok_room_rows T, T.G_room_rows, T.F_room_rows.kp, T.B_room_rows⟩ (hr.mono (by decide)) hgd (by rfl) (ea_cons (ev_cast (x := ((T3.mk (2 : Int) (2 : Int) (T1.mk (T3.mk (0 : Int) (1 : Int) (1 : Int)))) : (T3 Int Int (T1 (T3 Int Int Int))))) (y := ((T3.mk ((T3.mk (2 : Int) (2 : Int) (T1.mk (T3.mk (0 : Int) (1 : Int) (1 : Int)))).a) ((T3.mk (2 : Int) (2 : Int) (T1.mk (T3.mk (0 : Int) (1 : Int) (1 : Int)))).b) [((T3.mk (2 : Int) (2 : Int) (T1.mk (T3.mk (0 : Int) (1 : Int) (1 : Int)))).c).a]) : (T3 Int Int (List (T3 Int Int Int))))) (rfl) (ev_tup (ds := [enc (2 : Int), enc (2 : Int), enc (T1.mk (T3.mk (0 : Int) (1 : Int) (1 : Int)))]) (ea_cons ev_int (ea_cons ev_int (ea_cons (ev_tup (ds := [enc (T3.mk (0 : Int) (1 : Int) (1 : Int))]) (ea_cons (ev_tup (ds := [enc (0 : Int), enc (1 : Int), enc (1 : Int)]) (ea_cons ev_int (ea_cons ev_int (ea_cons ev_int ea_nil)))) ea_nil)) ea_nil))))) ea_nil) rfl ⟨_, rfl, hg_1627, rfl, rfl⟩) (ev_cast (x := (((((1 : Int), (0 : Int)), ((0 : Int), (1 : Int))), (((0 : Int), (1 : Int)), ((1 : Int), (0 : Int)))) : (((Int × Int) × (Int × Int)) × ((Int × Int) × (Int × Int))))) (y := ([([((((((1 : Int), (0 : Int)), ((0 : Int), (1 : Int))), (((0 : Int), (1 : Int)), ((1 : Int), (0 : Int)))).1).1).1, ((((((1 : Int), (0 : Int)), ((0 : Int), (1 : Int))), (((0 : Int), (1 : Int)), ((1 : Int), (0 : Int)))).1).1).2], [((((((1 : Int), (0 : Int)), ((0 : Int), (1 : Int))), (((0 : Int), (1 : Int)), ((1 : Int), (0 : Int)))).1).2).1, ((((((1 : Int), (0 : Int)), ((0 : Int), (1 : Int))), (((0 : Int), (1 : Int)), ((1 : Int), (0 : Int)))).1).2).2]), ([((((((1 : Int), (0 : Int)), ((0 : Int), (1 : Int))), (((0 : Int), (1 : Int)), ((1 : Int), (0 : Int)))).2).1).1, ((((((1 : Int), (0 : Int)), ((0 : Int), (1 : Int))), (((0 : Int), (1 : Int)), ((1 : Int), (0 : Int)))).2).1).2], [((((((1 : Int), (0 : Int)), ((0 : Int), (1 : Int))), (((0 : Int), (1 : Int)), ((1 : Int), (0 : Int)))).2).2).1, ((((((1 : Int), (0 : Int)), ((0 : Int), (1 : Int))), (((0 : Int), (1 : Int)), ((1 : Int), (0 : Int)))).2).2).2])] : (List ((List Int) × (List Int))))) (rfl) (ev_tup (ds := [enc (((1 : Int), (0 : Int)), ((0 : Int), (1 : Int))), enc (((0 : Int), (1 : Int)), ((1 : Int), (0 : Int)))]) (ea_cons (ev_tup (ds := [enc ((1 : Int), (0 : Int)), enc ((0 : Int), (1 : Int))]) (ea_cons (ev_tup (ds := [enc (1 : Int), enc (0 : Int)]) (ea_cons ev_int (ea_cons ev_int ea_nil))) (ea_cons (ev_tup (ds := [enc (0 : Int), enc (1 : Int)]) (ea_cons ev_int (ea_cons ev_int ea_nil))) ea_nil))) (ea_cons (ev_tup (ds := [enc ((0 : Int), (1 : Int)), enc ((1 : Int), (0 : Int))]) (ea_cons (ev_tup (ds := [enc (0 : Int), enc (1 : Int)]) (ea_cons ev_int (ea_cons ev_int ea_nil))) (ea_cons (ev_tup (ds := [enc (1 : Int), enc (0 : Int)]) (ea_cons ev_int (ea_cons ev_int ea_nil))) ea_nil))) ea_nil)))) (nomark _)) rfl
  refine ⟨_, pss_cons (ps_set (i := 1) sc_law.nd rfl (by first | exact .inl rfl | exact .inr rfl) (pe_callG (E := E0) (ok__law_source T) (hr.mono (by decide)) hgd (by rfl) T.G__law_source T.F__law_source.kp T.B__law_source (pa_cons (pv 0) pa_nil)))
    (pss_ex (ι := Addr × Addr) (P := fun _ => True) (T := fun p => tSB K (some p) [none, some (.src), none, none, none, none, none, none, none, none, none, none, none, none, none, none, none, none, none, none, none, none, none, none, none, none] (openS ns) (WR rf_law (m_law (openS ns)))) fun p _ => body (some p) _ hg), ?_⟩
  refine ⟨.ref a, rfl, a, ns, rfl, hs, hz, fun D L H' sm hat => ⟨(D, L), trivial, H', ok_src (n := 24) hat rfl rfl, (fun _ _ _ _ _ hf => hf.elim), fun B' v H2 r S2 F hw eb eh hs2 hres hrep hnd hfr => ?_⟩⟩
  have hw' : rf_law (m_law (openS ns)) = (r, S2) := hw
  obtain rfl : .p (enc (m_law (openS ns)).1) = r := congrArg Prod.fst hw'
  rw [hm] at hrep
  obtain ⟨_, hd, _⟩ := hrep
  cases hd
  exact q H2
end L2.Ev

set_option Elab.async false
set_option linter.all false
set_option maxRecDepth 100000
/-! Wm1: plain mathematics: ranges, folds with invariants, square tables as functions. -/
namespace L2.Ev
open PySem PySem.Spec PyProof.Rows
/-! ### ranges -/
theorem mem_rngI {lo x : Int} {n : Nat} : x ∈ rngI lo n ↔ lo ≤ x ∧ x < lo + n := by
  unfold rngI
  rw [List.mem_map]
  constructor
  · rintro ⟨i, h, rfl⟩
    rw [List.mem_range] at h; omega
  · rintro ⟨h1, h2⟩
    exact ⟨(x - lo).toNat, List.mem_range.mpr (by omega), by omega⟩
theorem rngI_length (lo : Int) (n : Nat) : (rngI lo n).length = n := by unfold rngI; rw [List.length_map, List.length_range]
theorem rngI_zero (lo : Int) : rngI lo 0 = [] := rfl
theorem rngI_succ (lo : Int) (n : Nat) : rngI lo (n + 1) = rngI lo n ++ [lo + n] := by unfold rngI; rw [List.range_succ, List.map_append]; rfl
theorem rngI_cons (lo : Int) (n : Nat) : rngI lo (n + 1) = lo :: rngI (lo + 1) n := by
  unfold rngI
  rw [List.range_succ_eq_map, List.map_cons, List.map_map]
  congr 1
  · simp
  · apply List.map_congr_left
    intro i _
    simp only [Function.comp]
    omega
theorem rngI_get {lo : Int} {n i : Nat} (h : i < n) : (rngI lo n)[i]? = some (lo + i) := by
  unfold rngI
  rw [List.getElem?_map, List.getElem?_range h]; rfl
/-! ### folds -/
section
variable {α ν ρ : Type}
theorem FG_append {P : ν → α → Prop} {f : ν → α → ν} : ∀ {xs ys : List α} {n : ν}, FG P f (xs ++ ys) n ↔ FG P f xs n ∧ FG P f ys (xs.foldl f n)
  | [], ys, n => ⟨fun h => ⟨trivial, h⟩, fun h => h.2⟩
  | x :: xs, ys, n => ⟨fun h => ⟨⟨h.1, (FG_append.mp h.2).1⟩, (FG_append.mp h.2).2⟩, fun h => ⟨h.1.1, FG_append.mpr ⟨h.1.2, h.2⟩⟩⟩
/-- a fold along a range, with what holds at each number -/
theorem fold_rng {P : ν → Int → Prop} {f : ν → Int → ν} {lo : Int} (I : Int → ν → Prop) : ∀ (k : Nat) {n0 : ν}, I lo n0 → (∀ i n, lo ≤ i → i < lo + k → I i n → P n i ∧ I (i + 1) (f n i)) → FG P f (rngI lo k) n0 ∧ I (lo + k) ((rngI lo k).foldl f n0)
  | 0, n0, h0, _ => ⟨trivial, by show I (lo + ((0 : Nat) : Int)) n0; rw [show lo + ((0 : Nat) : Int) = lo by omega]; exact h0⟩
  | k + 1, n0, h0, st => by
    obtain ⟨h1, h2⟩ := fold_rng I k h0 (fun i n a b => st i n a (by omega))
    obtain ⟨h3, h4⟩ := st (lo + k) _ (by omega) (by omega) h2
    rw [rngI_succ]
    refine ⟨FG_append.mpr ⟨h1, h3, trivial⟩, ?_⟩
    rw [List.foldl_append]
    have e : lo + ((k + 1 : Nat) : Int) = lo + k + 1 := by omega
    rw [e]; exact h4
/-- .. along any list, by its parts -/
theorem fold_list {P : ν → α → Prop} {f : ν → α → ν} (I : List α → ν → Prop) : ∀ (xs pre : List α) {n0 : ν}, I pre n0 → (∀ p x n, (∃ s, p ++ x :: s = pre ++ xs) → I p n → P n x ∧ I (p ++ [x]) (f n x)) → FG P f xs n0 ∧ I (pre ++ xs) (xs.foldl f n0)
  | [], pre, n0, h0, _ => ⟨trivial, by simpa using h0⟩
  | x :: xs, pre, n0, h0, st => by
    obtain ⟨h1, h2⟩ := st pre x n0 ⟨xs, rfl⟩ h0
    obtain ⟨h3, h4⟩ := fold_list I xs (pre ++ [x]) h2 (fun p y n ⟨s, e⟩ => st p y n ⟨s, by rw [e, List.append_assoc]; rfl⟩)
    refine ⟨⟨h1, h3⟩, ?_⟩
    rw [List.append_assoc] at h4
    exact h4
/-- a fold with returns that never returns -/
theorem foldX_rng {P : ν → Int → Prop} {f : ν → Int → Except ρ ν} (I : Int → ν → Prop) : ∀ (k : Nat) (lo : Int) {n0 : ν}, I lo n0 → (∀ i n, lo ≤ i → i < lo + k → I i n → P n i ∧ ∃ n', f n i = .ok n' ∧ I (i + 1) n') → FX P f (rngI lo k) n0 ∧ ∃ n', foldX f (rngI lo k) n0 = .ok n' ∧ I (lo + k) n'
  | 0, lo, n0, h0, _ => ⟨trivial, n0, rfl, by rw [show lo + ((0 : Nat) : Int) = lo by omega]; exact h0⟩
  | k + 1, lo, n0, h0, st => by
    obtain ⟨h1, n1, h2, h3⟩ := st lo n0 (Int.le_refl _) (by omega) h0
    obtain ⟨h4, n2, h5, h6⟩ := foldX_rng I k (lo + 1) h3 (fun i n a b => st i n (by omega) (by omega))
    rw [rngI_cons]
    refine ⟨⟨h1, ?_⟩, n2, ?_, ?_⟩
    · rw [h2]; exact h4
    · show (match f n0 lo with | .ok n' => foldX f (rngI (lo + 1) k) n' | .error r => .error r) = _
      rw [h2]; exact h5
    · have e : lo + ((k + 1 : Nat) : Int) = lo + 1 + k := by omega
      rw [e]; exact h6
theorem foldX_list {P : ν → α → Prop} {f : ν → α → Except ρ ν} (I : ν → Prop) : ∀ (xs : List α) {n0 : ν}, I n0 → (∀ x n, x ∈ xs → I n → P n x ∧ ∃ n', f n x = .ok n' ∧ I n') → FX P f xs n0 ∧ ∃ n', foldX f xs n0 = .ok n' ∧ I n'
  | [], n0, h0, _ => ⟨trivial, n0, rfl, h0⟩
  | x :: xs, n0, h0, st => by
    obtain ⟨h1, n1, h2, h3⟩ := st x n0 List.mem_cons_self h0
    obtain ⟨h4, n2, h5, h6⟩ := foldX_list I xs h3 (fun y n a => st y n (List.mem_cons_of_mem _ a))
    refine ⟨⟨h1, ?_⟩, n2, ?_, h6⟩
    · rw [h2]; exact h4
    · show (match f n0 x with | .ok n' => foldX f xs n' | .error r => .error r) = _
      rw [h2]; exact h5
theorem mapS_all {β : Type} {f : Src → α → β × Src} {G : Src → α → Prop} (Q : β → Prop) : ∀ (xs : List α) (S : Src), (∀ T x, x ∈ xs → G T x ∧ Q (f T x).1) → GS f G S xs ∧ ∀ y ∈ (mapS f S xs).1, Q y
  | [], S, _ => ⟨trivial, fun _ h => nomatch h⟩
  | x :: xs, S, h => by
    obtain ⟨h1, h2⟩ := h S x List.mem_cons_self
    obtain ⟨h3, h4⟩ := mapS_all Q xs (f S x).2 (fun T y m => h T y (List.mem_cons_of_mem _ m))
    refine ⟨⟨h1, h3⟩, fun y m => ?_⟩
    rcases List.mem_cons.mp m with rfl | m
    · exact h2
    · exact h4 y m
end
/-! ### places -/
section
variable {α : Type} [Inhabited α]
theorem getI_nat {xs : List α} {i : Nat} {x : α} (h : xs[i]? = some x) : getI xs (i : Int) = x := by
  have hl : i < xs.length := (List.getElem?_eq_some_iff.mp h).1
  unfold getI L2.atI ixN
  rw [if_pos (by omega), if_pos (by omega)]
  show (xs[(i : Int).toNat]?).getD default = x
  rw [Int.toNat_natCast, h]; rfl
theorem getI_map_rng {f : Int → α} {n : Nat} {u : Int} (h0 : 0 ≤ u) (h : u < n) : getI ((rngI 0 n).map f) u = f u := by
  obtain ⟨i, rfl⟩ := Int.eq_ofNat_of_zero_le h0
  refine getI_nat ?_
  rw [List.getElem?_map, rngI_get (by omega)]
  show some (f (0 + (i : Int))) = _
  rw [Int.zero_add]
theorem inB_rng {f : Int → α} {n : Nat} {u : Int} (h0 : 0 ≤ u) (h : u < n) : InB ((rngI 0 n).map f) u := by
  unfold InB
  rw [List.length_map, rngI_length]; omega
end
/-! ### square tables -/
def Tab (n : Nat) (f : Int → Int → Int) : List (List Int) := (rngI 0 n).map fun u => (rngI 0 n).map fun v => f u v
def up2 (f : Int → Int → Int) (u v w : Int) : Int → Int → Int := fun a b => if a = u ∧ b = v then w else f a b
section
variable {n : Nat} {f g : Int → Int → Int} {u v w : Int}
theorem Tab_get (u0 : 0 ≤ u) (u1 : u < n) (v0 : 0 ≤ v) (v1 : v < n) : getI (getI (Tab n f) u) v = f u v := by
  unfold Tab
  rw [getI_map_rng u0 u1, getI_map_rng v0 v1]
theorem Tab_row (u0 : 0 ≤ u) (u1 : u < n) : getI (Tab n f) u = (rngI 0 n).map fun v => f u v := getI_map_rng u0 u1
theorem Tab_congr (h : ∀ u v : Int, 0 ≤ u → u < n → 0 ≤ v → v < n → f u v = g u v) : Tab n f = Tab n g := by
  unfold Tab
  refine List.map_congr_left fun u hu => List.map_congr_left fun v hv => ?_
  rw [mem_rngI] at hu hv
  exact h u v hu.1 (by omega) hv.1 (by omega)
theorem Tab_inj {u v : Int} (h : Tab n f = Tab n g) (u0 : 0 ≤ u) (u1 : u < n) (v0 : 0 ≤ v) (v1 : v < n) : f u v = g u v := by
  have : getI (getI (Tab n f) u) v = getI (getI (Tab n g) u) v := by rw [h]
  rwa [Tab_get u0 u1 v0 v1, Tab_get u0 u1 v0 v1] at this
theorem Tab_length : (Tab n f).length = n := by unfold Tab; rw [List.length_map, rngI_length]
theorem Tab_inB (u0 : 0 ≤ u) (u1 : u < n) : InB (Tab n f) u := inB_rng u0 u1
theorem Tab_inBrow (u0 : 0 ≤ u) (u1 : u < n) (v0 : 0 ≤ v) (v1 : v < n) : InB (getI (Tab n f) u) v := by rw [Tab_row u0 u1]; exact inB_rng v0 v1
theorem ixN_nat {n i : Nat} (h : i < n) : ixN n (i : Int) = some i := by
  unfold ixN
  rw [if_pos (by omega), if_pos (by omega)]; simp
theorem Tab_inB2 (u0 : 0 ≤ u) (u1 : u < n) (v0 : 0 ≤ v) (v1 : v < n) : InB2 (Tab n f) u v := ⟨Tab_inB u0 u1, fun xs e => by
  have h := atI_some (Tab_inB (f := f) u0 u1)
  rw [e] at h
  cases h
  exact Tab_inBrow u0 u1 v0 v1⟩
theorem set_map_rng {α : Type} (f : Int → α) (i : Nat) (y : α) : ((rngI 0 n).map f).set i y = (rngI 0 n).map fun a => if a = (i : Int) then y else f a := by
  apply List.ext_getElem?
  intro j
  rw [List.getElem?_set, List.getElem?_map]
  by_cases h : i = j
  · subst h
    rw [if_pos rfl, List.length_map, rngI_length]
    by_cases hn : i < n
    · rw [if_pos hn, List.getElem?_map, rngI_get hn]
      show some y = some (if 0 + (i : Int) = i then y else _)
      rw [if_pos (by omega)]
    · rw [if_neg hn, List.getElem?_map, List.getElem?_eq_none (by rw [rngI_length]; omega)]; rfl
  · rw [if_neg h, List.getElem?_map]
    by_cases hn : j < n
    · rw [rngI_get hn]
      show some (f (0 + (j : Int))) = some (if 0 + (j : Int) = i then y else f (0 + (j : Int)))
      rw [if_neg (by omega)]
    · rw [List.getElem?_eq_none (by rw [rngI_length]; omega)]; rfl
theorem Tab_set (u0 : 0 ≤ u) (u1 : u < n) (v0 : 0 ≤ v) (v1 : v < n) : setAt2 (Tab n f) u v w = Tab n (up2 f u v w) := by
  obtain ⟨i, rfl⟩ := Int.eq_ofNat_of_zero_le u0
  obtain ⟨j, rfl⟩ := Int.eq_ofNat_of_zero_le v0
  have hi : i < n := by omega
  have hj : j < n := by omega
  unfold setAt2
  rw [Tab_length]
  show (match ixN n (i : Int) with | some j' => (Tab n f).set j' (setAt ((Tab n f).getD j' []) (j : Int) w) | none => Tab n f) = _
  rw [ixN_nat hi]
  show (Tab n f).set i (setAt ((Tab n f).getD i []) (j : Int) w) = _
  have hrow : (Tab n f).getD i [] = (rngI 0 n).map fun v => f i v := by
    unfold Tab
    rw [List.getD_eq_getElem?_getD, List.getElem?_map, rngI_get hi]
    show (rngI 0 n).map (fun v => f (0 + (i : Int)) v) = _
    rw [Int.zero_add]
  rw [hrow]
  unfold setAt
  rw [List.length_map, rngI_length, ixN_nat hj]
  show (Tab n f).set i (((rngI 0 n).map fun v => f i v).set j w) = _
  rw [set_map_rng]
  unfold Tab
  rw [set_map_rng]
  refine List.map_congr_left fun a _ => ?_
  by_cases h : a = (i : Int)
  · subst h
    rw [if_pos rfl]
    refine List.map_congr_left fun b _ => ?_
    unfold up2
    by_cases h2 : b = (j : Int)
    · rw [if_pos h2, if_pos ⟨rfl, h2⟩]
    · rw [if_neg h2, if_neg (fun z => h2 z.2)]
  · rw [if_neg h]
    refine List.map_congr_left fun b _ => ?_
    unfold up2
    rw [if_neg (fun z => h z.1)]
theorem Tab_zero (n : Nat) : (rngI 0 n).map (fun _ => repL (n : Int) ([0] : List Int)) = Tab n fun _ _ => 0 := by
  unfold Tab
  refine List.map_congr_left fun u _ => ?_
  unfold repL
  rw [Int.toNat_natCast]
  apply List.ext_getElem?
  intro j
  have e : ∀ n : Nat, (List.replicate n [(0 : Int)]).flatten = List.replicate n 0 := fun n => by
    induction n with
    | zero => rfl
    | succ n ih => rw [List.replicate_succ, List.flatten_cons, ih]; rfl
  rw [e, List.getElem?_map, List.getElem?_replicate]
  by_cases h : j < n
  · rw [if_pos h, rngI_get h]; rfl
  · rw [if_neg h, List.getElem?_eq_none (by rw [rngI_length]; omega)]; rfl
end
end L2.Ev

set_option Elab.async false
set_option linter.all false
set_option maxRecDepth 100000
/-! Wm2: webs by their weights: tables of webs, webs of tables. -/
namespace L2.Ev
open PySem PySem.Spec PyProof.Rows
abbrev Tie := T3 Int Int Int
abbrev Web := T3 Int Int (List Tie)
/-- weights: the same both ways, none from a place to itself, numbers modulo p -/
structure Good (p : Int) (f : Int → Int → Int) : Prop where
  sym : ∀ u v, f u v = f v u
  diag : ∀ u, f u u = 0
  lo : ∀ u v, 0 ≤ f u v
  hi : ∀ u v, f u v < p
def rowT (n : Nat) (f : Int → Int → Int) (u : Int) : List Tie := ((rngI (u + 1) (Int.toNat (n - (u + 1)))).filter fun v => decide (f u v ≠ 0)).map fun v => ⟨u, v, f u v⟩
def tiesF (n : Nat) (f : Int → Int → Int) : List Tie := (rngI 0 n).flatMap (rowT n f)
def webF (p : Int) (n : Nat) (f : Int → Int → Int) : Web := ⟨p, n, tiesF n f⟩
section
variable {p : Int} {n : Nat} {f g : Int → Int → Int}
theorem mem_rowT {u : Int} {t : Tie} : t ∈ rowT n f u ↔ t.a = u ∧ u < t.b ∧ t.b < n ∧ t.c = f t.a t.b ∧ t.c ≠ 0 := by
  unfold rowT
  rw [List.mem_map]
  constructor
  · rintro ⟨v, h, rfl⟩
    rw [List.mem_filter, mem_rngI] at h
    obtain ⟨⟨h1, h2⟩, h3⟩ := h
    exact ⟨rfl, by show u < v; omega, by show v < n; omega, rfl, of_decide_eq_true h3⟩
  · rintro ⟨rfl, h1, h2, h3, h4⟩
    refine ⟨t.b, ?_, by cases t; simp_all⟩
    rw [List.mem_filter, mem_rngI]
    exact ⟨⟨by omega, by omega⟩, decide_eq_true (by rw [← h3]; exact h4)⟩
theorem mem_tiesF {t : Tie} : t ∈ tiesF n f ↔ 0 ≤ t.a ∧ t.a < t.b ∧ t.b < n ∧ t.c = f t.a t.b ∧ t.c ≠ 0 := by
  unfold tiesF
  rw [List.mem_flatMap]
  constructor
  · rintro ⟨u, h, h2⟩
    rw [mem_rowT] at h2
    rw [mem_rngI] at h
    obtain ⟨rfl, h3⟩ := h2
    exact ⟨h.1, h3⟩
  · rintro ⟨h1, h2, h3, h4⟩
    exact ⟨t.a, mem_rngI.mpr ⟨h1, by omega⟩, mem_rowT.mpr ⟨rfl, h2, h3, h4⟩⟩
theorem rowT_length (u : Int) (h : 0 ≤ u) : (rowT n f u).length ≤ n := by
  unfold rowT
  rw [List.length_map]
  refine Nat.le_trans (List.length_filter_le _ _) ?_
  rw [rngI_length]; omega
theorem flatMap_len (k : Nat) : (((rngI 0 k).flatMap (rowT n f))).length ≤ k * n := by
  induction k with
  | zero => simp [rngI_zero]
  | succ k ih =>
    rw [rngI_succ, List.flatMap_append, List.length_append]
    have := rowT_length (n := n) (f := f) ((0 : Int) + k) (by omega)
    simp only [List.flatMap_cons, List.flatMap_nil, List.append_nil]
    rw [Nat.succ_mul]; omega
theorem rngI_snoc {i : Int} (h : 0 ≤ i) : rngI 0 (i + 1).toNat = rngI 0 i.toNat ++ [i] := by
  have e : (i + 1).toNat = i.toNat + 1 := by omega
  rw [e, rngI_succ, show (0 : Int) + (i.toNat : Nat) = i by omega]
/-! ### from webs to tables -/
def putT (f : Int → Int → Int) (t : Tie) : Int → Int → Int := up2 (up2 f t.a t.b t.c) t.b t.a t.c
def okT (n : Nat) (t : Tie) : Prop := 0 ≤ t.a ∧ t.a < n ∧ 0 ≤ t.b ∧ t.b < n
theorem putT_val {h : Int → Int → Int} (hs : ∀ u v, h u v = h v u) : ∀ (L : List Tie) (g : Int → Int → Int), (∀ t ∈ L, t.c = h t.a t.b) → ∀ u v, (L.foldl putT g) u v = if (∃ t ∈ L, (t.a = u ∧ t.b = v) ∨ (t.b = u ∧ t.a = v)) then h u v else g u v
  | [], g, _, u, v => by rw [if_neg (by rintro ⟨t, m, _⟩; cases m)]; rfl
  | t :: L, g, hL, u, v => by
    rw [List.foldl_cons, putT_val hs L _ (fun t m => hL t (List.mem_cons_of_mem _ m)) u v]
    have ht := hL t List.mem_cons_self
    by_cases h1 : ∃ t ∈ L, (t.a = u ∧ t.b = v) ∨ (t.b = u ∧ t.a = v)
    · rw [if_pos h1, if_pos]
      obtain ⟨s, m, e⟩ := h1
      exact ⟨s, List.mem_cons_of_mem _ m, e⟩
    · rw [if_neg h1]
      unfold putT up2
      by_cases h2 : u = t.b ∧ v = t.a
      · rw [if_pos h2, if_pos ⟨t, List.mem_cons_self, .inr ⟨h2.1.symm, h2.2.symm⟩⟩, ht, h2.1, h2.2, hs]
      · rw [if_neg h2]
        by_cases h3 : u = t.a ∧ v = t.b
        · rw [if_pos h3, if_pos ⟨t, List.mem_cons_self, .inl ⟨h3.1.symm, h3.2.symm⟩⟩, ht, h3.1, h3.2]
        · rw [if_neg h3, if_neg]
          rintro ⟨s, m, e⟩
          rcases List.mem_cons.mp m with rfl | m
          · rcases e with e | e
            · exact h3 ⟨e.1.symm, e.2.symm⟩
            · exact h2 ⟨e.1.symm, e.2.symm⟩
          · exact h1 ⟨s, m, e⟩
theorem ties_tab (G : Good p f) : Tab n ((tiesF n f).foldl putT fun _ _ => 0) = Tab n f := by
  refine Tab_congr fun u v u0 u1 v0 v1 => ?_
  rw [putT_val G.sym _ _ (fun t m => (mem_tiesF.mp m).2.2.2.1)]
  by_cases h : ∃ t ∈ tiesF n f, (t.a = u ∧ t.b = v) ∨ (t.b = u ∧ t.a = v)
  · rw [if_pos h]
  · rw [if_neg h]
    by_cases h0 : f u v = 0
    · exact h0.symm
    · refine absurd ?_ h
      rcases Int.lt_trichotomy u v with c | c | c
      · exact ⟨⟨u, v, f u v⟩, mem_tiesF.mpr ⟨u0, c, v1, rfl, h0⟩, .inl ⟨rfl, rfl⟩⟩
      · subst c; exact absurd (G.diag u) h0
      · exact ⟨⟨v, u, f v u⟩, mem_tiesF.mpr ⟨v0, c, u1, rfl, by rw [G.sym]; exact h0⟩, .inr ⟨rfl, rfl⟩⟩
theorem okT_ties {t : Tie} (h : t ∈ tiesF n f) : okT n t := by
  obtain ⟨h1, h2, h3, _⟩ := mem_tiesF.mp h
  exact ⟨h1, by omega, by omega, h3⟩
theorem table_fold : ∀ (L : List Tie) (g : Int → Int → Int), (∀ t ∈ L, okT n t) → FG (fun n q => g_table_of_3 n q) (fun n q => m_table_of_3 n q) L (Tab n g) ∧ L.foldl (fun n q => m_table_of_3 n q) (Tab n g) = Tab n (L.foldl putT g)
  | [], g, _ => ⟨trivial, rfl⟩
  | t :: L, g, h => by
    obtain ⟨a0, a1, b0, b1⟩ := h t List.mem_cons_self
    have e : m_table_of_3 (Tab n g) t = Tab n (putT g t) := by
      show setAt2 (setAt2 (Tab n g) t.a t.b t.c) t.b t.a t.c = _
      rw [Tab_set a0 a1 b0 b1, Tab_set b0 b1 a0 a1]; rfl
    obtain ⟨h1, h2⟩ := table_fold L (putT g t) (fun s m => h s (List.mem_cons_of_mem _ m))
    refine ⟨⟨⟨Tab_inB2 a0 a1 b0 b1, ?_, trivial⟩, ?_⟩, ?_⟩
    · rw [Tab_set a0 a1 b0 b1]; exact Tab_inB2 b0 b1 a0 a1
    · show FG _ _ L (m_table_of_3 (Tab n g) t)
      rw [e]; exact h1
    · rw [List.foldl_cons, List.foldl_cons]
      show L.foldl _ (m_table_of_3 (Tab n g) t) = _
      rw [e]; exact h2
theorem table_of_eq (G : Good p f) (hn : n ≤ 1000) : g_table_of (webF p n f) ∧ m_table_of (webF p n f) = Tab n f := by
  obtain ⟨h1, h2⟩ := table_fold (tiesF n f) (fun _ _ => 0) (fun t m => okT_ties m)
  have e : (List.map (fun (_ : Int) => repL ((webF p n f).b) ([(0 : Int)] : List Int)) (rngI 0 (Int.toNat (webF p n f).b))) = Tab n fun _ _ => 0 := by
    show (List.map (fun (_ : Int) => repL (n : Int) ([(0 : Int)] : List Int)) (rngI 0 (Int.toNat (n : Int)))) = _
    rw [Int.toNat_natCast]; exact Tab_zero n
  constructor
  · refine ⟨⟨by show -(2 ^ 62) ≤ (n : Int); omega, by show (n : Int) ≤ _; omega⟩, fun q _ => ⟨by show -(2 ^ 63) ≤ (n : Int); omega, by show (n : Int) < _; omega, by show 1 * (n : Int).toNat ≤ _; omega⟩, ?_⟩
    rw [e]
    exact ⟨h1, trivial⟩
  · show m_table_of_5 _ _ = _
    rw [e]
    show List.map (fun q => q) (List.foldl (fun n q => m_table_of_3 n q) (Tab n fun _ _ => 0) (tiesF n f)) = _
    rw [h2, ties_tab G]; simp
theorem ltable_fold : ∀ (L : List Tie) (g : Int → Int → Int), (∀ t ∈ L, okT n t) → FG (fun n q => g__law_table_4 n q) (fun n q => m__law_table_4 n q) L (Tab n g) ∧ L.foldl (fun n q => m__law_table_4 n q) (Tab n g) = Tab n (L.foldl putT g)
  | [], g, _ => ⟨trivial, rfl⟩
  | t :: L, g, h => by
    obtain ⟨a0, a1, b0, b1⟩ := h t List.mem_cons_self
    have e : m__law_table_4 (Tab n g) t = Tab n (putT g t) := by
      show setAt2 (setAt2 (Tab n g) t.a t.b t.c) t.b t.a t.c = _
      rw [Tab_set a0 a1 b0 b1, Tab_set b0 b1 a0 a1]; rfl
    obtain ⟨h1, h2⟩ := ltable_fold L (putT g t) (fun s m => h s (List.mem_cons_of_mem _ m))
    refine ⟨⟨⟨Tab_inB2 a0 a1 b0 b1, ?_, trivial⟩, ?_⟩, ?_⟩
    · rw [Tab_set a0 a1 b0 b1]; exact Tab_inB2 b0 b1 a0 a1
    · show FG _ _ L (m__law_table_4 (Tab n g) t)
      rw [e]; exact h1
    · rw [List.foldl_cons, List.foldl_cons]
      show L.foldl _ (m__law_table_4 (Tab n g) t) = _
      rw [e]; exact h2
theorem ltable_eq (G : Good p f) (hn : n ≤ 1000) : g__law_table (webF p n f) ∧ m__law_table (webF p n f) = Tab n f := by
  obtain ⟨h1, h2⟩ := ltable_fold (tiesF n f) (fun _ _ => 0) (fun t m => okT_ties m)
  have e : (List.map (fun (_ : Int) => repL ((webF p n f).b) ([(0 : Int)] : List Int)) (rngI 0 (Int.toNat (webF p n f).b))) = Tab n fun _ _ => 0 := by
    show (List.map (fun (_ : Int) => repL (n : Int) ([(0 : Int)] : List Int)) (rngI 0 (Int.toNat (n : Int)))) = _
    rw [Int.toNat_natCast]; exact Tab_zero n
  constructor
  · refine ⟨⟨by show -(2 ^ 62) ≤ (n : Int); omega, by show (n : Int) ≤ _; omega⟩, fun q _ => ⟨by show -(2 ^ 63) ≤ (n : Int); omega, by show (n : Int) < _; omega, by show 1 * (n : Int).toNat ≤ _; omega⟩, ?_⟩
    rw [e]
    exact ⟨h1, trivial⟩
  · show m__law_table_6 _ _ = _
    rw [e]
    show List.foldl (fun n q => m__law_table_4 n q) (Tab n fun _ _ => 0) (tiesF n f) = _
    rw [h2, ties_tab G]
end
end L2.Ev

set_option Elab.async false
set_option linter.all false
set_option maxRecDepth 100000
/-! Wm3: what is drawn; drawn webs. -/
namespace L2.Ev
open PySem PySem.Spec PyProof.Rows
theorem pickB_bd (S : Src) {m : Int} (h : 1 ≤ m) : 0 ≤ (pickB S m).1 ∧ (pickB S m).1 < m := by
  by_cases h1 : 1 < m
  · rcases hq : pulled S with ⟨cs, l⟩
    by_cases h2 : 1 < l
    · rw [pickB_pos h1 hq h2]
      show 0 ≤ l % max 1 m ∧ l % max 1 m < m
      rw [show max 1 m = m by omega]
      exact ⟨Int.emod_nonneg _ (by omega), Int.emod_lt_of_pos _ (by omega)⟩
    · rw [pickB_neg h1 hq h2]
      exact ⟨Int.emod_nonneg _ (by omega), Int.emod_lt_of_pos _ (by omega)⟩
  · rw [pickB_le h1]
    show 0 ≤ S.left % max 1 m ∧ S.left % max 1 m < m
    rw [show max 1 m = 1 by omega, show m = 1 by omega]
    exact ⟨Int.emod_nonneg _ (by omega), Int.emod_lt_of_pos _ (by omega)⟩
section
variable {p : Int} {n : Nat} {f g : Int → Int → Int}
def rowP (f : Int → Int → Int) (u v : Int) : List Tie := ((rngI (u + 1) (Int.toNat (v - (u + 1)))).filter fun v => decide (f u v ≠ 0)).map fun v => ⟨u, v, f u v⟩
theorem rowP_congr {u v : Int} (h : ∀ w, u < w → w < v → f u w = g u w) : rowP f u v = rowP g u v := by
  unfold rowP
  have e1 : (rngI (u + 1) (Int.toNat (v - (u + 1)))).filter (fun v => decide (f u v ≠ 0)) = (rngI (u + 1) (Int.toNat (v - (u + 1)))).filter (fun v => decide (g u v ≠ 0)) := by
    apply List.filter_congr
    intro w hw
    rw [mem_rngI] at hw
    rw [h w (by omega) (by omega)]
  rw [e1]
  refine List.map_congr_left fun w hw => ?_
  rw [List.mem_filter, mem_rngI] at hw
  rw [h w (by omega) (by omega)]
theorem rowP_succ {u v : Int} (h : u < v) : rowP f u (v + 1) = rowP f u v ++ (if f u v = 0 then [] else [⟨u, v, f u v⟩]) := by
  unfold rowP
  have e : Int.toNat (v + 1 - (u + 1)) = Int.toNat (v - (u + 1)) + 1 := by omega
  rw [e, rngI_succ, List.filter_append, List.map_append]
  congr 1
  have e2 : u + 1 + (Int.toNat (v - (u + 1)) : Int) = v := by omega
  rw [e2]
  by_cases h0 : f u v = 0
  · rw [if_pos h0, List.filter_cons, if_neg (by simp [h0])]; rfl
  · rw [if_neg h0, List.filter_cons, if_pos (decide_eq_true h0)]; rfl
theorem rowP_len {u v : Int} (hu : 0 ≤ u) : (rowP f u v).length ≤ v.toNat := by
  unfold rowP
  rw [List.length_map]
  refine Nat.le_trans (List.length_filter_le _ _) ?_
  rw [rngI_length]; omega
theorem flat_congr {k : Int} (h : ∀ u w, 0 ≤ u → u < k → u < w → f u w = g u w) : (rngI 0 k.toNat).flatMap (rowT n f) = (rngI 0 k.toNat).flatMap (rowT n g) := by
  have : ∀ u ∈ rngI 0 k.toNat, rowT n f u = rowT n g u := fun u hu => by
    rw [mem_rngI] at hu
    exact rowP_congr (v := (n : Int)) fun w hw _ => h u w hu.1 (by omega) hw
  rw [List.flatMap_def, List.flatMap_def, List.map_congr_left this]
theorem Good.put (G : Good p f) {u v c : Int} (hv : u ≠ v) (c0 : 0 ≤ c) (c1 : c < p) : Good p (putT f ⟨u, v, c⟩) := by
  have val : ∀ a b, putT f ⟨u, v, c⟩ a b = if (a = v ∧ b = u) ∨ (a = u ∧ b = v) then c else f a b := fun a b => by
    unfold putT up2
    by_cases h1 : a = v ∧ b = u
    · rw [if_pos h1, if_pos (.inl h1)]
    · rw [if_neg h1]
      by_cases h2 : a = u ∧ b = v
      · rw [if_pos h2, if_pos (.inr h2)]
      · rw [if_neg h2, if_neg (fun z => z.elim h1 h2)]
  refine ⟨fun a b => ?_, fun a => ?_, fun a b => ?_, fun a b => ?_⟩
  · rw [val, val]
    by_cases h : (a = v ∧ b = u) ∨ (a = u ∧ b = v)
    · rw [if_pos h, if_pos (h.elim (fun z => .inr ⟨z.2, z.1⟩) fun z => .inl ⟨z.2, z.1⟩)]
    · rw [if_neg h, if_neg (fun z => h (z.elim (fun z => .inr ⟨z.2, z.1⟩) fun z => .inl ⟨z.2, z.1⟩)), G.sym]
  · rw [val, if_neg (by rintro (⟨rfl, h⟩ | ⟨rfl, h⟩) <;> exact hv (by omega)), G.diag]
  · rw [val]; split
    · exact c0
    · exact G.lo a b
  · rw [val]; split
    · exact c1
    · exact G.hi a b
theorem put_at {u v c : Int} : putT f ⟨u, v, c⟩ u v = c := by
  unfold putT up2
  by_cases h1 : u = v ∧ v = u
  · rw [if_pos h1]
  · rw [if_neg h1, if_pos ⟨rfl, rfl⟩]
theorem put_off {u v c a b : Int} (h1 : ¬ (a = v ∧ b = u)) (h2 : ¬ (a = u ∧ b = v)) : putT f ⟨u, v, c⟩ a b = f a b := by
  unfold putT up2
  rw [if_neg h1, if_neg h2]
theorem law_web_eq (hp : 2 ≤ p) (hp2 : p ≤ 1000) (hn : n ≤ 1000) {few : Int}  (S : Src) : g__law_web p n few S ∧ ∃ f S', Good p f ∧ m__law_web p n few S = (webF p n f, S') := by
  have G0 : Good p fun _ _ => 0 := ⟨fun _ _ => rfl, fun _ => rfl, fun _ _ => Int.le_refl _, fun _ _ => by omega⟩
  have inner : ∀ (u : Int) (ts : List Tie) (T : Src) (f : Int → Int → Int), 0 ≤ u → u < n → Good p f → ts = (rngI 0 u.toNat).flatMap (rowT n f) →
      FG (fun n_71 q => g__law_web_6 p few u n_71 q) (fun n_71 q => m__law_web_6 p few u n_71 q) (rngI (u + 1) (Int.toNat (n - (u + 1)))) (ts, T) ∧
      ∃ f' T', Good p f' ∧ (rngI (u + 1) (Int.toNat (n - (u + 1)))).foldl (fun n_71 q => m__law_web_6 p few u n_71 q) (ts, T) = ((rngI 0 (u + 1).toNat).flatMap (rowT n f'), T') := by
    intro u ts T f u0 u1 G hts
    obtain ⟨k1, k2⟩ := fold_rng (P := fun n_71 q => g__law_web_6 p few u n_71 q) (f := fun n_71 q => m__law_web_6 p few u n_71 q) (lo := u + 1)
      (fun v st => ∃ f, Good p f ∧ st.1 = (rngI 0 u.toNat).flatMap (rowT n f) ++ rowP f u v) (Int.toNat (n - (u + 1))) (n0 := (ts, T)) ⟨f, G, by
        show ts = _
        rw [hts]; unfold rowP; simp [rngI]⟩ (fun v st v0 v1 ⟨f, G, e⟩ => by
      have uv : u < v := by omega
      obtain ⟨b0, b1⟩ := pickB_bd (pickB st.2 3).2 (m := p - 1) (by omega)
      have nx : ∀ c : Int, 0 ≤ c → c < p → ∃ f', Good p f' ∧ st.1 ++ (if c = 0 then [] else [⟨u, v, c⟩]) = (rngI 0 u.toNat).flatMap (rowT n f') ++ rowP f' u (v + 1) := fun c c0 c1 => by
        refine ⟨putT f ⟨u, v, c⟩, G.put (by omega) c0 c1, ?_⟩
        rw [rowP_succ uv, put_at, e, ← List.append_assoc]
        congr 1
        congr 1
        · exact flat_congr fun a w a0 a1 a2 => (put_off (by omega) (by omega)).symm
        · exact rowP_congr fun w w0 w1 => (put_off (by omega) (by omega)).symm
      have hlen : st.1.length < 16777216 := by
        rw [e, List.length_append]
        have h1 := flatMap_len (n := n) (f := f) u.toNat
        have h2 := rowP_len (f := f) (u := u) (v := v) u0
        have hb : u.toNat * n ≤ 1000 * 1000 := Nat.mul_le_mul (by omega) hn
        omega
      refine ⟨⟨(by show (3:Int) < 1073741824; decide), fun _ => ⟨by show p - 1 < 1073741824; omega, hlen, trivial⟩, fun _ => trivial⟩, ?_⟩
      show ∃ f, Good p f ∧ (m__law_web_6 p few u st v).1 = _
      unfold m__law_web_6
      by_cases hc : decide (few ≤ (m__law_pick (3 : Int) st.2).1) = true
      · rw [if_pos hc]
        obtain ⟨f', G', e'⟩ := nx (1 + (pickB (pickB st.2 3).2 (p - 1)).1) (by omega) (by omega)
        rw [if_neg (by omega)] at e'
        exact ⟨f', G', e'⟩
      · rw [if_neg hc]
        obtain ⟨f', G', e'⟩ := nx 0 (Int.le_refl _) (by omega)
        rw [if_pos rfl, List.append_nil] at e'
        exact ⟨f', G', e'⟩)
    refine ⟨k1, ?_⟩
    obtain ⟨f', G', e⟩ := k2
    refine ⟨f', ((rngI (u + 1) (Int.toNat (n - (u + 1)))).foldl (fun n_71 q => m__law_web_6 p few u n_71 q) (ts, T)).2, G', Prod.ext ?_ rfl⟩
    rw [e, rngI_snoc u0, List.flatMap_append]
    have ev : u + 1 + (Int.toNat ((n : Int) - (u + 1)) : Int) = n := by omega
    rw [ev]
    congr 1
    simp only [List.flatMap_cons, List.flatMap_nil, List.append_nil]
    rfl
  obtain ⟨k1, k2⟩ := fold_rng (P := fun n_64 q => g__law_web_8 p n few n_64 q) (f := fun n_64 q => m__law_web_8 p n few n_64 q) (lo := 0)
    (fun u st => ∃ f, Good p f ∧ st.1 = (rngI 0 u.toNat).flatMap (rowT n f)) n (n0 := (([] : List Tie), S)) ⟨_, G0, rfl⟩ (fun u st u0 u1 ⟨f, G, e⟩ => by
    obtain ⟨j1, f', T', G', j2⟩ := inner u st.1 st.2 f u0 (by omega) G e
    refine ⟨⟨⟨by omega, by omega⟩, ⟨by omega, by omega⟩, by omega, j1, trivial⟩, f', G', ?_⟩
    show (m__law_web_7 _).1 = _
    unfold m__law_web_7
    show (List.foldl _ (st.1, st.2) _).1 = _
    rw [j2])
  obtain ⟨f, G, e⟩ := k2
  refine ⟨⟨⟨by omega, by omega⟩, ?_, trivial⟩, f, ((rngI 0 n).foldl (fun n_64 q => m__law_web_8 p n few n_64 q) (([] : List Tie), S)).2, G, ?_⟩
  · rw [Int.toNat_natCast]; exact k1
  · show m__law_web_9 _ _ _ = _
    unfold m__law_web_9
    rw [Int.toNat_natCast]
    refine Prod.ext ?_ rfl
    show (T3.mk p (n : Int) _ : Web) = webF p n f
    unfold webF tiesF
    rw [e]
    rw [show (0 : Int) + (n : Int) = (n : Int) by omega, Int.toNat_natCast]
end
end L2.Ev

set_option Elab.async false
set_option linter.all false
set_option maxRecDepth 100000
/-! Xm4: rows, sums, numbers modulo p. -/
namespace L2.Ev
open PySem PySem.Spec PyProof.Rows
/-! ### numbers modulo p -/
def Cg (p x y : Int) : Prop := x % p = y % p
namespace Cg
variable {p a b c d : Int}
theorem rfl' : Cg p a a := rfl
theorem of_eq (h : a = b) : Cg p a b := by rw [h]; rfl
theorem sym (h : Cg p a b) : Cg p b a := Eq.symm h
theorem trans (h : Cg p a b) (g : Cg p b c) : Cg p a c := Eq.trans h g
theorem md (x : Int) : Cg p (x % p) x := Int.emod_emod _ _
theorem add (h : Cg p a b) (g : Cg p c d) : Cg p (a + c) (b + d) := by unfold Cg at *; rw [Int.add_emod, h, g, ← Int.add_emod]
theorem sub (h : Cg p a b) (g : Cg p c d) : Cg p (a - c) (b - d) := by unfold Cg at *; rw [Int.sub_emod, h, g, ← Int.sub_emod]
theorem mul (h : Cg p a b) (g : Cg p c d) : Cg p (a * c) (b * d) := by unfold Cg at *; rw [Int.mul_emod, h, g, ← Int.mul_emod]
theorem neg (h : Cg p a b) : Cg p (-a) (-b) := by
  have := Cg.sub (p := p) (a := 0) (b := 0) rfl h
  simpa using this
end Cg
theorem small_mod {p x : Int} (h0 : 0 ≤ x) (h1 : x < p) : x % p = x := Int.emod_eq_of_lt h0 h1
/-! ### rows -/
@[reducible] def mp {α : Type} (n : Nat) (F : Int → α) : List α := (rngI 0 n).map F
section
variable {α β γ : Type} {n : Nat}
theorem mp_congr {F G : Int → α} (h : ∀ i : Int, 0 ≤ i → i < n → F i = G i) : mp n F = mp n G := List.map_congr_left fun i hi => by
  rw [mem_rngI] at hi; exact h i hi.1 (by omega)
theorem mp_len (F : Int → α) : (mp n F).length = n := by rw [List.length_map, rngI_length]
theorem mp_map (F : Int → α) (h : α → β) : List.map h (mp n F) = mp n fun i => h (F i) := List.map_map ..
theorem mp_zip (F : Int → α) (G : Int → β) : List.zip (mp n F) (mp n G) = mp n fun i => (F i, G i) := List.zip_map' ..
theorem mp_all {F : Int → α} {P : α → Prop} (h : ∀ i : Int, 0 ≤ i → i < n → P (F i)) : ∀ x ∈ mp n F, P x := fun x hx => by
  obtain ⟨i, hi, rfl⟩ := List.mem_map.mp hx
  rw [mem_rngI] at hi; exact h i hi.1 (by omega)
theorem mp_inj {F G : Int → α} [Inhabited α] (h : mp n F = mp n G) {i : Int} (h0 : 0 ≤ i) (h1 : i < n) : F i = G i := by
  have : getI (mp n F) i = getI (mp n G) i := by rw [h]
  rwa [getI_map_rng h0 h1, getI_map_rng h0 h1] at this
theorem mp_eq {F G : Int → α} [Inhabited α] : mp n F = mp n G ↔ ∀ i : Int, 0 ≤ i → i < n → F i = G i := ⟨fun h i h0 h1 => mp_inj h h0 h1, mp_congr⟩
theorem mp_enum (F : Int → α) : enumL (mp n F) = mp n fun i => (i, F i) := by
  unfold enumL
  apply List.ext_getElem?
  intro j
  rw [List.getElem?_mapIdx, List.getElem?_map, List.getElem?_map]
  by_cases h : j < n
  · rw [rngI_get h]
    show some ((j : Int), F (0 + (j : Int))) = some (0 + (j : Int), F (0 + (j : Int)))
    rw [Int.zero_add]
  · rw [List.getElem?_eq_none (by rw [rngI_length]; omega)]; rfl
theorem Tab_mp (f : Int → Int → Int) : Tab n f = mp n fun u => mp n fun v => f u v := rfl
/-- any row is one of a function -/
theorem row_mp [Inhabited α] (xs : List α) : xs = mp xs.length fun i => getI xs i := by
  apply List.ext_getElem?
  intro j
  rw [List.getElem?_map]
  by_cases h : j < xs.length
  · rw [rngI_get h, List.getElem?_eq_getElem h]
    show some xs[j] = some (getI xs (0 + (j : Int)))
    rw [Int.zero_add, getI_nat (List.getElem?_eq_getElem h)]
  · rw [List.getElem?_eq_none (by omega), List.getElem?_eq_none (by rw [rngI_length]; omega)]; rfl
end
/-! ### sums -/
def sm (n : Nat) (F : Int → Int) : Int := (mp n F).sum
section
variable {n m : Nat} {F G : Int → Int} {p : Int}
theorem sm_zero : sm 0 F = 0 := rfl
theorem sm_succ : sm (n + 1) F = sm n F + F n := by
  unfold sm mp
  rw [rngI_succ, List.map_append, List.sum_append]; simp
theorem sm_congr (h : ∀ i : Int, 0 ≤ i → i < n → F i = G i) : sm n F = sm n G := by unfold sm; rw [mp_congr h]
theorem sm_cg (h : ∀ i : Int, 0 ≤ i → i < n → Cg p (F i) (G i)) : Cg p (sm n F) (sm n G) := by
  induction n with
  | zero => exact .rfl'
  | succ n ih =>
    rw [sm_succ, sm_succ]
    exact (ih fun i a b => h i a (by omega)).add (h n (by omega) (by omega))
theorem sm_add : sm n (fun i => F i + G i) = sm n F + sm n G := by
  induction n with
  | zero => rfl
  | succ n ih => rw [sm_succ, sm_succ, sm_succ, ih]; omega
theorem sm_sub : sm n (fun i => F i - G i) = sm n F - sm n G := by
  induction n with
  | zero => rfl
  | succ n ih => rw [sm_succ, sm_succ, sm_succ, ih]; omega
theorem sm_mul (c : Int) : sm n (fun i => c * F i) = c * sm n F := by
  induction n with
  | zero => rw [sm_zero, sm_zero, Int.mul_zero]
  | succ n ih => rw [sm_succ, sm_succ, ih, Int.mul_add]
theorem sm_mulr (c : Int) : sm n (fun i => F i * c) = sm n F * c := by
  induction n with
  | zero => rw [sm_zero, sm_zero, Int.zero_mul]
  | succ n ih => rw [sm_succ, sm_succ, ih, Int.add_mul]
theorem sm_nil : sm n (fun _ => 0) = 0 := by
  induction n with
  | zero => rfl
  | succ n ih => rw [sm_succ, ih]; rfl
theorem sm_swap (H : Int → Int → Int) : sm n (fun i => sm m fun j => H i j) = sm m (fun j => sm n fun i => H i j) := by
  induction n with
  | zero => simp only [sm_zero]; rw [sm_nil]
  | succ n ih =>
    rw [sm_succ, ih, ← sm_add]
    exact sm_congr fun j _ _ => by rw [sm_succ]
theorem sm_delta {v : Int} (h0 : 0 ≤ v) (h1 : v < n) : sm n (fun u => (if u = v then 1 else 0) * F u) = F v := by
  induction n with
  | zero => omega
  | succ n ih =>
    rw [sm_succ]
    by_cases e : (n : Int) = v
    · rw [if_pos e, ← e, Int.one_mul]
      have : sm n (fun u => (if u = (n : Int) then 1 else 0) * F u) = sm n fun _ => 0 := sm_congr fun i a b => by rw [if_neg (by omega), Int.zero_mul]
      rw [this, sm_nil, Int.zero_add]
    · rw [if_neg e, ih (by omega)]; omega
theorem sum_mp : List.sum (mp n F) = sm n F := rfl
theorem foldl_add (h : Int → Int) : ∀ (xs : List Int) (a : Int), xs.foldl (fun t x => t + h x) a = a + (xs.map h).sum
  | [], a => by simp
  | x :: xs, a => by rw [List.foldl_cons, foldl_add h xs, List.map_cons, List.sum_cons]; omega
end
end L2.Ev

set_option Elab.async false
set_option linter.all false
set_option maxRecDepth 100000
/-! Xm5: what the program's functions of rows are (k13). -/
namespace L2.Ev
open PySem PySem.Spec PyProof.Rows
def Bd (p : Int) (n : Nat) (x : Int → Int) : Prop := ∀ i : Int, 0 ≤ i → i < n → 0 ≤ x i ∧ x i < p
theorem Bd.md {p : Int} {n : Nat} (hp : 0 < p) (x : Int → Int) : Bd p n fun i => x i % p := fun i _ _ => ⟨Int.emod_nonneg _ (by omega), Int.emod_lt_of_pos _ hp⟩
theorem FG_all {ν α : Type} {P : ν → α → Prop} {f : ν → α → ν} : ∀ {xs : List α} {n : ν}, (∀ n x, x ∈ xs → P n x) → FG P f xs n
  | [], _, _ => trivial
  | x :: xs, n, h => ⟨h n x List.mem_cons_self, FG_all fun m y hy => h m y (List.mem_cons_of_mem _ hy)⟩
/-- what a table leads a row to -/
def led (p : Int) (n : Nat) (f : Int → Int → Int) (x : Int → Int) (u : Int) : Int := sm n (fun v => f u v * x v) % p
/-- the form of two members -/
def frm (p : Int) (n : Nat) (x z y w : Int → Int) : Int := sm n (fun i => x i * w i - z i * y i) % p
section
variable {p : Int} {n : Nat} {f : Int → Int → Int} {x y z w : Int → Int} {c : Int}
theorem cm {a b : Int} (h : 0 ≤ a ∧ a < p) (hp : p ≤ 100) : CMul a b := .inl ⟨by omega, by omega⟩
theorem dot_eq (hp : 0 < p) (hp2 : p ≤ 100) (hx : Bd p n x) : g_row_dot p (mp n x) (mp n y) ∧ m_row_dot p (mp n x) (mp n y) = sm n (fun i => x i * y i) % p := by
  unfold g_row_dot m_row_dot
  rw [mp_zip, mp_map]
  exact ⟨⟨mp_all fun i a b => cm (hx i a b) hp2, hp⟩, rfl⟩
theorem form_eq (hp : 0 < p) (hp2 : p ≤ 100) (hx : Bd p n x) (hz : Bd p n z) : g_form_of p (mp n x, mp n z) (mp n y, mp n w) ∧ m_form_of p (mp n x, mp n z) (mp n y, mp n w) = frm p n x z y w := by
  obtain ⟨a1, a2⟩ := dot_eq (y := w) hp hp2 hx
  obtain ⟨b1, b2⟩ := dot_eq (y := y) hp hp2 hz
  refine ⟨⟨a1, b1, hp⟩, ?_⟩
  show (m_row_dot p (mp n x) (mp n w) - m_row_dot p (mp n z) (mp n y)) % p = _
  rw [a2, b2]
  unfold frm
  rw [sm_sub]
  exact Cg.sub (Cg.md _) (Cg.md _)
theorem lform_eq (hp : 0 < p) (hp2 : p ≤ 100) (hx : Bd p n x) (hz : Bd p n z) : g__law_form p (mp n x, mp n z) (mp n y, mp n w) ∧ m__law_form p (mp n x, mp n z) (mp n y, mp n w) = frm p n x z y w := by
  have e : List.zip (List.zip (List.zip (mp n x) (mp n z)) (mp n y)) (mp n w) = mp n fun i => (((x i, z i), y i), w i) := by rw [mp_zip, mp_zip, mp_zip]
  constructor
  · refine ⟨⟨by rw [mp_len, mp_len], by rw [mp_len, mp_len], by rw [mp_len, mp_len]⟩, ?_, hp⟩
    show FG _ _ (List.zip (List.zip (List.zip (mp n x) (mp n z)) (mp n y)) (mp n w)) _
    rw [e]
    exact FG_all fun t q hq => mp_all (P := fun q => g__law_form_3 t q) (fun i a b => ⟨cm (hx i a b) hp2, cm (hz i a b) hp2, trivial⟩) q hq
  · show List.foldl (fun t q => m__law_form_3 t q) 0 (List.zip (List.zip (List.zip (mp n x) (mp n z)) (mp n y)) (mp n w)) % p = _
    rw [e]
    have key : ∀ (xs : List (((Int × Int) × Int) × Int)) (a : Int), xs.foldl (fun t q => m__law_form_3 t q) a = a + (xs.map fun q => q.1.1.1 * q.2 - q.1.1.2 * q.1.2).sum := fun xs => by
      induction xs with
      | nil => intro a; simp
      | cons q xs ih =>
        intro a
        rw [List.foldl_cons, ih, List.map_cons, List.sum_cons]
        show (a + q.1.1.1 * q.2) - q.1.1.2 * q.1.2 + _ = _
        omega
    rw [key, mp_map, Int.zero_add]
    rfl
theorem led_eq (hp : 0 < p) (hp2 : p ≤ 100) (G : Good p f) : g__law_led_row p (Tab n f) (mp n x) ∧ m__law_led_row p (Tab n f) (mp n x) = mp n (led p n f x) := by
  unfold g__law_led_row m__law_led_row
  rw [Tab_mp, mp_map]
  constructor
  · refine mp_all fun u a b => ⟨?_, hp⟩
    rw [mp_zip]
    exact mp_all fun v _ _ => cm ⟨G.lo u v, G.hi u v⟩ hp2
  · refine mp_congr fun u a b => ?_
    rw [mp_zip, mp_map]; rfl
theorem rsum_eq (hp : 0 < p) : g_row_sum p (mp n x) (mp n y) ∧ m_row_sum p (mp n x) (mp n y) = mp n fun i => (x i + y i) % p := by
  unfold g_row_sum m_row_sum
  rw [mp_zip, mp_map]
  exact ⟨fun _ _ => hp, rfl⟩
theorem rtimes_eq (hp : 0 < p) (hp2 : p ≤ 100) (hc : 0 ≤ c ∧ c < p) : g_row_times p c (mp n x) ∧ m_row_times p c (mp n x) = mp n fun i => (c * x i) % p := by
  unfold g_row_times m_row_times
  rw [mp_map]
  exact ⟨fun _ _ => ⟨cm hc hp2, hp⟩, rfl⟩
theorem room_eq (G : Good p f) (hn : n ≤ 1000) : g_room_rows (webF p n f) ∧ m_room_rows (webF p n f) = mp n fun v => (mp n fun u => if u = v then 1 else 0, mp n (f v)) := by
  obtain ⟨a1, a2⟩ := table_of_eq (n := n) G hn
  constructor
  · exact ⟨a1, fun _ _ => ⟨by show -(2 ^ 62) ≤ (n : Int); omega, by show (n : Int) ≤ _; omega⟩⟩
  · unfold m_room_rows
    rw [a2, Tab_mp, mp_enum, mp_map]
    refine mp_congr fun v _ _ => ?_
    have e : Int.toNat (webF p n f).b = n := by show Int.toNat (n : Int) = n; omega
    rw [e]
    congr 1
    refine mp_congr fun u _ _ => ?_
    by_cases h : u = v
    · rw [if_pos (decide_eq_true h), if_pos h]
    · rw [if_neg (fun z => h (of_decide_eq_true z)), if_neg h]
theorem all_id {xs : List Bool} : List.all xs id = true ↔ ∀ b ∈ xs, b = true := by rw [List.all_eq_true]; rfl
theorem inroom_eq (hp : 0 < p) (hp2 : p ≤ 100) (G : Good p f) (hn : n ≤ 1000) : g_is_in_room (webF p n f) (mp n x, mp n z) ∧ m_is_in_room (webF p n f) (mp n x, mp n z) = decide (mp n (led p n f x) = mp n z) := by
  obtain ⟨a1, a2⟩ := table_of_eq (n := n) G hn
  have hd : ∀ u, g_row_dot p (mp n (f u)) (mp n x) ∧ m_row_dot p (mp n (f u)) (mp n x) = led p n f x u := fun u => dot_eq hp hp2 fun v _ _ => ⟨G.lo u v, G.hi u v⟩
  constructor
  · refine ⟨a1, ?_⟩
    rw [a2, Tab_mp]
    show ∀ q ∈ List.zip (mp n fun u => mp n fun v => f u v) (mp n z), g_row_dot p q.1 (mp n x)
    rw [mp_zip]
    exact mp_all fun u _ _ => (hd u).1
  · unfold m_is_in_room
    rw [a2, Tab_mp]
    show List.all (List.map (fun q => decide (m_row_dot p q.1 (mp n x) = q.2)) (List.zip (mp n fun u => mp n fun v => f u v) (mp n z))) id = _
    rw [mp_zip, mp_map, Bool.eq_iff_iff, all_id, decide_eq_true_iff, mp_eq]
    constructor
    · intro h i i0 i1
      have := h _ (List.mem_map.mpr ⟨i, mem_rngI.mpr ⟨i0, by omega⟩, rfl⟩)
      rw [← (hd i).2]
      exact of_decide_eq_true this
    · intro h
      exact mp_all fun i i0 i1 => decide_eq_true ((hd i).2.trans (h i i0 i1))
end
theorem mapS_len {α β : Type} (f : Src → α → β × Src) : ∀ (xs : List α) (S : Src), (mapS f S xs).1.length = xs.length
  | [], _ => rfl
  | x :: xs, S => by show (mapS f (f S x).2 xs).1.length + 1 = _; rw [mapS_len f xs]; rfl
theorem lrow_eq {p : Int} (n : Nat) (hp : 1 ≤ p) (hp2 : p ≤ 100) (hn : n ≤ 1000) (S : Src) : g__law_row p n S ∧ ∃ x S', Bd p n x ∧ m__law_row p n S = (mp n x, S') := by
  obtain ⟨a1, a2⟩ := mapS_all (f := fun (T : Src) (q : Int) => ((m__law_pick p T).1, (m__law_pick p T).2)) (G := fun (T : Src) (q : Int) => g__law_pick p T) (fun y => 0 ≤ y ∧ y < p) (rngI 0 (Int.toNat (n : Int))) S
    (fun T x _ => ⟨by show p < 1073741824; omega, pickB_bd T hp⟩)
  have hl : (mapS (fun (T : Src) (q : Int) => ((m__law_pick p T).1, (m__law_pick p T).2)) S (rngI 0 (Int.toNat (n : Int)))).1.length = n := by rw [mapS_len, rngI_length]; omega
  refine ⟨⟨⟨by omega, by omega⟩, a1⟩, fun i => getI (mapS (fun (T : Src) (q : Int) => ((m__law_pick p T).1, (m__law_pick p T).2)) S (rngI 0 (Int.toNat (n : Int)))).1 i, _, fun i i0 i1 => ?_, Prod.ext ?_ rfl⟩
  · obtain ⟨j, rfl⟩ := Int.eq_ofNat_of_zero_le i0
    have hj : j < (mapS (fun (T : Src) (q : Int) => ((m__law_pick p T).1, (m__law_pick p T).2)) S (rngI 0 (Int.toNat (n : Int)))).1.length := by omega
    have e := getI_nat (List.getElem?_eq_getElem hj)
    have b := a2 _ (List.getElem_mem hj)
    rw [← e] at b
    exact b
  · have := row_mp (mapS (fun (T : Src) (q : Int) => ((m__law_pick p T).1, (m__law_pick p T).2)) S (rngI 0 (Int.toNat (n : Int)))).1
    rw [hl] at this
    exact this
end L2.Ev

set_option Elab.async false
set_option linter.all false
set_option maxRecDepth 100000
/-! Xm6: rooms: sums of members, the form, what has 0 with a room (k13). -/
namespace L2.Ev
open PySem PySem.Spec PyProof.Rows
section
variable {p : Int} {n : Nat} {f : Int → Int → Int} {x y z : Int → Int} {c : Int}
theorem led_both : led p n f (fun i => (x i + (c * y i) % p) % p) = fun u => (led p n f x u + (c * led p n f y u) % p) % p := by
  funext u
  unfold led
  show _ % p = _ % p
  have h1 : Cg p (sm n fun v => f u v * ((x v + (c * y v) % p) % p)) (sm n fun v => f u v * (x v + c * y v)) :=
    sm_cg fun v _ _ => Cg.rfl'.mul ((Cg.md _).trans (Cg.rfl'.add (Cg.md _)))
  have h2 : sm n (fun v => f u v * (x v + c * y v)) = sm n (fun v => f u v * x v) + c * sm n (fun v => f u v * y v) := by
    rw [← sm_mul, ← sm_add]
    exact sm_congr fun v _ _ => by grind
  have h3 : Cg p (sm n (fun v => f u v * x v) + c * sm n (fun v => f u v * y v)) (sm n (fun v => f u v * x v) % p + (c * (sm n (fun v => f u v * y v) % p)) % p) :=
    (Cg.md _).sym.add ((Cg.md _).trans (Cg.rfl'.mul (Cg.md _))).sym
  exact (h1.trans (Cg.of_eq h2)).trans h3
theorem frm_led (G : Good p f) : frm p n x (led p n f x) y (led p n f y) = 0 := by
  have h : Cg p (sm n fun i => x i * led p n f y i - led p n f x i * y i) (sm n fun i => x i * sm n (fun v => f i v * y v) - sm n (fun v => f i v * x v) * y i) :=
    sm_cg fun i _ _ => (Cg.rfl'.mul (Cg.md _)).sub ((Cg.md _).mul .rfl')
  have h2 : sm n (fun i => x i * sm n (fun v => f i v * y v) - sm n (fun v => f i v * x v) * y i) = 0 := by
    rw [sm_sub]
    have e1 : sm n (fun i => x i * sm n (fun v => f i v * y v)) = sm n fun i => sm n fun v => x i * f i v * y v := sm_congr fun i _ _ => by
      rw [← sm_mul]; exact sm_congr fun v _ _ => by grind
    have e2 : sm n (fun i => sm n (fun v => f i v * x v) * y i) = sm n fun i => sm n fun v => x v * f v i * y i := sm_congr fun i _ _ => by
      rw [← sm_mulr]; exact sm_congr fun v _ _ => by rw [G.sym i v]; grind
    rw [e1, e2, sm_swap (fun i v => x v * f v i * y i)]
    omega
  unfold frm
  have : Cg p (sm n fun i => x i * led p n f y i - led p n f x i * y i) 0 := h.trans (Cg.of_eq h2)
  rw [show _ % p = 0 % p from this]; exact Int.zero_emod p
/-- the form with a room row -/
theorem frm_row {v : Int} (v0 : 0 ≤ v) (v1 : v < n) : frm p n (fun u => if u = v then 1 else 0) (f v) x z = (z v - led p n f x v) % p := by
  unfold frm
  rw [sm_sub]
  have e : sm n (fun i => (if i = v then 1 else 0) * z i) = z v := sm_delta v0 v1
  rw [e]
  exact Cg.sub .rfl' (Cg.md _).sym
theorem frm_row0 (hp : 0 < p) (hz : Bd p n z) {v : Int} (v0 : 0 ≤ v) (v1 : v < n) : frm p n (fun u => if u = v then 1 else 0) (f v) x z = 0 ↔ led p n f x v = z v := by
  rw [frm_row v0 v1]
  have hz := hz v v0 v1
  have h1 := Int.emod_nonneg (sm n fun w => f v w * x w) (show p ≠ 0 by omega)
  have h2 := Int.emod_lt_of_pos (sm n fun w => f v w * x w) hp
  have e : led p n f x v = sm n (fun w => f v w * x w) % p := rfl
  rw [← e] at h1 h2
  constructor
  · intro h
    have : Cg p (z v) (led p n f x v) := by
      have q : Cg p (z v - led p n f x v + led p n f x v) (0 + led p n f x v) := Cg.add (show _ % p = 0 % p by rw [h, Int.zero_emod]) .rfl'
      rwa [Int.zero_add, Int.sub_add_cancel] at q
    have q : z v % p = led p n f x v % p := this
    rw [small_mod hz.1 hz.2, small_mod h1 h2] at q
    exact q.symm
  · intro h
    rw [h, Int.sub_self, Int.zero_emod]
/-- what has 0 with all room rows -/
theorem noughts (F : (List Int × List Int) → Int) (hp : 0 < p) (hz : Bd p n z) (told : List (List Int × List Int)) (ht : told = mp n fun v => (mp n fun u => if u = v then 1 else 0, mp n (f v)))
    (hF : ∀ v : Int, 0 ≤ v → v < n → F (mp n fun u => if u = v then 1 else 0, mp n (f v)) = frm p n (fun u => if u = v then 1 else 0) (f v) x z) :
    decide (List.map (fun q => q) (List.filter (fun q => decide (F q ≠ 0)) told) = ([] : List (List Int × List Int))) = decide (mp n (led p n f x) = mp n z) := by
  subst ht
  rw [Bool.eq_iff_iff, decide_eq_true_iff, decide_eq_true_iff, List.map_eq_nil_iff, List.filter_eq_nil_iff, mp_eq]
  constructor
  · intro h v v0 v1
    have q := h _ (List.mem_map.mpr ⟨v, mem_rngI.mpr ⟨v0, by omega⟩, rfl⟩)
    rw [decide_eq_true_iff, Classical.not_not, hF v v0 v1] at q
    exact (frm_row0 hp hz v0 v1).mp q
  · intro h
    refine mp_all fun v v0 v1 => ?_
    rw [decide_eq_true_iff, Classical.not_not, hF v v0 v1]
    exact (frm_row0 hp hz v0 v1).mpr (h v v0 v1)
theorem led_Bd (hp : 0 < p) : Bd p n (led p n f x) := Bd.md hp _
end
/-! ### all rows -/
def allR (p : Int) : Nat → List (List Int)
  | 0 => [[]]
  | n + 1 => (allR p n).flatMap fun r => (rngI 0 p.toNat).map fun x => r ++ [x]
theorem allR_mem {p : Int} : ∀ {n : Nat} {r : List Int}, r ∈ allR p n ↔ r.length = n ∧ ∀ x ∈ r, 0 ≤ x ∧ x < p
  | 0, r => by
    show r ∈ [[]] ↔ _
    rw [List.mem_singleton]
    constructor
    · rintro rfl; exact ⟨rfl, fun _ h => nomatch h⟩
    · rintro ⟨h, _⟩; exact List.eq_nil_of_length_eq_zero h
  | n + 1, r => by
    show r ∈ (allR p n).flatMap _ ↔ _
    rw [List.mem_flatMap]
    constructor
    · rintro ⟨s, hs, h⟩
      obtain ⟨x, hx, rfl⟩ := List.mem_map.mp h
      obtain ⟨h1, h2⟩ := allR_mem.mp hs
      rw [mem_rngI] at hx
      refine ⟨by rw [List.length_append, h1]; rfl, fun y hy => ?_⟩
      rcases List.mem_append.mp hy with hy | hy
      · exact h2 y hy
      · obtain rfl := List.mem_singleton.mp hy
        omega
    · rintro ⟨h1, h2⟩
      have hne : r ≠ [] := fun z => by subst z; cases h1
      refine ⟨r.dropLast, allR_mem.mpr ⟨by rw [List.length_dropLast, h1]; rfl, fun x hx => h2 x (List.dropLast_subset r hx)⟩, List.mem_map.mpr ⟨r.getLast hne, ?_, List.dropLast_concat_getLast hne⟩⟩
      have := h2 _ (List.getLast_mem hne)
      rw [mem_rngI]; omega
theorem rngI_nodup (lo : Int) (n : Nat) : (rngI lo n).Nodup := by
  unfold rngI
  refine List.Pairwise.map _ (fun a b (h : a ≠ b) => ?_) List.nodup_range
  omega
theorem allR_nodup {p : Int} : ∀ n, (allR p n).Nodup
  | 0 => by show ([[]] : List (List Int)).Nodup; simp
  | n + 1 => by
    show ((allR p n).flatMap _).Nodup
    rw [List.nodup_iff_pairwise_ne, List.pairwise_flatMap]
    constructor
    · intro r _
      refine List.Pairwise.map _ (fun a b (h : a ≠ b) => ?_) (rngI_nodup 0 p.toNat)
      intro e
      have := (List.append_inj' e rfl).2
      exact h (List.cons.inj this).1
    · refine List.Pairwise.imp ?_ (List.nodup_iff_pairwise_ne.mp (allR_nodup n))
      intro a b hab s hs t ht e
      obtain ⟨x, _, rfl⟩ := List.mem_map.mp hs
      obtain ⟨y, _, rfl⟩ := List.mem_map.mp ht
      exact hab (List.append_inj' e rfl).1
theorem allR_len {p : Int} : ∀ n, (allR p n).length = p.toNat ^ n
  | 0 => rfl
  | n + 1 => by
    show ((allR p n).flatMap _).length = _
    rw [List.length_flatMap]
    have : ∀ xs : List (List Int), (xs.map fun r => ((rngI 0 p.toNat).map fun x => r ++ [x]).length).sum = xs.length * p.toNat := fun xs => by
      induction xs with
      | nil => simp
      | cons r xs ih => rw [List.map_cons, List.sum_cons, ih, List.length_map, rngI_length, List.length_cons, Nat.succ_mul]; omega
    rw [this, allR_len n, Nat.pow_succ]
theorem lall_eq {p : Int} (hp : 0 < p) (hp2 : p ≤ 100) (n : Nat) (hb : p.toNat ^ n ≤ 1000) (hn : n ≤ 100) : g__law_all p n ∧ m__law_all p n = allR p n := by
  have hpow : ∀ k : Nat, k ≤ n → p.toNat ^ k ≤ 1000 := fun k hk => Nat.le_trans (Nat.pow_le_pow_right (by omega) hk) hb
  have hstep : ∀ (r : List Int) (late : List (List Int)), m__law_all_4 p late r = late ++ (rngI 0 p.toNat).map fun x => r ++ [x] := fun _ _ => rfl
  have inner : ∀ (xs late : List (List Int)), xs.foldl (fun l q => m__law_all_4 p l q) late = late ++ xs.flatMap fun r => (rngI 0 p.toNat).map fun x => r ++ [x] := fun xs => by
    induction xs with
    | nil => intro late; simp
    | cons r xs ih => intro late; rw [List.foldl_cons, hstep, ih, List.flatMap_cons, List.append_assoc]
  have innerG : ∀ (xs late : List (List Int)), (∀ r ∈ xs, r.length ≤ 100) → late.length + xs.length * p.toNat ≤ 200000 → FG (fun l q => g__law_all_4 p l q) (fun l q => m__law_all_4 p l q) xs late := fun xs => by
    induction xs with
    | nil => intro late _ _; trivial
    | cons r xs ih =>
      intro late hr hl
      rw [List.length_cons, Nat.succ_mul] at hl
      have hr0 := hr r List.mem_cons_self
      refine ⟨⟨⟨by omega, by omega⟩, fun q _ => ?_, ?_, trivial⟩, ?_⟩
      · show (r.length : Int) + 1 ≤ _; omega
      · rw [List.length_map, rngI_length]; omega
      · show FG _ _ xs (m__law_all_4 p late r)
        rw [hstep]
        exact ih _ (fun s m => hr s (List.mem_cons_of_mem _ m)) (by rw [List.length_append, List.length_map, rngI_length]; omega)
  obtain ⟨k1, k2⟩ := fold_rng (P := fun l q => g__law_all_8 p l q) (f := fun l q => m__law_all_8 p l q) (lo := 0) (fun i l => l = allR p i.toNat) n (n0 := [[]]) rfl (fun i l h0 h1 hI => by
    subst hI
    have hl := allR_len (p := p) i.toNat
    have hb1 := hpow i.toNat (by omega)
    have hb2 : p.toNat ^ i.toNat * p.toNat ≤ 1000 * 100 := Nat.mul_le_mul hb1 (by omega)
    refine ⟨⟨innerG _ _ (fun r hr => by have := (allR_mem.mp hr).1; omega) (by rw [hl]; show 0 + _ ≤ _; omega), trivial⟩, ?_⟩
    show List.foldl (fun l q => m__law_all_4 p l q) [] (allR p i.toNat) = _
    rw [inner, List.nil_append, show (i + 1).toNat = i.toNat + 1 by omega]; rfl)
  have e : Int.toNat (n : Int) = n := by omega
  constructor
  · refine ⟨⟨by omega, by omega⟩, ?_, trivial⟩
    rw [e]; exact k1
  · show List.foldl (fun l q => m__law_all_8 p l q) [[]] (rngI 0 (Int.toNat (n : Int))) = _
    rw [e]
    rw [show (0 : Int) + (n : Int) = n by omega, e] at k2
    exact k2
theorem allR_row {p : Int} {n : Nat} {r : List Int} (h : r ∈ allR p n) : ∃ x, Bd p n x ∧ r = mp n x := by
  obtain ⟨h1, h2⟩ := allR_mem.mp h
  have e := row_mp r
  rw [h1] at e
  refine ⟨_, fun i i0 i1 => ?_, e⟩
  obtain ⟨j, rfl⟩ := Int.eq_ofNat_of_zero_le i0
  have hj : j < r.length := by omega
  have q := h2 _ (List.getElem_mem hj)
  rw [← getI_nat (List.getElem?_eq_getElem hj)] at q
  exact q
theorem row_allR {p : Int} {n : Nat} {x : Int → Int} (h : Bd p n x) : mp n x ∈ allR p n := allR_mem.mpr ⟨mp_len x, mp_all fun i i0 i1 => h i i0 i1⟩
/-- exactly one of all rows is a row -/
theorem one_row {p : Int} {n : Nat} {t : List Int} (h : t ∈ allR p n) : ((allR p n).map fun z => if decide (t = z) = true then (1 : Int) else 0).sum = 1 := by
  have key : ∀ xs : List (List Int), xs.Nodup → (xs.map fun z => if decide (t = z) = true then (1 : Int) else 0).sum = if t ∈ xs then 1 else 0 := fun xs => by
    induction xs with
    | nil => intro _; simp
    | cons z xs ih =>
      intro hn
      rw [List.nodup_cons] at hn
      rw [List.map_cons, List.sum_cons, ih hn.2]
      by_cases e : t = z
      · subst e
        rw [if_pos (decide_eq_true rfl), if_neg hn.1, if_pos List.mem_cons_self]; rfl
      · rw [if_neg (fun q => e (of_decide_eq_true q)), Int.zero_add]
        by_cases m : t ∈ xs
        · rw [if_pos m, if_pos (List.mem_cons_of_mem _ m)]
        · rw [if_neg m, if_neg (fun q => (List.mem_cons.mp q).elim e m)]
  rw [key _ (allR_nodup n), if_pos h]
end L2.Ev

set_option Elab.async false
set_option linter.all false
set_option maxRecDepth 100000
/-! Xm7: what repr needs: how long the texts of data are. -/
namespace L2.Ev
open PySem PySem.Spec PyProof.Rows PySem.W
/-- data without dict, of depth at most k, whose text has at most w signs -/
def Sh (d : PyData) (w k : Nat) : Prop := d.showable = true ∧ d.hasDict = false ∧ d.depth ≤ k ∧ d.shown.length ≤ w
theorem Sh.ok {d : PyData} {w k : Nat} (h : Sh d w k) (hw : w ≤ 16777216 := by decide) (hk : k ≤ 60 := by decide) : RpOk d :=
  ⟨h.1, h.2.1, Nat.le_trans h.2.2.1 hk, Nat.le_trans h.2.2.2 (by show w ≤ 2 ^ 24; omega)⟩
theorem Sh.mono {d : PyData} {w k w' k' : Nat} (h : Sh d w k) (hw : w ≤ w') (hk : k ≤ k') : Sh d w' k' :=
  ⟨h.1, h.2.1, Nat.le_trans h.2.2.1 hk, Nat.le_trans h.2.2.2 hw⟩
theorem ints_short : ∀ i ∈ rngI 0 100, (toString i : Str).length ≤ 8 ∧ i.natAbs.log2 < 1920 := by decide +kernel
theorem mem_0_100 {i : Int} (h : 0 ≤ i ∧ i < 100) : i ∈ rngI 0 100 := by rw [mem_rngI]; exact h
theorem Sh_int {i : Int} (h : 0 ≤ i ∧ i < 100) : Sh (enc i) 8 0 := by
  have h2 := ints_short i (mem_0_100 h)
  refine ⟨?_, rfl, Nat.le_refl _, h2.1⟩
  show decide _ = true
  exact decide_eq_true h2.2
theorem Sh_str {x : Str} (h : (reprText x).length ≤ 20) : Sh (enc x) 20 0 := ⟨rfl, rfl, Nat.le_refl _, h⟩
theorem tupleText_len (ts : List Str) : (tupleText ts).length ≤ piled ts + 4 := by
  unfold tupleText
  cases ts with
  | nil => decide
  | cons x r =>
    have := join_length_add (x :: r) (by simp)
    rw [Str.length_append, Str.length_append]
    have h1 : (("(" : Str)).length = 1 := by decide
    have h2 : ((if (x :: r).length == 1 then ",)" else ")" : String) : Str).length ≤ 2 := by split <;> decide
    omega
theorem listText_len : ∀ ts : List Str, (listText ts).length ≤ piled ts + 4
  | [] => by decide
  | t :: r => by
    have h := textFrom_length_pos r 1 (("[" : Str) ++ (if (0 : Nat) > 0 then ", " else "" : String) ++ t) (Nat.succ_pos 0)
    have e : ((("[" : Str) ++ (if (0 : Nat) > 0 then ", " else "" : String) ++ t)).length = 1 + t.length := by
      rw [Str.length_append, Str.length_append]
      have a1 : (("[" : Str)).length = 1 := by decide
      have a2 : ((if (0 : Nat) > 0 then ", " else "" : String) : Str).length = 0 := by decide
      omega
    have hX : (listText (t :: r)).length = (textFrom 0 "[" (t :: r)).length + 1 := Str.length_append _ _
    have hY : (textFrom 0 "[" (t :: r)).length = (textFrom 1 (("[" : Str) ++ (if (0 : Nat) > 0 then ", " else "" : String) ++ t) r).length := rfl
    rw [hX, hY, h, e, piled_cons]; omega
theorem ShAll {xs : List PyData} {w k : Nat} : (∀ x ∈ xs, Sh x w k) → PyData.showableAll xs = true ∧ PyData.hasDictAll xs = false ∧ PyData.depthAll xs ≤ k ∧ piled (PyData.shownAll xs) ≤ xs.length * (w + 2) := by
  induction xs with
  | nil => intro _; exact ⟨rfl, rfl, Nat.zero_le _, Nat.zero_le _⟩
  | cons x r ih =>
    intro h
    obtain ⟨a, b, c, d⟩ := h x (List.mem_cons_self ..)
    obtain ⟨a', b', c', d'⟩ := ih fun y hy => h y (List.mem_cons_of_mem _ hy)
    refine ⟨?_, ?_, ?_, ?_⟩
    · simp only [PyData.showableAll, a, a', Bool.and_self]
    · simp only [PyData.hasDictAll, b, b', Bool.or_self]
    · simp only [PyData.depthAll]; omega
    · simp only [PyData.shownAll, piled_cons, List.length_cons, Nat.add_mul, Nat.one_mul]; omega
theorem Sh_tup {xs : List PyData} {w k m W K : Nat} (h : ∀ x ∈ xs, Sh x w k) (hm : xs.length ≤ m) (hW : m * (w + 2) + 4 ≤ W) (hK : k + 1 ≤ K) : Sh (.tuple xs) W K := by
  obtain ⟨a, b, c, d⟩ := ShAll h
  have e := tupleText_len (PyData.shownAll xs)
  have e2 : xs.length * (w + 2) ≤ m * (w + 2) := Nat.mul_le_mul_right _ hm
  refine ⟨by simp only [PyData.showable]; exact a, by simp only [PyData.hasDict]; exact b, by simp only [PyData.depth]; omega, by simp only [PyData.shown]; omega⟩
theorem Sh_lst {xs : List PyData} {w k m W K : Nat} (h : ∀ x ∈ xs, Sh x w k) (hm : xs.length ≤ m) (hW : m * (w + 2) + 4 ≤ W) (hK : k + 1 ≤ K) : Sh (.list xs) W K := by
  obtain ⟨a, b, c, d⟩ := ShAll h
  have e := listText_len (PyData.shownAll xs)
  have e2 : xs.length * (w + 2) ≤ m * (w + 2) := Nat.mul_le_mul_right _ hm
  refine ⟨by simp only [PyData.showable]; exact a, by simp only [PyData.hasDict]; exact b, by simp only [PyData.depth]; omega, by simp only [PyData.shown]; omega⟩
theorem mem_encs {α : Type} [Enc α] {xs : List α} {P : PyData → Prop} (h : ∀ x ∈ xs, P (enc x)) : ∀ d ∈ encs xs, P d := by
  intro d hd
  obtain ⟨x, hx, rfl⟩ := List.mem_map.mp hd
  exact h x hx
theorem len_encs {α : Type} [Enc α] (xs : List α) : (encs xs).length = xs.length := List.length_map ..
theorem all1 {P : PyData → Prop} {a : PyData} (h : P a) : ∀ x ∈ [a], P x := by
  intro x m; rw [List.mem_singleton] at m; subst m; exact h
theorem all2 {P : PyData → Prop} {a b : PyData} (h : P a) (g : P b) : ∀ x ∈ [a, b], P x := by
  intro x m
  rcases List.mem_cons.mp m with rfl | m
  · exact h
  · exact all1 g x m
theorem all3 {P : PyData → Prop} {a b c : PyData} (h : P a) (g : P b) (k : P c) : ∀ x ∈ [a, b, c], P x := by
  intro x m
  rcases List.mem_cons.mp m with rfl | m
  · exact h
  · exact all2 g k x m
theorem rneq {a b : PyData} (h : a = b) : ¬ decide (rp a ≠ rp b) = true := by subst h; intro q; exact of_decide_eq_true q rfl
theorem Sh_bool (b : Bool) : Sh (enc b) 8 0 := by cases b <;> exact ⟨rfl, rfl, Nat.le_refl _, by decide +kernel⟩
theorem Sh_row {p : Int} {n : Nat} {x : Int → Int} (hp : p ≤ 100) (hn : n ≤ 10) (h : Bd p n x) : Sh (enc (mp n x)) 104 1 :=
  Sh_tup (m := 10) (mem_encs (mp_all fun i a b => Sh_int (by have := h i a b; omega))) (by rw [len_encs, mp_len]; exact hn) (by decide) (by decide)
theorem Sh_mem {p : Int} {n : Nat} {x z : Int → Int} (hp : p ≤ 100) (hn : n ≤ 10) (h : Bd p n x) (g : Bd p n z) : Sh (enc (mp n x, mp n z)) 216 2 :=
  Sh_tup (m := 2) (all2 (Sh_row hp hn h) (Sh_row hp hn g)) (Nat.le_refl 2) (by decide) (by decide)
end L2.Ev

set_option Elab.async false
set_option linter.all false
set_option maxRecDepth 100000
/-! Xm8: rooms by all rows (k13). -/
namespace L2.Ev
open PySem PySem.Spec PyProof.Rows
theorem foldX_ok {ν α ρ : Type} {f : ν → α → Except ρ ν} {x : α} {xs : List α} {n n' : ν} (h : f n x = .ok n') : foldX f (x :: xs) n = foldX f xs n' := by
  show (match f n x with
    | .ok n' => foldX f xs n'
    | .error r => .error r) = _
  rw [h]
theorem foldX_sum {α ρ : Type} {P : Int → α → Prop} {f : Int → α → Except ρ Int} (c : α → Int) : ∀ (xs : List α) (n0 : Int), (∀ x ∈ xs, ∀ n, P n x ∧ f n x = .ok (n + c x)) → FX P f xs n0 ∧ foldX f xs n0 = .ok (n0 + (xs.map c).sum)
  | [], n0, _ => ⟨trivial, by simp [foldX]⟩
  | x :: xs, n0, h => by
    obtain ⟨h1, h2⟩ := h x List.mem_cons_self n0
    obtain ⟨h3, h4⟩ := foldX_sum c xs (n0 + c x) (fun y m => h y (List.mem_cons_of_mem _ m))
    refine ⟨⟨h1, by rw [h2]; exact h3⟩, ?_⟩
    rw [foldX_ok h2, h4, List.map_cons, List.sum_cons, Int.add_assoc]
section
variable {p : Int} {n : Nat} {f : Int → Int → Int} {x y z : Int → Int} {c : Int}
@[reducible] def roomR (n : Nat) (f : Int → Int → Int) : List (List Int × List Int) := mp n fun v => (mp n fun u => if u = v then 1 else 0, mp n (f v))
theorem unit_Bd (hp : 2 ≤ p) (v : Int) : Bd p n fun u => if u = v then 1 else 0 := fun i _ _ => by
  show 0 ≤ (if i = v then (1 : Int) else 0) ∧ (if i = v then (1 : Int) else 0) < p
  split <;> omega
theorem rows_Bd (G : Good p f) (v : Int) : Bd p n (f v) := fun i _ _ => ⟨G.lo v i, G.hi v i⟩
theorem every_right (hp : 2 ≤ p) (hp2 : p ≤ 100) (G : Good p f) (hn : n ≤ 100) (hb : p.toNat ^ n ≤ 1000) (S : Src) :
    g_law_22 p n (webF p n f) (roomR n f) S ∧ m_law_22 p n (webF p n f) (roomR n f) S = .ok () := by
  have pos : 0 < p := by omega
  obtain ⟨A1, A2⟩ := lall_eq pos hp2 n hb hn
  have step : ∀ x ∈ allR p n, ∀ k : Int, ∀ z ∈ allR p n, g_law_15 p (webF p n f) (roomR n f) S x k z ∧ m_law_15 p (webF p n f) (roomR n f) S x k z = .ok (k + if decide (mp n (led p n f fun i => getI x i) = z) = true then 1 else 0) := fun x hx k z hz => by
    obtain ⟨x', bx, rfl⟩ := allR_row hx
    obtain ⟨z', bz, rfl⟩ := allR_row hz
    have hF : ∀ v : Int, g__law_form p (mp n fun u => if u = v then 1 else 0, mp n (f v)) (mp n x', mp n z') ∧ m__law_form p (mp n fun u => if u = v then 1 else 0, mp n (f v)) (mp n x', mp n z') = frm p n (fun u => if u = v then 1 else 0) (f v) x' z' :=
      fun v => lform_eq pos hp2 (unit_Bd hp v) (rows_Bd G v)
    obtain ⟨I1, I2⟩ := inroom_eq (x := x') (z := z') pos hp2 G (by omega : n ≤ 1000)
    have hl : mp n (led p n f fun i => getI (mp n x') i) = mp n (led p n f x') := mp_congr fun u _ _ => by
      unfold led
      rw [sm_congr (G := fun v => f u v * x' v)]
      intro v v0 v1
      show f u v * getI (mp n x') v = f u v * x' v
      rw [getI_map_rng v0 v1]
    rw [hl]
    have N := noughts (fun q => m__law_form p q (mp n x', mp n z')) pos bz (roomR n f) rfl (fun v _ _ => (hF v).2)
    constructor
    · refine ⟨mp_all fun v _ _ => (hF v).1, ⟨fun _ => I1, fun _ => trivial, fun _ => trivial⟩⟩
    · show m_law_14 (webF p n f) S (mp n x') k (mp n z') (decide (List.map (fun q => q) (List.filter (fun q => decide (m__law_form p q (mp n x', mp n z') ≠ 0)) (roomR n f)) = ([] : List (List Int × List Int)))) = _
      rw [N]
      show m_law_13 (webF p n f) S (mp n x') (mp n z') _ _ = _
      unfold m_law_13
      rw [I2]
      by_cases e : mp n (led p n f x') = mp n z'
      · rw [decide_eq_true e]; rfl
      · rw [decide_eq_false e]; rfl
  have outer : ∀ x ∈ allR p n, ∀ k : Int, g_law_17 p (webF p n f) (roomR n f) S (allR p n, 0) k x ∧ m_law_17 p (webF p n f) (roomR n f) S (allR p n, 0) k x = .ok (k + 1) := fun x hx k => by
    obtain ⟨k1, k2⟩ := foldX_sum (P := fun k z => g_law_15 p (webF p n f) (roomR n f) S x k z) (f := fun k z => m_law_15 p (webF p n f) (roomR n f) S x k z) (fun z => if decide (mp n (led p n f fun i => getI x i) = z) = true then 1 else 0) (allR p n) k (fun z hz k => step x hx k z hz)
    rw [one_row (row_allR (led_Bd pos))] at k2
    constructor
    · exact ⟨k1, by rw [show foldX _ _ _ = _ from k2]; trivial⟩
    · show bindXX (foldX _ (allR p n) k) _ = _
      rw [k2]; rfl
  obtain ⟨k1, k2⟩ := foldX_sum (P := fun k x => g_law_17 p (webF p n f) (roomR n f) S (allR p n, 0) k x) (f := fun k x => m_law_17 p (webF p n f) (roomR n f) S (allR p n, 0) k x) (fun _ => 1) (allR p n) 0 (fun x hx k => outer x hx k)
  have hl : ((allR p n).map fun _ => (1 : Int)).sum = (allR p n).length := by
    induction (allR p n) with
    | nil => rfl
    | cons a as ih => rw [List.map_cons, List.sum_cons, ih, List.length_cons]; omega
  rw [hl, Int.zero_add] at k2
  have e20 : m_law_20 S (allR p n, 0) ((allR p n).length : Int) = .ok () := by
    unfold m_law_20
    rw [if_neg (by simp)]; rfl
  constructor
  · refine ⟨A1, ?_⟩
    rw [A2]
    exact ⟨k1, by rw [show foldX _ _ _ = _ from k2]; exact ⟨fun _ => trivial, fun _ => trivial⟩⟩
  · show m_law_21 p (webF p n f) (roomR n f) S (m__law_all p n, 0) = _
    rw [A2]
    show bindXX (foldX _ (allR p n) 0) _ = _
    rw [k2]; exact e20
end
end L2.Ev

set_option Elab.async false
set_option linter.all false
set_option maxRecDepth 100000
/-! Xm9: small tables, changes (k13). -/
namespace L2.Ev
open PySem PySem.Spec PyProof.Rows
abbrev Tb := (Int × Int) × (Int × Int)
@[reducible] def rowPair (t : Tb) : List Int × List Int := ([t.1.1, t.1.2], [t.2.1, t.2.2])
@[reducible] def lstPair (t : Tb) : List (List Int) := [[t.1.1, t.1.2], [t.2.1, t.2.2]]
structure BdT (p : Int) (t : Tb) : Prop where
  a : 0 ≤ t.1.1 ∧ t.1.1 < p
  b : 0 ≤ t.1.2 ∧ t.1.2 < p
  c : 0 ≤ t.2.1 ∧ t.2.1 < p
  d : 0 ≤ t.2.2 ∧ t.2.2 < p
def abt (p : Int) (t : Tb) : Tb := ((t.2.2, (-t.1.2) % p), ((-t.2.1) % p, t.1.1))
def tm (p : Int) (s t : Tb) : Tb := (((s.1.1 * t.1.1 + s.1.2 * t.2.1) % p, (s.1.1 * t.1.2 + s.1.2 * t.2.2) % p), ((s.2.1 * t.1.1 + s.2.2 * t.2.1) % p, (s.2.1 * t.1.2 + s.2.2 * t.2.2) % p))
def tdet (p : Int) (t : Tb) : Int := (t.1.1 * t.2.2 - t.1.2 * t.2.1) % p
def ch1 (p : Int) (T : Int → Tb) (x z : Int → Int) (i : Int) : Int := ((T i).1.1 * x i + (T i).1.2 * z i) % p
def ch2 (p : Int) (T : Int → Tb) (x z : Int → Int) (i : Int) : Int := ((T i).2.1 * x i + (T i).2.2 * z i) % p
section
variable {p : Int} {n : Nat} {A B : Int → Tb} {s t : Tb} {x z y w : Int → Int}
theorem mdb (hp : 0 < p) (a : Int) : 0 ≤ a % p ∧ a % p < p := ⟨Int.emod_nonneg _ (by omega), Int.emod_lt_of_pos _ hp⟩
theorem abt_Bd (hp : 0 < p) (h : BdT p t) : BdT p (abt p t) := ⟨h.d, mdb hp _, mdb hp _, h.a⟩
theorem tm_Bd (hp : 0 < p) : BdT p (tm p s t) := ⟨mdb hp _, mdb hp _, mdb hp _, mdb hp _⟩
/-! casts -/
theorem castR : List.map (fun (q : List Int × List Int) => ((getI q.1 0, getI q.1 1), (getI q.2 0, getI q.2 1))) (mp n fun v => rowPair (A v)) = mp n A := by
  rw [mp_map]; exact mp_congr fun v _ _ => rfl
theorem castR' : List.map (fun (q : Tb) => ([q.1.1, q.1.2], [q.2.1, q.2.2])) (mp n A) = mp n fun v => rowPair (A v) := mp_map ..
theorem castL : List.map (fun (q : List (List Int)) => ((getI ((getI q 0, getI q 1).1) 0, getI ((getI q 0, getI q 1).1) 1), (getI ((getI q 0, getI q 1).2) 0, getI ((getI q 0, getI q 1).2) 1))) (mp n fun v => lstPair (A v)) = mp n A := by
  rw [mp_map]; exact mp_congr fun v _ _ => rfl
theorem castL' : List.map (fun (q : Tb) => [[q.1.1, q.1.2], [q.2.1, q.2.2]]) (mp n A) = mp n fun v => lstPair (A v) := mp_map ..
theorem castRL : List.map (fun (q : List Int × List Int) => [q.1, q.2]) (mp n fun v => rowPair (A v)) = mp n fun v => lstPair (A v) := mp_map ..
theorem len2 : ∀ q ∈ mp n fun v => rowPair (A v), List.length q.1 = 2 ∧ List.length q.2 = 2 := mp_all fun _ _ _ => ⟨rfl, rfl⟩
theorem len2L : ∀ q ∈ mp n fun v => lstPair (A v), List.length q = 2 ∧ List.length ((getI q 0, getI q 1).1) = 2 ∧ List.length ((getI q 0, getI q 1).2) = 2 := mp_all fun _ _ _ => ⟨rfl, rfl, rfl⟩
/-! the functions -/
theorem ch_eq (hp : 0 < p) (hp2 : p ≤ 100) (h : ∀ v : Int, 0 ≤ v → v < n → BdT p (A v)) : g_changed_member p (mp n A) (mp n x, mp n z) ∧ m_changed_member p (mp n A) (mp n x, mp n z) = (mp n (ch1 p A x z), mp n (ch2 p A x z)) := by
  have e : List.zip (List.zip (mp n A) (mp n x)) (mp n z) = mp n fun i => ((A i, x i), z i) := by rw [mp_zip, mp_zip]
  constructor
  · refine ⟨?_, ?_, trivial⟩
    · show ∀ q ∈ List.zip (List.zip (mp n A) (mp n x)) (mp n z), _
      rw [e]; exact mp_all fun v a b => ⟨cm (h v a b).a hp2, cm (h v a b).b hp2, hp⟩
    · show ∀ q ∈ List.zip (List.zip (mp n A) (mp n x)) (mp n z), _
      rw [e]; exact mp_all fun v a b => ⟨cm (h v a b).c hp2, cm (h v a b).d hp2, hp⟩
  · show (List.map _ (List.zip (List.zip (mp n A) (mp n x)) (mp n z)), List.map _ (List.zip (List.zip (mp n A) (mp n x)) (mp n z))) = _
    rw [e, mp_map, mp_map]; rfl
theorem lch_eq (hp : 0 < p) (hp2 : p ≤ 100) (h : ∀ v : Int, 0 ≤ v → v < n → BdT p (A v)) : g__law_changed p (mp n fun v => rowPair (A v)) (mp n x) (mp n z) ∧ m__law_changed p (mp n fun v => rowPair (A v)) (mp n x) (mp n z) = (mp n (ch1 p A x z), mp n (ch2 p A x z)) := by
  have e : List.zip (List.zip (mp n fun v => rowPair (A v)) (mp n x)) (mp n z) = mp n fun i => ((rowPair (A i), x i), z i) := by rw [mp_zip, mp_zip]
  have b0 : ∀ a b : Int, InB [a, b] 0 := fun a b => ⟨by show -(2 : Int) ≤ 0; decide, by show (0 : Int) < 2; decide⟩
  have b1 : ∀ a b : Int, InB [a, b] 1 := fun a b => ⟨by show -(2 : Int) ≤ 1; decide, by show (1 : Int) < 2; decide⟩
  constructor
  · refine ⟨?_, ?_, trivial⟩
    · show ∀ q ∈ List.zip (List.zip (mp n fun v => rowPair (A v)) (mp n x)) (mp n z), _
      rw [e]; exact mp_all fun v a b => ⟨b0 _ _, cm (h v a b).a hp2, b1 _ _, cm (h v a b).b hp2, hp⟩
    · show ∀ q ∈ List.zip (List.zip (mp n fun v => rowPair (A v)) (mp n x)) (mp n z), _
      rw [e]; exact mp_all fun v a b => ⟨b0 _ _, cm (h v a b).c hp2, b1 _ _, cm (h v a b).d hp2, hp⟩
  · show (List.map _ (List.zip (List.zip (mp n fun v => rowPair (A v)) (mp n x)) (mp n z)), List.map _ (List.zip (List.zip (mp n fun v => rowPair (A v)) (mp n x)) (mp n z))) = _
    rw [e, mp_map, mp_map]; rfl
theorem back_eq (hp : 0 < p) : g_change_back p (mp n A) ∧ m_change_back p (mp n A) = mp n fun v => abt p (A v) := ⟨fun _ _ => ⟨hp, hp⟩, mp_map ..⟩
theorem labt_eq (hp : 0 < p) : g__law_about p (mp n fun v => rowPair (A v)) ∧ m__law_about p (mp n fun v => rowPair (A v)) = mp n fun v => abt p (A v) := by
  refine ⟨⟨len2, fun _ _ => ⟨hp, hp⟩⟩, ?_⟩
  unfold m__law_about
  rw [castR, mp_map]
  refine mp_congr fun v _ _ => ?_
  show (((A v).2.2, (0 - (A v).1.2) % p), ((0 - (A v).2.1) % p, (A v).1.1)) = _
  rw [Int.zero_sub, Int.zero_sub]; rfl
theorem dot2 (hp : 0 < p) (hp2 : p ≤ 100) {a b c d : Int} (ha : 0 ≤ a ∧ a < p) (hb : 0 ≤ b ∧ b < p) : g_row_dot p [a, b] [c, d] ∧ m_row_dot p [a, b] [c, d] = (a * c + b * d) % p := by
  constructor
  · refine ⟨fun q hq => ?_, hp⟩
    have hq : q = (a, c) ∨ q = (b, d) := by simpa using hq
    rcases hq with rfl | rfl
    · exact cm ha hp2
    · exact cm hb hp2
  · show (List.sum [a * c, b * d]) % p = _
    simp
theorem st_eq (hp : 0 < p) (hp2 : p ≤ 100) (h : BdT p s) : g_small_times p s t ∧ m_small_times p s t = lstPair (tm p s t) := by
  have r1 : ∀ c d, g_row_dot p [s.1.1, s.1.2] [c, d] ∧ m_row_dot p [s.1.1, s.1.2] [c, d] = (s.1.1 * c + s.1.2 * d) % p := fun c d => dot2 hp hp2 h.a h.b
  have r2 : ∀ c d, g_row_dot p [s.2.1, s.2.2] [c, d] ∧ m_row_dot p [s.2.1, s.2.2] [c, d] = (s.2.1 * c + s.2.2 * d) % p := fun c d => dot2 hp hp2 h.c h.d
  constructor
  · show ∀ q ∈ [s.1, s.2], ∀ r ∈ [((t.1.1, t.2.1) : Int × Int), (t.1.2, t.2.2)], g_row_dot p [q.1, q.2] [r.1, r.2]
    intro q hq r _
    have hq : q = s.1 ∨ q = s.2 := by simpa using hq
    rcases hq with rfl | rfl
    · exact (r1 _ _).1
    · exact (r2 _ _).1
  · show [[m_row_dot p [s.1.1, s.1.2] [t.1.1, t.2.1], m_row_dot p [s.1.1, s.1.2] [t.1.2, t.2.2]], [m_row_dot p [s.2.1, s.2.2] [t.1.1, t.2.1], m_row_dot p [s.2.1, s.2.2] [t.1.2, t.2.2]]] = _
    rw [(r1 _ _).2, (r1 _ _).2, (r2 _ _).2, (r2 _ _).2]; rfl
theorem bh_eq (hp : 0 < p) (hp2 : p ≤ 100) (h : ∀ v : Int, 0 ≤ v → v < n → BdT p (B v)) : g_change_behind p (mp n A) (mp n B) ∧ m_change_behind p (mp n A) (mp n B) = mp n fun v => lstPair (tm p (B v) (A v)) := by
  unfold g_change_behind m_change_behind
  rw [mp_zip, mp_map]
  exact ⟨mp_all fun v a b => (st_eq hp hp2 (h v a b)).1, mp_congr fun v a b => (st_eq hp hp2 (h v a b)).2⟩
theorem lsm_eq (hp : 0 < p) (hp2 : p ≤ 100) (h : BdT p s) : g__law_small p (rowPair t) (rowPair s) ∧ m__law_small p (rowPair t) (rowPair s) = lstPair (tm p s t) := by
  have r0 : rngI 0 (Int.toNat (2 : Int)) = [0, 1] := by decide
  have b0 : ∀ {α : Type} (a b : α), InB [a, b] 0 := fun a b => ⟨by show -(2 : Int) ≤ 0; decide, by show (0 : Int) < 2; decide⟩
  have b1 : ∀ {α : Type} (a b : α), InB [a, b] 1 := fun a b => ⟨by show -(2 : Int) ≤ 1; decide, by show (1 : Int) < 2; decide⟩
  have g3 : ∀ (L : List (List Int)) (i : Int), (i = 0 ∨ i = 1) → L.length < 1000 → g__law_small_3 p (rowPair t) (rowPair s) L i := fun L i hi hL => by
    refine ⟨⟨by decide, by decide⟩, ?_, by omega, trivial⟩
    rw [r0]
    intro j hj
    have hj : j = 0 ∨ j = 1 := by simpa using hj
    rcases hi with rfl | rfl <;> rcases hj with rfl | rfl
    · exact ⟨b0 _ _, b0 _ _, b0 _ _, cm h.a hp2, b0 _ _, b1 _ _, b0 _ _, cm h.b hp2, hp⟩
    · exact ⟨b0 _ _, b0 _ _, b1 _ _, cm h.a hp2, b0 _ _, b1 _ _, b1 _ _, cm h.b hp2, hp⟩
    · exact ⟨b1 _ _, b0 _ _, b0 _ _, cm h.c hp2, b1 _ _, b1 _ _, b0 _ _, cm h.d hp2, hp⟩
    · exact ⟨b1 _ _, b0 _ _, b1 _ _, cm h.c hp2, b1 _ _, b1 _ _, b1 _ _, cm h.d hp2, hp⟩
  constructor
  · refine ⟨⟨by decide, by decide⟩, ?_, trivial⟩
    rw [r0]
    exact ⟨g3 _ _ (.inl rfl) (by decide), g3 _ _ (.inr rfl) (by show (1 : Nat) < 1000; decide), trivial⟩
  · show List.foldl (fun L i => m__law_small_3 p (rowPair t) (rowPair s) L i) [] (rngI 0 (Int.toNat (2 : Int))) = _
    rw [r0]
    rfl
theorem det_eq (hp : 0 < p) (hp2 : p ≤ 100) (h : BdT p t) : g_small_det p t ∧ m_small_det p t = tdet p t := ⟨⟨cm h.a hp2, cm h.b hp2, hp⟩, rfl⟩
theorem repL_mp {α : Type} (c : α) : repL (n : Int) [c] = mp n fun _ => c := by
  unfold repL
  rw [Int.toNat_natCast]
  apply List.ext_getElem?
  intro j
  have e : ∀ n : Nat, (List.replicate n [c]).flatten = List.replicate n c := fun n => by
    induction n with
    | zero => rfl
    | succ n ih => rw [List.replicate_succ, List.flatten_cons, ih]; rfl
  rw [e, List.getElem?_map, List.getElem?_replicate]
  by_cases h : j < n
  · rw [if_pos h, rngI_get h]; rfl
  · rw [if_neg h, List.getElem?_eq_none (by rw [rngI_length]; omega)]; rfl
theorem prop_eq (hp : 0 < p) (hp2 : p ≤ 100) (h : ∀ v : Int, 0 ≤ v → v < n → BdT p (A v)) : g_is_proper p (mp n A) ∧ m_is_proper p (mp n A) = decide (mp n (fun v => tdet p (A v)) = repL (n : Int) [(1 : Int)]) := by
  refine ⟨mp_all fun v a b => (det_eq hp hp2 (h v a b)).1, ?_⟩
  unfold m_is_proper
  rw [mp_map, repL_mp, Bool.eq_iff_iff, all_id, decide_eq_true_iff, mp_eq]
  constructor
  · intro q v a b
    exact of_decide_eq_true (q _ (List.mem_map.mpr ⟨v, mem_rngI.mpr ⟨a, by omega⟩, rfl⟩))
  · intro q
    exact mp_all fun v a b => decide_eq_true (q v a b)
/-! the identities -/
theorem md_eq {a b : Int} (h : Cg p a b) : a % p = b % p := h
theorem abt_abt (h : BdT p t) (hp : 0 < p) : abt p (abt p t) = t := by
  have e : ∀ b : Int, 0 ≤ b ∧ b < p → (-((-b) % p)) % p = b := fun b hb => by
    have : Cg p (-((-b) % p)) b := (Cg.neg (Cg.md _)).trans (Cg.of_eq (by omega))
    rw [md_eq this, small_mod hb.1 hb.2]
  show ((t.1.1, (-((-t.1.2) % p)) % p), ((-((-t.2.1) % p)) % p, t.2.2)) = t
  rw [e _ h.b, e _ h.c]
theorem tm_one (h : BdT p t) : tm p ((1, 0), (0, 1)) t = t := by
  show (((1 * t.1.1 + 0 * t.2.1) % p, (1 * t.1.2 + 0 * t.2.2) % p), ((0 * t.1.1 + 1 * t.2.1) % p, (0 * t.1.2 + 1 * t.2.2) % p)) = t
  simp only [Int.one_mul, Int.zero_mul, Int.add_zero, Int.zero_add]
  rw [small_mod h.a.1 h.a.2, small_mod h.b.1 h.b.2, small_mod h.c.1 h.c.2, small_mod h.d.1 h.d.2]
theorem tb_ext {s t : Tb} (a : s.1.1 = t.1.1) (b : s.1.2 = t.1.2) (c : s.2.1 = t.2.1) (d : s.2.2 = t.2.2) : s = t := Prod.ext (Prod.ext a b) (Prod.ext c d)
theorem tm_abt : tm p (abt p t) t = ((tdet p t, 0), (0, tdet p t)) := by
  obtain ⟨⟨a, b⟩, ⟨c, d⟩⟩ := t
  have z1 : Cg p (d * a + (-b) % p * c) (a * d - b * c) := ((Cg.rfl' (a := d * a)).add ((Cg.md (-b)).mul (Cg.rfl' (a := c)))).trans (Cg.of_eq (by grind))
  have z2 : Cg p (d * b + (-b) % p * d) 0 := ((Cg.rfl' (a := d * b)).add ((Cg.md (-b)).mul (Cg.rfl' (a := d)))).trans (Cg.of_eq (by grind))
  have z3 : Cg p ((-c) % p * a + a * c) 0 := (((Cg.md (-c)).mul (Cg.rfl' (a := a))).add (Cg.rfl' (a := a * c))).trans (Cg.of_eq (by grind))
  have z4 : Cg p ((-c) % p * b + a * d) (a * d - b * c) := (((Cg.md (-c)).mul (Cg.rfl' (a := b))).add (Cg.rfl' (a := a * d))).trans (Cg.of_eq (by grind))
  refine tb_ext (md_eq z1) ?_ ?_ (md_eq z4)
  · show (d * b + (-b) % p * d) % p = 0
    rw [md_eq z2, Int.zero_emod]
  · show ((-c) % p * a + a * c) % p = 0
    rw [md_eq z3, Int.zero_emod]
theorem abt_tm : abt p (tm p s t) = tm p (abt p t) (abt p s) := by
  refine tb_ext ?_ ?_ ?_ ?_
  · have z : Cg p (s.2.1 * t.1.2 + s.2.2 * t.2.2) (t.2.2 * s.2.2 + (-t.1.2) % p * ((-s.2.1) % p)) :=
      ((Cg.of_eq (by grind)).trans ((Cg.rfl' (a := t.2.2 * s.2.2)).add ((Cg.md (-t.1.2)).mul (Cg.md (-s.2.1))).sym))
    exact md_eq z
  · have z : Cg p (-((s.1.1 * t.1.2 + s.1.2 * t.2.2) % p)) (t.2.2 * ((-s.1.2) % p) + (-t.1.2) % p * s.1.1) :=
      (Cg.neg (Cg.md _)).trans ((Cg.of_eq (by grind)).trans (((Cg.rfl' (a := t.2.2)).mul (Cg.md (-s.1.2))).add ((Cg.md (-t.1.2)).mul (Cg.rfl' (a := s.1.1)))).sym)
    exact md_eq z
  · have z : Cg p (-((s.2.1 * t.1.1 + s.2.2 * t.2.1) % p)) ((-t.2.1) % p * s.2.2 + t.1.1 * ((-s.2.1) % p)) :=
      (Cg.neg (Cg.md _)).trans ((Cg.of_eq (by grind)).trans (((Cg.md (-t.2.1)).mul (Cg.rfl' (a := s.2.2))).add ((Cg.rfl' (a := t.1.1)).mul (Cg.md (-s.2.1)))).sym)
    exact md_eq z
  · have z : Cg p (s.1.1 * t.1.1 + s.1.2 * t.2.1) ((-t.2.1) % p * ((-s.1.2) % p) + t.1.1 * s.1.1) :=
      ((Cg.of_eq (by grind)).trans (((Cg.md (-t.2.1)).mul (Cg.md (-s.1.2))).sym.add (Cg.rfl' (a := t.1.1 * s.1.1))))
    exact md_eq z
theorem ch_tm1 : ch1 p (fun v => tm p (B v) (A v)) x z = ch1 p B (ch1 p A x z) (ch2 p A x z) := by
  funext i
  have z1 : Cg p ((B i).1.1 * (A i).1.1 + (B i).1.2 * (A i).2.1) (((B i).1.1 * (A i).1.1 + (B i).1.2 * (A i).2.1) % p) := (Cg.md _).sym
  have z2 : Cg p ((B i).1.1 * (A i).1.2 + (B i).1.2 * (A i).2.2) (((B i).1.1 * (A i).1.2 + (B i).1.2 * (A i).2.2) % p) := (Cg.md _).sym
  have l := ((z1.sym.mul (Cg.rfl' (a := x i))).add (z2.sym.mul (Cg.rfl' (a := z i))))
  have r := (((Cg.rfl' (p := p) (a := (B i).1.1)).mul (Cg.md ((A i).1.1 * x i + (A i).1.2 * z i))).add ((Cg.rfl' (a := (B i).1.2)).mul (Cg.md ((A i).2.1 * x i + (A i).2.2 * z i)))).sym
  exact md_eq (l.trans ((Cg.of_eq (by grind)).trans r))
theorem ch_tm2 : ch2 p (fun v => tm p (B v) (A v)) x z = ch2 p B (ch1 p A x z) (ch2 p A x z) := by
  funext i
  have z1 : Cg p ((B i).2.1 * (A i).1.1 + (B i).2.2 * (A i).2.1) (((B i).2.1 * (A i).1.1 + (B i).2.2 * (A i).2.1) % p) := (Cg.md _).sym
  have z2 : Cg p ((B i).2.1 * (A i).1.2 + (B i).2.2 * (A i).2.2) (((B i).2.1 * (A i).1.2 + (B i).2.2 * (A i).2.2) % p) := (Cg.md _).sym
  have l := ((z1.sym.mul (Cg.rfl' (a := x i))).add (z2.sym.mul (Cg.rfl' (a := z i))))
  have r := (((Cg.rfl' (p := p) (a := (B i).2.1)).mul (Cg.md ((A i).1.1 * x i + (A i).1.2 * z i))).add ((Cg.rfl' (a := (B i).2.2)).mul (Cg.md ((A i).2.1 * x i + (A i).2.2 * z i)))).sym
  exact md_eq (l.trans ((Cg.of_eq (by grind)).trans r))
theorem frm_back : frm p n (ch1 p A x z) (ch2 p A x z) y w = frm p n x z (ch1 p (fun v => abt p (A v)) y w) (ch2 p (fun v => abt p (A v)) y w) := by
  refine md_eq (sm_cg fun i _ _ => ?_)
  have l : Cg p (ch1 p A x z i * w i - ch2 p A x z i * y i) (((A i).1.1 * x i + (A i).1.2 * z i) * w i - ((A i).2.1 * x i + (A i).2.2 * z i) * y i) := ((Cg.md _).mul .rfl').sub ((Cg.md _).mul .rfl')
  have r1 : Cg p (ch2 p (fun v => abt p (A v)) y w i) (-(A i).2.1 * y i + (A i).1.1 * w i) := (Cg.md _).trans (((Cg.md _).mul .rfl').add .rfl')
  have r2 : Cg p (ch1 p (fun v => abt p (A v)) y w i) ((A i).2.2 * y i + -(A i).1.2 * w i) := (Cg.md _).trans (Cg.rfl'.add ((Cg.md _).mul .rfl'))
  have r : Cg p (x i * ch2 p (fun v => abt p (A v)) y w i - z i * ch1 p (fun v => abt p (A v)) y w i) (x i * (-(A i).2.1 * y i + (A i).1.1 * w i) - z i * ((A i).2.2 * y i + -(A i).1.2 * w i)) := (Cg.rfl'.mul r1).sub (Cg.rfl'.mul r2)
  exact l.trans ((Cg.of_eq (by grind)).trans r.sym)
end
end L2.Ev

set_option Elab.async false
set_option linter.all false
set_option maxRecDepth 100000
/-! Xm10: the law's look at changes (k13). -/
namespace L2.Ev
open PySem PySem.Spec PyProof.Rows
theorem dne {α : Type} [DecidableEq α] {a b : α} (h : a = b) : decide (a ≠ b) = false := decide_eq_false fun z => z h
theorem ifF {α : Type} {c : Bool} {a b : α} (h : c = false) : (if c = true then a else b) = b := if_neg (by rw [h]; exact Bool.false_ne_true)
section
variable {p : Int} {n : Nat} {A B : Int → Tb} {x z y w : Int → Int}
theorem Sh_tb {t : Tb} (hp : p ≤ 100) (h : BdT p t) : Sh (enc t) 56 2 := by
  have a := h.a; have b := h.b; have c := h.c; have d := h.d
  exact Sh_tup (m := 2) (all2 (Sh_tup (W := 24) (K := 1) (m := 2) (all2 (Sh_int (by omega)) (Sh_int (by omega))) (Nat.le_refl 2) (by decide) (by decide)) (Sh_tup (m := 2) (all2 (Sh_int (by omega)) (Sh_int (by omega))) (Nat.le_refl 2) (by decide) (by decide))) (Nat.le_refl 2) (by decide) (by decide)
theorem Sh_tbs (hp : p ≤ 100) (hn : n ≤ 10) (h : ∀ v : Int, 0 ≤ v → v < n → BdT p (A v)) : Sh (enc (mp n A)) 584 3 := Sh_tup (m := 10) (mem_encs (mp_all fun i a b => Sh_tb hp (h i a b))) (by rw [len_encs, mp_len]; exact hn) (by decide) (by decide)
theorem Sh_tbl (hp : p ≤ 100) (hn : n ≤ 10) (h : ∀ v : Int, 0 ≤ v → v < n → BdT p (A v)) : Sh (enc (mp n fun v => lstPair (A v))) 584 3 := Sh_tup (m := 10) (mem_encs (mp_all fun i a b => Sh_tb hp (h i a b))) (by rw [len_encs, mp_len]; exact hn) (by decide) (by decide)
theorem core (hp : 2 ≤ p) (hp2 : p ≤ 100) (hn1 : 1 ≤ n) (hn : n ≤ 10) (hA : ∀ v : Int, 0 ≤ v → v < n → BdT p (A v)) (hB : ∀ v : Int, 0 ≤ v → v < n → BdT p (B v)) (hx : Bd p n x) (hz : Bd p n z) (S : Src) :
    g__law_changes_right_20 p n (mp n fun v => rowPair (A v), mp n fun v => rowPair (B v)) ((mp n x, mp n z), (mp n y, mp n w)) S ∧
    m__law_changes_right_20 p n (mp n fun v => rowPair (A v), mp n fun v => rowPair (B v)) ((mp n x, mp n z), (mp n y, mp n w)) S = (true, S) := by
  have pos : 0 < p := by omega
  have hAb : ∀ v : Int, 0 ≤ v → v < n → BdT p (abt p (A v)) := fun v a b => abt_Bd pos (hA v a b)
  have hBb : ∀ v : Int, 0 ≤ v → v < n → BdT p (abt p (B v)) := fun v a b => abt_Bd pos (hB v a b)
  have hC : ∀ v : Int, 0 ≤ v → v < n → BdT p (tm p (B v) (A v)) := fun v _ _ => tm_Bd pos
  have E1b : Bd p n (ch1 p A x z) := fun i _ _ => mdb pos _
  have E2b : Bd p n (ch2 p A x z) := fun i _ _ => mdb pos _
  obtain ⟨c1, c2⟩ := ch_eq (x := x) (z := z) pos hp2 hA
  obtain ⟨l1, l2⟩ := lch_eq (x := x) (z := z) pos hp2 hA
  obtain ⟨k1, k2⟩ := back_eq (A := A) (n := n) pos
  obtain ⟨t1, t2⟩ := labt_eq (A := A) (n := n) pos
  obtain ⟨b1, b2⟩ := bh_eq (A := A) (B := B) (n := n) pos hp2 hB
  obtain ⟨d1, d2⟩ := ch_eq (A := fun v => tm p (B v) (A v)) (x := x) (z := z) pos hp2 hC
  obtain ⟨e1, e2⟩ := ch_eq (A := B) (x := ch1 p A x z) (z := ch2 p A x z) pos hp2 hB
  obtain ⟨f1, f2⟩ := back_eq (A := fun v => abt p (A v)) (n := n) pos
  obtain ⟨h1, h2⟩ := form_eq (x := ch1 p A x z) (z := ch2 p A x z) (y := y) (w := w) pos hp2 E1b E2b
  obtain ⟨i1, i2⟩ := ch_eq (A := fun v => abt p (A v)) (x := y) (z := w) pos hp2 hAb
  obtain ⟨j1, j2⟩ := form_eq (x := x) (z := z) (y := ch1 p (fun v => abt p (A v)) y w) (w := ch2 p (fun v => abt p (A v)) y w) pos hp2 hx hz
  obtain ⟨m1, m2⟩ := back_eq (A := fun v => tm p (B v) (A v)) (n := n) pos
  obtain ⟨n1, n2⟩ := back_eq (A := B) (n := n) pos
  obtain ⟨o1, o2⟩ := bh_eq (A := fun v => abt p (B v)) (B := fun v => abt p (A v)) (n := n) pos hp2 hAb
  obtain ⟨q1, q2⟩ := prop_eq (A := A) (n := n) pos hp2 hA
  obtain ⟨r1, r2⟩ := bh_eq (A := A) (B := fun v => abt p (A v)) (n := n) pos hp2 hAb
  obtain ⟨s1, s2⟩ := bh_eq (A := A) (B := fun _ => ((1, 0), (0, 1))) (n := n) pos hp2 (fun _ _ _ => ⟨⟨by show (0 : Int) ≤ 1; decide, by show (1 : Int) < p; omega⟩, ⟨by show (0 : Int) ≤ 0; decide, by show (0 : Int) < p; omega⟩, ⟨by show (0 : Int) ≤ 0; decide, by show (0 : Int) < p; omega⟩, ⟨by show (0 : Int) ≤ 1; decide, by show (1 : Int) < p; omega⟩⟩)
  have same : m_same_change (n : Int) = mp n fun _ => (((1 : Int), (0 : Int)), ((0 : Int), (1 : Int))) := repL_mp _
  have gsame : g_same_change (n : Int) := ⟨by show (1 : Nat) ≤ 1; decide, by show (1 : Nat) ≤ 1000; decide, by omega, by omega⟩
  -- the end
  have x1 : (mp n fun v => lstPair (tm p (abt p (A v)) (A v))) = List.map (fun (q : Tb) => [[q.1.1, q.1.2], [q.2.1, q.2.2]]) (List.map (fun (d : Int) => ((d, (0 : Int)), ((0 : Int), d))) (mp n fun v => tdet p (A v))) := by
    rw [mp_map, castL']
    exact mp_congr fun v _ _ => by rw [tm_abt]
  have x2 : (mp n fun v => lstPair (tm p ((1, 0), (0, 1)) (A v))) = mp n fun v => lstPair (A v) := mp_congr fun v a b => by rw [tm_one (hA v a b)]
  have gD : ∀ q ∈ mp n A, CMul q.1.1 q.2.2 ∧ CMul q.1.2 q.2.1 ∧ 0 < p := mp_all fun v a b => ⟨cm (hA v a b).a hp2, cm (hA v a b).b hp2, pos⟩
  have rep1 : RepOk (List.length ([(1 : Int)] : List Int)) (n : Int) := ⟨by omega, by omega, by show 1 * (n : Int).toNat ≤ _; omega⟩
  have G4 : g__law_changes_right_4 p n (mp n fun v => rowPair (A v), mp n fun v => rowPair (B v)) S ((mp n (ch1 p A x z), mp n (ch2 p A x z)), mp n fun v => abt p (A v)) (List.map (fun (d : Int) => ((d, (0 : Int)), ((0 : Int), d))) (mp n fun v => tdet p (A v))) := by
    exact ⟨len2, by rw [castR]; exact r1, fun _ => ⟨gsame, len2, by rw [castR, same]; exact s1⟩⟩
  have M4 : m__law_changes_right_4 p n (mp n fun v => rowPair (A v), mp n fun v => rowPair (B v)) S ((mp n (ch1 p A x z), mp n (ch2 p A x z)), mp n fun v => abt p (A v)) (List.map (fun (d : Int) => ((d, (0 : Int)), ((0 : Int), d))) (mp n fun v => tdet p (A v))) = (true, S) := by
    unfold m__law_changes_right_4
    rw [castR, r2, same, s2, castRL, x2, x1, decide_eq_true rfl, decide_eq_true rfl]; rfl
  have z7 : (decide ((List.map (fun (q : List Int × List Int) => (m_small_det p ((getI q.1 0, getI q.1 1), (getI q.2 0, getI q.2 1)))) (mp n fun v => rowPair (A v))) ≠ (mp n fun v => tdet p (A v))) || decide ((rp (enc (m_is_proper p (mp n A)))) ≠ (rp (enc (decide ((mp n fun v => tdet p (A v)) = (repL (n : Int) ([1] : List Int)))))))) = false := by
    have e0 : List.map (fun (q : List Int × List Int) => (m_small_det p ((getI q.1 0, getI q.1 1), (getI q.2 0, getI q.2 1)))) (mp n fun v => rowPair (A v)) = mp n fun v => tdet p (A v) := (mp_map _ _).trans (mp_congr fun v _ _ => rfl)
    rw [dne e0, q2]
    exact dne rfl
  have G7 : g__law_changes_right_7 p n (mp n fun v => rowPair (A v), mp n fun v => rowPair (B v)) S ((mp n (ch1 p A x z), mp n (ch2 p A x z)), mp n fun v => abt p (A v)) (mp n fun v => tdet p (A v)) := by
    refine ⟨mp_all fun v a b => ⟨rfl, rfl, (det_eq pos hp2 (hA v a b)).1⟩, fun _ => ⟨len2, by rw [castR]; exact q1, (Sh_bool _).ok, rep1, (Sh_bool _).ok⟩, fun _ => trivial, fun _ => G4⟩
  have M7 : m__law_changes_right_7 p n (mp n fun v => rowPair (A v), mp n fun v => rowPair (B v)) S ((mp n (ch1 p A x z), mp n (ch2 p A x z)), mp n fun v => abt p (A v)) (mp n fun v => tdet p (A v)) = (true, S) := by
    unfold m__law_changes_right_7
    rw [castR, ifF z7]
    exact M4
  have ed : List.map (fun (q : Tb) => (((q.1.1 * q.2.2) - (q.1.2 * q.2.1)) % p)) (mp n A) = mp n fun v => tdet p (A v) := mp_map ..
  have G9 : g__law_changes_right_9 p n (mp n fun v => rowPair (A v), mp n fun v => rowPair (B v)) S ((mp n (ch1 p A x z), mp n (ch2 p A x z)), mp n fun v => abt p (A v)) := by
    refine ⟨len2, by rw [castR]; exact gD, ?_⟩
    rw [castR, ed]; exact G7
  have M9 : m__law_changes_right_9 p n (mp n fun v => rowPair (A v), mp n fun v => rowPair (B v)) S ((mp n (ch1 p A x z), mp n (ch2 p A x z)), mp n fun v => abt p (A v)) = (true, S) := by
    unfold m__law_changes_right_9
    rw [castR, ed]; exact M7
  have x11 : (mp n fun v => lstPair (abt p (tm p (B v) (A v)))) = mp n fun v => lstPair (tm p (abt p (A v)) (abt p (B v))) := mp_congr fun v _ _ => by rw [abt_tm]
  have G11 : g__law_changes_right_11 p n (mp n fun v => rowPair (A v), mp n fun v => rowPair (B v)) S ((mp n (ch1 p A x z), mp n (ch2 p A x z)), mp n fun v => abt p (A v)) (mp n fun v => lstPair (tm p (B v) (A v))) := by
    refine ⟨len2L, by rw [castL]; exact m1, len2, by rw [castR]; exact n1, by rw [castR, n2]; exact o1, fun _ => trivial, fun _ => G9⟩
  have M11 : m__law_changes_right_11 p n (mp n fun v => rowPair (A v), mp n fun v => rowPair (B v)) S ((mp n (ch1 p A x z), mp n (ch2 p A x z)), mp n fun v => abt p (A v)) (mp n fun v => lstPair (tm p (B v) (A v))) = (true, S) := by
    unfold m__law_changes_right_11
    rw [castL, castR, m2, n2, o2, castL', ifF (dne x11)]
    exact M9
  have x13 : m_form_of p (mp n (ch1 p A x z), mp n (ch2 p A x z)) (mp n y, mp n w) = m_form_of p (mp n x, mp n z) (m_changed_member p (mp n fun v => abt p (A v)) (mp n y, mp n w)) := by
    rw [h2, i2, j2, frm_back]
  have G13 : g__law_changes_right_13 p n (mp n fun v => rowPair (A v), mp n fun v => rowPair (B v)) ((mp n x, mp n z), (mp n y, mp n w)) S ((mp n (ch1 p A x z), mp n (ch2 p A x z)), mp n fun v => abt p (A v)) (mp n fun v => lstPair (tm p (B v) (A v))) := by
    refine ⟨h1, i1, ?_, fun _ => trivial, fun _ => G11⟩
    show g_form_of p (mp n x, mp n z) (m_changed_member p (mp n fun v => abt p (A v)) (mp n y, mp n w))
    rw [i2]; exact j1
  have M13 : m__law_changes_right_13 p n (mp n fun v => rowPair (A v), mp n fun v => rowPair (B v)) ((mp n x, mp n z), (mp n y, mp n w)) S ((mp n (ch1 p A x z), mp n (ch2 p A x z)), mp n fun v => abt p (A v)) (mp n fun v => lstPair (tm p (B v) (A v))) = (true, S) := by
    unfold m__law_changes_right_13
    rw [ifF (dne x13)]; exact M11
  have x15 : (decide (m_changed_member p (mp n fun v => tm p (B v) (A v)) (mp n x, mp n z) ≠ m_changed_member p (mp n B) (mp n (ch1 p A x z), mp n (ch2 p A x z))) ||
      decide ((List.map (fun (q : Tb) => ([q.1.1, q.1.2], [q.2.1, q.2.2])) (mp n fun v => abt p (abt p (A v)))) ≠ (mp n fun v => rowPair (A v)))) = false := by
    rw [d2, e2, castR', ch_tm1, ch_tm2, dne rfl]
    exact dne (mp_congr fun v a b => by rw [abt_abt (hA v a b) pos])
  have G15 : g__law_changes_right_15 p n (mp n fun v => rowPair (A v), mp n fun v => rowPair (B v)) ((mp n x, mp n z), (mp n y, mp n w)) S ((mp n (ch1 p A x z), mp n (ch2 p A x z)), mp n fun v => abt p (A v)) (mp n fun v => lstPair (tm p (B v) (A v))) :=
    ⟨len2L, by rw [castL]; exact d1, len2, by rw [castR]; exact e1, fun _ => f1, fun _ => trivial, fun _ => G13⟩
  have M15 : m__law_changes_right_15 p n (mp n fun v => rowPair (A v), mp n fun v => rowPair (B v)) ((mp n x, mp n z), (mp n y, mp n w)) S ((mp n (ch1 p A x z), mp n (ch2 p A x z)), mp n fun v => abt p (A v)) (mp n fun v => lstPair (tm p (B v) (A v))) = (true, S) := by
    unfold m__law_changes_right_15
    rw [castL, castR]
    show (if (decide (m_changed_member p (mp n fun v => tm p (B v) (A v)) (mp n x, mp n z) ≠ m_changed_member p (mp n B) (mp n (ch1 p A x z), mp n (ch2 p A x z))) || decide ((List.map (fun (q : Tb) => ([q.1.1, q.1.2], [q.2.1, q.2.2])) (m_change_back p (mp n fun v => abt p (A v)))) ≠ (mp n fun v => rowPair (A v)))) = true then _ else _) = _
    rw [f2, ifF x15]
    exact M13
  have x16 : List.map (fun (q : (List Int × List Int) × (List Int × List Int)) => m__law_small p q.1 q.2) (List.zip (mp n fun v => rowPair (A v)) (mp n fun v => rowPair (B v))) = mp n fun v => lstPair (tm p (B v) (A v)) := by
    rw [mp_zip, mp_map]
    exact mp_congr fun v a b => (lsm_eq pos hp2 (hB v a b)).2
  have G16 : g__law_changes_right_16 p n (mp n fun v => rowPair (A v), mp n fun v => rowPair (B v)) ((mp n x, mp n z), (mp n y, mp n w)) S ((mp n (ch1 p A x z), mp n (ch2 p A x z)), mp n fun v => abt p (A v)) (mp n fun v => lstPair (tm p (B v) (A v))) := by
    refine ⟨(Sh_tbl hp2 hn hC).ok, ?_, ?_, fun _ => trivial, fun _ => G15⟩
    · show ∀ q ∈ List.zip (mp n fun v => rowPair (A v)) (mp n fun v => rowPair (B v)), g__law_small p q.1 q.2
      rw [mp_zip]; exact mp_all fun v a b => (lsm_eq pos hp2 (hB v a b)).1
    · show RpOk (enc (List.map (fun (q : (List Int × List Int) × (List Int × List Int)) => m__law_small p q.1 q.2) (List.zip (mp n fun v => rowPair (A v)) (mp n fun v => rowPair (B v)))))
      rw [x16]; exact (Sh_tbl hp2 hn hC).ok
  have M16 : m__law_changes_right_16 p n (mp n fun v => rowPair (A v), mp n fun v => rowPair (B v)) ((mp n x, mp n z), (mp n y, mp n w)) S ((mp n (ch1 p A x z), mp n (ch2 p A x z)), mp n fun v => abt p (A v)) (mp n fun v => lstPair (tm p (B v) (A v))) = (true, S) := by
    unfold m__law_changes_right_16
    rw [x16, ifF (dne rfl)]; exact M15
  have G18 : g__law_changes_right_18 p n (mp n fun v => rowPair (A v), mp n fun v => rowPair (B v)) ((mp n x, mp n z), (mp n y, mp n w)) S ((mp n (ch1 p A x z), mp n (ch2 p A x z)), mp n fun v => abt p (A v)) :=
    ⟨len2, len2, by rw [castR, castR]; exact b1, by rw [castR, castR, b2]; exact G16⟩
  have M18 : m__law_changes_right_18 p n (mp n fun v => rowPair (A v), mp n fun v => rowPair (B v)) ((mp n x, mp n z), (mp n y, mp n w)) S ((mp n (ch1 p A x z), mp n (ch2 p A x z)), mp n fun v => abt p (A v)) = (true, S) := by
    unfold m__law_changes_right_18
    rw [castR, castR, b2]; exact M16
  have G19 : g__law_changes_right_19 p n (mp n fun v => rowPair (A v), mp n fun v => rowPair (B v)) ((mp n x, mp n z), (mp n y, mp n w)) S ((mp n (ch1 p A x z), mp n (ch2 p A x z)), mp n fun v => abt p (A v)) := by
    refine ⟨(Sh_mem hp2 hn E1b E2b).ok, l1, ?_, fun _ => ⟨(Sh_tbs hp2 hn hAb).ok, t1, ?_⟩, fun _ => trivial, fun _ => G18⟩
    · show RpOk (enc (m__law_changed p (mp n fun v => rowPair (A v)) (mp n x) (mp n z)))
      rw [l2]; exact (Sh_mem hp2 hn E1b E2b).ok
    · rw [t2]; exact (Sh_tbs hp2 hn hAb).ok
  have M19 : m__law_changes_right_19 p n (mp n fun v => rowPair (A v), mp n fun v => rowPair (B v)) ((mp n x, mp n z), (mp n y, mp n w)) S ((mp n (ch1 p A x z), mp n (ch2 p A x z)), mp n fun v => abt p (A v)) = (true, S) := by
    unfold m__law_changes_right_19
    show (if (decide (rp (enc (mp n (ch1 p A x z), mp n (ch2 p A x z))) ≠ rp (enc (m__law_changed p (mp n fun v => rowPair (A v)) (mp n x) (mp n z)))) || decide (rp (enc (mp n fun v => abt p (A v))) ≠ rp (enc (m__law_about p (mp n fun v => rowPair (A v)))))) = true then _ else _) = _
    rw [l2, t2, dne rfl, dne rfl]
    exact M18
  constructor
  · refine ⟨len2, by rw [castR]; exact c1, len2, by rw [castR]; exact k1, ?_⟩
    rw [castR]
    show g__law_changes_right_19 p n _ _ S (m_changed_member p (mp n A) (mp n x, mp n z), m_change_back p (mp n A))
    rw [c2, k2]; exact G19
  · unfold m__law_changes_right_20
    rw [castR]
    show m__law_changes_right_19 p n _ _ S (m_changed_member p (mp n A) (mp n x, mp n z), m_change_back p (mp n A)) = _
    rw [c2, k2]; exact M19
end
end L2.Ev

set_option Elab.async false
set_option linter.all false
set_option maxRecDepth 100000
/-! Xm11: changes are right; the loops' bodies (k13). -/
namespace L2.Ev
open PySem PySem.Spec PyProof.Rows
section
variable {p : Int}
theorem two_row {x : Int → Int} : mp 2 x = [x 0, x 1] := by
  show List.map x (rngI 0 2) = _
  rw [show rngI 0 2 = [0, 1] by decide]; rfl
theorem lrow2 (hp : 1 ≤ p) (hp2 : p ≤ 100) (S : Src) : g__law_row p 2 S ∧ ∃ a b, (0 ≤ a ∧ a < p) ∧ (0 ≤ b ∧ b < p) ∧ (m__law_row p 2 S).1 = [a, b] := by
  obtain ⟨h1, x, S', hx, h2⟩ := lrow_eq 2 hp hp2 (by decide) S
  refine ⟨h1, x 0, x 1, hx 0 (by decide) (by decide), hx 1 (by decide) (by decide), ?_⟩
  rw [show m__law_row p 2 S = (mp 2 x, S') from h2]
  exact two_row
theorem rows_tb {n : Nat} {l : List (List Int × List Int)} (hl : l.length = n) (h : ∀ q ∈ l, ∃ t, BdT p t ∧ q = rowPair t) : ∃ A : Int → Tb, (∀ v : Int, 0 ≤ v → v < n → BdT p (A v)) ∧ l = mp n fun v => rowPair (A v) := by
  have hq : ∀ v : Int, 0 ≤ v → v < n → ∃ t, BdT p t ∧ getI l v = rowPair t := fun v v0 v1 => by
    obtain ⟨j, rfl⟩ := Int.eq_ofNat_of_zero_le v0
    have hj : j < l.length := by omega
    rw [getI_nat (List.getElem?_eq_getElem hj)]
    exact h _ (List.getElem_mem hj)
  refine ⟨fun v => ((getI (getI l v).1 0, getI (getI l v).1 1), (getI (getI l v).2 0, getI (getI l v).2 1)), fun v v0 v1 => ?_, ?_⟩
  · obtain ⟨t, bt, e⟩ := hq v v0 v1
    show BdT p ((getI (getI l v).1 0, getI (getI l v).1 1), (getI (getI l v).2 0, getI (getI l v).2 1))
    rw [e]; exact bt
  · have e := row_mp l
    rw [hl] at e
    refine e.trans (mp_congr fun v v0 v1 => ?_)
    obtain ⟨t, _, e⟩ := hq v v0 v1
    show getI l v = rowPair ((getI (getI l v).1 0, getI (getI l v).1 1), (getI (getI l v).2 0, getI (getI l v).2 1))
    rw [e]; rfl
theorem draw_tbs (hp : 1 ≤ p) (hp2 : p ≤ 100) (n : Nat) (S : Src) :
    GS (fun (T : Src) (q : Int) => (((m__law_row p 2 T).1, (m__law_row p 2 ((m__law_row p 2 T).2)).1), (m__law_row p 2 ((m__law_row p 2 T).2)).2)) (fun (T : Src) (q : Int) => (g__law_row p 2 T) ∧ (g__law_row p 2 ((m__law_row p 2 T).2))) S (rngI 0 (Int.toNat (n : Int))) ∧
    ∃ A : Int → Tb, (∀ v : Int, 0 ≤ v → v < n → BdT p (A v)) ∧ (mapS (fun (T : Src) (q : Int) => (((m__law_row p 2 T).1, (m__law_row p 2 ((m__law_row p 2 T).2)).1), (m__law_row p 2 ((m__law_row p 2 T).2)).2)) S (rngI 0 (Int.toNat (n : Int)))).1 = mp n fun v => rowPair (A v) := by
  obtain ⟨a1, a2⟩ := mapS_all (f := fun (T : Src) (q : Int) => (((m__law_row p 2 T).1, (m__law_row p 2 ((m__law_row p 2 T).2)).1), (m__law_row p 2 ((m__law_row p 2 T).2)).2)) (G := fun (T : Src) (q : Int) => (g__law_row p 2 T) ∧ (g__law_row p 2 ((m__law_row p 2 T).2)))
    (fun y => ∃ t, BdT p t ∧ y = rowPair t) (rngI 0 (Int.toNat (n : Int))) S (fun T x _ => by
      obtain ⟨g1, a, b, ha, hb, e1⟩ := lrow2 hp hp2 T
      obtain ⟨g2, c, d, hc, hd, e2⟩ := lrow2 hp hp2 (m__law_row p 2 T).2
      exact ⟨⟨g1, g2⟩, ((a, b), (c, d)), ⟨ha, hb, hc, hd⟩, Prod.ext e1 e2⟩)
  exact ⟨a1, rows_tb (by rw [mapS_len, rngI_length]; omega) a2⟩
theorem changes_ok (hp : 2 ≤ p) (hp2 : p ≤ 100) {n : Nat} (hn1 : 1 ≤ n) (hn : n ≤ 10) (S : Src) : g__law_changes_right p n S ∧ (m__law_changes_right p n S).1 = true := by
  have r2 : rngI 0 (Int.toNat (2 : Int)) = [0, 1] := by decide
  obtain ⟨d1, A, hA, eA⟩ := draw_tbs (by omega : 1 ≤ p) hp2 n S
  generalize hS1 : (mapS (fun (T : Src) (q : Int) => (((m__law_row p 2 T).1, (m__law_row p 2 ((m__law_row p 2 T).2)).1), (m__law_row p 2 ((m__law_row p 2 T).2)).2)) S (rngI 0 (Int.toNat (n : Int)))).2 = S1 at *
  obtain ⟨d2, B, hB, eB⟩ := draw_tbs (by omega : 1 ≤ p) hp2 n S1
  generalize hS2 : (mapS (fun (T : Src) (q : Int) => (((m__law_row p 2 T).1, (m__law_row p 2 ((m__law_row p 2 T).2)).1), (m__law_row p 2 ((m__law_row p 2 T).2)).2)) S1 (rngI 0 (Int.toNat (n : Int)))).2 = S2 at *
  have f1 : m__law_changes_right_3 p n ([], S) 0 = ([mp n fun v => rowPair (A v)], S1) := by
    show ([(mapS _ S (rngI 0 (Int.toNat (n : Int)))).1], (mapS _ S (rngI 0 (Int.toNat (n : Int)))).2) = _
    rw [eA, hS1]
  have f2 : m__law_changes_right_3 p n ([mp n fun v => rowPair (A v)], S1) 1 = ([mp n fun v => rowPair (A v), mp n fun v => rowPair (B v)], S2) := by
    show ([mp n fun v => rowPair (A v), (mapS _ S1 (rngI 0 (Int.toNat (n : Int)))).1], (mapS _ S1 (rngI 0 (Int.toNat (n : Int)))).2) = _
    rw [eB, hS2]
  have F : List.foldl (fun (s : (List (List ((List Int) × (List Int)))) × Src) (q : Int) => m__law_changes_right_3 p n s q) ([], S) (rngI 0 (Int.toNat (2 : Int))) = ([mp n fun v => rowPair (A v), mp n fun v => rowPair (B v)], S2) := by
    rw [r2]
    show m__law_changes_right_3 p n (m__law_changes_right_3 p n ([], S) 0) 1 = _
    rw [f1, f2]
  obtain ⟨a1, x, T1, hx, e1⟩ := lrow_eq n (by omega : 1 ≤ p) hp2 (by omega) S2
  obtain ⟨a2, z, T2, hz, e2⟩ := lrow_eq n (by omega : 1 ≤ p) hp2 (by omega) T1
  obtain ⟨a3, y, T3, hy, e3⟩ := lrow_eq n (by omega : 1 ≤ p) hp2 (by omega) T2
  obtain ⟨a4, w, T4, hw, e4⟩ := lrow_eq n (by omega : 1 ≤ p) hp2 (by omega) T3
  have M : mapS (fun (T : Src) (q : Int) => (((m__law_row p n T).1, (m__law_row p n ((m__law_row p n T).2)).1), (m__law_row p n ((m__law_row p n T).2)).2)) S2 (rngI 0 (Int.toNat (2 : Int))) = ([(mp n x, mp n z), (mp n y, mp n w)], T4) := by
    rw [r2]
    simp only [mapS, e1, e2, e3, e4]
  obtain ⟨k1, k2⟩ := core (y := y) (w := w) hp hp2 hn1 hn hA hB hx hz T4
  have G21 : g__law_changes_right_21 p n ([mp n fun v => rowPair (A v), mp n fun v => rowPair (B v)], S2) (mp n fun v => rowPair (A v), mp n fun v => rowPair (B v)) := by
    refine ⟨⟨by decide, by decide⟩, ?_, ?_, ?_⟩
    · rw [r2]
      refine ⟨⟨a1, by rw [e1]; exact a2⟩, ?_, trivial⟩
      simp only [e1, e2, e3]
      exact ⟨a3, a4⟩
    · show List.length ((mapS (fun (T : Src) (q : Int) => (((m__law_row p n T).1, (m__law_row p n ((m__law_row p n T).2)).1), (m__law_row p n ((m__law_row p n T).2)).2)) S2 (rngI 0 (Int.toNat (2 : Int)))).1) = 2
      rw [M]; rfl
    · show g__law_changes_right_20 p n _ ((getI ((mapS (fun (T : Src) (q : Int) => (((m__law_row p n T).1, (m__law_row p n ((m__law_row p n T).2)).1), (m__law_row p n ((m__law_row p n T).2)).2)) S2 (rngI 0 (Int.toNat (2 : Int)))).1) 0), (getI ((mapS (fun (T : Src) (q : Int) => (((m__law_row p n T).1, (m__law_row p n ((m__law_row p n T).2)).1), (m__law_row p n ((m__law_row p n T).2)).2)) S2 (rngI 0 (Int.toNat (2 : Int)))).1) 1)) (mapS (fun (T : Src) (q : Int) => (((m__law_row p n T).1, (m__law_row p n ((m__law_row p n T).2)).1), (m__law_row p n ((m__law_row p n T).2)).2)) S2 (rngI 0 (Int.toNat (2 : Int)))).2
      rw [M]; exact k1
  have M21 : m__law_changes_right_21 p n ([mp n fun v => rowPair (A v), mp n fun v => rowPair (B v)], S2) (mp n fun v => rowPair (A v), mp n fun v => rowPair (B v)) = (true, T4) := by
    show m__law_changes_right_20 p n _ ((getI ((mapS (fun (T : Src) (q : Int) => (((m__law_row p n T).1, (m__law_row p n ((m__law_row p n T).2)).1), (m__law_row p n ((m__law_row p n T).2)).2)) S2 (rngI 0 (Int.toNat (2 : Int)))).1) 0), (getI ((mapS (fun (T : Src) (q : Int) => (((m__law_row p n T).1, (m__law_row p n ((m__law_row p n T).2)).1), (m__law_row p n ((m__law_row p n T).2)).2)) S2 (rngI 0 (Int.toNat (2 : Int)))).1) 1)) (mapS (fun (T : Src) (q : Int) => (((m__law_row p n T).1, (m__law_row p n ((m__law_row p n T).2)).1), (m__law_row p n ((m__law_row p n T).2)).2)) S2 (rngI 0 (Int.toNat (2 : Int)))).2 = _
    rw [M]; exact k2
  have rgn : RngOk (n : Int) := ⟨by omega, by omega⟩
  constructor
  · refine ⟨⟨by decide, by decide⟩, ?_, ?_⟩
    · rw [r2]
      refine ⟨⟨rgn, d1, by show (0 : Nat) < 16777216; decide, trivial⟩, ?_⟩
      show FG _ _ [1] (m__law_changes_right_3 p n ([], S) 0)
      rw [f1]
      exact ⟨⟨rgn, d2, by show (1 : Nat) < 16777216; decide, trivial⟩, trivial⟩
    · rw [F]
      exact ⟨rfl, G21⟩
  · show (m__law_changes_right_22 p n (List.foldl (fun (s : (List (List ((List Int) × (List Int)))) × Src) (q : Int) => m__law_changes_right_3 p n s q) ([], S) (rngI 0 (Int.toNat (2 : Int))))).1 = true
    rw [F]
    show (m__law_changes_right_21 p n _ (mp n fun v => rowPair (A v), mp n fun v => rowPair (B v))).1 = true
    rw [M21]
end
end L2.Ev

set_option Elab.async false
set_option linter.all false
set_option maxRecDepth 100000
/-! Xm12: law k13, its laps. -/
namespace L2.Ev
open PySem PySem.Spec PyProof.Rows
section
variable {p : Int} {n : Nat} {f : Int → Int → Int} {x y z : Int → Int} {S : Src} {lap : Int}
theorem mem_ok (hp : 2 ≤ p) (hp2 : p ≤ 100) (hn : n ≤ 10) (G : Good p f) (hz : Bd p n z) (w : T3 (List Int) (List Int) (List Int)) (hw : w.a = mp n x) (u : Unit) :
    g_law_7 p (webF p n f) (Tab n f) (roomR n f) w S u (mp n x, mp n z) ∧ m_law_7 p (webF p n f) (Tab n f) (roomR n f) w S u (mp n x, mp n z) = .ok () := by
  have pos : 0 < p := by omega
  obtain ⟨a1, a2⟩ := led_eq (n := n) (x := x) pos hp2 G
  obtain ⟨b1, b2⟩ := inroom_eq (n := n) (x := x) (z := z) pos hp2 G (by omega)
  have hF : ∀ v : Int, g_form_of p (mp n fun u => if u = v then 1 else 0, mp n (f v)) (mp n x, mp n z) ∧ m_form_of p (mp n fun u => if u = v then 1 else 0, mp n (f v)) (mp n x, mp n z) = frm p n (fun u => if u = v then 1 else 0) (f v) x z :=
    fun v => form_eq pos hp2 (unit_Bd hp v) (rows_Bd G v)
  have N := noughts (f := f) (x := x) (fun q => m_form_of p q (mp n x, mp n z)) pos hz (roomR n f) rfl (fun v _ _ => (hF v).2)
  have e : decide (m__law_led_row p (Tab n f) w.a = (mp n x, mp n z).2) = decide (mp n (led p n f x) = mp n z) := by rw [hw, a2]
  have ok2 : ∀ a b : Bool, RpOk (PyData.list [enc a, enc b]) := fun a b => (Sh_lst (W := 100) (K := 1) (m := 2) (all2 (Sh_bool a) (Sh_bool b)) (Nat.le_refl 2) (by decide) (by decide)).ok
  have D : decide ((rp (PyData.list [(enc (m_is_in_room (webF p n f) (mp n x, mp n z))), (enc (decide (mp n (led p n f x) = mp n z)))])) ≠ (rp (PyData.list [(enc (decide (mp n (led p n f x) = mp n z))), (enc (decide (mp n (led p n f x) = mp n z)))]))) = false := by
    rw [b2]; exact dne rfl
  have G5 : g_law_5 (webF p n f) S (mp n x, mp n z) (decide (mp n (led p n f x) = mp n z)) (decide (mp n (led p n f x) = mp n z)) := ⟨b1, ok2 _ _, ok2 _ _, fun _ => trivial, fun _ => trivial⟩
  constructor
  · refine ⟨by rw [hw]; exact a1, ?_⟩
    rw [e]
    refine ⟨mp_all fun v _ _ => (hF v).1, ?_⟩
    rw [N]; exact G5
  · unfold m_law_7
    rw [e]
    unfold m_law_6
    rw [N]
    unfold m_law_5
    rw [ifF D]; rfl
theorem cut_tail {α : Type} (F : Int → α) (a : α) (h : 1 ≤ n) : [a] ++ cutL (mp n F) (some 1) Option.none = mp n fun i => if i = 0 then a else F i := by
  obtain ⟨k, rfl⟩ : ∃ k, n = k + 1 := ⟨n - 1, by omega⟩
  have e : cutL (mp (k + 1) F) (some 1) Option.none = (mp (k + 1) F).drop 1 := by
    unfold cutL
    rw [HT.sIx_none, show (1 : Int) = ((1 : Nat) : Int) from rfl, HT.sIx_nat, mp_len, show min 1 (k + 1) = 1 by omega]
    exact List.take_of_length_le (by rw [List.length_drop, mp_len]; omega)
  rw [e]
  unfold mp
  rw [rngI_cons, List.map_cons, List.map_cons]
  show a :: List.map F (rngI (0 + 1) k) = (if (0 : Int) = 0 then a else F 0) :: _
  rw [if_pos rfl]
  congr 1
  refine List.map_congr_left fun i hi => ?_
  rw [mem_rngI] at hi
  rw [if_neg (by omega)]
theorem tail_ok (hp : 2 ≤ p) (hp2 : p ≤ 100) (hn1 : 1 ≤ n) (hn : n ≤ 10) (G : Good p f) (hb : lap < 4 → p.toNat ^ n ≤ 1000) :
    g_law_27 lap p n (webF p n f) (roomR n f) S () ∧ ∃ S', m_law_27 lap p n (webF p n f) (roomR n f) S () = .ok S' := by
  obtain ⟨c1, c2⟩ := changes_ok hp hp2 hn1 hn S
  have G26 : g_law_26 p n S () := ⟨c1, fun _ => trivial, fun _ => trivial⟩
  have M26 : m_law_26 p n S () = .ok (m__law_changes_right p n S).2 := by
    unfold m_law_26
    rw [c2]; rfl
  by_cases h : lap < 4
  · obtain ⟨e1, e2⟩ := every_right hp hp2 G (by omega) (hb h) S
    have hd := decide_eq_true h
    constructor
    · refine ⟨fun _ => e1, fun _ => trivial, ?_⟩
      rw [if_pos hd, e2]; exact G26
    · refine ⟨(m__law_changes_right p n S).2, ?_⟩
      unfold m_law_27
      rw [if_pos hd, e2]; exact M26
  · have hd : decide (lap < 4) = false := decide_eq_false h
    constructor
    · refine ⟨fun z => absurd (hd.symm.trans z) Bool.false_ne_true, fun _ => trivial, ?_⟩
      rw [ifF hd]; exact G26
    · refine ⟨(m__law_changes_right p n S).2, ?_⟩
      unfold m_law_27
      rw [ifF hd]; exact M26
theorem mid_ok (hp : 2 ≤ p) (hp2 : p ≤ 100) (hn1 : 1 ≤ n) (hn : n ≤ 10) (G : Good p f) (hb : lap < 4 → p.toNat ^ n ≤ 1000) (hx : Bd p n x) (hy : Bd p n y) (hz : Bd p n z) {c : Int} (hc : 0 ≤ c ∧ c < p) :
    g_law_33 lap p n (webF p n f) (Tab n f) (roomR n f) (T3.mk (mp n x) (mp n y) (mp n z)) ((mp n x, mp n (led p n f x)), (mp n y, mp n (led p n f y))) c S ∧
    ∃ S', m_law_33 lap p n (webF p n f) (Tab n f) (roomR n f) (T3.mk (mp n x) (mp n y) (mp n z)) ((mp n x, mp n (led p n f x)), (mp n y, mp n (led p n f y))) c S = .ok S' := by
  have pos : 0 < p := by omega
  obtain ⟨t1, t2⟩ := rtimes_eq (n := n) (x := y) pos hp2 hc
  obtain ⟨u1, u2⟩ := rsum_eq (n := n) (x := x) (y := fun i => (c * y i) % p) pos
  obtain ⟨v1, v2⟩ := rtimes_eq (n := n) (x := led p n f y) pos hp2 hc
  obtain ⟨w1, w2⟩ := rsum_eq (n := n) (x := led p n f x) (y := fun i => (c * led p n f y i) % p) pos
  have lx := led_Bd (n := n) (f := f) (x := x) pos
  have ly := led_Bd (n := n) (f := f) (x := y) pos
  obtain ⟨i1, i2⟩ := inroom_eq (n := n) (x := x) (z := led p n f x) pos hp2 G (by omega)
  obtain ⟨j1, j2⟩ := inroom_eq (n := n) (x := y) (z := led p n f y) pos hp2 G (by omega)
  obtain ⟨k1, k2⟩ := inroom_eq (n := n) (x := fun i => (x i + (c * y i) % p) % p) (z := fun u => (led p n f x u + (c * led p n f y u) % p) % p) pos hp2 G (by omega)
  obtain ⟨o1, o2⟩ := form_eq (n := n) (x := x) (z := led p n f x) (y := y) (w := led p n f y) pos hp2 hx lx
  obtain ⟨q1, q2⟩ := form_eq (n := n) (x := x) (z := z) (y := y) (w := led p n f y) pos hp2 hx hz
  obtain ⟨r1, r2⟩ := lform_eq (n := n) (x := x) (z := z) (y := y) (w := led p n f y) pos hp2 hx hz
  -- the three members looked at
  have g0 : getI (mp n (led p n f x)) 0 = led p n f x 0 := getI_map_rng (by decide) (by omega)
  have in0 : InB (mp n (led p n f x)) 0 := inB_rng (by decide) (by omega)
  have ct := cut_tail (n := n) (led p n f x) ((led p n f x 0 + 1) % p) hn1
  have bz' : Bd p n fun i => if i = 0 then (led p n f x 0 + 1) % p else led p n f x i := fun i a b => by
    show 0 ≤ (if i = 0 then (led p n f x 0 + 1) % p else led p n f x i) ∧ (if i = 0 then (led p n f x 0 + 1) % p else led p n f x i) < p
    split
    · exact mdb pos _
    · exact lx i a b
  have three : ∀ q ∈ [(mp n x, mp n z), (mp n x, mp n (led p n f y)), (mp n x, mp n fun i => if i = 0 then (led p n f x 0 + 1) % p else led p n f x i)], ∀ u : Unit,
      g_law_7 p (webF p n f) (Tab n f) (roomR n f) (T3.mk (mp n x) (mp n y) (mp n z)) S u q ∧ m_law_7 p (webF p n f) (Tab n f) (roomR n f) (T3.mk (mp n x) (mp n y) (mp n z)) S u q = .ok () := fun q hq u => by
    have hq : q = (mp n x, mp n z) ∨ q = (mp n x, mp n (led p n f y)) ∨ q = (mp n x, mp n fun i => if i = 0 then (led p n f x 0 + 1) % p else led p n f x i) := by simpa using hq
    rcases hq with rfl | rfl | rfl
    · exact mem_ok hp hp2 hn G hz _ rfl u
    · exact mem_ok hp hp2 hn G ly _ rfl u
    · exact mem_ok hp hp2 hn G bz' _ rfl u
  obtain ⟨F1, ⟨⟩, F2, _⟩ := foldX_list (P := fun u q => g_law_7 p (webF p n f) (Tab n f) (roomR n f) (T3.mk (mp n x) (mp n y) (mp n z)) S u q) (f := fun u q => m_law_7 p (webF p n f) (Tab n f) (roomR n f) (T3.mk (mp n x) (mp n y) (mp n z)) S u q) (fun (_ : Unit) => True)
    [(mp n x, mp n z), (mp n x, mp n (led p n f y)), (mp n x, mp n fun i => if i = 0 then (led p n f x 0 + 1) % p else led p n f x i)] (n0 := ()) trivial (fun q u hq _ => ⟨(three q hq u).1, (), (three q hq u).2, trivial⟩)
  obtain ⟨T1, S', T2⟩ := tail_ok (S := S) hp hp2 hn1 hn G hb
  have G29 : g_law_29 lap p n (webF p n f) (Tab n f) (roomR n f) (T3.mk (mp n x) (mp n y) (mp n z)) ((mp n x, mp n (led p n f x)), (mp n y, mp n (led p n f y))) S := by
    unfold g_law_29
    show InB (mp n (led p n f x)) 0 ∧ 0 < p ∧ ((1 : Nat) : Int) + (List.length (cutL (mp n (led p n f x)) (some 1) Option.none) : Int) ≤ 16777216 ∧
      FX _ _ [(mp n x, mp n z), (mp n x, mp n (led p n f y)), (mp n x, [(getI (mp n (led p n f x)) 0 + 1) % p] ++ cutL (mp n (led p n f x)) (some 1) Option.none)] () ∧
      okX (foldX _ [(mp n x, mp n z), (mp n x, mp n (led p n f y)), (mp n x, [(getI (mp n (led p n f x)) 0 + 1) % p] ++ cutL (mp n (led p n f x)) (some 1) Option.none)] ()) _
    have hl : 1 + (cutL (mp n (led p n f x)) (some 1) Option.none).length = n := by
      have := congrArg List.length ct
      rw [List.length_append, mp_len] at this
      exact this
    rw [g0, ct]
    exact ⟨in0, pos, by omega, F1, by rw [show foldX _ _ _ = _ from F2]; exact T1⟩
  have M29 : m_law_29 lap p n (webF p n f) (Tab n f) (roomR n f) (T3.mk (mp n x) (mp n y) (mp n z)) ((mp n x, mp n (led p n f x)), (mp n y, mp n (led p n f y))) S = .ok S' := by
    unfold m_law_29
    show bindXX (foldX _ [(mp n x, mp n z), (mp n x, mp n (led p n f y)), (mp n x, [(getI (mp n (led p n f x)) 0 + 1) % p] ++ cutL (mp n (led p n f x)) (some 1) Option.none)] ()) _ = _
    rw [g0, ct, show foldX _ _ _ = _ from F2]; exact T2
  have D31 : (decide ((m_form_of p (mp n x, mp n (led p n f x)) (mp n y, mp n (led p n f y))) ≠ 0) || decide ((m_form_of p (mp n x, mp n z) (mp n y, mp n (led p n f y))) ≠ (m__law_form p (mp n x, mp n z) (mp n y, mp n (led p n f y))))) = false := by
    rw [o2, q2, r2, frm_led G, dne rfl, dne rfl]; rfl
  have G31 : g_law_31 lap p n (webF p n f) (Tab n f) (roomR n f) (T3.mk (mp n x) (mp n y) (mp n z)) ((mp n x, mp n (led p n f x)), (mp n y, mp n (led p n f y))) S :=
    ⟨o1, fun _ => ⟨q1, r1⟩, fun _ => trivial, fun _ => G29⟩
  have M31 : m_law_31 lap p n (webF p n f) (Tab n f) (roomR n f) (T3.mk (mp n x) (mp n y) (mp n z)) ((mp n x, mp n (led p n f x)), (mp n y, mp n (led p n f y))) S = .ok S' := by
    unfold m_law_31
    rw [ifF D31]; exact M29
  have e3 : List.map (fun (q : List Int × List Int) => m_is_in_room (webF p n f) q) [(mp n x, mp n (led p n f x)), (mp n y, mp n (led p n f y)), (mp n (fun i => (x i + (c * y i) % p) % p), mp n (fun u => (led p n f x u + (c * led p n f y u) % p) % p))] = repL 3 ([true] : List Bool) := by
    show [m_is_in_room (webF p n f) (mp n x, mp n (led p n f x)), m_is_in_room (webF p n f) (mp n y, mp n (led p n f y)), m_is_in_room (webF p n f) (mp n (fun i => (x i + (c * y i) % p) % p), mp n (fun u => (led p n f x u + (c * led p n f y u) % p) % p))] = [true, true, true]
    rw [i2, j2, k2, led_both, decide_eq_true rfl, decide_eq_true rfl, decide_eq_true rfl]
  have rep3 : RepOk (List.length ([true] : List Bool)) 3 := ⟨by decide, by decide, by decide⟩
  have G32 : g_law_32 lap p n (webF p n f) (Tab n f) (roomR n f) (T3.mk (mp n x) (mp n y) (mp n z)) ((mp n x, mp n (led p n f x)), (mp n y, mp n (led p n f y))) S (mp n (fun i => (x i + (c * y i) % p) % p), mp n (fun u => (led p n f x u + (c * led p n f y u) % p) % p)) := by
    refine ⟨fun q hq => ?_, rep3, fun _ => trivial, fun _ => G31⟩
    have hq : q = (mp n x, mp n (led p n f x)) ∨ q = (mp n y, mp n (led p n f y)) ∨ q = (mp n (fun i => (x i + (c * y i) % p) % p), mp n (fun u => (led p n f x u + (c * led p n f y u) % p) % p)) := by simpa using hq
    rcases hq with rfl | rfl | rfl
    · exact i1
    · exact j1
    · exact k1
  have M32 : m_law_32 lap p n (webF p n f) (Tab n f) (roomR n f) (T3.mk (mp n x) (mp n y) (mp n z)) ((mp n x, mp n (led p n f x)), (mp n y, mp n (led p n f y))) S (mp n (fun i => (x i + (c * y i) % p) % p), mp n (fun u => (led p n f x u + (c * led p n f y u) % p) % p)) = .ok S' := by
    unfold m_law_32
    rw [ifF (dne e3)]; exact M31
  constructor
  · refine ⟨t1, ?_, v1, ?_, ?_⟩
    · show g_row_sum p (mp n x) (m_row_times p c (mp n y))
      rw [t2]; exact u1
    · show g_row_sum p (mp n (led p n f x)) (m_row_times p c (mp n (led p n f y)))
      rw [v2]; exact w1
    · show g_law_32 _ _ _ _ _ _ _ _ _ (m_row_sum p (mp n x) (m_row_times p c (mp n y)), m_row_sum p (mp n (led p n f x)) (m_row_times p c (mp n (led p n f y))))
      rw [t2, u2, v2, w2]; exact G32
  · refine ⟨S', ?_⟩
    show m_law_32 _ _ _ _ _ _ _ _ _ (m_row_sum p (mp n x) (m_row_times p c (mp n y)), m_row_sum p (mp n (led p n f x)) (m_row_times p c (mp n (led p n f y)))) = _
    rw [t2, u2, v2, w2]; exact M32
end
end L2.Ev

set_option Elab.async false
set_option linter.all false
set_option maxRecDepth 100000
/-! Xm13: law k13. -/
namespace L2.Ev
open PySem PySem.Spec PyProof.Rows
section
variable {p : Int} {n : Nat} {f : Int → Int → Int} {S : Src} {lap : Int}
theorem due_eq : List.map (fun (q : Int) => ((List.map (fun (u : Int) => (if decide (u = q) = true then (1 : Int) else 0)) (rngI 0 (Int.toNat (n : Int)))), (getI (Tab n f) q))) (rngI 0 (Int.toNat (n : Int))) = roomR n f := by
  rw [Int.toNat_natCast]
  refine mp_congr fun v v0 v1 => ?_
  rw [Tab_row v0 v1]
  refine Prod.ext (mp_congr fun u _ _ => ?_) rfl
  by_cases h : u = v
  · rw [if_pos (decide_eq_true h), if_pos h]
  · rw [if_neg (fun z => h (of_decide_eq_true z)), if_neg h]
theorem Sh_room (hp : 2 ≤ p) (hp2 : p ≤ 100) (hn : n ≤ 10) (G : Good p f) : Sh (enc (roomR n f)) 2184 3 :=
  Sh_tup (m := 10) (mem_encs (mp_all fun v _ _ => Sh_mem hp2 hn (unit_Bd hp v) (rows_Bd G v))) (by rw [len_encs, mp_len]; exact hn) (by decide) (by decide)
theorem body_ok (hp : 2 ≤ p) (hp2 : p ≤ 100) (hn1 : 1 ≤ n) (hn : n ≤ 10) (G : Good p f) (hb : lap < 4 → p.toNat ^ n ≤ 1000) :
    g_law_41 lap p n (webF p n f) S ∧ ∃ S', m_law_41 lap p n (webF p n f) S = .ok S' := by
  have pos : 0 < p := by omega
  have r3 : rngI 0 (Int.toNat (3 : Int)) = [0, 1, 2] := by decide
  obtain ⟨t1, t2⟩ := ltable_eq (n := n) G (by omega)
  obtain ⟨r1, r2⟩ := room_eq (n := n) G (by omega)
  obtain ⟨s1, s2⟩ := table_of_eq (n := n) G (by omega)
  obtain ⟨a1, x, T1, hx, e1⟩ := lrow_eq n (by omega : 1 ≤ p) hp2 (by omega) S
  obtain ⟨a2, y, T2, hy, e2⟩ := lrow_eq n (by omega : 1 ≤ p) hp2 (by omega) T1
  obtain ⟨a3, z, T3', hz, e3⟩ := lrow_eq n (by omega : 1 ≤ p) hp2 (by omega) T2
  have M : mapS (fun (T : Src) (q : Int) => ((m__law_row p n T).1, (m__law_row p n T).2)) S (rngI 0 (Int.toNat (3 : Int))) = ([mp n x, mp n y, mp n z], T3') := by
    rw [r3]
    simp only [mapS, e1, e2, e3]
  obtain ⟨l1, l2⟩ := led_eq (n := n) (x := x) pos hp2 G
  obtain ⟨k1, k2⟩ := led_eq (n := n) (x := y) pos hp2 G
  have hc : 0 ≤ (m__law_pick p T3').1 ∧ (m__law_pick p T3').1 < p := pickB_bd T3' (by omega)
  obtain ⟨c1, S', c2⟩ := mid_ok (S := (m__law_pick p T3').2) hp hp2 hn1 hn G hb hx hy hz hc
  have G35 : g_law_35 lap p n (webF p n f) (Tab n f) (roomR n f) (T3.mk (mp n x) (mp n y) (mp n z)) T3' := by
    refine ⟨l1, k1, ?_⟩
    show g_law_34 _ _ _ _ _ _ _ _ ((mp n x, m__law_led_row p (Tab n f) (mp n x)), (mp n y, m__law_led_row p (Tab n f) (mp n y)))
    rw [l2, k2]
    exact ⟨by show p < 1073741824; omega, c1⟩
  have M35 : m_law_35 lap p n (webF p n f) (Tab n f) (roomR n f) (T3.mk (mp n x) (mp n y) (mp n z)) T3' = .ok S' := by
    show m_law_34 _ _ _ _ _ _ _ _ ((mp n x, m__law_led_row p (Tab n f) (mp n x)), (mp n y, m__law_led_row p (Tab n f) (mp n y))) = _
    rw [l2, k2]
    exact c2
  have G37 : g_law_37 lap p n (webF p n f) S (Tab n f) (roomR n f) := by
    refine ⟨⟨by decide, by decide⟩, ?_, ?_, ?_⟩
    · rw [r3]
      refine ⟨a1, ?_⟩
      simp only [e1]
      refine ⟨a2, ?_⟩
      simp only [e2]
      exact ⟨a3, trivial⟩
    · show List.length (mapS (fun (T : Src) (q : Int) => ((m__law_row p n T).1, (m__law_row p n T).2)) S (rngI 0 (Int.toNat (3 : Int)))).1 = 3
      rw [M]; rfl
    · show g_law_35 _ _ _ _ _ _ (T3.mk (getI (mapS (fun (T : Src) (q : Int) => ((m__law_row p n T).1, (m__law_row p n T).2)) S (rngI 0 (Int.toNat (3 : Int)))).1 0) (getI (mapS (fun (T : Src) (q : Int) => ((m__law_row p n T).1, (m__law_row p n T).2)) S (rngI 0 (Int.toNat (3 : Int)))).1 1) (getI (mapS (fun (T : Src) (q : Int) => ((m__law_row p n T).1, (m__law_row p n T).2)) S (rngI 0 (Int.toNat (3 : Int)))).1 2)) (mapS (fun (T : Src) (q : Int) => ((m__law_row p n T).1, (m__law_row p n T).2)) S (rngI 0 (Int.toNat (3 : Int)))).2
      rw [M]; exact G35
  have M37 : m_law_37 lap p n (webF p n f) S (Tab n f) (roomR n f) = .ok S' := by
    show m_law_35 _ _ _ _ _ _ (T3.mk (getI (mapS (fun (T : Src) (q : Int) => ((m__law_row p n T).1, (m__law_row p n T).2)) S (rngI 0 (Int.toNat (3 : Int)))).1 0) (getI (mapS (fun (T : Src) (q : Int) => ((m__law_row p n T).1, (m__law_row p n T).2)) S (rngI 0 (Int.toNat (3 : Int)))).1 1) (getI (mapS (fun (T : Src) (q : Int) => ((m__law_row p n T).1, (m__law_row p n T).2)) S (rngI 0 (Int.toNat (3 : Int)))).1 2)) (mapS (fun (T : Src) (q : Int) => ((m__law_row p n T).1, (m__law_row p n T).2)) S (rngI 0 (Int.toNat (3 : Int)))).2 = _
    rw [M]; exact M35
  have D38 : (decide ((rp (enc (roomR n f))) ≠ (rp (enc (roomR n f)))) || decide ((m_table_of (webF p n f)) ≠ (List.map (fun (q : List Int) => q) (Tab n f)))) = false := by
    rw [s2, dne rfl]
    exact dne (List.map_id' _).symm
  have G38 : g_law_38 lap p n (webF p n f) S (Tab n f) (roomR n f) (roomR n f) := ⟨(Sh_room hp hp2 hn G).ok, (Sh_room hp hp2 hn G).ok, fun _ => s1, fun _ => trivial, fun _ => G37⟩
  have M38 : m_law_38 lap p n (webF p n f) S (Tab n f) (roomR n f) (roomR n f) = .ok S' := by
    unfold m_law_38
    rw [ifF D38]; exact M37
  have rgn : RngOk (n : Int) := ⟨by omega, by omega⟩
  constructor
  · refine ⟨t1, ?_⟩
    rw [t2]
    refine ⟨r1, ?_⟩
    rw [r2]
    refine ⟨rgn, fun q hq => ?_, ?_⟩
    · rw [mem_rngI] at hq
      exact ⟨rgn, Tab_inB hq.1 (by omega)⟩
    · rw [due_eq]; exact G38
  · refine ⟨S', ?_⟩
    show m_law_40 lap p n (webF p n f) S (m__law_table (webF p n f)) = _
    rw [t2]
    show m_law_39 lap p n (webF p n f) S (Tab n f) (m_room_rows (webF p n f)) = _
    rw [r2]
    show m_law_38 lap p n (webF p n f) S (Tab n f) (roomR n f) _ = _
    rw [due_eq]; exact M38
end
theorem lof_eq (S : Src) : g__law_of ([2, 3, 5, 7] : List Int) S ∧ ∃ p S', (p = 2 ∨ p = 3 ∨ p = 5 ∨ p = 7) ∧ m__law_of ([2, 3, 5, 7] : List Int) S = (p, S') := by
  obtain ⟨h0, h1⟩ := pickB_bd S (m := 4) (by decide)
  have hp : (pickB S 4).1 = 0 ∨ (pickB S 4).1 = 1 ∨ (pickB S 4).1 = 2 ∨ (pickB S 4).1 = 3 := by omega
  constructor
  · refine ⟨by show (4 : Int) < 1073741824; decide, ?_⟩
    show InB ([2, 3, 5, 7] : List Int) (pickB S 4).1
    exact ⟨by show -(4 : Int) ≤ _; omega, by show _ < (4 : Int); omega⟩
  · refine ⟨_, (pickB S 4).2, ?_, rfl⟩
    show getI ([2, 3, 5, 7] : List Int) (pickB S 4).1 = 2 ∨ getI ([2, 3, 5, 7] : List Int) (pickB S 4).1 = 3 ∨ getI ([2, 3, 5, 7] : List Int) (pickB S 4).1 = 5 ∨ getI ([2, 3, 5, 7] : List Int) (pickB S 4).1 = 7
    rcases hp with h | h | h | h <;> rw [h] <;> decide
theorem dix_fin : ∀ q ∈ ([2, 3, 5, 7] : List Int), DixOk [((2 : Int), (5 : Int)), ((3 : Int), (3 : Int)), ((5 : Int), (2 : Int)), ((7 : Int), (2 : Int))] q ∧ 1 ≤ dixI [((2 : Int), (5 : Int)), ((3 : Int), (3 : Int)), ((5 : Int), (2 : Int)), ((7 : Int), (2 : Int))] q ∧
    dixI [((2 : Int), (5 : Int)), ((3 : Int), (3 : Int)), ((5 : Int), (2 : Int)), ((7 : Int), (2 : Int))] q ≤ 5 ∧ q.toNat ^ (dixI [((2 : Int), (5 : Int)), ((3 : Int), (3 : Int)), ((5 : Int), (2 : Int)), ((7 : Int), (2 : Int))] q).toNat ≤ 1000 := by
  unfold DixOk
  decide +kernel
theorem lap_ok (S : Src) (lap : Int) : g_law_44 S lap ∧ ∃ S', m_law_44 S lap = .ok S' := by
  obtain ⟨h1, p, S1, hp, h2⟩ := lof_eq S
  have hm : p ∈ ([2, 3, 5, 7] : List Int) := by
    rcases hp with rfl | rfl | rfl | rfl <;> decide
  have hp1 : 2 ≤ p ∧ p ≤ 7 := by
    rcases hp with rfl | rfl | rfl | rfl <;> decide
  obtain ⟨d1, d2, d3, d4⟩ := dix_fin p hm
  generalize hD : dixI [((2 : Int), (5 : Int)), ((3 : Int), (3 : Int)), ((5 : Int), (2 : Int)), ((7 : Int), (2 : Int))] p = D at d2 d3 d4
  have hm2 : ∃ m : Int, m = (if decide (lap < (4 : Int)) = true then D else (8 : Int)) ∧ 1 ≤ m ∧ m ≤ 8 ∧ (lap < 4 → m = D) := by
    by_cases h : lap < 4
    · exact ⟨D, by rw [if_pos (decide_eq_true h)], d2, by omega, fun _ => rfl⟩
    · exact ⟨8, by rw [if_neg (fun z => h (of_decide_eq_true z))], by decide, by decide, fun z => absurd z h⟩
  obtain ⟨m, em, m1, m2, m3⟩ := hm2
  obtain ⟨b0, b1⟩ := pickB_bd S1 m1
  obtain ⟨n, hn⟩ := Int.eq_ofNat_of_zero_le (show 0 ≤ 1 + (pickB S1 m).1 by omega)
  have hn1 : 1 ≤ n := by omega
  have hn2 : n ≤ 8 := by omega
  have hb : lap < 4 → p.toNat ^ n ≤ 1000 := fun h => by
    refine Nat.le_trans (Nat.pow_le_pow_right (by omega) ?_) d4
    have := m3 h
    omega
  have S2 := (pickB S1 m).2
  obtain ⟨w1, f, S3, G, w2⟩ := law_web_eq (p := p) (n := n) (few := (pickB (pickB S1 m).2 3).1) hp1.1 (by omega) (by omega) (pickB (pickB S1 m).2 3).2
  obtain ⟨k1, S4, k2⟩ := body_ok (S := S3) (lap := lap) hp1.1 (by omega) hn1 (by omega) G hb
  have G42 : g_law_42 lap p n (pickB S1 m).2 := by
    refine ⟨by show (3 : Int) < 1073741824; decide, w1, ?_⟩
    show g_law_41 lap p n (m__law_web p n (pickB (pickB S1 m).2 3).1 (pickB (pickB S1 m).2 3).2).1 (m__law_web p n (pickB (pickB S1 m).2 3).1 (pickB (pickB S1 m).2 3).2).2
    rw [w2]; exact k1
  have M42 : m_law_42 lap p n (pickB S1 m).2 = .ok S4 := by
    show m_law_41 lap p n (m__law_web p n (pickB (pickB S1 m).2 3).1 (pickB (pickB S1 m).2 3).2).1 (m__law_web p n (pickB (pickB S1 m).2 3).1 (pickB (pickB S1 m).2 3).2).2 = _
    rw [w2]; exact k2
  have G43 : g_law_43 lap p S1 := by
    unfold g_law_43
    rw [hD, ← em]
    refine ⟨fun _ => d1, by show m < 1073741824; omega, ?_⟩
    show g_law_42 lap p (1 + (pickB S1 m).1) (pickB S1 m).2
    rw [hn]; exact G42
  have M43 : m_law_43 lap p S1 = .ok S4 := by
    unfold m_law_43
    rw [hD, ← em]
    show m_law_42 lap p (1 + (pickB S1 m).1) (pickB S1 m).2 = _
    rw [hn]; exact M42
  constructor
  · refine ⟨h1, ?_⟩
    rw [h2]; exact G43
  · refine ⟨S4, ?_⟩
    unfold m_law_44
    rw [h2]; exact M43
def f01 (u v : Int) : Int := if (u = 0 ∧ v = 1) ∨ (u = 1 ∧ v = 0) then 1 else 0
theorem good01 : Good 2 f01 := by
  refine ⟨fun u v => ?_, fun u => ?_, fun u v => ?_, fun u v => ?_⟩
  · unfold f01
    by_cases h : (u = 0 ∧ v = 1) ∨ (u = 1 ∧ v = 0)
    · rw [if_pos h, if_pos (h.elim (fun z => .inr ⟨z.2, z.1⟩) fun z => .inl ⟨z.2, z.1⟩)]
    · rw [if_neg h, if_neg (fun z => h (z.elim (fun z => .inr ⟨z.2, z.1⟩) fun z => .inl ⟨z.2, z.1⟩))]
  · unfold f01
    rw [if_neg (by omega)]
  · unfold f01
    split <;> decide
  · unfold f01
    split <;> decide
theorem web01 : webF 2 2 f01 = T3.mk (2 : Int) (2 : Int) [T3.mk (0 : Int) (1 : Int) (1 : Int)] := by
  show T3.mk (2 : Int) ((2 : Nat) : Int) (tiesF 2 f01) = _
  rw [show tiesF 2 f01 = [T3.mk (0 : Int) (1 : Int) (1 : Int)] by rfl]; rfl
theorem law_true (ns : List Int) (h : ns.length ≤ 63) : g_law (openS ns) ∧ (m_law (openS ns)).1 = true := by
  have e6 : Int.toNat (6 : Int) = 6 := rfl
  obtain ⟨k1, S', k2, _⟩ := foldX_rng (P := fun S q => g_law_44 S q) (f := fun S q => m_law_44 S q) (fun _ _ => True) 6 0 (n0 := openS ns) trivial (fun i S _ _ _ => by
    obtain ⟨a, S', b⟩ := lap_ok S i
    exact ⟨a, S', b, trivial⟩)
  obtain ⟨r1, r2⟩ := room_eq (n := 2) good01 (by decide)
  rw [web01] at r1 r2
  constructor
  · refine ⟨⟨by decide, by decide⟩, k1, ?_⟩
    rw [e6, k2]
    exact r1
  · unfold m_law
    rw [e6, k2]
    show (m_law_45 S').1 = true
    unfold m_law_45
    show decide (m_room_rows (T3.mk (2 : Int) (2 : Int) [T3.mk (0 : Int) (1 : Int) (1 : Int)]) = [([(1 : Int), 0], [(0 : Int), 1]), ([(0 : Int), 1], [(1 : Int), 0])]) = true
    rw [r2]
    exact decide_eq_true (by rfl)
end L2.Ev

set_option Elab.async false
set_option linter.all false
set_option maxRecDepth 100000
namespace L2.Ev
open PySem PySem.Spec PyProof.Rows
/-! what the top has written -/
theorem bd__law_source {K : PySem.W.Frag} {f : Addr} {fd : FuncData} (F : Fun K "_law_source" "_law_source" s__law_source f fd) : Binds K fd ["script"] [] := F.binds (ps := ["script"]) fun _ _ _ _ _ _ us hl => match us, hl with | [_], _ => rfl
theorem bd__law_pick {K : PySem.W.Frag} {f : Addr} {fd : FuncData} (F : Fun K "_law_pick" "_law_pick" s__law_pick f fd) : Binds K fd ["source", "many"] [] := F.binds (ps := ["source", "many"]) fun _ _ _ _ _ _ us hl => match us, hl with | [_, _], _ => rfl
theorem bd__law_of {K : PySem.W.Frag} {f : Addr} {fd : FuncData} (F : Fun K "_law_of" "_law_of" s__law_of f fd) : Binds K fd ["source", "some"] [] := F.binds (ps := ["source", "some"]) fun _ _ _ _ _ _ us hl => match us, hl with | [_, _], _ => rfl
theorem bd__law_web {K : PySem.W.Frag} {f : Addr} {fd : FuncData} (F : Fun K "_law_web" "_law_web" s__law_web f fd) : Binds K fd ["source", "p", "n", "few"] [] := F.binds (ps := ["source", "p", "n", "few"]) fun _ _ _ _ _ _ us hl => match us, hl with | [_, _, _, _], _ => rfl
theorem bd__law_table {K : PySem.W.Frag} {f : Addr} {fd : FuncData} (F : Fun K "_law_table" "_law_table" s__law_table f fd) : Binds K fd ["web"] [] := F.binds (ps := ["web"]) fun _ _ _ _ _ _ us hl => match us, hl with | [_], _ => rfl
theorem bd_table_of {K : PySem.W.Frag} {f : Addr} {fd : FuncData} (F : Fun K "table_of" "table_of" s_table_of f fd) : Binds K fd ["web"] [] := F.binds (ps := ["web"]) fun _ _ _ _ _ _ us hl => match us, hl with | [_], _ => rfl
theorem bd_room_rows {K : PySem.W.Frag} {f : Addr} {fd : FuncData} (F : Fun K "room_rows" "room_rows" s_room_rows f fd) : Binds K fd ["web"] [] := F.binds (ps := ["web"]) fun _ _ _ _ _ _ us hl => match us, hl with | [_], _ => rfl
theorem bd__law_row {K : PySem.W.Frag} {f : Addr} {fd : FuncData} (F : Fun K "_law_row" "_law_row" s__law_row f fd) : Binds K fd ["source", "p", "n"] [] := F.binds (ps := ["source", "p", "n"]) fun _ _ _ _ _ _ us hl => match us, hl with | [_, _, _], _ => rfl
theorem bd__law_led_row {K : PySem.W.Frag} {f : Addr} {fd : FuncData} (F : Fun K "_law_led_row" "_law_led_row" s__law_led_row f fd) : Binds K fd ["p", "rows", "x"] [] := F.binds (ps := ["p", "rows", "x"]) fun _ _ _ _ _ _ us hl => match us, hl with | [_, _, _], _ => rfl
theorem bd_row_times {K : PySem.W.Frag} {f : Addr} {fd : FuncData} (F : Fun K "row_times" "row_times" s_row_times f fd) : Binds K fd ["p", "c", "row"] [] := F.binds (ps := ["p", "c", "row"]) fun _ _ _ _ _ _ us hl => match us, hl with | [_, _, _], _ => rfl
theorem bd_row_sum {K : PySem.W.Frag} {f : Addr} {fd : FuncData} (F : Fun K "row_sum" "row_sum" s_row_sum f fd) : Binds K fd ["p", "one", "other"] [] := F.binds (ps := ["p", "one", "other"]) fun _ _ _ _ _ _ us hl => match us, hl with | [_, _, _], _ => rfl
theorem bd_row_dot {K : PySem.W.Frag} {f : Addr} {fd : FuncData} (F : Fun K "row_dot" "row_dot" s_row_dot f fd) : Binds K fd ["p", "one", "other"] [] := F.binds (ps := ["p", "one", "other"]) fun _ _ _ _ _ _ us hl => match us, hl with | [_, _, _], _ => rfl
theorem bd_is_in_room {K : PySem.W.Frag} {f : Addr} {fd : FuncData} (F : Fun K "is_in_room" "is_in_room" s_is_in_room f fd) : Binds K fd ["web", "member"] [] := F.binds (ps := ["web", "member"]) fun _ _ _ _ _ _ us hl => match us, hl with | [_, _], _ => rfl
theorem bd_form_of {K : PySem.W.Frag} {f : Addr} {fd : FuncData} (F : Fun K "form_of" "form_of" s_form_of f fd) : Binds K fd ["p", "one", "other"] [] := F.binds (ps := ["p", "one", "other"]) fun _ _ _ _ _ _ us hl => match us, hl with | [_, _, _], _ => rfl
theorem bd__law_form {K : PySem.W.Frag} {f : Addr} {fd : FuncData} (F : Fun K "_law_form" "_law_form" s__law_form f fd) : Binds K fd ["p", "one", "other"] [] := F.binds (ps := ["p", "one", "other"]) fun _ _ _ _ _ _ us hl => match us, hl with | [_, _, _], _ => rfl
theorem bd__law_all {K : PySem.W.Frag} {f : Addr} {fd : FuncData} (F : Fun K "_law_all" "_law_all" s__law_all f fd) : Binds K fd ["p", "n"] [] := F.binds (ps := ["p", "n"]) fun _ _ _ _ _ _ us hl => match us, hl with | [_, _], _ => rfl
theorem bd_changed_member {K : PySem.W.Frag} {f : Addr} {fd : FuncData} (F : Fun K "changed_member" "changed_member" s_changed_member f fd) : Binds K fd ["p", "change", "member"] [] := F.binds (ps := ["p", "change", "member"]) fun _ _ _ _ _ _ us hl => match us, hl with | [_, _, _], _ => rfl
theorem bd_small_about {K : PySem.W.Frag} {f : Addr} {fd : FuncData} (F : Fun K "small_about" "small_about" s_small_about f fd) : Binds K fd ["p", "table"] [] := F.binds (ps := ["p", "table"]) fun _ _ _ _ _ _ us hl => match us, hl with | [_, _], _ => rfl
theorem bd_change_back {K : PySem.W.Frag} {f : Addr} {fd : FuncData} (F : Fun K "change_back" "change_back" s_change_back f fd) : Binds K fd ["p", "change"] [] := F.binds (ps := ["p", "change"]) fun _ _ _ _ _ _ us hl => match us, hl with | [_, _], _ => rfl
theorem bd__law_changed {K : PySem.W.Frag} {f : Addr} {fd : FuncData} (F : Fun K "_law_changed" "_law_changed" s__law_changed f fd) : Binds K fd ["p", "change", "x", "z"] [] := F.binds (ps := ["p", "change", "x", "z"]) fun _ _ _ _ _ _ us hl => match us, hl with | [_, _, _, _], _ => rfl
theorem bd__law_about {K : PySem.W.Frag} {f : Addr} {fd : FuncData} (F : Fun K "_law_about" "_law_about" s__law_about f fd) : Binds K fd ["p", "change"] [] := F.binds (ps := ["p", "change"]) fun _ _ _ _ _ _ us hl => match us, hl with | [_, _], _ => rfl
theorem bd_small_times {K : PySem.W.Frag} {f : Addr} {fd : FuncData} (F : Fun K "small_times" "small_times" s_small_times f fd) : Binds K fd ["p", "one", "other"] [] := F.binds (ps := ["p", "one", "other"]) fun _ _ _ _ _ _ us hl => match us, hl with | [_, _, _], _ => rfl
theorem bd_change_behind {K : PySem.W.Frag} {f : Addr} {fd : FuncData} (F : Fun K "change_behind" "change_behind" s_change_behind f fd) : Binds K fd ["p", "one", "other"] [] := F.binds (ps := ["p", "one", "other"]) fun _ _ _ _ _ _ us hl => match us, hl with | [_, _, _], _ => rfl
theorem bd__law_small {K : PySem.W.Frag} {f : Addr} {fd : FuncData} (F : Fun K "_law_small" "_law_small" s__law_small f fd) : Binds K fd ["p", "one", "other"] [] := F.binds (ps := ["p", "one", "other"]) fun _ _ _ _ _ _ us hl => match us, hl with | [_, _, _], _ => rfl
theorem bd_small_det {K : PySem.W.Frag} {f : Addr} {fd : FuncData} (F : Fun K "small_det" "small_det" s_small_det f fd) : Binds K fd ["p", "table"] [] := F.binds (ps := ["p", "table"]) fun _ _ _ _ _ _ us hl => match us, hl with | [_, _], _ => rfl
theorem bd_is_proper {K : PySem.W.Frag} {f : Addr} {fd : FuncData} (F : Fun K "is_proper" "is_proper" s_is_proper f fd) : Binds K fd ["p", "change"] [] := F.binds (ps := ["p", "change"]) fun _ _ _ _ _ _ us hl => match us, hl with | [_, _], _ => rfl
theorem bd_same_change {K : PySem.W.Frag} {f : Addr} {fd : FuncData} (F : Fun K "same_change" "same_change" s_same_change f fd) : Binds K fd ["n"] [] := F.binds (ps := ["n"]) fun _ _ _ _ _ _ us hl => match us, hl with | [_], _ => rfl
theorem bd__law_changes_right {K : PySem.W.Frag} {f : Addr} {fd : FuncData} (F : Fun K "_law_changes_right" "_law_changes_right" s__law_changes_right f fd) : Binds K fd ["source", "p", "n"] [] := F.binds (ps := ["source", "p", "n"]) fun _ _ _ _ _ _ us hl => match us, hl with | [_, _, _], _ => rfl
theorem bd_law {K : PySem.W.Frag} {f : Addr} {fd : FuncData} (F : Fun K "law" "law" s_law f fd) : Binds K fd ["script"] [] := F.binds (ps := ["script"]) fun _ _ _ _ _ _ us hl => match us, hl with | [_], _ => rfl
def mkKit {K : PySem.W.Frag} {h : Heap} {mg : Str → Option Value} (X : K.In h) (G : h.Ns mainGlobals mg)
    {f1 : Addr} {od1 an1 : Option Addr} {sl1 : Array (Option Value)} {oc1 kV1 dc1 pm1 cd1 ct1 : Value}
    {f2 : Addr} {od2 an2 : Option Addr} {sl2 : Array (Option Value)} {oc2 kV2 dc2 pm2 cd2 ct2 : Value}
    {f3 : Addr} {od3 an3 : Option Addr} {sl3 : Array (Option Value)} {oc3 kV3 dc3 pm3 cd3 ct3 : Value}
    {f4 : Addr} {od4 an4 : Option Addr} {sl4 : Array (Option Value)} {oc4 kV4 dc4 pm4 cd4 ct4 : Value}
    {f5 : Addr} {od5 an5 : Option Addr} {sl5 : Array (Option Value)} {oc5 kV5 dc5 pm5 cd5 ct5 : Value}
    {f6 : Addr} {od6 an6 : Option Addr} {sl6 : Array (Option Value)} {oc6 kV6 dc6 pm6 cd6 ct6 : Value}
    {f7 : Addr} {od7 an7 : Option Addr} {sl7 : Array (Option Value)} {oc7 kV7 dc7 pm7 cd7 ct7 : Value}
    {f8 : Addr} {od8 an8 : Option Addr} {sl8 : Array (Option Value)} {oc8 kV8 dc8 pm8 cd8 ct8 : Value}
    {f9 : Addr} {od9 an9 : Option Addr} {sl9 : Array (Option Value)} {oc9 kV9 dc9 pm9 cd9 ct9 : Value}
    {f10 : Addr} {od10 an10 : Option Addr} {sl10 : Array (Option Value)} {oc10 kV10 dc10 pm10 cd10 ct10 : Value}
    {f11 : Addr} {od11 an11 : Option Addr} {sl11 : Array (Option Value)} {oc11 kV11 dc11 pm11 cd11 ct11 : Value}
    {f12 : Addr} {od12 an12 : Option Addr} {sl12 : Array (Option Value)} {oc12 kV12 dc12 pm12 cd12 ct12 : Value}
    {f13 : Addr} {od13 an13 : Option Addr} {sl13 : Array (Option Value)} {oc13 kV13 dc13 pm13 cd13 ct13 : Value}
    {f14 : Addr} {od14 an14 : Option Addr} {sl14 : Array (Option Value)} {oc14 kV14 dc14 pm14 cd14 ct14 : Value}
    {f15 : Addr} {od15 an15 : Option Addr} {sl15 : Array (Option Value)} {oc15 kV15 dc15 pm15 cd15 ct15 : Value}
    {f16 : Addr} {od16 an16 : Option Addr} {sl16 : Array (Option Value)} {oc16 kV16 dc16 pm16 cd16 ct16 : Value}
    {f17 : Addr} {od17 an17 : Option Addr} {sl17 : Array (Option Value)} {oc17 kV17 dc17 pm17 cd17 ct17 : Value}
    {f18 : Addr} {od18 an18 : Option Addr} {sl18 : Array (Option Value)} {oc18 kV18 dc18 pm18 cd18 ct18 : Value}
    {f19 : Addr} {od19 an19 : Option Addr} {sl19 : Array (Option Value)} {oc19 kV19 dc19 pm19 cd19 ct19 : Value}
    {f20 : Addr} {od20 an20 : Option Addr} {sl20 : Array (Option Value)} {oc20 kV20 dc20 pm20 cd20 ct20 : Value}
    {f21 : Addr} {od21 an21 : Option Addr} {sl21 : Array (Option Value)} {oc21 kV21 dc21 pm21 cd21 ct21 : Value}
    {f22 : Addr} {od22 an22 : Option Addr} {sl22 : Array (Option Value)} {oc22 kV22 dc22 pm22 cd22 ct22 : Value}
    {f23 : Addr} {od23 an23 : Option Addr} {sl23 : Array (Option Value)} {oc23 kV23 dc23 pm23 cd23 ct23 : Value}
    {f24 : Addr} {od24 an24 : Option Addr} {sl24 : Array (Option Value)} {oc24 kV24 dc24 pm24 cd24 ct24 : Value}
    {f25 : Addr} {od25 an25 : Option Addr} {sl25 : Array (Option Value)} {oc25 kV25 dc25 pm25 cd25 ct25 : Value}
    {f26 : Addr} {od26 an26 : Option Addr} {sl26 : Array (Option Value)} {oc26 kV26 dc26 pm26 cd26 ct26 : Value}
    {f27 : Addr} {od27 an27 : Option Addr} {sl27 : Array (Option Value)} {oc27 kV27 dc27 pm27 cd27 ct27 : Value}
    {f28 : Addr} {od28 an28 : Option Addr} {sl28 : Array (Option Value)} {oc28 kV28 dc28 pm28 cd28 ct28 : Value}
    {f29 : Addr} {od29 an29 : Option Addr} {sl29 : Array (Option Value)} {oc29 kV29 dc29 pm29 cd29 ct29 : Value}
    {tSAME_3 : Tok}
    {tSAME_4 : Tok}
    {cSAME_2 : Addr} {cSAME_2o : Option Addr} {cSAME_2n : Nat} {cSAME_2s : Array (Option Value)}
    {tSAME_6 : Tok}
    {tSAME_7 : Tok}
    {cSAME_5 : Addr} {cSAME_5o : Option Addr} {cSAME_5n : Nat} {cSAME_5s : Array (Option Value)}
    {cSAME_1 : Addr} {cSAME_1o : Option Addr} {cSAME_1n : Nat} {cSAME_1s : Array (Option Value)}
    (a1 : PySem.W.nsIn K mainGlobals "_law_source" = some (some (.ref f1)))
    (l1 : K.lookup f1 = some ⟨oc1, od1, .func (PySem.W.fnOf "_law_source" "_law_source" (defArgs s__law_source) (defBody s__law_source) (defScope s__law_source) .none kV1 dc1 pm1 an1 cd1 ct1), sl1⟩)
    (c1 : PySem.W.codeIn K cd1 "_law_source" = true) (k1 : PySem.W.keepIn K (.ref f1) = true)
    (a2 : PySem.W.nsIn K mainGlobals "_law_pick" = some (some (.ref f2)))
    (l2 : K.lookup f2 = some ⟨oc2, od2, .func (PySem.W.fnOf "_law_pick" "_law_pick" (defArgs s__law_pick) (defBody s__law_pick) (defScope s__law_pick) .none kV2 dc2 pm2 an2 cd2 ct2), sl2⟩)
    (c2 : PySem.W.codeIn K cd2 "_law_pick" = true) (k2 : PySem.W.keepIn K (.ref f2) = true)
    (a3 : PySem.W.nsIn K mainGlobals "_law_of" = some (some (.ref f3)))
    (l3 : K.lookup f3 = some ⟨oc3, od3, .func (PySem.W.fnOf "_law_of" "_law_of" (defArgs s__law_of) (defBody s__law_of) (defScope s__law_of) .none kV3 dc3 pm3 an3 cd3 ct3), sl3⟩)
    (c3 : PySem.W.codeIn K cd3 "_law_of" = true) (k3 : PySem.W.keepIn K (.ref f3) = true)
    (a4 : PySem.W.nsIn K mainGlobals "_law_web" = some (some (.ref f4)))
    (l4 : K.lookup f4 = some ⟨oc4, od4, .func (PySem.W.fnOf "_law_web" "_law_web" (defArgs s__law_web) (defBody s__law_web) (defScope s__law_web) .none kV4 dc4 pm4 an4 cd4 ct4), sl4⟩)
    (c4 : PySem.W.codeIn K cd4 "_law_web" = true) (k4 : PySem.W.keepIn K (.ref f4) = true)
    (a5 : PySem.W.nsIn K mainGlobals "_law_table" = some (some (.ref f5)))
    (l5 : K.lookup f5 = some ⟨oc5, od5, .func (PySem.W.fnOf "_law_table" "_law_table" (defArgs s__law_table) (defBody s__law_table) (defScope s__law_table) .none kV5 dc5 pm5 an5 cd5 ct5), sl5⟩)
    (c5 : PySem.W.codeIn K cd5 "_law_table" = true) (k5 : PySem.W.keepIn K (.ref f5) = true)
    (a6 : PySem.W.nsIn K mainGlobals "table_of" = some (some (.ref f6)))
    (l6 : K.lookup f6 = some ⟨oc6, od6, .func (PySem.W.fnOf "table_of" "table_of" (defArgs s_table_of) (defBody s_table_of) (defScope s_table_of) .none kV6 dc6 pm6 an6 cd6 ct6), sl6⟩)
    (c6 : PySem.W.codeIn K cd6 "table_of" = true) (k6 : PySem.W.keepIn K (.ref f6) = true)
    (a7 : PySem.W.nsIn K mainGlobals "room_rows" = some (some (.ref f7)))
    (l7 : K.lookup f7 = some ⟨oc7, od7, .func (PySem.W.fnOf "room_rows" "room_rows" (defArgs s_room_rows) (defBody s_room_rows) (defScope s_room_rows) .none kV7 dc7 pm7 an7 cd7 ct7), sl7⟩)
    (c7 : PySem.W.codeIn K cd7 "room_rows" = true) (k7 : PySem.W.keepIn K (.ref f7) = true)
    (a8 : PySem.W.nsIn K mainGlobals "_law_row" = some (some (.ref f8)))
    (l8 : K.lookup f8 = some ⟨oc8, od8, .func (PySem.W.fnOf "_law_row" "_law_row" (defArgs s__law_row) (defBody s__law_row) (defScope s__law_row) .none kV8 dc8 pm8 an8 cd8 ct8), sl8⟩)
    (c8 : PySem.W.codeIn K cd8 "_law_row" = true) (k8 : PySem.W.keepIn K (.ref f8) = true)
    (a9 : PySem.W.nsIn K mainGlobals "_law_led_row" = some (some (.ref f9)))
    (l9 : K.lookup f9 = some ⟨oc9, od9, .func (PySem.W.fnOf "_law_led_row" "_law_led_row" (defArgs s__law_led_row) (defBody s__law_led_row) (defScope s__law_led_row) .none kV9 dc9 pm9 an9 cd9 ct9), sl9⟩)
    (c9 : PySem.W.codeIn K cd9 "_law_led_row" = true) (k9 : PySem.W.keepIn K (.ref f9) = true)
    (a10 : PySem.W.nsIn K mainGlobals "row_times" = some (some (.ref f10)))
    (l10 : K.lookup f10 = some ⟨oc10, od10, .func (PySem.W.fnOf "row_times" "row_times" (defArgs s_row_times) (defBody s_row_times) (defScope s_row_times) .none kV10 dc10 pm10 an10 cd10 ct10), sl10⟩)
    (c10 : PySem.W.codeIn K cd10 "row_times" = true) (k10 : PySem.W.keepIn K (.ref f10) = true)
    (a11 : PySem.W.nsIn K mainGlobals "row_sum" = some (some (.ref f11)))
    (l11 : K.lookup f11 = some ⟨oc11, od11, .func (PySem.W.fnOf "row_sum" "row_sum" (defArgs s_row_sum) (defBody s_row_sum) (defScope s_row_sum) .none kV11 dc11 pm11 an11 cd11 ct11), sl11⟩)
    (c11 : PySem.W.codeIn K cd11 "row_sum" = true) (k11 : PySem.W.keepIn K (.ref f11) = true)
    (a12 : PySem.W.nsIn K mainGlobals "row_dot" = some (some (.ref f12)))
    (l12 : K.lookup f12 = some ⟨oc12, od12, .func (PySem.W.fnOf "row_dot" "row_dot" (defArgs s_row_dot) (defBody s_row_dot) (defScope s_row_dot) .none kV12 dc12 pm12 an12 cd12 ct12), sl12⟩)
    (c12 : PySem.W.codeIn K cd12 "row_dot" = true) (k12 : PySem.W.keepIn K (.ref f12) = true)
    (a13 : PySem.W.nsIn K mainGlobals "is_in_room" = some (some (.ref f13)))
    (l13 : K.lookup f13 = some ⟨oc13, od13, .func (PySem.W.fnOf "is_in_room" "is_in_room" (defArgs s_is_in_room) (defBody s_is_in_room) (defScope s_is_in_room) .none kV13 dc13 pm13 an13 cd13 ct13), sl13⟩)
    (c13 : PySem.W.codeIn K cd13 "is_in_room" = true) (k13 : PySem.W.keepIn K (.ref f13) = true)
    (a14 : PySem.W.nsIn K mainGlobals "form_of" = some (some (.ref f14)))
    (l14 : K.lookup f14 = some ⟨oc14, od14, .func (PySem.W.fnOf "form_of" "form_of" (defArgs s_form_of) (defBody s_form_of) (defScope s_form_of) .none kV14 dc14 pm14 an14 cd14 ct14), sl14⟩)
    (c14 : PySem.W.codeIn K cd14 "form_of" = true) (k14 : PySem.W.keepIn K (.ref f14) = true)
    (a15 : PySem.W.nsIn K mainGlobals "_law_form" = some (some (.ref f15)))
    (l15 : K.lookup f15 = some ⟨oc15, od15, .func (PySem.W.fnOf "_law_form" "_law_form" (defArgs s__law_form) (defBody s__law_form) (defScope s__law_form) .none kV15 dc15 pm15 an15 cd15 ct15), sl15⟩)
    (c15 : PySem.W.codeIn K cd15 "_law_form" = true) (k15 : PySem.W.keepIn K (.ref f15) = true)
    (a16 : PySem.W.nsIn K mainGlobals "_law_all" = some (some (.ref f16)))
    (l16 : K.lookup f16 = some ⟨oc16, od16, .func (PySem.W.fnOf "_law_all" "_law_all" (defArgs s__law_all) (defBody s__law_all) (defScope s__law_all) .none kV16 dc16 pm16 an16 cd16 ct16), sl16⟩)
    (c16 : PySem.W.codeIn K cd16 "_law_all" = true) (k16 : PySem.W.keepIn K (.ref f16) = true)
    (a17 : PySem.W.nsIn K mainGlobals "changed_member" = some (some (.ref f17)))
    (l17 : K.lookup f17 = some ⟨oc17, od17, .func (PySem.W.fnOf "changed_member" "changed_member" (defArgs s_changed_member) (defBody s_changed_member) (defScope s_changed_member) .none kV17 dc17 pm17 an17 cd17 ct17), sl17⟩)
    (c17 : PySem.W.codeIn K cd17 "changed_member" = true) (k17 : PySem.W.keepIn K (.ref f17) = true)
    (a18 : PySem.W.nsIn K mainGlobals "small_about" = some (some (.ref f18)))
    (l18 : K.lookup f18 = some ⟨oc18, od18, .func (PySem.W.fnOf "small_about" "small_about" (defArgs s_small_about) (defBody s_small_about) (defScope s_small_about) .none kV18 dc18 pm18 an18 cd18 ct18), sl18⟩)
    (c18 : PySem.W.codeIn K cd18 "small_about" = true) (k18 : PySem.W.keepIn K (.ref f18) = true)
    (a19 : PySem.W.nsIn K mainGlobals "change_back" = some (some (.ref f19)))
    (l19 : K.lookup f19 = some ⟨oc19, od19, .func (PySem.W.fnOf "change_back" "change_back" (defArgs s_change_back) (defBody s_change_back) (defScope s_change_back) .none kV19 dc19 pm19 an19 cd19 ct19), sl19⟩)
    (c19 : PySem.W.codeIn K cd19 "change_back" = true) (k19 : PySem.W.keepIn K (.ref f19) = true)
    (a20 : PySem.W.nsIn K mainGlobals "_law_changed" = some (some (.ref f20)))
    (l20 : K.lookup f20 = some ⟨oc20, od20, .func (PySem.W.fnOf "_law_changed" "_law_changed" (defArgs s__law_changed) (defBody s__law_changed) (defScope s__law_changed) .none kV20 dc20 pm20 an20 cd20 ct20), sl20⟩)
    (c20 : PySem.W.codeIn K cd20 "_law_changed" = true) (k20 : PySem.W.keepIn K (.ref f20) = true)
    (a21 : PySem.W.nsIn K mainGlobals "_law_about" = some (some (.ref f21)))
    (l21 : K.lookup f21 = some ⟨oc21, od21, .func (PySem.W.fnOf "_law_about" "_law_about" (defArgs s__law_about) (defBody s__law_about) (defScope s__law_about) .none kV21 dc21 pm21 an21 cd21 ct21), sl21⟩)
    (c21 : PySem.W.codeIn K cd21 "_law_about" = true) (k21 : PySem.W.keepIn K (.ref f21) = true)
    (a22 : PySem.W.nsIn K mainGlobals "small_times" = some (some (.ref f22)))
    (l22 : K.lookup f22 = some ⟨oc22, od22, .func (PySem.W.fnOf "small_times" "small_times" (defArgs s_small_times) (defBody s_small_times) (defScope s_small_times) .none kV22 dc22 pm22 an22 cd22 ct22), sl22⟩)
    (c22 : PySem.W.codeIn K cd22 "small_times" = true) (k22 : PySem.W.keepIn K (.ref f22) = true)
    (a23 : PySem.W.nsIn K mainGlobals "change_behind" = some (some (.ref f23)))
    (l23 : K.lookup f23 = some ⟨oc23, od23, .func (PySem.W.fnOf "change_behind" "change_behind" (defArgs s_change_behind) (defBody s_change_behind) (defScope s_change_behind) .none kV23 dc23 pm23 an23 cd23 ct23), sl23⟩)
    (c23 : PySem.W.codeIn K cd23 "change_behind" = true) (k23 : PySem.W.keepIn K (.ref f23) = true)
    (a24 : PySem.W.nsIn K mainGlobals "_law_small" = some (some (.ref f24)))
    (l24 : K.lookup f24 = some ⟨oc24, od24, .func (PySem.W.fnOf "_law_small" "_law_small" (defArgs s__law_small) (defBody s__law_small) (defScope s__law_small) .none kV24 dc24 pm24 an24 cd24 ct24), sl24⟩)
    (c24 : PySem.W.codeIn K cd24 "_law_small" = true) (k24 : PySem.W.keepIn K (.ref f24) = true)
    (a25 : PySem.W.nsIn K mainGlobals "small_det" = some (some (.ref f25)))
    (l25 : K.lookup f25 = some ⟨oc25, od25, .func (PySem.W.fnOf "small_det" "small_det" (defArgs s_small_det) (defBody s_small_det) (defScope s_small_det) .none kV25 dc25 pm25 an25 cd25 ct25), sl25⟩)
    (c25 : PySem.W.codeIn K cd25 "small_det" = true) (k25 : PySem.W.keepIn K (.ref f25) = true)
    (a26 : PySem.W.nsIn K mainGlobals "is_proper" = some (some (.ref f26)))
    (l26 : K.lookup f26 = some ⟨oc26, od26, .func (PySem.W.fnOf "is_proper" "is_proper" (defArgs s_is_proper) (defBody s_is_proper) (defScope s_is_proper) .none kV26 dc26 pm26 an26 cd26 ct26), sl26⟩)
    (c26 : PySem.W.codeIn K cd26 "is_proper" = true) (k26 : PySem.W.keepIn K (.ref f26) = true)
    (a27 : PySem.W.nsIn K mainGlobals "same_change" = some (some (.ref f27)))
    (l27 : K.lookup f27 = some ⟨oc27, od27, .func (PySem.W.fnOf "same_change" "same_change" (defArgs s_same_change) (defBody s_same_change) (defScope s_same_change) .none kV27 dc27 pm27 an27 cd27 ct27), sl27⟩)
    (c27 : PySem.W.codeIn K cd27 "same_change" = true) (k27 : PySem.W.keepIn K (.ref f27) = true)
    (a28 : PySem.W.nsIn K mainGlobals "_law_changes_right" = some (some (.ref f28)))
    (l28 : K.lookup f28 = some ⟨oc28, od28, .func (PySem.W.fnOf "_law_changes_right" "_law_changes_right" (defArgs s__law_changes_right) (defBody s__law_changes_right) (defScope s__law_changes_right) .none kV28 dc28 pm28 an28 cd28 ct28), sl28⟩)
    (c28 : PySem.W.codeIn K cd28 "_law_changes_right" = true) (k28 : PySem.W.keepIn K (.ref f28) = true)
    (a29 : PySem.W.nsIn K mainGlobals "law" = some (some (.ref f29)))
    (l29 : K.lookup f29 = some ⟨oc29, od29, .func (PySem.W.fnOf "law" "law" (defArgs s_law) (defBody s_law) (defScope s_law) .none kV29 dc29 pm29 an29 cd29 ct29), sl29⟩)
    (c29 : PySem.W.codeIn K cd29 "law" = true) (k29 : PySem.W.keepIn K (.ref f29) = true)
    (z_abs : PySem.W.nsIn K mainGlobals "abs" = some none)
    (z_all : PySem.W.nsIn K mainGlobals "all" = some none)
    (z_enumerate : PySem.W.nsIn K mainGlobals "enumerate" = some none)
    (z_int : PySem.W.nsIn K mainGlobals "int" = some none)
    (z_len : PySem.W.nsIn K mainGlobals "len" = some none)
    (z_list : PySem.W.nsIn K mainGlobals "list" = some none)
    (z_max : PySem.W.nsIn K mainGlobals "max" = some none)
    (z_range : PySem.W.nsIn K mainGlobals "range" = some none)
    (z_repr : PySem.W.nsIn K mainGlobals "repr" = some none)
    (z_sum : PySem.W.nsIn K mainGlobals "sum" = some none)
    (z_tuple : PySem.W.nsIn K mainGlobals "tuple" = some none)
    (z_zip : PySem.W.nsIn K mainGlobals "zip" = some none)
    (aSAME : PySem.W.nsIn K mainGlobals "SAME" = some (some (.ref cSAME_1)))
    (lcSAME_1 : K.lookup cSAME_1 = some ⟨.type "tuple", cSAME_1o, .seq #[.ref cSAME_2, .ref cSAME_5] cSAME_1n, cSAME_1s⟩)
    (lcSAME_5 : K.lookup cSAME_5 = some ⟨.type "tuple", cSAME_5o, .seq #[.int (0) tSAME_6, .int (1) tSAME_7] cSAME_5n, cSAME_5s⟩)
    (lcSAME_2 : K.lookup cSAME_2 = some ⟨.type "tuple", cSAME_2o, .seq #[.int (1) tSAME_3, .int (0) tSAME_4] cSAME_2n, cSAME_2s⟩) : Kit K mg := ⟨f1, _, fun_mk (st := s__law_source) l1 c1 k1, bd__law_source (fun_mk (st := s__law_source) l1 c1 k1), PySem.W.mg_of X G a1,
    f2, _, fun_mk (st := s__law_pick) l2 c2 k2, bd__law_pick (fun_mk (st := s__law_pick) l2 c2 k2), PySem.W.mg_of X G a2,
    f3, _, fun_mk (st := s__law_of) l3 c3 k3, bd__law_of (fun_mk (st := s__law_of) l3 c3 k3), PySem.W.mg_of X G a3,
    f4, _, fun_mk (st := s__law_web) l4 c4 k4, bd__law_web (fun_mk (st := s__law_web) l4 c4 k4), PySem.W.mg_of X G a4,
    f5, _, fun_mk (st := s__law_table) l5 c5 k5, bd__law_table (fun_mk (st := s__law_table) l5 c5 k5), PySem.W.mg_of X G a5,
    f6, _, fun_mk (st := s_table_of) l6 c6 k6, bd_table_of (fun_mk (st := s_table_of) l6 c6 k6), PySem.W.mg_of X G a6,
    f7, _, fun_mk (st := s_room_rows) l7 c7 k7, bd_room_rows (fun_mk (st := s_room_rows) l7 c7 k7), PySem.W.mg_of X G a7,
    f8, _, fun_mk (st := s__law_row) l8 c8 k8, bd__law_row (fun_mk (st := s__law_row) l8 c8 k8), PySem.W.mg_of X G a8,
    f9, _, fun_mk (st := s__law_led_row) l9 c9 k9, bd__law_led_row (fun_mk (st := s__law_led_row) l9 c9 k9), PySem.W.mg_of X G a9,
    f10, _, fun_mk (st := s_row_times) l10 c10 k10, bd_row_times (fun_mk (st := s_row_times) l10 c10 k10), PySem.W.mg_of X G a10,
    f11, _, fun_mk (st := s_row_sum) l11 c11 k11, bd_row_sum (fun_mk (st := s_row_sum) l11 c11 k11), PySem.W.mg_of X G a11,
    f12, _, fun_mk (st := s_row_dot) l12 c12 k12, bd_row_dot (fun_mk (st := s_row_dot) l12 c12 k12), PySem.W.mg_of X G a12,
    f13, _, fun_mk (st := s_is_in_room) l13 c13 k13, bd_is_in_room (fun_mk (st := s_is_in_room) l13 c13 k13), PySem.W.mg_of X G a13,
    f14, _, fun_mk (st := s_form_of) l14 c14 k14, bd_form_of (fun_mk (st := s_form_of) l14 c14 k14), PySem.W.mg_of X G a14,
    f15, _, fun_mk (st := s__law_form) l15 c15 k15, bd__law_form (fun_mk (st := s__law_form) l15 c15 k15), PySem.W.mg_of X G a15,
    f16, _, fun_mk (st := s__law_all) l16 c16 k16, bd__law_all (fun_mk (st := s__law_all) l16 c16 k16), PySem.W.mg_of X G a16,
    f17, _, fun_mk (st := s_changed_member) l17 c17 k17, bd_changed_member (fun_mk (st := s_changed_member) l17 c17 k17), PySem.W.mg_of X G a17,
    f18, _, fun_mk (st := s_small_about) l18 c18 k18, bd_small_about (fun_mk (st := s_small_about) l18 c18 k18), PySem.W.mg_of X G a18,
    f19, _, fun_mk (st := s_change_back) l19 c19 k19, bd_change_back (fun_mk (st := s_change_back) l19 c19 k19), PySem.W.mg_of X G a19,
    f20, _, fun_mk (st := s__law_changed) l20 c20 k20, bd__law_changed (fun_mk (st := s__law_changed) l20 c20 k20), PySem.W.mg_of X G a20,
    f21, _, fun_mk (st := s__law_about) l21 c21 k21, bd__law_about (fun_mk (st := s__law_about) l21 c21 k21), PySem.W.mg_of X G a21,
    f22, _, fun_mk (st := s_small_times) l22 c22 k22, bd_small_times (fun_mk (st := s_small_times) l22 c22 k22), PySem.W.mg_of X G a22,
    f23, _, fun_mk (st := s_change_behind) l23 c23 k23, bd_change_behind (fun_mk (st := s_change_behind) l23 c23 k23), PySem.W.mg_of X G a23,
    f24, _, fun_mk (st := s__law_small) l24 c24 k24, bd__law_small (fun_mk (st := s__law_small) l24 c24 k24), PySem.W.mg_of X G a24,
    f25, _, fun_mk (st := s_small_det) l25 c25 k25, bd_small_det (fun_mk (st := s_small_det) l25 c25 k25), PySem.W.mg_of X G a25,
    f26, _, fun_mk (st := s_is_proper) l26 c26 k26, bd_is_proper (fun_mk (st := s_is_proper) l26 c26 k26), PySem.W.mg_of X G a26,
    f27, _, fun_mk (st := s_same_change) l27 c27 k27, bd_same_change (fun_mk (st := s_same_change) l27 c27 k27), PySem.W.mg_of X G a27,
    f28, _, fun_mk (st := s__law_changes_right) l28 c28 k28, bd__law_changes_right (fun_mk (st := s__law_changes_right) l28 c28 k28), PySem.W.mg_of X G a28,
    f29, _, fun_mk (st := s_law) l29 c29 k29, bd_law (fun_mk (st := s_law) l29 c29 k29), PySem.W.mg_of X G a29,
    PySem.W.mg_none_of X G z_abs,
    PySem.W.mg_none_of X G z_all,
    PySem.W.mg_none_of X G z_enumerate,
    PySem.W.mg_none_of X G z_int,
    PySem.W.mg_none_of X G z_len,
    PySem.W.mg_none_of X G z_list,
    PySem.W.mg_none_of X G z_max,
    PySem.W.mg_none_of X G z_range,
    PySem.W.mg_none_of X G z_repr,
    PySem.W.mg_none_of X G z_sum,
    PySem.W.mg_none_of X G z_tuple,
    PySem.W.mg_none_of X G z_zip,
    cSAME_1, PySem.W.mg_of X G aSAME, fun _ => .tup (.inr ⟨_, _, _, lcSAME_1, rfl, rfl, ble_line rfl, (.cons (show RelV (.ref cSAME_2) (.ref cSAME_2) from rfl) (.cons (show RelV (.ref cSAME_5) (.ref cSAME_5) from rfl) .nil))⟩) (.cons (.tup (.inr ⟨_, _, _, lcSAME_2, rfl, rfl, ble_line rfl, (.cons (show RelV (.int (1)) (.int (1) tSAME_3) from ⟨_, rfl⟩) (.cons (show RelV (.int (0)) (.int (0) tSAME_4) from ⟨_, rfl⟩) .nil))⟩) (.cons (.int _) (.cons (.int _) .nil))) (.cons (.tup (.inr ⟨_, _, _, lcSAME_5, rfl, rfl, ble_line rfl, (.cons (show RelV (.int (0)) (.int (0) tSAME_6) from ⟨_, rfl⟩) (.cons (show RelV (.int (1)) (.int (1) tSAME_7) from ⟨_, rfl⟩) .nil))⟩) (.cons (.int _) (.cons (.int _) .nil))) .nil))⟩
theorem all_mk {l : PySem.W.OpenLaw} {w : World} {K : PySem.W.Frag} {h : Heap} {mg : Str → Option Value} {fa : Addr} (X : K.In h) (G : h.Ns mainGlobals mg) (hfa : mg "law" = some (.ref fa))
    {f1 : Addr} {od1 an1 : Option Addr} {sl1 : Array (Option Value)} {oc1 kV1 dc1 pm1 cd1 ct1 : Value}
    {f2 : Addr} {od2 an2 : Option Addr} {sl2 : Array (Option Value)} {oc2 kV2 dc2 pm2 cd2 ct2 : Value}
    {f3 : Addr} {od3 an3 : Option Addr} {sl3 : Array (Option Value)} {oc3 kV3 dc3 pm3 cd3 ct3 : Value}
    {f4 : Addr} {od4 an4 : Option Addr} {sl4 : Array (Option Value)} {oc4 kV4 dc4 pm4 cd4 ct4 : Value}
    {f5 : Addr} {od5 an5 : Option Addr} {sl5 : Array (Option Value)} {oc5 kV5 dc5 pm5 cd5 ct5 : Value}
    {f6 : Addr} {od6 an6 : Option Addr} {sl6 : Array (Option Value)} {oc6 kV6 dc6 pm6 cd6 ct6 : Value}
    {f7 : Addr} {od7 an7 : Option Addr} {sl7 : Array (Option Value)} {oc7 kV7 dc7 pm7 cd7 ct7 : Value}
    {f8 : Addr} {od8 an8 : Option Addr} {sl8 : Array (Option Value)} {oc8 kV8 dc8 pm8 cd8 ct8 : Value}
    {f9 : Addr} {od9 an9 : Option Addr} {sl9 : Array (Option Value)} {oc9 kV9 dc9 pm9 cd9 ct9 : Value}
    {f10 : Addr} {od10 an10 : Option Addr} {sl10 : Array (Option Value)} {oc10 kV10 dc10 pm10 cd10 ct10 : Value}
    {f11 : Addr} {od11 an11 : Option Addr} {sl11 : Array (Option Value)} {oc11 kV11 dc11 pm11 cd11 ct11 : Value}
    {f12 : Addr} {od12 an12 : Option Addr} {sl12 : Array (Option Value)} {oc12 kV12 dc12 pm12 cd12 ct12 : Value}
    {f13 : Addr} {od13 an13 : Option Addr} {sl13 : Array (Option Value)} {oc13 kV13 dc13 pm13 cd13 ct13 : Value}
    {f14 : Addr} {od14 an14 : Option Addr} {sl14 : Array (Option Value)} {oc14 kV14 dc14 pm14 cd14 ct14 : Value}
    {f15 : Addr} {od15 an15 : Option Addr} {sl15 : Array (Option Value)} {oc15 kV15 dc15 pm15 cd15 ct15 : Value}
    {f16 : Addr} {od16 an16 : Option Addr} {sl16 : Array (Option Value)} {oc16 kV16 dc16 pm16 cd16 ct16 : Value}
    {f17 : Addr} {od17 an17 : Option Addr} {sl17 : Array (Option Value)} {oc17 kV17 dc17 pm17 cd17 ct17 : Value}
    {f18 : Addr} {od18 an18 : Option Addr} {sl18 : Array (Option Value)} {oc18 kV18 dc18 pm18 cd18 ct18 : Value}
    {f19 : Addr} {od19 an19 : Option Addr} {sl19 : Array (Option Value)} {oc19 kV19 dc19 pm19 cd19 ct19 : Value}
    {f20 : Addr} {od20 an20 : Option Addr} {sl20 : Array (Option Value)} {oc20 kV20 dc20 pm20 cd20 ct20 : Value}
    {f21 : Addr} {od21 an21 : Option Addr} {sl21 : Array (Option Value)} {oc21 kV21 dc21 pm21 cd21 ct21 : Value}
    {f22 : Addr} {od22 an22 : Option Addr} {sl22 : Array (Option Value)} {oc22 kV22 dc22 pm22 cd22 ct22 : Value}
    {f23 : Addr} {od23 an23 : Option Addr} {sl23 : Array (Option Value)} {oc23 kV23 dc23 pm23 cd23 ct23 : Value}
    {f24 : Addr} {od24 an24 : Option Addr} {sl24 : Array (Option Value)} {oc24 kV24 dc24 pm24 cd24 ct24 : Value}
    {f25 : Addr} {od25 an25 : Option Addr} {sl25 : Array (Option Value)} {oc25 kV25 dc25 pm25 cd25 ct25 : Value}
    {f26 : Addr} {od26 an26 : Option Addr} {sl26 : Array (Option Value)} {oc26 kV26 dc26 pm26 cd26 ct26 : Value}
    {f27 : Addr} {od27 an27 : Option Addr} {sl27 : Array (Option Value)} {oc27 kV27 dc27 pm27 cd27 ct27 : Value}
    {f28 : Addr} {od28 an28 : Option Addr} {sl28 : Array (Option Value)} {oc28 kV28 dc28 pm28 cd28 ct28 : Value}
    {f29 : Addr} {od29 an29 : Option Addr} {sl29 : Array (Option Value)} {oc29 kV29 dc29 pm29 cd29 ct29 : Value}
    {tSAME_3 : Tok}
    {tSAME_4 : Tok}
    {cSAME_2 : Addr} {cSAME_2o : Option Addr} {cSAME_2n : Nat} {cSAME_2s : Array (Option Value)}
    {tSAME_6 : Tok}
    {tSAME_7 : Tok}
    {cSAME_5 : Addr} {cSAME_5o : Option Addr} {cSAME_5n : Nat} {cSAME_5s : Array (Option Value)}
    {cSAME_1 : Addr} {cSAME_1o : Option Addr} {cSAME_1n : Nat} {cSAME_1s : Array (Option Value)}
    (a1 : PySem.W.nsIn K mainGlobals "_law_source" = some (some (.ref f1)))
    (l1 : K.lookup f1 = some ⟨oc1, od1, .func (PySem.W.fnOf "_law_source" "_law_source" (defArgs s__law_source) (defBody s__law_source) (defScope s__law_source) .none kV1 dc1 pm1 an1 cd1 ct1), sl1⟩)
    (c1 : PySem.W.codeIn K cd1 "_law_source" = true) (k1 : PySem.W.keepIn K (.ref f1) = true)
    (a2 : PySem.W.nsIn K mainGlobals "_law_pick" = some (some (.ref f2)))
    (l2 : K.lookup f2 = some ⟨oc2, od2, .func (PySem.W.fnOf "_law_pick" "_law_pick" (defArgs s__law_pick) (defBody s__law_pick) (defScope s__law_pick) .none kV2 dc2 pm2 an2 cd2 ct2), sl2⟩)
    (c2 : PySem.W.codeIn K cd2 "_law_pick" = true) (k2 : PySem.W.keepIn K (.ref f2) = true)
    (a3 : PySem.W.nsIn K mainGlobals "_law_of" = some (some (.ref f3)))
    (l3 : K.lookup f3 = some ⟨oc3, od3, .func (PySem.W.fnOf "_law_of" "_law_of" (defArgs s__law_of) (defBody s__law_of) (defScope s__law_of) .none kV3 dc3 pm3 an3 cd3 ct3), sl3⟩)
    (c3 : PySem.W.codeIn K cd3 "_law_of" = true) (k3 : PySem.W.keepIn K (.ref f3) = true)
    (a4 : PySem.W.nsIn K mainGlobals "_law_web" = some (some (.ref f4)))
    (l4 : K.lookup f4 = some ⟨oc4, od4, .func (PySem.W.fnOf "_law_web" "_law_web" (defArgs s__law_web) (defBody s__law_web) (defScope s__law_web) .none kV4 dc4 pm4 an4 cd4 ct4), sl4⟩)
    (c4 : PySem.W.codeIn K cd4 "_law_web" = true) (k4 : PySem.W.keepIn K (.ref f4) = true)
    (a5 : PySem.W.nsIn K mainGlobals "_law_table" = some (some (.ref f5)))
    (l5 : K.lookup f5 = some ⟨oc5, od5, .func (PySem.W.fnOf "_law_table" "_law_table" (defArgs s__law_table) (defBody s__law_table) (defScope s__law_table) .none kV5 dc5 pm5 an5 cd5 ct5), sl5⟩)
    (c5 : PySem.W.codeIn K cd5 "_law_table" = true) (k5 : PySem.W.keepIn K (.ref f5) = true)
    (a6 : PySem.W.nsIn K mainGlobals "table_of" = some (some (.ref f6)))
    (l6 : K.lookup f6 = some ⟨oc6, od6, .func (PySem.W.fnOf "table_of" "table_of" (defArgs s_table_of) (defBody s_table_of) (defScope s_table_of) .none kV6 dc6 pm6 an6 cd6 ct6), sl6⟩)
    (c6 : PySem.W.codeIn K cd6 "table_of" = true) (k6 : PySem.W.keepIn K (.ref f6) = true)
    (a7 : PySem.W.nsIn K mainGlobals "room_rows" = some (some (.ref f7)))
    (l7 : K.lookup f7 = some ⟨oc7, od7, .func (PySem.W.fnOf "room_rows" "room_rows" (defArgs s_room_rows) (defBody s_room_rows) (defScope s_room_rows) .none kV7 dc7 pm7 an7 cd7 ct7), sl7⟩)
    (c7 : PySem.W.codeIn K cd7 "room_rows" = true) (k7 : PySem.W.keepIn K (.ref f7) = true)
    (a8 : PySem.W.nsIn K mainGlobals "_law_row" = some (some (.ref f8)))
    (l8 : K.lookup f8 = some ⟨oc8, od8, .func (PySem.W.fnOf "_law_row" "_law_row" (defArgs s__law_row) (defBody s__law_row) (defScope s__law_row) .none kV8 dc8 pm8 an8 cd8 ct8), sl8⟩)
    (c8 : PySem.W.codeIn K cd8 "_law_row" = true) (k8 : PySem.W.keepIn K (.ref f8) = true)
    (a9 : PySem.W.nsIn K mainGlobals "_law_led_row" = some (some (.ref f9)))
    (l9 : K.lookup f9 = some ⟨oc9, od9, .func (PySem.W.fnOf "_law_led_row" "_law_led_row" (defArgs s__law_led_row) (defBody s__law_led_row) (defScope s__law_led_row) .none kV9 dc9 pm9 an9 cd9 ct9), sl9⟩)
    (c9 : PySem.W.codeIn K cd9 "_law_led_row" = true) (k9 : PySem.W.keepIn K (.ref f9) = true)
    (a10 : PySem.W.nsIn K mainGlobals "row_times" = some (some (.ref f10)))
    (l10 : K.lookup f10 = some ⟨oc10, od10, .func (PySem.W.fnOf "row_times" "row_times" (defArgs s_row_times) (defBody s_row_times) (defScope s_row_times) .none kV10 dc10 pm10 an10 cd10 ct10), sl10⟩)
    (c10 : PySem.W.codeIn K cd10 "row_times" = true) (k10 : PySem.W.keepIn K (.ref f10) = true)
    (a11 : PySem.W.nsIn K mainGlobals "row_sum" = some (some (.ref f11)))
    (l11 : K.lookup f11 = some ⟨oc11, od11, .func (PySem.W.fnOf "row_sum" "row_sum" (defArgs s_row_sum) (defBody s_row_sum) (defScope s_row_sum) .none kV11 dc11 pm11 an11 cd11 ct11), sl11⟩)
    (c11 : PySem.W.codeIn K cd11 "row_sum" = true) (k11 : PySem.W.keepIn K (.ref f11) = true)
    (a12 : PySem.W.nsIn K mainGlobals "row_dot" = some (some (.ref f12)))
    (l12 : K.lookup f12 = some ⟨oc12, od12, .func (PySem.W.fnOf "row_dot" "row_dot" (defArgs s_row_dot) (defBody s_row_dot) (defScope s_row_dot) .none kV12 dc12 pm12 an12 cd12 ct12), sl12⟩)
    (c12 : PySem.W.codeIn K cd12 "row_dot" = true) (k12 : PySem.W.keepIn K (.ref f12) = true)
    (a13 : PySem.W.nsIn K mainGlobals "is_in_room" = some (some (.ref f13)))
    (l13 : K.lookup f13 = some ⟨oc13, od13, .func (PySem.W.fnOf "is_in_room" "is_in_room" (defArgs s_is_in_room) (defBody s_is_in_room) (defScope s_is_in_room) .none kV13 dc13 pm13 an13 cd13 ct13), sl13⟩)
    (c13 : PySem.W.codeIn K cd13 "is_in_room" = true) (k13 : PySem.W.keepIn K (.ref f13) = true)
    (a14 : PySem.W.nsIn K mainGlobals "form_of" = some (some (.ref f14)))
    (l14 : K.lookup f14 = some ⟨oc14, od14, .func (PySem.W.fnOf "form_of" "form_of" (defArgs s_form_of) (defBody s_form_of) (defScope s_form_of) .none kV14 dc14 pm14 an14 cd14 ct14), sl14⟩)
    (c14 : PySem.W.codeIn K cd14 "form_of" = true) (k14 : PySem.W.keepIn K (.ref f14) = true)
    (a15 : PySem.W.nsIn K mainGlobals "_law_form" = some (some (.ref f15)))
    (l15 : K.lookup f15 = some ⟨oc15, od15, .func (PySem.W.fnOf "_law_form" "_law_form" (defArgs s__law_form) (defBody s__law_form) (defScope s__law_form) .none kV15 dc15 pm15 an15 cd15 ct15), sl15⟩)
    (c15 : PySem.W.codeIn K cd15 "_law_form" = true) (k15 : PySem.W.keepIn K (.ref f15) = true)
    (a16 : PySem.W.nsIn K mainGlobals "_law_all" = some (some (.ref f16)))
    (l16 : K.lookup f16 = some ⟨oc16, od16, .func (PySem.W.fnOf "_law_all" "_law_all" (defArgs s__law_all) (defBody s__law_all) (defScope s__law_all) .none kV16 dc16 pm16 an16 cd16 ct16), sl16⟩)
    (c16 : PySem.W.codeIn K cd16 "_law_all" = true) (k16 : PySem.W.keepIn K (.ref f16) = true)
    (a17 : PySem.W.nsIn K mainGlobals "changed_member" = some (some (.ref f17)))
    (l17 : K.lookup f17 = some ⟨oc17, od17, .func (PySem.W.fnOf "changed_member" "changed_member" (defArgs s_changed_member) (defBody s_changed_member) (defScope s_changed_member) .none kV17 dc17 pm17 an17 cd17 ct17), sl17⟩)
    (c17 : PySem.W.codeIn K cd17 "changed_member" = true) (k17 : PySem.W.keepIn K (.ref f17) = true)
    (a18 : PySem.W.nsIn K mainGlobals "small_about" = some (some (.ref f18)))
    (l18 : K.lookup f18 = some ⟨oc18, od18, .func (PySem.W.fnOf "small_about" "small_about" (defArgs s_small_about) (defBody s_small_about) (defScope s_small_about) .none kV18 dc18 pm18 an18 cd18 ct18), sl18⟩)
    (c18 : PySem.W.codeIn K cd18 "small_about" = true) (k18 : PySem.W.keepIn K (.ref f18) = true)
    (a19 : PySem.W.nsIn K mainGlobals "change_back" = some (some (.ref f19)))
    (l19 : K.lookup f19 = some ⟨oc19, od19, .func (PySem.W.fnOf "change_back" "change_back" (defArgs s_change_back) (defBody s_change_back) (defScope s_change_back) .none kV19 dc19 pm19 an19 cd19 ct19), sl19⟩)
    (c19 : PySem.W.codeIn K cd19 "change_back" = true) (k19 : PySem.W.keepIn K (.ref f19) = true)
    (a20 : PySem.W.nsIn K mainGlobals "_law_changed" = some (some (.ref f20)))
    (l20 : K.lookup f20 = some ⟨oc20, od20, .func (PySem.W.fnOf "_law_changed" "_law_changed" (defArgs s__law_changed) (defBody s__law_changed) (defScope s__law_changed) .none kV20 dc20 pm20 an20 cd20 ct20), sl20⟩)
    (c20 : PySem.W.codeIn K cd20 "_law_changed" = true) (k20 : PySem.W.keepIn K (.ref f20) = true)
    (a21 : PySem.W.nsIn K mainGlobals "_law_about" = some (some (.ref f21)))
    (l21 : K.lookup f21 = some ⟨oc21, od21, .func (PySem.W.fnOf "_law_about" "_law_about" (defArgs s__law_about) (defBody s__law_about) (defScope s__law_about) .none kV21 dc21 pm21 an21 cd21 ct21), sl21⟩)
    (c21 : PySem.W.codeIn K cd21 "_law_about" = true) (k21 : PySem.W.keepIn K (.ref f21) = true)
    (a22 : PySem.W.nsIn K mainGlobals "small_times" = some (some (.ref f22)))
    (l22 : K.lookup f22 = some ⟨oc22, od22, .func (PySem.W.fnOf "small_times" "small_times" (defArgs s_small_times) (defBody s_small_times) (defScope s_small_times) .none kV22 dc22 pm22 an22 cd22 ct22), sl22⟩)
    (c22 : PySem.W.codeIn K cd22 "small_times" = true) (k22 : PySem.W.keepIn K (.ref f22) = true)
    (a23 : PySem.W.nsIn K mainGlobals "change_behind" = some (some (.ref f23)))
    (l23 : K.lookup f23 = some ⟨oc23, od23, .func (PySem.W.fnOf "change_behind" "change_behind" (defArgs s_change_behind) (defBody s_change_behind) (defScope s_change_behind) .none kV23 dc23 pm23 an23 cd23 ct23), sl23⟩)
    (c23 : PySem.W.codeIn K cd23 "change_behind" = true) (k23 : PySem.W.keepIn K (.ref f23) = true)
    (a24 : PySem.W.nsIn K mainGlobals "_law_small" = some (some (.ref f24)))
    (l24 : K.lookup f24 = some ⟨oc24, od24, .func (PySem.W.fnOf "_law_small" "_law_small" (defArgs s__law_small) (defBody s__law_small) (defScope s__law_small) .none kV24 dc24 pm24 an24 cd24 ct24), sl24⟩)
    (c24 : PySem.W.codeIn K cd24 "_law_small" = true) (k24 : PySem.W.keepIn K (.ref f24) = true)
    (a25 : PySem.W.nsIn K mainGlobals "small_det" = some (some (.ref f25)))
    (l25 : K.lookup f25 = some ⟨oc25, od25, .func (PySem.W.fnOf "small_det" "small_det" (defArgs s_small_det) (defBody s_small_det) (defScope s_small_det) .none kV25 dc25 pm25 an25 cd25 ct25), sl25⟩)
    (c25 : PySem.W.codeIn K cd25 "small_det" = true) (k25 : PySem.W.keepIn K (.ref f25) = true)
    (a26 : PySem.W.nsIn K mainGlobals "is_proper" = some (some (.ref f26)))
    (l26 : K.lookup f26 = some ⟨oc26, od26, .func (PySem.W.fnOf "is_proper" "is_proper" (defArgs s_is_proper) (defBody s_is_proper) (defScope s_is_proper) .none kV26 dc26 pm26 an26 cd26 ct26), sl26⟩)
    (c26 : PySem.W.codeIn K cd26 "is_proper" = true) (k26 : PySem.W.keepIn K (.ref f26) = true)
    (a27 : PySem.W.nsIn K mainGlobals "same_change" = some (some (.ref f27)))
    (l27 : K.lookup f27 = some ⟨oc27, od27, .func (PySem.W.fnOf "same_change" "same_change" (defArgs s_same_change) (defBody s_same_change) (defScope s_same_change) .none kV27 dc27 pm27 an27 cd27 ct27), sl27⟩)
    (c27 : PySem.W.codeIn K cd27 "same_change" = true) (k27 : PySem.W.keepIn K (.ref f27) = true)
    (a28 : PySem.W.nsIn K mainGlobals "_law_changes_right" = some (some (.ref f28)))
    (l28 : K.lookup f28 = some ⟨oc28, od28, .func (PySem.W.fnOf "_law_changes_right" "_law_changes_right" (defArgs s__law_changes_right) (defBody s__law_changes_right) (defScope s__law_changes_right) .none kV28 dc28 pm28 an28 cd28 ct28), sl28⟩)
    (c28 : PySem.W.codeIn K cd28 "_law_changes_right" = true) (k28 : PySem.W.keepIn K (.ref f28) = true)
    (a29 : PySem.W.nsIn K mainGlobals "law" = some (some (.ref f29)))
    (l29 : K.lookup f29 = some ⟨oc29, od29, .func (PySem.W.fnOf "law" "law" (defArgs s_law) (defBody s_law) (defScope s_law) .none kV29 dc29 pm29 an29 cd29 ct29), sl29⟩)
    (c29 : PySem.W.codeIn K cd29 "law" = true) (k29 : PySem.W.keepIn K (.ref f29) = true)
    (z_abs : PySem.W.nsIn K mainGlobals "abs" = some none)
    (z_all : PySem.W.nsIn K mainGlobals "all" = some none)
    (z_enumerate : PySem.W.nsIn K mainGlobals "enumerate" = some none)
    (z_int : PySem.W.nsIn K mainGlobals "int" = some none)
    (z_len : PySem.W.nsIn K mainGlobals "len" = some none)
    (z_list : PySem.W.nsIn K mainGlobals "list" = some none)
    (z_max : PySem.W.nsIn K mainGlobals "max" = some none)
    (z_range : PySem.W.nsIn K mainGlobals "range" = some none)
    (z_repr : PySem.W.nsIn K mainGlobals "repr" = some none)
    (z_sum : PySem.W.nsIn K mainGlobals "sum" = some none)
    (z_tuple : PySem.W.nsIn K mainGlobals "tuple" = some none)
    (z_zip : PySem.W.nsIn K mainGlobals "zip" = some none)
    (aSAME : PySem.W.nsIn K mainGlobals "SAME" = some (some (.ref cSAME_1)))
    (lcSAME_1 : K.lookup cSAME_1 = some ⟨.type "tuple", cSAME_1o, .seq #[.ref cSAME_2, .ref cSAME_5] cSAME_1n, cSAME_1s⟩)
    (lcSAME_5 : K.lookup cSAME_5 = some ⟨.type "tuple", cSAME_5o, .seq #[.int (0) tSAME_6, .int (1) tSAME_7] cSAME_5n, cSAME_5s⟩)
    (lcSAME_2 : K.lookup cSAME_2 = some ⟨.type "tuple", cSAME_2o, .seq #[.int (1) tSAME_3, .int (0) tSAME_4] cSAME_2n, cSAME_2s⟩) :
    ∃ fd : FuncData, (∀ (s : Shared) (v : Value), BindsTo s fd ⟨[v], []⟩ [("script", v)]) ∧ ∀ base : Heap, K.In base → base.Ns mainGlobals mg → FnG l.prog w K mg base 5 fa fd ["script"] (spLaw K g_law m_law) := by
  have e := hfa.symm.trans (PySem.W.mg_of X G a29)
  cases e
  exact ⟨_, fun s v => .of_eq rfl, fun base _ _ => ok_law (mkKit X G a1 l1 c1 k1 a2 l2 c2 k2 a3 l3 c3 k3 a4 l4 c4 k4 a5 l5 c5 k5 a6 l6 c6 k6 a7 l7 c7 k7 a8 l8 c8 k8 a9 l9 c9 k9 a10 l10 c10 k10 a11 l11 c11 k11 a12 l12 c12 k12 a13 l13 c13 k13 a14 l14 c14 k14 a15 l15 c15 k15 a16 l16 c16 k16 a17 l17 c17 k17 a18 l18 c18 k18 a19 l19 c19 k19 a20 l20 c20 k20 a21 l21 c21 k21 a22 l22 c22 k22 a23 l23 c23 k23 a24 l24 c24 k24 a25 l25 c25 k25 a26 l26 c26 k26 a27 l27 c27 k27 a28 l28 c28 k28 a29 l29 c29 k29 z_abs z_all z_enumerate z_int z_len z_list z_max z_range z_repr z_sum z_tuple z_zip aSAME lcSAME_1 lcSAME_5 lcSAME_2)⟩
end L2.Ev
open PySem PySem.W PyProof.Rows
set_option maxHeartbeats 0 in
theorem PySem.Challenge.cw_turnedweights_k13_whole_rooms_and_the_fo_holds : PySem.Challenge.rw_turnedweights_k13_whole_rooms_and_the_fo.Holds := by
  w_on; o_law; k_head; (case hw => w_witness2)
  k_fill
  refine L2.Ev.walk_ofG (l := PySem.Challenge.rw_turnedweights_k13_whole_rooms_and_the_fo) (n := 63) (k := 5) (x := "script") (sp := fun K => L2.Ev.spLaw K L2.Ev.g_law L2.Ev.m_law) rfl (by decide) rfl ⟨rfl, by decide, by decide⟩ (fun w h Y => PySem.W.kIn_of Y) ?F (fun K H a ns hl hS => ⟨a, ns, rfl, hS, by omega, (L2.Ev.law_true ns hl).1, (L2.Ev.law_true ns hl).2, fun _ => rfl⟩)
  case F =>
    intro w mg fa h KX G hmg
    refine' L2.Ev.all_mk KX G hmg ?a1 ?l1 ?c1 ?k1 ?a2 ?l2 ?c2 ?k2 ?a3 ?l3 ?c3 ?k3 ?a4 ?l4 ?c4 ?k4 ?a5 ?l5 ?c5 ?k5 ?a6 ?l6 ?c6 ?k6 ?a7 ?l7 ?c7 ?k7 ?a8 ?l8 ?c8 ?k8 ?a9 ?l9 ?c9 ?k9 ?a10 ?l10 ?c10 ?k10 ?a11 ?l11 ?c11 ?k11 ?a12 ?l12 ?c12 ?k12 ?a13 ?l13 ?c13 ?k13 ?a14 ?l14 ?c14 ?k14 ?a15 ?l15 ?c15 ?k15 ?a16 ?l16 ?c16 ?k16 ?a17 ?l17 ?c17 ?k17 ?a18 ?l18 ?c18 ?k18 ?a19 ?l19 ?c19 ?k19 ?a20 ?l20 ?c20 ?k20 ?a21 ?l21 ?c21 ?k21 ?a22 ?l22 ?c22 ?k22 ?a23 ?l23 ?c23 ?k23 ?a24 ?l24 ?c24 ?k24 ?a25 ?l25 ?c25 ?k25 ?a26 ?l26 ?c26 ?k26 ?a27 ?l27 ?c27 ?k27 ?a28 ?l28 ?c28 ?k28 ?a29 ?l29 ?c29 ?k29 ?z_abs ?z_all ?z_enumerate ?z_int ?z_len ?z_list ?z_max ?z_range ?z_repr ?z_sum ?z_tuple ?z_zip ?aSAME ?lcSAME_1 ?lcSAME_5 ?lcSAME_2
    (case a1 => k_is); (case l1 => k_is); (case c1 => k_is); (case k1 => k_is); (case a2 => k_is); (case l2 => k_is); (case c2 => k_is); (case k2 => k_is); (case a3 => k_is); (case l3 => k_is); (case c3 => k_is); (case k3 => k_is); (case a4 => k_is); (case l4 => k_is); (case c4 => k_is); (case k4 => k_is); (case a5 => k_is); (case l5 => k_is); (case c5 => k_is); (case k5 => k_is); (case a6 => k_is); (case l6 => k_is); (case c6 => k_is); (case k6 => k_is); (case a7 => k_is); (case l7 => k_is); (case c7 => k_is); (case k7 => k_is); (case a8 => k_is); (case l8 => k_is); (case c8 => k_is); (case k8 => k_is); (case a9 => k_is); (case l9 => k_is); (case c9 => k_is); (case k9 => k_is); (case a10 => k_is); (case l10 => k_is); (case c10 => k_is); (case k10 => k_is); (case a11 => k_is); (case l11 => k_is); (case c11 => k_is); (case k11 => k_is); (case a12 => k_is); (case l12 => k_is); (case c12 => k_is); (case k12 => k_is); (case a13 => k_is); (case l13 => k_is); (case c13 => k_is); (case k13 => k_is); (case a14 => k_is); (case l14 => k_is); (case c14 => k_is); (case k14 => k_is); (case a15 => k_is); (case l15 => k_is); (case c15 => k_is); (case k15 => k_is); (case a16 => k_is); (case l16 => k_is); (case c16 => k_is); (case k16 => k_is); (case a17 => k_is); (case l17 => k_is); (case c17 => k_is); (case k17 => k_is); (case a18 => k_is); (case l18 => k_is); (case c18 => k_is); (case k18 => k_is); (case a19 => k_is); (case l19 => k_is); (case c19 => k_is); (case k19 => k_is); (case a20 => k_is); (case l20 => k_is); (case c20 => k_is); (case k20 => k_is); (case a21 => k_is); (case l21 => k_is); (case c21 => k_is); (case k21 => k_is); (case a22 => k_is); (case l22 => k_is); (case c22 => k_is); (case k22 => k_is); (case a23 => k_is); (case l23 => k_is); (case c23 => k_is); (case k23 => k_is); (case a24 => k_is); (case l24 => k_is); (case c24 => k_is); (case k24 => k_is); (case a25 => k_is); (case l25 => k_is); (case c25 => k_is); (case k25 => k_is); (case a26 => k_is); (case l26 => k_is); (case c26 => k_is); (case k26 => k_is); (case a27 => k_is); (case l27 => k_is); (case c27 => k_is); (case k27 => k_is); (case a28 => k_is); (case l28 => k_is); (case c28 => k_is); (case k28 => k_is); (case a29 => k_is); (case l29 => k_is); (case c29 => k_is); (case k29 => k_is); (case z_abs => k_is); (case z_all => k_is); (case z_enumerate => k_is); (case z_int => k_is); (case z_len => k_is); (case z_list => k_is); (case z_max => k_is); (case z_range => k_is); (case z_repr => k_is); (case z_sum => k_is); (case z_tuple => k_is); (case z_zip => k_is); (case aSAME => k_is); (case lcSAME_1 => k_is); (case lcSAME_5 => k_is); (case lcSAME_2 => k_is)
