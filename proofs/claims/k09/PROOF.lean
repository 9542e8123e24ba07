import PyProof.Rows.All
import Wide.All
import OpenK.AllK
import Wide.FinOn
import HandS.ForMost
import HandS.TupAny
import HandS.TupMul
import HandS.Zip
import HandS.Conv
import HandS.Flow
import KE.GoesNew
import KE.GoesMore
import PyProof.EnumMake
import PyProof.CallFns
import PyProof.ReprRoads
import HandS.Style
import HandS.NoneIn
import HandS.Deep
import HandS.Dict
import HandS.Sort
import HandS.SortInts
import KE.SortData
import PyProof.SliceList
import HandS.Ends
import PySem.Challenge.RW_turnedweights_k09_whole_moves_and_ways_b
set_option Elab.async false
set_option linter.all false
set_option maxRecDepth 100000
/-! Ev1: data by value over the hand layer: pure data, owned lists, the drawing source. -/
namespace L2.Ev
open PySem PySem.Spec PyProof.Rows

/-- the source from which a law draws -/
structure Src where
  cells : List Int
  left : Int
  mixed : Int
  turn : Int
  deriving Inhabited

abbrev SA := Option (Addr × Addr)
def Away (sa : SA) (a : Addr) : Prop := ∀ p, sa = some p → a ≠ p.1 ∧ a ≠ p.2
theorem Away.empty {a : Addr} : Away Option.none a := fun _ h => nomatch h

mutual
def Pu : PyData → Prop
  | .none => True
  | .bool _ => True
  | .int _ => True
  | .str x => x.length ≤ sizeLine
  | .tuple ds => ds.length ≤ sizeLine ∧ PuAll ds
  | .list _ => False
  | .dict _ => False
def PuAll : List PyData → Prop
  | [] => True
  | d :: ds => Pu d ∧ PuAll ds
end
theorem puAll_iff : ∀ {ds : List PyData}, PuAll ds ↔ ∀ d ∈ ds, Pu d
  | [] => ⟨fun _ _ h => absurd h (by simp), fun _ => trivial⟩
  | d :: ds => by
    show (Pu d ∧ PuAll ds) ↔ _
    rw [List.forall_mem_cons, puAll_iff]
theorem PuAll.get {ds : List PyData} (h : PuAll ds) {i : Nat} {d : PyData} (e : ds[i]? = some d) : Pu d := puAll_iff.mp h d (List.mem_of_getElem? e)
theorem PuAll.append {ds es : List PyData} (h : PuAll ds) (g : PuAll es) : PuAll (ds ++ es) := puAll_iff.mpr fun d m => (List.mem_append.mp m).elim (puAll_iff.mp h d) (puAll_iff.mp g d)
theorem puAll_one {d : PyData} (h : Pu d) : PuAll [d] := ⟨h, trivial⟩
theorem PuAll.sub {ds es : List PyData} (h : PuAll ds) (s : ∀ d ∈ es, d ∈ ds) : PuAll es := puAll_iff.mpr fun d m => puAll_iff.mp h d (s d m)

/-- the tuples stand -/
def TupX (H H' : Hp) : Prop := ∀ a xs, Rd H a (.tup xs) → Rd H' a (.tup xs)
theorem TupX.refl (H : Hp) : TupX H H := fun _ _ h => h
theorem TupX.trans {H H1 H2 : Hp} (a : TupX H H1) (b : TupX H1 H2) : TupX H H2 := fun c xs h => b c xs (a c xs h)
section
variable {K : PySem.W.Frag} {H H' : Hp}
theorem TupX.sqt {a : Addr} {xs : List V} (e : TupX H H') (h : SqT K H a xs) : SqT K H' a xs := h.elim (fun q => .inl (e a xs q)) .inr
mutual
theorem TupX.dp (e : TupX H H') : ∀ (d : PyData) (v : V), Pu d → Dp K H v d → Dp K H' v d
  | .none, _, _, h => by cases h; exact .non
  | .bool b, _, _, h => by cases h; exact .bl b
  | .int i, _, _, h => by cases h; exact .int i
  | .str x, _, _, h => by cases h; exact .str x
  | .tuple ds, _, p, h => by
    cases h with
    | tup hs ha => exact .tup (e.sqt hs) (e.dpAll ds _ p.2 ha)
  | .list _, _, p, _ => p.elim
  | .dict _, _, p, _ => p.elim
theorem TupX.dpAll (e : TupX H H') : ∀ (ds : List PyData) (vs : List V), PuAll ds → DpAll K H vs ds → DpAll K H' vs ds
  | [], _, _, h => by cases h; exact .nil
  | d :: ds, _, p, h => by
    cases h with
    | cons h1 h2 => exact .cons (e.dp d _ p.1 h1) (e.dpAll ds _ p.2 h2)
end
end
end L2.Ev
namespace L2
open PySem PySem.Spec PyProof.Rows
theorem DpAll.length {K : PySem.W.Frag} {H : Hp} : ∀ {vs : List V} {ds : List PyData}, DpAll K H vs ds → vs.length = ds.length
  | _, _, .nil => rfl
  | _, _, .cons _ t => congrArg (· + 1) (DpAll.length t)
theorem DpAll.get {K : PySem.W.Frag} {H : Hp} : ∀ {vs : List V} {ds : List PyData} {i : Nat} {v : V}, DpAll K H vs ds → vs[i]? = some v → ∃ d, ds[i]? = some d ∧ Dp K H v d
  | _, _, _, _, .nil, e => by simp at e
  | _, _, 0, _, .cons r _, e => by simp at e; subst e; exact ⟨_, rfl, r⟩
  | _, _, i + 1, _, .cons _ t, e => DpAll.get (i := i) t (by simpa using e)
theorem DpAll.get' {K : PySem.W.Frag} {H : Hp} : ∀ {vs : List V} {ds : List PyData} {i : Nat} {d : PyData}, DpAll K H vs ds → ds[i]? = some d → ∃ v, vs[i]? = some v ∧ Dp K H v d
  | _, _, _, _, .nil, e => by simp at e
  | _, _, 0, _, .cons r _, e => by simp at e; subst e; exact ⟨_, rfl, r⟩
  | _, _, i + 1, _, .cons _ t, e => DpAll.get' (i := i) t (by simpa using e)
theorem DpAll.append {K : PySem.W.Frag} {H : Hp} : ∀ {vs ws : List V} {ds es : List PyData}, DpAll K H vs ds → DpAll K H ws es → DpAll K H (vs ++ ws) (ds ++ es)
  | _, _, _, _, .nil, s => s
  | _, _, _, _, .cons r t, s => .cons r (DpAll.append t s)
theorem DpAll.one {K : PySem.W.Frag} {H : Hp} {v : V} {d : PyData} (h : Dp K H v d) : DpAll K H [v] [d] := .cons h .nil
theorem DpAll.set {K : PySem.W.Frag} {H : Hp} {v : V} {d : PyData} (h : Dp K H v d) : ∀ {vs : List V} {ds : List PyData} (i : Nat), DpAll K H vs ds → DpAll K H (vs.set i v) (ds.set i d)
  | _, _, _, .nil => .nil
  | _, _, 0, .cons _ t => .cons h t
  | _, _, i + 1, .cons r t => .cons r (DpAll.set h i t)
theorem DpAll.take {K : PySem.W.Frag} {H : Hp} : ∀ {vs : List V} {ds : List PyData} (n : Nat), DpAll K H vs ds → DpAll K H (vs.take n) (ds.take n)
  | _, _, 0, _ => .nil
  | _, _, _ + 1, .nil => .nil
  | _, _, n + 1, .cons r t => .cons r (DpAll.take n t)
theorem DpAll.drop {K : PySem.W.Frag} {H : Hp} : ∀ {vs : List V} {ds : List PyData} (n : Nat), DpAll K H vs ds → DpAll K H (vs.drop n) (ds.drop n)
  | _, _, 0, r => r
  | _, _, _ + 1, .nil => .nil
  | _, _, n + 1, .cons _ t => DpAll.drop n t
theorem DpAll.flat {K : PySem.W.Frag} {H : Hp} {vs : List V} {ds : List PyData} (h : DpAll K H vs ds) : ∀ k : Nat, DpAll K H (List.replicate k vs).flatten (List.replicate k ds).flatten
  | 0 => .nil
  | k + 1 => by
    rw [List.replicate_succ, List.replicate_succ, List.flatten_cons, List.flatten_cons]
    exact h.append (h.flat k)
theorem DpAll.rev {K : PySem.W.Frag} {H : Hp} : ∀ {vs : List V} {ds : List PyData}, DpAll K H vs ds → DpAll K H vs.reverse ds.reverse
  | _, _, .nil => .nil
  | _, _, .cons r t => by
    rw [List.reverse_cons, List.reverse_cons]
    exact (DpAll.rev t).append (.one r)

end L2
namespace L2.Ev
open PySem PySem.Spec PyProof.Rows
/-- all but the source stands -/
structure Ext (sa : SA) (H H' : Hp) : Prop where
  cell : ∀ a o, H a = some o → Away sa a → H' a = some o
  tup : TupX H H'
section
variable {sa : SA} {K : PySem.W.Frag} {H H' H1 H2 B B' : Hp}
theorem Ext.refl (sa : SA) (H : Hp) : Ext sa H H := ⟨fun _ _ h _ => h, TupX.refl H⟩
theorem Ext.trans (a : Ext sa H H1) (b : Ext sa H1 H2) : Ext sa H H2 := ⟨fun c o h w => b.cell c o (a.cell c o h w) w, a.tup.trans b.tup⟩
theorem Ext.of_same (h : Same H H') : Ext sa H H' := ⟨fun a o e _ => h a o e, fun a xs r => r.elim (fun q => .inl (h _ _ q)) fun ⟨o, q⟩ => .inr ⟨o, h _ _ q⟩⟩
theorem same_new {p : Addr} {o : HO} (h : H p = none) : Same H (upd H p o) := fun b x e => by rw [upd_ne (ne_of_none e h)]; exact e
theorem Ext.new {p : Addr} {o : HO} (h : H p = none) : Ext sa H (upd H p o) := .of_same (same_new h)
theorem Ext.sql {a : Addr} {xs : List V} (e : Ext sa H H') (w : Away sa a) (h : SqL K H a xs) : SqL K H' a xs := by
  rcases h with (h | ⟨o, h⟩) | h
  · exact .inl (.inl (e.cell _ _ h w))
  · exact .inl (.inr ⟨o, e.cell _ _ h w⟩)
  · exact .inr h
/-- a list that is written (or a fresh place): the tuples stand -/
theorem tupX_upd {p : Addr} {o : HO} (h : H p = none ∨ ∃ vs, H p = some (.lst vs)) : TupX H (upd H p o) := fun a xs r => by
  have ne : a ≠ p := fun e => by
    subst e
    rcases h with h | ⟨vs, h⟩
    · rcases r with r | ⟨_, r⟩ <;> (rw [h] at r; cases r)
    · rcases r with r | ⟨_, r⟩ <;> (rw [h] at r; cases r)
  rcases r with r | ⟨u, r⟩
  · exact .inl (by rw [upd_ne ne]; exact r)
  · exact .inr ⟨u, by rw [upd_ne ne]; exact r⟩
end

/-! ### slots -/
inductive Sl where
  /-- pure data -/
  | p (d : PyData)
  /-- an own list of pure data -/
  | l (ds : List PyData)
  /-- an own list of own lists of pure data -/
  | ll (dss : List (List PyData))
  /-- a list of pure data that nobody writes -/
  | b (ds : List PyData)
  | bb (dss : List (List PyData))
  /-- the source -/
  | src
abbrev Env := List (Option Sl)

/-- an own list's cell -/
def LsAt (K : PySem.W.Frag) (H : Hp) (a : Addr) (ds : List PyData) : Prop := ∃ vs, H a = some (.lst vs) ∧ DpAll K H vs ds ∧ PuAll ds ∧ ds.length ≤ sizeLine
def RowsAt (K : PySem.W.Frag) (H : Hp) : List Addr → List (List PyData) → Prop
  | [], [] => True
  | b :: bs, ds :: dss => LsAt K H b ds ∧ RowsAt K H bs dss
  | _, _ => False
/-- a list that is read -/
def BAt (K : PySem.W.Frag) (sa : SA) (B : Hp) (a : Addr) (ds : List PyData) : Prop := ∃ vs, SqL K B a vs ∧ Away sa a ∧ DpAll K B vs ds ∧ PuAll ds ∧ ds.length ≤ sizeLine
def RowsB (K : PySem.W.Frag) (sa : SA) (B : Hp) : List V → List (List PyData) → Prop
  | [], [] => True
  | v :: vs, ds :: dss => (∃ b, v = .ref b ∧ BAt K sa B b ds) ∧ RowsB K sa B vs dss
  | _, _ => False
def SlRep (K : PySem.W.Frag) (sa : SA) (B H : Hp) (v : V) : Sl → List Addr → Prop
  | .p d, F => F = [] ∧ Dp K H v d ∧ Pu d
  | .l ds, F => ∃ a, v = .ref a ∧ F = [a] ∧ LsAt K H a ds
  | .ll dss, F => ∃ a bs, v = .ref a ∧ F = a :: bs ∧ H a = some (.lst (bs.map .ref)) ∧ RowsAt K H bs dss ∧ dss.length ≤ sizeLine
  | .b ds, F => F = [] ∧ ∃ a, v = .ref a ∧ BAt K sa B a ds
  | .bb dss, F => F = [] ∧ ∃ a vs, v = .ref a ∧ SqL K B a vs ∧ Away sa a ∧ RowsB K sa B vs dss ∧ dss.length ≤ sizeLine
  | .src, F => F = [] ∧ ∃ p, sa = some p ∧ v = .ref p.1

def SrcAt (H : Hp) (S : Src) (p : Addr × Addr) : Prop :=
  H p.1 = some (.dK [(.inr "cells", .ref p.2), (.inr "left", .int S.left), (.inr "mixed", .int S.mixed), (.inr "turn", .int S.turn)]) ∧
  H p.2 = some (.lst (S.cells.map .int)) ∧ p.1 ≠ p.2 ∧ S.cells.length ≤ sizeLine
def SrcRep (sa : SA) (H : Hp) (S : Src) : Prop := ∀ p, sa = some p → SrcAt H S p
theorem SrcRep.empty {H : Hp} {S : Src} : SrcRep Option.none H S := fun _ h => nomatch h
theorem SrcRep.same {sa : SA} {H H' : Hp} {S : Src} (s : SrcRep sa H S) (e : Same H H') : SrcRep sa H' S := fun p h => let ⟨a, b, c, d⟩ := s p h; ⟨e _ _ a, e _ _ b, c, d⟩
theorem SrcRep.away {sa : SA} {H : Hp} {S : Src} (s : SrcRep sa H S) {a : Addr} (h : H a = none) : Away sa a := fun p e => by
  obtain ⟨q1, q2, _, _⟩ := s p e
  exact ⟨fun z => (by rw [z, q1] at h; cases h), fun z => (by rw [z, q2] at h; cases h)⟩

structure Owns (K : PySem.W.Frag) (sa : SA) (B H : Hp) (σ : St) (δ : Env) (F : Nat → List Addr) : Prop where
  rep : ∀ i sl, δ[i]? = some (some sl) → ∃ v, σ[i]? = some (some v) ∧ SlRep K sa B H v sl (F i)
  nodup : ∀ i, (F i).Nodup
  apart : ∀ i j a, i ≠ j → a ∈ F i → a ∉ F j
  own : ∀ i a, a ∈ F i → B a = none ∧ Away sa a ∧ ∃ vs, H a = some (.lst vs)
structure Ok (K : PySem.W.Frag) (sa : SA) (B H : Hp) (σ : St) (δ : Env) (S : Src) : Prop where
  base : Ext sa B H
  len : δ.length = σ.length
  owns : ∃ F, Owns K sa B H σ δ F
  src : SrcRep sa H S

section
variable {K : PySem.W.Frag} {sa : SA} {B B' H H' : Hp} {σ : St} {δ : Env} {S S' : Src} {F : List Addr} {v : V} {sl : Sl}
theorem LsAt.mono {a : Addr} {ds : List PyData} (h : LsAt K H a ds) (e : H' a = H a) (t : TupX H H') : LsAt K H' a ds := by
  obtain ⟨vs, h1, h2, h3, h4⟩ := h
  exact ⟨vs, e.trans h1, t.dpAll _ _ h3 h2, h3, h4⟩
theorem RowsAt.mono (t : TupX H H') : ∀ {bs : List Addr} {dss : List (List PyData)}, RowsAt K H bs dss → (∀ b ∈ bs, H' b = H b) → RowsAt K H' bs dss
  | [], [], _, _ => trivial
  | b :: bs, ds :: dss, h, e => ⟨h.1.mono (e b List.mem_cons_self) t, RowsAt.mono t h.2 fun c m => e c (List.mem_cons_of_mem _ m)⟩
  | [], _ :: _, h, _ => h.elim
  | _ :: _, [], h, _ => h.elim
theorem RowsAt.cell : ∀ {bs : List Addr} {dss : List (List PyData)}, RowsAt K H bs dss → ∀ b ∈ bs, ∃ vs, H b = some (.lst vs)
  | b :: bs, ds :: dss, h, c, m => by
    rcases List.mem_cons.mp m with e | m
    · obtain ⟨vs, q, _⟩ := h.1
      exact ⟨vs, by rw [e]; exact q⟩
    · exact RowsAt.cell h.2 c m
theorem RowsAt.length : ∀ {bs : List Addr} {dss : List (List PyData)}, RowsAt K H bs dss → bs.length = dss.length
  | [], [], _ => rfl
  | b :: bs, ds :: dss, h => congrArg (· + 1) (RowsAt.length h.2)
  | [], _ :: _, h => h.elim
  | _ :: _, [], h => h.elim
theorem RowsAt.get : ∀ {bs : List Addr} {dss : List (List PyData)} {i : Nat} {ds : List PyData}, RowsAt K H bs dss → dss[i]? = some ds → ∃ b, bs[i]? = some b ∧ LsAt K H b ds
  | b :: bs, d :: dss, 0, ds, h, e => by simp at e; subst e; exact ⟨b, rfl, h.1⟩
  | b :: bs, d :: dss, i + 1, ds, h, e => RowsAt.get (i := i) h.2 (by simpa using e)
  | [], [], _, _, _, e => by simp at e
  | [], _ :: _, _, _, h, _ => h.elim
  | _ :: _, [], _, _, h, _ => h.elim
theorem BAt.mono {a : Addr} {ds : List PyData} (h : BAt K sa B a ds) (e : Ext sa B B') : BAt K sa B' a ds := by
  obtain ⟨vs, h1, h2, h3, h4, h5⟩ := h
  exact ⟨vs, e.sql h2 h1, h2, e.tup.dpAll _ _ h4 h3, h4, h5⟩
theorem RowsB.mono (e : Ext sa B B') : ∀ {vs : List V} {dss : List (List PyData)}, RowsB K sa B vs dss → RowsB K sa B' vs dss
  | [], [], _ => trivial
  | v :: vs, ds :: dss, h => ⟨let ⟨b, q, z⟩ := h.1; ⟨b, q, z.mono e⟩, RowsB.mono e h.2⟩
  | [], _ :: _, h => h.elim
  | _ :: _, [], h => h.elim
theorem RowsB.length : ∀ {vs : List V} {dss : List (List PyData)}, RowsB K sa B vs dss → vs.length = dss.length
  | [], [], _ => rfl
  | v :: vs, ds :: dss, h => congrArg (· + 1) (RowsB.length h.2)
  | [], _ :: _, h => h.elim
  | _ :: _, [], h => h.elim
theorem RowsB.get : ∀ {vs : List V} {dss : List (List PyData)} {i : Nat} {ds : List PyData}, RowsB K sa B vs dss → dss[i]? = some ds → ∃ b, vs[i]? = some (.ref b) ∧ BAt K sa B b ds
  | v :: vs, d :: dss, 0, ds, h, e => by
    simp at e; subst e
    obtain ⟨b, rfl, q⟩ := h.1
    exact ⟨b, rfl, q⟩
  | v :: vs, d :: dss, i + 1, ds, h, e => RowsB.get (i := i) h.2 (by simpa using e)
  | [], [], _, _, _, e => by simp at e
  | [], _ :: _, _, _, h, _ => h.elim
  | _ :: _, [], _, _, h, _ => h.elim
theorem RowsB.of : ∀ {bs : List Addr} {dss : List (List PyData)}, (∀ b ∈ bs, Away sa b) → RowsAt K H bs dss → RowsB K sa H (bs.map .ref) dss
  | [], [], _, _ => trivial
  | b :: bs, ds :: dss, w, h => ⟨⟨b, rfl, let ⟨vs, h1, h2, h3, h4⟩ := h.1; ⟨vs, .of h1, w b List.mem_cons_self, h2, h3, h4⟩⟩, RowsB.of (fun c m => w c (List.mem_cons_of_mem _ m)) h.2⟩
  | [], _ :: _, _, h => h.elim
  | _ :: _, [], _, h => h.elim
theorem SlRep.mono (h : SlRep K sa B H v sl F) (eb : Ext sa B B') (t : TupX H H') (k : ∀ a ∈ F, H' a = H a) : SlRep K sa B' H' v sl F := by
  cases sl with
  | p d => exact ⟨h.1, t.dp _ _ h.2.2 h.2.1, h.2.2⟩
  | l ds =>
    obtain ⟨a, e, hF, q⟩ := h
    subst hF
    exact ⟨a, e, rfl, q.mono (k a (by simp)) t⟩
  | ll dss =>
    obtain ⟨a, bs, e, hF, q, r, z⟩ := h
    subst hF
    exact ⟨a, bs, e, rfl, (k a (by simp)).trans q, r.mono t fun b m => k b (List.mem_cons_of_mem _ m), z⟩
  | b ds =>
    obtain ⟨e, a, e2, q⟩ := h
    exact ⟨e, a, e2, q.mono eb⟩
  | bb dss =>
    obtain ⟨e, a, vs, e2, q, w, r, z⟩ := h
    exact ⟨e, a, vs, e2, eb.sql w q, w, r.mono eb, z⟩
  | src => exact h
/-- the cells of a representation -/
theorem SlRep.cell (h : SlRep K sa B H v sl F) : ∀ a ∈ F, ∃ vs, H a = some (.lst vs) := by
  cases sl with
  | p d => rw [h.1]; exact fun _ m => nomatch m
  | l ds =>
    obtain ⟨a, e, hF, vs, q, _⟩ := h
    subst hF
    intro c m
    obtain rfl : c = a := by simpa using m
    exact ⟨vs, q⟩
  | ll dss =>
    obtain ⟨a, bs, e, hF, q, r, z⟩ := h
    subst hF
    intro c m
    rcases List.mem_cons.mp m with e | m
    · exact ⟨_, by rw [e]; exact q⟩
    · exact r.cell c m
  | b ds => rw [h.1]; exact fun _ m => nomatch m
  | bb ds => rw [h.1]; exact fun _ m => nomatch m
  | src => rw [h.1]; exact fun _ m => nomatch m

variable {FF : Nat → List Addr}
theorem Owns.ext (o : Owns K sa B H σ δ FF) (e : Ext sa H H') : Owns K sa B H' σ δ FF where
  rep := fun i sl h => let ⟨v, h1, h2⟩ := o.rep i sl h; ⟨v, h1, h2.mono (.refl _ _) e.tup fun a m => by
    obtain ⟨_, w, vs, q⟩ := o.own i a m
    rw [q]; exact e.cell a _ q w⟩
  nodup := o.nodup
  apart := o.apart
  own := fun i a m => let ⟨h1, h2, vs, h3⟩ := o.own i a m; ⟨h1, h2, vs, e.cell a _ h3 h2⟩
theorem Ok.ext (ok : Ok K sa B H σ δ S) (e : Ext sa H H') (s : SrcRep sa H' S') : Ok K sa B H' σ δ S' :=
  ⟨ok.base.trans e, ok.len, let ⟨F, o⟩ := ok.owns; ⟨F, o.ext e⟩, s⟩
theorem Ok.same (ok : Ok K sa B H σ δ S) (e : Same H H') : Ok K sa B H' σ δ S := ok.ext (.of_same e) (ok.src.same e)
theorem Ok.new (ok : Ok K sa B H σ δ S) {p : Addr} {o : HO} (h : H p = none) : Ok K sa B (upd H p o) σ δ S := ok.same (same_new h)
theorem Ok.away (ok : Ok K sa B H σ δ S) {p : Addr} (h : H p = none) : Away sa p := ok.src.away h
theorem Ok.basefree (ok : Ok K sa B H σ δ S) {p : Addr} (h : H p = none) : B p = none := by
  cases q : B p with
  | none => rfl
  | some o =>
    have z := ok.base.cell p o q (ok.away h)
    rw [h] at z; cases z

/-- slots forgotten -/
def Sub : Env → Env → Prop
  | [], [] => True
  | none :: a, _ :: b => Sub a b
  | some x :: a, y :: b => y = some x ∧ Sub a b
  | _, _ => False
theorem Sub.get : ∀ {a b : Env}, Sub a b → ∀ (i : Nat) sl, a[i]? = some (some sl) → b[i]? = some (some sl)
  | none :: a, _ :: b, h, 0, _, e => by simp at e
  | none :: a, _ :: b, h, i + 1, _, e => by simpa using Sub.get (a := a) h i _ (by simpa using e)
  | some x :: a, y :: b, h, 0, _, e => by
    rw [h.1]
    simpa using e
  | some x :: a, y :: b, h, i + 1, _, e => by simpa using Sub.get (a := a) h.2 i _ (by simpa using e)
  | [], [], _, _, _, e => by simp at e
  | [], _ :: _, h, _, _, _ => h.elim
  | none :: _, [], h, _, _, _ => h.elim
  | some _ :: _, [], h, _, _, _ => h.elim
theorem Sub.length : ∀ {a b : Env}, Sub a b → a.length = b.length
  | none :: a, _ :: b, h => congrArg (· + 1) (Sub.length (a := a) h)
  | some x :: a, y :: b, h => congrArg (· + 1) (Sub.length (a := a) h.2)
  | [], [], _ => rfl
  | [], _ :: _, h => h.elim
  | none :: _, [], h => h.elim
  | some _ :: _, [], h => h.elim
theorem Sub.rfl' : ∀ (a : Env), Sub a a
  | [] => trivial
  | none :: a => Sub.rfl' a
  | some _ :: a => ⟨rfl, Sub.rfl' a⟩
theorem Ok.forget {δ' : Env} (ok : Ok K sa B H σ δ S) (h : Sub δ' δ) : Ok K sa B H σ δ' S :=
  ⟨ok.base, h.length.trans ok.len, let ⟨F, o⟩ := ok.owns; ⟨F, fun i sl e => o.rep i sl (h.get i sl e), o.nodup, o.apart, o.own⟩, ok.src⟩
/-- another row of slots where those that are told stand as they stood -/
theorem Ok.slots {δ' : Env} {σ' : St} (ok : Ok K sa B H σ δ S) (hl : δ'.length = σ'.length) (h : ∀ (i : Nat) sl, δ'[i]? = some (some sl) → δ[i]? = some (some sl) ∧ ∀ v, σ[i]? = some (some v) → σ'[i]? = some (some v)) : Ok K sa B H σ' δ' S :=
  ⟨ok.base, hl, let ⟨F, o⟩ := ok.owns; ⟨F, fun i sl e => let ⟨v, h1, h2⟩ := o.rep i sl (h i sl e).1; ⟨v, (h i sl e).2 v h1, h2⟩, o.nodup, o.apart, o.own⟩, ok.src⟩

/-- a slot is stored: what stands there owns the cells Fn, that were none ahead -/
theorem Ok.setNew (ok : Ok K sa B H σ δ S) (e : Ext sa H H') (s : SrcRep sa H' S') {i : Nat} {Fn : List Addr} (r : SlRep K sa B H' v sl Fn) (hi : i < δ.length)
    (hn : Fn.Nodup) (hf : ∀ a ∈ Fn, H a = none) : Ok K sa B H' (σ.set i (some v)) (δ.set i (some sl)) S' := by
  refine ⟨ok.base.trans e, by rw [List.length_set, List.length_set]; exact ok.len, ?_, s⟩
  obtain ⟨F, o⟩ := ok.owns
  have o' := o.ext e
  have nf : ∀ j, ∀ a ∈ Fn, a ∉ F j := fun j a m z => by
    obtain ⟨_, _, vs, q⟩ := o.own j a z
    rw [hf a m] at q; cases q
  refine ⟨fun j => if j = i then Fn else F j, fun j sl' h => ?_, fun j => ?_, fun j k a ne m => ?_, fun j a m => ?_⟩
  · by_cases hj : j = i
    · subst hj
      rw [List.getElem?_set_self hi] at h
      cases h
      exact ⟨v, by rw [List.getElem?_set_self (by rw [← ok.len]; exact hi)], by rw [if_pos rfl]; exact r⟩
    · rw [List.getElem?_set_ne (Ne.symm hj)] at h
      obtain ⟨w, h1, h2⟩ := o'.rep j sl' h
      exact ⟨w, by rw [List.getElem?_set_ne (Ne.symm hj)]; exact h1, by rw [if_neg hj]; exact h2⟩
  · by_cases hj : j = i
    · simp only [hj, if_true]; exact hn
    · simp only [hj, if_false]; exact o.nodup j
  · by_cases hj : j = i
    · simp only [hj, if_true] at m
      have hk : k ≠ i := fun z => ne (hj.trans z.symm)
      simp only [hk, if_false]
      exact nf k a m
    · simp only [hj, if_false] at m
      by_cases hk : k = i
      · simp only [hk, if_true]
        exact fun z => nf j a z m
      · simp only [hk, if_false]
        exact o.apart j k a ne m
  · by_cases hj : j = i
    · simp only [hj, if_true] at m
      exact ⟨ok.basefree (hf a m), ok.away (hf a m), r.cell a m⟩
    · simp only [hj, if_false] at m
      exact o'.own j a m
theorem Ok.set (ok : Ok K sa B H σ δ S) {i : Nat} (r : SlRep K sa B H v sl []) (hi : i < δ.length) : Ok K sa B H (σ.set i (some v)) (δ.set i (some sl)) S :=
  ok.setNew (.refl _ _) ok.src r hi .nil fun _ m => nomatch m

/-- all that isn't owned becomes base -/
theorem Ok.freeze (ok : Ok K sa B H σ δ S) (e : Ext sa H H') (s : SrcRep sa H' S') :
    ∃ B', Ext sa B B' ∧ Ok K sa B' H' σ δ S' ∧ TupX H' B' ∧ ∀ p o, H p = none → H' p = some o → B' p = some o := by
  obtain ⟨F, o⟩ := ok.owns
  have o' := o.ext e
  classical
  let B' : Hp := fun b => if ∃ i, b ∈ F i then none else H' b
  have b1 : ∀ b, (∃ i, b ∈ F i) → B' b = none := fun b h => if_pos h
  have b2 : ∀ b, ¬ (∃ i, b ∈ F i) → B' b = H' b := fun b h => if_neg h
  have tx : TupX H' B' := fun a xs r => by
    have nm : ¬ ∃ i, a ∈ F i := fun ⟨i, m⟩ => by
      obtain ⟨_, _, vs, q⟩ := o'.own i a m
      rcases r with r | ⟨_, r⟩ <;> (rw [q] at r; cases r)
    rcases r with r | ⟨u, r⟩
    · exact .inl (by rw [b2 a nm]; exact r)
    · exact .inr ⟨u, by rw [b2 a nm]; exact r⟩
  have eb : Ext sa B B' := ⟨fun a ob q w => by
    have nm : ¬ ∃ i, a ∈ F i := fun ⟨i, m⟩ => by
      rw [(o.own i a m).1] at q; cases q
    rw [b2 a nm]
    exact e.cell a ob (ok.base.cell a ob q w) w, ok.base.tup.trans (e.tup.trans tx)⟩
  refine ⟨B', eb, ⟨⟨fun a ob q w => ?_, fun a xs r => ?_⟩, ok.len, ⟨F, fun i sl h => ?_, o.nodup, o.apart, fun i a m => ?_⟩, s⟩, tx, fun p ob h h' => ?_⟩
  · by_cases hm : ∃ i, a ∈ F i
    · rw [b1 a hm] at q; cases q
    · rw [b2 a hm] at q; exact q
  · by_cases hm : ∃ i, a ∈ F i
    · rcases r with r | ⟨_, r⟩ <;> (rw [b1 a hm] at r; cases r)
    · rcases r with r | ⟨u, r⟩
      · exact .inl (by rw [b2 a hm] at r; exact r)
      · exact .inr ⟨u, by rw [b2 a hm] at r; exact r⟩
  · obtain ⟨w, h1, h2⟩ := o'.rep i sl h
    exact ⟨w, h1, h2.mono eb (TupX.refl _) fun _ _ => rfl⟩
  · obtain ⟨_, w, q⟩ := o'.own i a m
    exact ⟨b1 a ⟨i, m⟩, w, q⟩
  · have nm : ¬ ∃ i, p ∈ F i := fun ⟨i, m⟩ => by
      obtain ⟨_, _, vs, q⟩ := o.own i p m
      rw [h] at q; cases q
    rw [b2 p nm]; exact h'

/-- an own list is written -/
theorem Ok.write (ok : Ok K sa B H σ δ S) {i : Nat} {ds ds' : List PyData} {a : Addr} {vs' : List V} (hi : δ[i]? = some (some (.l ds))) (hσ : σ[i]? = some (some (.ref a)))
    (hd : DpAll K H vs' ds') (hp : PuAll ds') (hz : ds'.length ≤ sizeLine) : Ok K sa B (upd H a (.lst vs')) σ (δ.set i (some (.l ds'))) S := by
  obtain ⟨F, o⟩ := ok.owns
  obtain ⟨v, h1, a', h2, hF, vs, q, _⟩ := o.rep i _ hi
  rw [hσ] at h1
  obtain rfl : V.ref a = v := Option.some.inj (Option.some.inj h1)
  obtain rfl : a = a' := by injection h2
  have ma : a ∈ F i := by rw [hF]; simp
  obtain ⟨hb, w, _⟩ := o.own i a ma
  have tx : TupX H (upd H a (.lst vs')) := tupX_upd (.inr ⟨vs, q⟩)
  have il : i < δ.length := (List.getElem?_eq_some_iff.mp hi).1
  refine ⟨⟨fun c ob e wc => ?_, ok.base.tup.trans tx⟩, by rw [List.length_set]; exact ok.len, ⟨F, fun j sl' h => ?_, o.nodup, o.apart, fun j c m => ?_⟩, fun p hp => ?_⟩
  · rw [upd_ne (fun z => by rw [z, hb] at e; cases e)]
    exact ok.base.cell c ob e wc
  · by_cases hj : j = i
    · subst hj
      rw [List.getElem?_set_self il] at h
      cases h
      exact ⟨.ref a, hσ, a, rfl, hF, vs', upd_same, tx.dpAll _ _ hp hd, hp, hz⟩
    · rw [List.getElem?_set_ne (Ne.symm hj)] at h
      obtain ⟨u, g1, g2⟩ := o.rep j sl' h
      exact ⟨u, g1, g2.mono (.refl _ _) tx fun c m => upd_ne fun z => o.apart j i c hj m (z ▸ ma)⟩
  · obtain ⟨g1, g2, ws, g3⟩ := o.own j c m
    refine ⟨g1, g2, ?_⟩
    by_cases hc : c = a
    · exact ⟨vs', by rw [hc, upd_same]⟩
    · exact ⟨ws, by rw [upd_ne hc]; exact g3⟩
  · obtain ⟨q1, q2, q3, q4⟩ := ok.src p hp
    exact ⟨by rw [upd_ne (Ne.symm (w p hp).1)]; exact q1, by rw [upd_ne (Ne.symm (w p hp).2)]; exact q2, q3, q4⟩
end
end L2.Ev

set_option Elab.async false
set_option linter.all false
set_option maxRecDepth 100000
/-! Ev2: what an expression evaluates to. -/
namespace L2.Ev
open PySem PySem.Spec PyProof.Rows

/-- how a Lean value is written as data -/
class Enc (α : Type) where
  enc : α → PyData
@[reducible] def enc {α : Type} [Enc α] (x : α) : PyData := Enc.enc x
structure T3 (α β γ : Type) where
  a : α
  b : β
  c : γ
  deriving DecidableEq, Inhabited
structure T4 (α β γ δ : Type) where
  a : α
  b : β
  c : γ
  d : δ
  deriving DecidableEq, Inhabited
structure T5 (α β γ δ ε : Type) where
  a : α
  b : β
  c : γ
  d : δ
  e : ε
  deriving DecidableEq, Inhabited
structure T1 (α : Type) where
  a : α
  deriving DecidableEq, Inhabited
instance : Enc Int := ⟨.int⟩
instance : Enc Bool := ⟨.bool⟩
instance : Enc Str := ⟨.str⟩
instance : Enc PyData := ⟨fun d => d⟩
instance : Enc Unit := ⟨fun _ => .none⟩
instance {α β} [Enc α] [Enc β] : Enc (α × β) := ⟨fun x => .tuple [enc x.1, enc x.2]⟩
instance {α} [Enc α] : Enc (T1 α) := ⟨fun x => .tuple [enc x.a]⟩
instance {α β γ} [Enc α] [Enc β] [Enc γ] : Enc (T3 α β γ) := ⟨fun x => .tuple [enc x.a, enc x.b, enc x.c]⟩
instance {α β γ δ} [Enc α] [Enc β] [Enc γ] [Enc δ] : Enc (T4 α β γ δ) := ⟨fun x => .tuple [enc x.a, enc x.b, enc x.c, enc x.d]⟩
instance {α β γ δ ε} [Enc α] [Enc β] [Enc γ] [Enc δ] [Enc ε] : Enc (T5 α β γ δ ε) := ⟨fun x => .tuple [enc x.a, enc x.b, enc x.c, enc x.d, enc x.e]⟩
@[reducible] def encs {α : Type} [Enc α] (xs : List α) : List PyData := xs.map enc
@[reducible] def encss {α : Type} [Enc α] (xss : List (List α)) : List (List PyData) := xss.map encs
instance {α} [Enc α] : Enc (List α) := ⟨fun xs => .tuple (encs xs)⟩
/-- None or a value -/
def encO {α : Type} [Enc α] : Option α → PyData
  | none => .none
  | some x => enc x
instance {α} [Enc α] : Enc (Option α) := ⟨encO⟩

/-! ### judgements -/
def BOk (st : Bool) (K : PySem.W.Frag) (sa : SA) (B H : Hp) (σ : St) (δ : Env) (S : Src) (B' : Hp) : Prop := if st = true then Ext sa B B' ∧ Ok K sa B' H σ δ S else B' = H
/-- the value is represented as sl (st: in a base that stands behind what follows) -/
def tEG (st : Bool) (K : PySem.W.Frag) (sa : SA) (δ : Env) (S : Src) (sl : Sl) (S' : Src) : TE := fun σ H Q =>
  ∃ B, Ok K sa B H σ δ S ∧ ∀ v H' B', Ok K sa B H' σ δ S' → Ext sa H H' → BOk st K sa B H' σ δ S' B' → SlRep K sa B' B' v sl [] → Q v H'
def EG (st : Bool) (X : Cx) (sa : SA) (δ : Env) (S : Src) (e : Expr) (sl : Sl) (S' : Src) : Prop := PE X e (tEG st X.K sa δ S sl S')
abbrev EE (X : Cx) (sa : SA) (δ : Env) (S : Src) (e : Expr) (sl : Sl) (S' : Src) : Prop := EG false X sa δ S e sl S'
/-- a new list of pure data -/
def tEL (K : PySem.W.Frag) (sa : SA) (δ : Env) (S : Src) (ds : List PyData) (S' : Src) : TE := fun σ H Q =>
  ∃ B, Ok K sa B H σ δ S ∧ ∀ p H', H p = none → Ok K sa B H' σ δ S' → Ext sa H H' → LsAt K H' p ds → Q (.ref p) H'
def EL (X : Cx) (sa : SA) (δ : Env) (S : Src) (e : Expr) (ds : List PyData) (S' : Src) : Prop := PE X e (tEL X.K sa δ S ds S')
/-- a new list of new lists of pure data -/
def tEM (K : PySem.W.Frag) (sa : SA) (δ : Env) (S : Src) (dss : List (List PyData)) (S' : Src) : TE := fun σ H Q =>
  ∃ B, Ok K sa B H σ δ S ∧ ∀ p bs H', (∀ b ∈ p :: bs, H b = none) → (p :: bs).Nodup → Ok K sa B H' σ δ S' → Ext sa H H' → H' p = some (.lst (bs.map .ref)) → RowsAt K H' bs dss → dss.length ≤ sizeLine → Q (.ref p) H'
def EM (X : Cx) (sa : SA) (δ : Env) (S : Src) (e : Expr) (dss : List (List PyData)) (S' : Src) : Prop := PE X e (tEM X.K sa δ S dss S')
/-- a test -/
def tET (K : PySem.W.Frag) (sa : SA) (δ : Env) (S : Src) (c : Bool) (S' : Src) : TT := fun σ H Q =>
  ∃ B, Ok K sa B H σ δ S ∧ ∀ H', Ok K sa B H' σ δ S' → Ext sa H H' → Q c H'
def ET (X : Cx) (sa : SA) (δ : Env) (S : Src) (e : Expr) (c : Bool) (S' : Src) : Prop := PT X e (tET X.K sa δ S c S')
def EW (X : Cx) (sa : SA) (δ : Env) (S : Src) (e : Expr) (c : Bool) (S' : Src) : Prop := PW X e (tET X.K sa δ S c S')
def SlsRep (K : PySem.W.Frag) (sa : SA) (B : Hp) : List V → List Sl → Prop
  | [], [] => True
  | v :: vs, sl :: sls => SlRep K sa B B v sl [] ∧ SlsRep K sa B vs sls
  | _, _ => False
/-- arguments -/
def tEA (st : Bool) (K : PySem.W.Frag) (sa : SA) (δ : Env) (S : Src) (sls : List Sl) (S' : Src) : TA := fun σ H Q =>
  ∃ B, Ok K sa B H σ δ S ∧ ∀ vs H' B', Ok K sa B H' σ δ S' → Ext sa H H' → BOk st K sa B H' σ δ S' B' → SlsRep K sa B' vs sls → Q vs H'
def EA (st : Bool) (X : Cx) (sa : SA) (δ : Env) (S : Src) (es : List Expr) (sls : List Sl) (S' : Src) : Prop := PA X es (tEA st X.K sa δ S sls S')

section
variable {X : Cx} {sa : SA} {δ : Env} {S S1 S2 S3 S' : Src} {st : Bool} {e a b c : Expr} {sl sla slb : Sl} {pos : Pos}
theorem pe_imp {t t' : TE} (h : PE X e t) (m : ∀ σ H Q, t' σ H Q → t σ H Q) : PE X e t' := ⟨fun pins s σ H Q I q => h.run pins s σ H Q I (m σ H Q q)⟩
theorem pt_imp {t t' : TT} (h : PT X e t) (m : ∀ σ H Q, t' σ H Q → t σ H Q) : PT X e t' := ⟨fun pins s σ H Q I q => h.run pins s σ H Q I (m σ H Q q)⟩
theorem pw_imp {t t' : TT} (h : PW X e t) (m : ∀ σ H Q, t' σ H Q → t σ H Q) : PW X e t' := ⟨fun w pins s σ H Q I q => h.run w pins s σ H Q I (m σ H Q q)⟩
theorem pa_imp {es : List Expr} {t t' : TA} (h : PA X es t) (m : ∀ σ H Q, t' σ H Q → t σ H Q) : PA X es t' := ⟨fun p pins s σ H Q I q => h.run p pins s σ H Q I (m σ H Q q)⟩

variable {K : PySem.W.Frag} {B H H' : Hp} {σ : St} {v : V}
/-- pure data is handed on -/
theorem give_p {G : Prop} {d : PyData} (ok : Ok K sa B H σ δ S) (e : Ext sa H H') (s : SrcRep sa H' S') (hd : Dp K H' v d) (hp : Pu d)
    (k : ∀ B', Ok K sa B H' σ δ S' → BOk st K sa B H' σ δ S' B' → SlRep K sa B' B' v (.p d) [] → G) : G := by
  have ok' := ok.ext e s
  cases st with
  | false => exact k H' ok' rfl ⟨rfl, hd, hp⟩
  | true =>
    obtain ⟨B', eb, okb, tx, _⟩ := ok.freeze e s
    exact k B' ok' ⟨eb, okb⟩ ⟨rfl, tx.dp _ _ hp hd, hp⟩
/-- a new list is handed on as one that is read -/
theorem give_l {G : Prop} {p : Addr} {ds : List PyData} (ok : Ok K sa B H σ δ S) (e : Ext sa H H') (s : SrcRep sa H' S') (hp : H p = none) (hl : LsAt K H' p ds)
    (k : ∀ B', Ok K sa B H' σ δ S' → BOk st K sa B H' σ δ S' B' → SlRep K sa B' B' (.ref p) (.b ds) [] → G) : G := by
  have ok' := ok.ext e s
  obtain ⟨vs, h1, h2, h3, h4⟩ := hl
  cases st with
  | false => exact k H' ok' rfl ⟨rfl, p, rfl, vs, .of h1, ok.away hp, h2, h3, h4⟩
  | true =>
    obtain ⟨B', eb, okb, tx, fr⟩ := ok.freeze e s
    exact k B' ok' ⟨eb, okb⟩ ⟨rfl, p, rfl, vs, .of (fr p _ hp h1), ok.away hp, tx.dpAll _ _ h3 h2, h3, h4⟩
theorem give_m {G : Prop} {p : Addr} {bs : List Addr} {dss : List (List PyData)} (ok : Ok K sa B H σ δ S) (e : Ext sa H H') (s : SrcRep sa H' S') (hp : ∀ b ∈ p :: bs, H b = none) (hl : H' p = some (.lst (bs.map .ref))) (hr : RowsAt K H' bs dss) (hz : dss.length ≤ sizeLine)
    (k : ∀ B', Ok K sa B H' σ δ S' → BOk st K sa B H' σ δ S' B' → SlRep K sa B' B' (.ref p) (.bb dss) [] → G) : G := by
  have ok' := ok.ext e s
  have aw : ∀ b ∈ bs, Away sa b := fun b m => ok.away (hp b (List.mem_cons_of_mem _ m))
  cases st with
  | false => exact k H' ok' rfl ⟨rfl, p, _, rfl, .of hl, ok.away (hp p List.mem_cons_self), RowsB.of aw hr, hz⟩
  | true =>
    obtain ⟨B', eb, okb, tx, fr⟩ := ok.freeze e s
    refine k B' ok' ⟨eb, okb⟩ ⟨rfl, p, _, rfl, .of (fr p _ (hp p List.mem_cons_self) hl), ok.away (hp p List.mem_cons_self), RowsB.of aw ?_, hz⟩
    refine hr.mono tx fun b m => ?_
    obtain ⟨vs, q⟩ := hr.cell b m
    rw [q]
    exact fr b _ (hp b (List.mem_cons_of_mem _ m)) q
theorem SlsRep.pures {ds : List PyData} {vs : List V} (h : SlsRep K sa B vs (ds.map .p)) : DpAll K B vs ds ∧ PuAll ds := by
  induction ds generalizing vs with
  | nil =>
    cases vs with
    | nil => exact ⟨.nil, trivial⟩
    | cons v vs => exact h.elim
  | cons d ds ih =>
    cases vs with
    | nil => exact h.elim
    | cons v vs =>
      obtain ⟨h1, h2⟩ := ih h.2
      exact ⟨.cons h.1.2.1 h1, h.1.2.2, h2⟩
theorem SlRep.ext {sl : Sl} (h : SlRep K sa B B v sl []) (e : Ext sa B H) : SlRep K sa H H v sl [] := h.mono e e.tup fun _ m => nomatch m
theorem SlsRep.ext : ∀ {vs : List V} {sls : List Sl}, SlsRep K sa B vs sls → Ext sa B H → SlsRep K sa H vs sls
  | [], [], _, _ => trivial
  | v :: vs, sl :: sls, h, e => ⟨h.1.ext e, SlsRep.ext h.2 e⟩
  | [], _ :: _, h, _ => h.elim
  | _ :: _, [], h, _ => h.elim

/-! ### arguments -/
theorem ea_nil : EA st X sa δ S [] [] S := pa_imp pa_nil fun σ H Q ⟨B, ok, k⟩ => by
  cases st with
  | false => exact k [] H H ok (.refl _ _) rfl trivial
  | true => exact k [] H B ok (.refl _ _) ⟨.refl _ _, ok⟩ trivial
theorem ea_cons {es : List Expr} {sls : List Sl} (h1 : EG st X sa δ S e sl S1) (h2 : EA st X sa δ S1 es sls S2) (hs : starEach (e :: es) X.env = (false, eval e X.env) :: starEach es X.env := by rfl) :
    EA st X sa δ S (e :: es) (sl :: sls) S2 := pa_imp (pa_cons h1 h2 hs) fun σ H Q ⟨B, ok, k⟩ => by
  refine ⟨B, ok, fun v H1 B1 ok1 e1 b1 r1 => ?_⟩
  cases st with
  | false =>
    obtain rfl : B1 = H1 := b1
    exact ⟨B, ok1, fun vs H2 B2 ok2 e2 b2 r2 => k _ H2 B2 ok2 (e1.trans e2) b2 ⟨by
      obtain rfl : B2 = H2 := b2
      exact r1.ext e2, r2⟩⟩
  | true =>
    obtain ⟨eb, okb⟩ := b1
    refine ⟨B1, okb, fun vs H2 B2 ok2 e2 b2 r2 => ?_⟩
    obtain ⟨eb2, okb2⟩ := b2
    exact k _ H2 B2 (ok1.ext e2 ok2.src) (e1.trans e2) ⟨eb.trans eb2, okb2⟩ ⟨r1.ext eb2, r2⟩

/-! ### names -/
theorem ev_var (i : Nat) {x : Str} {d : PyData} (hd : δ[i]? = some (some (.p d))) (hv : PE X (.Name x pos) (tVar i)) : EG st X sa δ S (.Name x pos) (.p d) S := pe_imp hv fun σ H Q ⟨B, ok, k⟩ => by
  obtain ⟨F, o⟩ := ok.owns
  obtain ⟨v, h1, h2⟩ := o.rep i _ hd
  exact ⟨v, h1, give_p ok (.refl _ _) ok.src h2.2.1 h2.2.2 fun B' ok' b r => k v H B' ok' (.refl _ _) b r⟩
theorem ev_varB (i : Nat) {x : Str} {ds : List PyData} (hd : δ[i]? = some (some (.b ds))) (hv : PE X (.Name x pos) (tVar i)) : EG st X sa δ S (.Name x pos) (.b ds) S := pe_imp hv fun σ H Q ⟨B, ok, k⟩ => by
  obtain ⟨F, o⟩ := ok.owns
  obtain ⟨v, h1, _, h2⟩ := o.rep i _ hd
  refine ⟨v, h1, ?_⟩
  cases st with
  | false =>
    obtain ⟨a, e, q⟩ := h2
    exact k v H H ok (.refl _ _) rfl ⟨rfl, a, e, q.mono ok.base⟩
  | true => exact k v H B ok (.refl _ _) ⟨.refl _ _, ok⟩ ⟨rfl, h2⟩
theorem ev_varBB (i : Nat) {x : Str} {dss : List (List PyData)} (hd : δ[i]? = some (some (.bb dss))) (hv : PE X (.Name x pos) (tVar i)) : EG st X sa δ S (.Name x pos) (.bb dss) S := pe_imp hv fun σ H Q ⟨B, ok, k⟩ => by
  obtain ⟨F, o⟩ := ok.owns
  obtain ⟨v, h1, _, h2⟩ := o.rep i _ hd
  refine ⟨v, h1, ?_⟩
  cases st with
  | false =>
    obtain ⟨a, vs, e, q, w, r, z⟩ := h2
    exact k v H H ok (.refl _ _) rfl ⟨rfl, a, vs, e, ok.base.sql w q, w, r.mono ok.base, z⟩
  | true => exact k v H B ok (.refl _ _) ⟨.refl _ _, ok⟩ ⟨rfl, h2⟩
/-- an own list, read -/
theorem ev_varL (i : Nat) {x : Str} {ds : List PyData} (hd : δ[i]? = some (some (.l ds))) (hv : PE X (.Name x pos) (tVar i)) : EE X sa δ S (.Name x pos) (.b ds) S := pe_imp hv fun σ H Q ⟨B, ok, k⟩ => by
  obtain ⟨F, o⟩ := ok.owns
  obtain ⟨v, h1, a, e, hF, vs, q, q2⟩ := o.rep i _ hd
  exact ⟨v, h1, k v H H ok (.refl _ _) rfl ⟨rfl, a, e, vs, .of q, (o.own i a (by rw [hF]; simp)).2.1, q2⟩⟩
theorem ev_varLL (i : Nat) {x : Str} {dss : List (List PyData)} (hd : δ[i]? = some (some (.ll dss))) (hv : PE X (.Name x pos) (tVar i)) : EE X sa δ S (.Name x pos) (.bb dss) S := pe_imp hv fun σ H Q ⟨B, ok, k⟩ => by
  obtain ⟨F, o⟩ := ok.owns
  obtain ⟨v, h1, a, bs, e, hF, q, r, z⟩ := o.rep i _ hd
  exact ⟨v, h1, k v H H ok (.refl _ _) rfl ⟨rfl, a, _, e, .of q, (o.own i a (by rw [hF]; simp)).2.1, RowsB.of (fun b m => (o.own i b (by rw [hF]; exact List.mem_cons_of_mem _ m)).2.1) r, z⟩⟩
theorem ev_varS (i : Nat) {x : Str} (hd : δ[i]? = some (some .src)) (hv : PE X (.Name x pos) (tVar i)) : EG st X sa δ S (.Name x pos) .src S := pe_imp hv fun σ H Q ⟨B, ok, k⟩ => by
  obtain ⟨F, o⟩ := ok.owns
  obtain ⟨v, h1, _, h2⟩ := o.rep i _ hd
  refine ⟨v, h1, ?_⟩
  cases st with
  | false => exact k v H H ok (.refl _ _) rfl ⟨rfl, h2⟩
  | true => exact k v H B ok (.refl _ _) ⟨.refl _ _, ok⟩ ⟨rfl, h2⟩
/-- a new list, read -/
theorem ev_of_new {ds : List PyData} (h : EL X sa δ S e ds S') : EG st X sa δ S e (.b ds) S' := pe_imp h fun σ H Q ⟨B, ok, k⟩ =>
  ⟨B, ok, fun p H' hp ok' e' hl => give_l ok e' ok'.src hp hl fun B' ok'' b r => k _ H' B' ok'' e' b r⟩
theorem ev_of_newM {dss : List (List PyData)} (h : EM X sa δ S e dss S') : EG st X sa δ S e (.bb dss) S' := pe_imp h fun σ H Q ⟨B, ok, k⟩ =>
  ⟨B, ok, fun p bs H' hp hn ok' e' hl hr hz => give_m ok e' ok'.src hp hl hr hz fun B' ok'' b r => k _ H' B' ok'' e' b r⟩

/-! ### constants -/
theorem ev_const {w : V} {d : PyData} (h : PE X e (tC w)) (hd : ∀ K H, Dp K H w d) (hp : Pu d) : EG st X sa δ S e (.p d) S := pe_imp h fun σ H Q ⟨B, ok, k⟩ =>
  give_p ok (.refl _ _) ok.src (hd _ _) hp fun B' ok' b r => k _ H B' ok' (.refl _ _) b r
theorem ev_int {i : Int} {j} : EG st X sa δ S (.Constant (.int i) j pos) (.p (.int i)) S := ev_const pe_int (fun _ _ => .int i) trivial
theorem ev_bl {b : Bool} {j} : EG st X sa δ S (.Constant (.bool b) j pos) (.p (.bool b)) S := ev_const pe_bl (fun _ _ => .bl b) trivial
theorem ev_non {j} : EG st X sa δ S (.Constant .none j pos) (.p .none) S := ev_const pe_non (fun _ _ => .non) trivial
theorem ev_str {x : Str} {j} (h : Nat.ble x.length 1000 = true := by rfl) : EG st X sa δ S (.Constant (.str x) j pos) (.p (.str x)) S := ev_const pe_str (fun _ _ => .str x) (by
  have := Nat.le_of_ble_eq_true h
  show x.length ≤ sizeLine
  rw [sizeLine_eq]; omega)

/-! ### operators on pure data with a pure answer that is no object -/
/-- from what the operands are to what the operator asks -/
def RI (K : PySem.W.Frag) (sa : SA) (r : R2) (sla slb : Sl) (w : V) : Prop := ∀ va vb H Q, SlRep K sa H H va sla [] → SlRep K sa H H vb slb [] → Q w H → r va vb H Q
theorem ev_bin {t : TE} {r : R2} {ta tb : TE} {w : V} {d : PyData} (h : PE X e (tOp r (tEG false X.K sa δ S sla S1) (tEG false X.K sa δ S1 slb S2))) (hr : RI X.K sa r sla slb w) (hd : ∀ K H, Dp K H w d) (hp : Pu d) : EG st X sa δ S e (.p d) S2 :=
  pe_imp h fun σ H Q ⟨B, ok, k⟩ => ⟨B, ok, fun v H1 B1 ok1 e1 b1 r1 => ⟨B, ok1, fun u H2 B2 ok2 e2 b2 r2 => by
    obtain rfl : B1 = H1 := b1
    obtain rfl : B2 = H2 := b2
    exact hr v u _ Q (r1.ext e2) r2 (give_p ok (e1.trans e2) ok2.src (hd _ _) hp fun B' ok' b r => k _ _ B' ok' (e1.trans e2) b r)⟩⟩
theorem dpi {i : Int} (h : SlRep K sa B H v (.p (.int i)) []) : v = .int i := by cases h.2.1; rfl
theorem dpb {b : Bool} (h : SlRep K sa B H v (.p (.bool b)) []) : v = .bl b := by cases h.2.1; rfl
theorem dps {x : Str} (h : SlRep K sa B H v (.p (.str x)) []) : v = .str x := by cases h.2.1; rfl
theorem dpn (h : SlRep K sa B H v (.p .none) []) : v = .non := by cases h.2.1; rfl
theorem dpt {ds : List PyData} (h : SlRep K sa B H v (.p (.tuple ds)) []) : ∃ a xs, v = .ref a ∧ SqT K H a xs ∧ DpAll K H xs ds ∧ PuAll ds ∧ ds.length ≤ sizeLine := by
  obtain ⟨_, h, p⟩ := h
  cases h with
  | tup hs ha => exact ⟨_, _, rfl, hs, ha, p.2, p.1⟩
theorem ri_I0 {g : Int → Int → V} {i j : Int} : RI K sa (rI0 g) (.p (.int i)) (.p (.int j)) (g i j) := fun va vb H Q h1 h2 q => ⟨i, j, dpi h1, dpi h2, q⟩
theorem ri_I {C : Int → Int → Prop} {g : Int → Int → V} {i j : Int} (hc : C i j) : RI K sa (rI C g) (.p (.int i)) (.p (.int j)) (g i j) := fun va vb H Q h1 h2 q => ⟨i, j, dpi h1, dpi h2, hc, q⟩
section
variable {i j : Int}
theorem ev_add (ha : EE X sa δ S a (.p (.int i)) S1) (hb : EE X sa δ S1 b (.p (.int j)) S2) : EG st X sa δ S (.BinOp a .Add b pos) (.p (.int (i + j))) S2 := ev_bin (t := fun _ _ _ => True) (ta := fun _ _ _ => True) (tb := fun _ _ _ => True) (pe_op op_add ha hb) ri_I0 (fun _ _ => .int _) trivial
theorem ev_sub (ha : EE X sa δ S a (.p (.int i)) S1) (hb : EE X sa δ S1 b (.p (.int j)) S2) : EG st X sa δ S (.BinOp a .Sub b pos) (.p (.int (i - j))) S2 := ev_bin (t := fun _ _ _ => True) (ta := fun _ _ _ => True) (tb := fun _ _ _ => True) (pe_op op_sub ha hb) ri_I0 (fun _ _ => .int _) trivial
theorem ev_mul (hc : CMul i j) (ha : EE X sa δ S a (.p (.int i)) S1) (hb : EE X sa δ S1 b (.p (.int j)) S2) : EG st X sa δ S (.BinOp a .Mult b pos) (.p (.int (i * j))) S2 := ev_bin (t := fun _ _ _ => True) (ta := fun _ _ _ => True) (tb := fun _ _ _ => True) (pe_op op_mul ha hb) (ri_I hc) (fun _ _ => .int _) trivial
theorem ev_mod (hc : 0 < j) (ha : EE X sa δ S a (.p (.int i)) S1) (hb : EE X sa δ S1 b (.p (.int j)) S2) : EG st X sa δ S (.BinOp a .Mod b pos) (.p (.int (i % j))) S2 := ev_bin (t := fun _ _ _ => True) (ta := fun _ _ _ => True) (tb := fun _ _ _ => True) (pe_op op_mod ha hb) (ri_I (C := fun _ j => 0 < j) hc) (fun _ _ => .int _) trivial
theorem ev_div (hc : CDiv i j) (ha : EE X sa δ S a (.p (.int i)) S1) (hb : EE X sa δ S1 b (.p (.int j)) S2) : EG st X sa δ S (.BinOp a .FloorDiv b pos) (.p (.int (i / j))) S2 := ev_bin (t := fun _ _ _ => True) (ta := fun _ _ _ => True) (tb := fun _ _ _ => True) (pe_op op_fdiv ha hb) (ri_I hc) (fun _ _ => .int _) trivial
end
theorem ev_neg {i : Int} (ha : EE X sa δ S a (.p (.int i)) S1) : EG st X sa δ S (.UnaryOp .USub a pos) (.p (.int (-i))) S1 := pe_imp (pe_un un_neg ha) fun σ H Q ⟨B, ok, k⟩ => ⟨B, ok, fun v H1 B1 ok1 e1 b1 r1 =>
  ⟨i, dpi r1, give_p ok e1 ok1.src (.int _) trivial fun B' ok' b r => k _ _ B' ok' e1 b r⟩⟩

/-! ### comparisons -/
/-- a comparison that answers c -/
def RC (K : PySem.W.Frag) (sa : SA) (r : R2) (sla slb : Sl) (c : Bool) : Prop := RI K sa r sla slb (.bl c)
theorem ev_cmp {op : CmpOp} {r : R2} {k : Bool} (ho : OpR X (compareOp op) r) (hr : RC X.K sa r sla slb k) (ha : EE X sa δ S a sla S1) (hb : EE X sa δ S1 b slb S2) (hm : behindInMarks op b = false) :
    EG st X sa δ S (.Compare a [op] [b] pos) (.p (.bool k)) S2 := ev_bin (t := fun _ _ _ => True) (ta := fun _ _ _ => True) (tb := fun _ _ _ => True) (pe_cmpR ho ha hb hm) hr (fun _ _ => .bl _) trivial
theorem et_cmp {op : CmpOp} {r : R2} {k : Bool} (ho : OpR X (compareOp op) r) (hr : RC X.K sa r sla slb k) (ha : EE X sa δ S a sla S1) (hb : EE X sa δ S1 b slb S2) (hm : behindInMarks op b = false) :
    ET X sa δ S (.Compare a [op] [b] pos) k S2 := pt_imp (pt_cmpR ho ha hb hm) fun σ H Q ⟨B, ok, kk⟩ => ⟨B, ok, fun v H1 B1 ok1 e1 b1 r1 => ⟨B, ok1, fun u H2 B2 ok2 e2 b2 r2 => by
    obtain rfl : B1 = H1 := b1
    obtain rfl : B2 = H2 := b2
    exact hr v u _ _ (r1.ext e2) r2 ⟨k, rfl, kk _ (ok1.ext e2 ok2.src) (e1.trans e2)⟩⟩⟩
section
variable {i j : Int}
theorem rc_lt : RC K sa (rI0 fun i j => .bl (decide (i < j))) (.p (.int i)) (.p (.int j)) (decide (i < j)) := ri_I0
theorem rc_le : RC K sa (rI0 fun i j => .bl (decide (i ≤ j))) (.p (.int i)) (.p (.int j)) (decide (i ≤ j)) := ri_I0
theorem rc_gt : RC K sa (rI0 fun i j => .bl (decide (j < i))) (.p (.int i)) (.p (.int j)) (decide (j < i)) := ri_I0
theorem rc_ge : RC K sa (rI0 fun i j => .bl (decide (j ≤ i))) (.p (.int i)) (.p (.int j)) (decide (j ≤ i)) := ri_I0
theorem rc_eqI : RC K sa rEq (.p (.int i)) (.p (.int j)) (decide (i = j)) := fun va vb H Q h1 h2 q => by
  obtain rfl := dpi h1
  obtain rfl := dpi h2
  refine ⟨rfl, ?_⟩
  rw [dec_int]
  have e : (i == j) = decide (i = j) := by rw [Bool.beq_eq_decide_eq]
  rw [e]; exact q
theorem rc_neI : RC K sa rNe (.p (.int i)) (.p (.int j)) (decide (i ≠ j)) := fun va vb H Q h1 h2 q => by
  obtain rfl := dpi h1
  obtain rfl := dpi h2
  refine ⟨rfl, ?_⟩
  rw [dec_int]
  have e : (!(i == j)) = decide (i ≠ j) := by rw [Bool.beq_eq_decide_eq, decide_not]
  rw [e]; exact q
theorem rc_eqS {x y : Str} : RC K sa rEq (.p (.str x)) (.p (.str y)) (decide (x = y)) := fun va vb H Q h1 h2 q => by
  obtain rfl := dps h1
  obtain rfl := dps h2
  refine ⟨rfl, ?_⟩
  have e : decide (V.str x = V.str y) = decide (x = y) := by
    by_cases h : x = y
    · subst h; simp
    · rw [decide_eq_false h, decide_eq_false (fun z => h (V.str.inj z))]
  rw [e]; exact q
theorem rc_neS {x y : Str} : RC K sa rNe (.p (.str x)) (.p (.str y)) (decide (x ≠ y)) := fun va vb H Q h1 h2 q => by
  obtain rfl := dps h1
  obtain rfl := dps h2
  refine ⟨rfl, ?_⟩
  have e : (!decide (V.str x = V.str y)) = decide (x ≠ y) := by
    by_cases h : x = y
    · subst h; simp
    · rw [decide_eq_true h, decide_eq_false (fun z => h (V.str.inj z))]; rfl
  rw [e]; exact q
theorem rc_eqB {x y : Bool} : RC K sa rEq (.p (.bool x)) (.p (.bool y)) (decide (x = y)) := fun va vb H Q h1 h2 q => by
  obtain rfl := dpb h1
  obtain rfl := dpb h2
  refine ⟨rfl, ?_⟩
  have e : decide (V.bl x = V.bl y) = decide (x = y) := by cases x <;> cases y <;> decide
  rw [e]; exact q
end
/-- data whose == is being the same; n: how deep -/
class EqD (α : Type) [Enc α] [DecidableEq α] (n : outParam Nat) : Prop where
  shp : ∀ x : α, (enc x).canLay0 = true
  dep : ∀ x : α, (enc x).depth ≤ n
  eqv : ∀ x y : α, PyData.eqv (enc x) (enc y) = decide (x = y)
section
variable {α β γ : Type} [Enc α] [DecidableEq α] [Enc β] [DecidableEq β] [Enc γ] [DecidableEq γ] {n m k : Nat}
theorem EqD.shaped [EqD α n] (h : Nat.ble n 60 = true) (x : α) : SeqAt.shaped (enc x) = true := by
  have h1 := Nat.le_of_ble_eq_true h
  have h2 := EqD.dep x
  exact Bool.and_eq_true_iff.mpr ⟨EqD.shp x, decide_eq_true (by omega)⟩
theorem canLayAll0_map [EqD α n] : ∀ xs : List α, PyData.canLayAll0 (encs xs) = true
  | [] => rfl
  | x :: xs => Bool.and_eq_true_iff.mpr ⟨EqD.shp x, canLayAll0_map xs⟩
theorem depthAll_map [EqD α n] : ∀ xs : List α, PyData.depthAll (encs xs) ≤ n
  | [] => Nat.zero_le _
  | x :: xs => Nat.max_le.mpr ⟨EqD.dep x, depthAll_map xs⟩
theorem eqvAll_map [EqD α n] : ∀ xs ys : List α, PyData.eqvAll (encs xs) (encs ys) = decide (xs = ys)
  | [], [] => rfl
  | [], y :: ys => by rw [decide_eq_false (by simp)]; rfl
  | x :: xs, [] => by rw [decide_eq_false (by simp)]; rfl
  | x :: xs, y :: ys => by
    show (PyData.eqv (enc x) (enc y) && PyData.eqvAll (encs xs) (encs ys)) = _
    rw [EqD.eqv, eqvAll_map xs ys]
    by_cases h : x = y <;> by_cases g : xs = ys <;> simp [h, g]
instance : EqD Int 0 := ⟨fun _ => rfl, fun _ => Nat.le_refl _, fun x y => by
  show (x == y) = _
  rw [Bool.beq_eq_decide_eq]⟩
instance : EqD Bool 0 := ⟨fun _ => rfl, fun _ => Nat.le_refl _, fun x y => by
  show (x == y) = _
  rw [Bool.beq_eq_decide_eq]⟩
instance [EqD α n] : EqD (List α) (n + 1) := ⟨fun xs => canLayAll0_map xs, fun xs => Nat.succ_le_succ (depthAll_map xs), fun x y => eqvAll_map x y⟩
instance [EqD α n] [EqD β m] : EqD (α × β) (max n m + 1) := ⟨fun x => by
    show (PyData.canLay0 (enc x.1) && (PyData.canLay0 (enc x.2) && true)) = true
    rw [EqD.shp, EqD.shp]; rfl, fun x => by
    show max (PyData.depth (enc x.1)) (max (PyData.depth (enc x.2)) 0) + 1 ≤ _
    have h1 := EqD.dep x.1
    have h2 := EqD.dep x.2
    omega, fun x y => by
    obtain ⟨x1, x2⟩ := x
    obtain ⟨y1, y2⟩ := y
    show (PyData.eqv (enc x1) (enc y1) && (PyData.eqv (enc x2) (enc y2) && true)) = _
    rw [EqD.eqv, EqD.eqv]
    by_cases h : x1 = y1 <;> by_cases g : x2 = y2 <;> simp [h, g]⟩
instance [EqD α n] : EqD (T1 α) (n + 1) := ⟨fun x => by
    show (PyData.canLay0 (enc x.1) && true) = true
    rw [EqD.shp]; rfl, fun x => by
    show max (PyData.depth (enc x.1)) 0 + 1 ≤ _
    have h1 := EqD.dep x.1
    omega, fun x y => by
    obtain ⟨x1⟩ := x
    obtain ⟨y1⟩ := y
    show (PyData.eqv (enc x1) (enc y1) && true) = _
    rw [EqD.eqv]
    by_cases h : x1 = y1 <;> simp [h]⟩
instance [EqD α n] [EqD β m] [EqD γ k] : EqD (T3 α β γ) (max n (max m k) + 1) := ⟨fun x => by
    show (PyData.canLay0 (enc x.1) && (PyData.canLay0 (enc x.2) && (PyData.canLay0 (enc x.3) && true))) = true
    rw [EqD.shp, EqD.shp, EqD.shp]; rfl, fun x => by
    show max (PyData.depth (enc x.1)) (max (PyData.depth (enc x.2)) (max (PyData.depth (enc x.3)) 0)) + 1 ≤ _
    have h1 := EqD.dep x.1
    have h2 := EqD.dep x.2
    have h3 := EqD.dep x.3
    omega, fun x y => by
    obtain ⟨x1, x2, x3⟩ := x
    obtain ⟨y1, y2, y3⟩ := y
    show (PyData.eqv (enc x1) (enc y1) && (PyData.eqv (enc x2) (enc y2) && (PyData.eqv (enc x3) (enc y3) && true))) = _
    rw [EqD.eqv, EqD.eqv, EqD.eqv]
    by_cases h : x1 = y1 <;> by_cases g : x2 = y2 <;> by_cases f : x3 = y3 <;> simp [h, g, f]⟩
end
end
end L2.Ev

set_option Elab.async false
set_option linter.all false
set_option maxRecDepth 100000
/-! Ev3: displays, places, ==, builtins, tests, calls. -/
namespace L2.Ev
open PySem PySem.Spec PyProof.Rows
section
variable {X : Cx} {sa : SA} {δ : Env} {S S1 S2 S3 S' : Src} {st : Bool} {e a b c : Expr} {sl sla slb : Sl} {pos : Pos} {K : PySem.W.Frag} {B H H' : Hp} {σ : St} {v : V}
theorem ble_line {n : Nat} (h : Nat.ble n 1000 = true) : n ≤ sizeLine := by
  have := Nat.le_of_ble_eq_true h
  rw [sizeLine_eq]; omega
theorem Dp.tup_iff {ds : List PyData} (h : SlRep K sa B H v (.p (.tuple ds)) []) : ∃ a xs, v = .ref a ∧ SqT K H a xs ∧ DpAll K H xs ds ∧ PuAll ds ∧ ds.length ≤ sizeLine := dpt h
/-- pure arguments, by their data -/
def Pures (ds : List PyData) : List Sl := ds.map .p
theorem ea_p {es : List Expr} {d : PyData} {ds : List PyData} (h1 : EG st X sa δ S e (.p d) S1) (h2 : EA st X sa δ S1 es (Pures ds) S2) (hs : starEach (e :: es) X.env = (false, eval e X.env) :: starEach es X.env := by rfl) :
    EA st X sa δ S (e :: es) (Pures (d :: ds)) S2 := ea_cons h1 h2 hs
theorem ea_p0 : EA st X sa δ S [] (Pures []) S := ea_nil
/-- (a, b) -/
theorem ev_tup {x1} {es : List Expr} {ds : List PyData} (h : EA false X sa δ S es (Pures ds) S') (hz : Nat.ble ds.length 1000 = true := by rfl) : EG st X sa δ S (.Tuple es x1 pos) (.p (.tuple ds)) S' := pe_imp (pe_tup h) fun σ H Q ⟨B, ok, k⟩ =>
  ⟨B, ok, fun vs H1 B1 ok1 e1 b1 r1 => by
    obtain rfl : B1 = H1 := b1
    obtain ⟨hd, hp⟩ := SlsRep.pures r1
    refine ⟨by rw [hd.length]; exact ble_line hz, fun p hn => ?_⟩
    have ex : Ext sa B1 (upd B1 p (.tup vs)) := .new hn
    exact give_p (v := .ref p) (d := .tuple ds) ok (e1.trans ex) (ok1.src.same (same_new hn)) (.tup (.of upd_same) (ex.tup.dpAll _ _ hp hd)) ⟨ble_line hz, hp⟩ fun B' ok' bb r => k _ _ B' ok' (e1.trans ex) bb r⟩
/-- [a, b] -/
theorem el_lst {es : List Expr} {ds : List PyData} (h : EA false X sa δ S es (Pures ds) S') (hz : Nat.ble ds.length 1000 = true := by rfl) : EL X sa δ S (.List es pos) ds S' := pe_imp (pe_lst h) fun σ H Q ⟨B, ok, k⟩ =>
  ⟨B, ok, fun vs H1 B1 ok1 e1 b1 r1 => by
    obtain rfl : B1 = H1 := b1
    obtain ⟨hd, hp⟩ := SlsRep.pures r1
    refine ⟨by rw [hd.length]; exact ble_line hz, fun p hn => ?_⟩
    have ex : Ext sa B1 (upd B1 p (.lst vs)) := .new hn
    have hn0 : H p = none := by
      cases q : H p with
      | none => rfl
      | some o =>
        have z := e1.cell p o q (ok1.away hn)
        rw [hn] at z; cases z
    exact k p _ hn0 (ok1.new hn) (e1.trans ex) ⟨vs, upd_same, ex.tup.dpAll _ _ hp hd, hp, ble_line hz⟩⟩
theorem Ext.none_of {p : Addr} (e : Ext sa H H') (ok : Ok K sa B H' σ δ S) (hn : H' p = none) : H p = none := by
  cases q : H p with
  | none => rfl
  | some o =>
    have z := e.cell p o q (ok.away hn)
    rw [hn] at z; cases z

/-! ### places -/
theorem atI_map {α β : Type} (f : α → β) (xs : List α) (i : Int) : atI (xs.map f) i = (atI xs i).map f := by
  unfold atI
  rw [List.length_map]
  cases ixN xs.length i with
  | none => rfl
  | some j => exact List.getElem?_map ..
theorem _root_.L2.DpAll.atI {vs : List V} {ds : List PyData} (h : DpAll K H vs ds) {i : Int} {d : PyData} (e : atI ds i = some d) : ∃ w, L2.atI vs i = some w ∧ Dp K H w d := by
  unfold L2.atI at e ⊢
  rw [h.length]
  cases q : ixN ds.length i with
  | none => rw [q] at e; cases e
  | some j =>
    rw [q] at e
    exact h.get' e
theorem PuAll.atI {ds : List PyData} (h : PuAll ds) {i : Int} {d : PyData} (e : L2.atI ds i = some d) : Pu d := by
  unfold L2.atI at e
  cases q : ixN ds.length i with
  | none => rw [q] at e; cases e
  | some j => rw [q] at e; exact h.get e
theorem ri_ixT {ds : List PyData} {i : Int} {d : PyData} (e : L2.atI ds i = some d) {Q : VK} {va vb : V} (h1 : SlRep K sa H H va (.p (.tuple ds)) []) (h2 : SlRep K sa H H vb (.p (.int i)) []) (q : ∀ w, Dp K H w d → Pu d → Q w H) : rIxT K va vb H Q := by
  obtain ⟨a, xs, rfl, hs, ha, hp, _⟩ := dpt h1
  obtain ⟨w, hw, hd⟩ := ha.atI e
  exact ⟨a, xs, i, w, rfl, dpi h2, hs, hw, q w hd (hp.atI e)⟩
/-- t[i], t a tuple -/
theorem ev_ixT {ds : List PyData} {i : Int} {d : PyData} (hi : L2.atI ds i = some d) (ha : EE X sa δ S a (.p (.tuple ds)) S1) (hb : EE X sa δ S1 b (.p (.int i)) S2) (hs : PlainIx b := by exact fun _ _ => rfl) : EG st X sa δ S (.Subscript a b pos) (.p d) S2 :=
  pe_imp (pe_ix ix_tup ha hb hs) fun σ H Q ⟨B, ok, k⟩ => ⟨B, ok, fun v H1 B1 ok1 e1 b1 r1 => ⟨B, ok1, fun u H2 B2 ok2 e2 b2 r2 => by
    obtain rfl : B1 = H1 := b1
    obtain rfl : B2 = H2 := b2
    exact ri_ixT (sa := sa) hi (r1.ext e2) r2 fun w hd hp => give_p ok (e1.trans e2) ok2.src hd hp fun B' ok' b r => k _ _ B' ok' (e1.trans e2) b r⟩⟩
/-- xs[i], xs a list that is read -/
theorem ev_ixB {ds : List PyData} {i : Int} {d : PyData} (hi : L2.atI ds i = some d) (ha : EE X sa δ S a (.b ds) S1) (hb : EE X sa δ S1 b (.p (.int i)) S2) (hs : PlainIx b := by exact fun _ _ => rfl) : EG st X sa δ S (.Subscript a b pos) (.p d) S2 :=
  pe_imp (pe_ix ix_list ha hb hs) fun σ H Q ⟨B, ok, k⟩ => ⟨B, ok, fun v H1 B1 ok1 e1 b1 r1 => ⟨B, ok1, fun u H2 B2 ok2 e2 b2 r2 => by
    obtain rfl : B1 = H1 := b1
    obtain rfl : B2 = H2 := b2
    obtain ⟨_, l, rfl, vs, hq, hw, hd, hp, hz⟩ := r1.ext e2
    obtain ⟨w, hw', hd'⟩ := hd.atI hi
    exact ⟨l, vs, i, w, rfl, dpi r2, hq, hw', give_p ok (e1.trans e2) ok2.src hd' (hp.atI hi) fun B' ok' b r => k _ _ B' ok' (e1.trans e2) b r⟩⟩⟩
/-- rows[i], rows a list of lists that is read -/
theorem ev_ixBB {dss : List (List PyData)} {i : Int} {ds : List PyData} (hi : L2.atI dss i = some ds) (ha : EE X sa δ S a (.bb dss) S1) (hb : EE X sa δ S1 b (.p (.int i)) S2) (hs : PlainIx b := by exact fun _ _ => rfl) : EE X sa δ S (.Subscript a b pos) (.b ds) S2 :=
  pe_imp (pe_ix ix_list ha hb hs) fun σ H Q ⟨B, ok, k⟩ => ⟨B, ok, fun v H1 B1 ok1 e1 b1 r1 => ⟨B, ok1, fun u H2 B2 ok2 e2 b2 r2 => by
    obtain rfl : B1 = H1 := b1
    obtain rfl : B2 = H2 := b2
    obtain ⟨_, l, vs, rfl, hq, hw, hr, hz⟩ := r1.ext e2
    unfold L2.atI at hi
    cases q : ixN dss.length i with
    | none => rw [q] at hi; cases hi
    | some j =>
      rw [q] at hi
      obtain ⟨bb, hb', hbb⟩ := hr.get hi
      refine ⟨l, vs, i, .ref bb, rfl, dpi r2, hq, ?_, k _ _ _ (ok1.ext e2 ok2.src) (e1.trans e2) rfl ⟨rfl, bb, rfl, hbb⟩⟩
      unfold L2.atI
      rw [hr.length, q]
      exact hb'⟩⟩
/-- by places that are there -/
def getI {α : Type} [Inhabited α] (xs : List α) (i : Int) : α := (L2.atI xs i).getD default
def InB {α : Type} (xs : List α) (i : Int) : Prop := -(xs.length : Int) ≤ i ∧ i < xs.length
theorem atI_some {α : Type} [Inhabited α] {xs : List α} {i : Int} (h : InB xs i) : L2.atI xs i = some (getI xs i) := by
  obtain ⟨h1, h2⟩ := h
  have : ∃ j, ixN xs.length i = some j ∧ j < xs.length := by
    unfold ixN
    by_cases c : 0 ≤ i
    · rw [if_pos c, if_pos (by exact_mod_cast h2)]
      exact ⟨_, rfl, by omega⟩
    · rw [if_neg c, if_pos h1]
      exact ⟨_, rfl, by omega⟩
  obtain ⟨j, e, hj⟩ := this
  have q : L2.atI xs i = some xs[j] := by unfold L2.atI; rw [e]; simp [hj]
  unfold getI
  rw [q]; rfl
theorem ev_ixL {α : Type} [Enc α] [Inhabited α] {xs : List α} {i : Int} (hi : InB xs i) (ha : EE X sa δ S a (.p (enc xs)) S1) (hb : EE X sa δ S1 b (.p (.int i)) S2) (hs : PlainIx b := by exact fun _ _ => rfl) : EG st X sa δ S (.Subscript a b pos) (.p (enc (getI xs i))) S2 :=
  ev_ixT (by rw [atI_map, atI_some hi]; rfl) ha hb hs
theorem ev_ixLB {α : Type} [Enc α] [Inhabited α] {xs : List α} {i : Int} (hi : InB xs i) (ha : EE X sa δ S a (.b (encs xs)) S1) (hb : EE X sa δ S1 b (.p (.int i)) S2) (hs : PlainIx b := by exact fun _ _ => rfl) : EG st X sa δ S (.Subscript a b pos) (.p (enc (getI xs i))) S2 :=
  ev_ixB (by rw [atI_map, atI_some hi]; rfl) ha hb hs
theorem ev_ixLBB {α : Type} [Enc α] {xss : List (List α)} {i : Int} (hi : InB xss i) (ha : EE X sa δ S a (.bb (encss xss)) S1) (hb : EE X sa δ S1 b (.p (.int i)) S2) (hs : PlainIx b := by exact fun _ _ => rfl) : EE X sa δ S (.Subscript a b pos) (.b (encs (getI xss i))) S2 :=
  ev_ixBB (by rw [atI_map, atI_some hi]; rfl) ha hb hs

/-! ### == of data -/
theorem BAt.dp {a : Addr} {ds : List PyData} (h : BAt K sa B a ds) : Dp K B (.ref a) (.list ds) := by
  obtain ⟨vs, h1, h2, h3, h4, h5⟩ := h
  exact .lst h1 h3
theorem RowsB.dp : ∀ {vs : List V} {dss : List (List PyData)}, RowsB K sa B vs dss → DpAll K B vs (dss.map .list)
  | [], [], _ => .nil
  | v :: vs, ds :: dss, h => .cons (by obtain ⟨b, rfl, q⟩ := h.1; exact q.dp) (RowsB.dp h.2)
  | [], _ :: _, h => h.elim
  | _ :: _, [], h => h.elim
/-- what a slot's value is as data -/
def Sl.data : Sl → PyData
  | .p d => d
  | .l ds => .list ds
  | .ll dss => .list (dss.map .list)
  | .b ds => .list ds
  | .bb dss => .list (dss.map .list)
  | .src => .none
theorem SlRep.data {sl : Sl} (h : SlRep K sa H H v sl []) (hs : sl ≠ .src) : Dp K H v sl.data := by
  cases sl with
  | p d => exact h.2.1
  | l ds => obtain ⟨_, _, hF, _⟩ := h; cases hF
  | ll ds => obtain ⟨_, _, _, hF, _⟩ := h; cases hF
  | b ds => obtain ⟨_, a, rfl, q⟩ := h; exact q.dp
  | bb dss => obtain ⟨_, a, vs, rfl, q, w, r, z⟩ := h; exact .lst q r.dp
  | src => exact absurd rfl hs
theorem rc_eqD {k : Bool} (h1 : SeqAt.shaped sla.data = true) (h2 : SeqAt.shaped slb.data = true) (hk : PyData.eqv sla.data slb.data = k) (n1 : sla ≠ .src) (n2 : slb ≠ .src) : RC K sa (rEqD K) sla slb k := fun va vb H Q r1 r2 q =>
  ⟨_, _, r1.data n1, r2.data n2, h1, h2, by rw [hk]; exact q⟩
theorem rc_neD {k : Bool} (h1 : SeqAt.shaped sla.data = true) (h2 : SeqAt.shaped slb.data = true) (hk : (!PyData.eqv sla.data slb.data) = k) (n1 : sla ≠ .src) (n2 : slb ≠ .src) : RC K sa (rNeD K) sla slb k := fun va vb H Q r1 r2 q =>
  ⟨_, _, r1.data n1, r2.data n2, h1, h2, by rw [hk]; exact q⟩
section
variable {α : Type} [Enc α] [DecidableEq α] {n : Nat}
theorem rc_eqT [EqD α n] (x y : α) (hn : Nat.ble n 60 = true := by rfl) : RC K sa (rEqD K) (.p (enc x)) (.p (enc y)) (decide (x = y)) :=
  rc_eqD (EqD.shaped hn x) (EqD.shaped hn y) (EqD.eqv x y) (by intro h; cases h) (by intro h; cases h)
theorem rc_neT [EqD α n] (x y : α) (hn : Nat.ble n 60 = true := by rfl) : RC K sa (rNeD K) (.p (enc x)) (.p (enc y)) (decide (x ≠ y)) :=
  rc_neD (EqD.shaped hn x) (EqD.shaped hn y) (by show (!PyData.eqv (enc x) (enc y)) = _; rw [EqD.eqv, decide_not]) (by intro h; cases h) (by intro h; cases h)
theorem shaped_list [EqD α n] (hn : Nat.ble n 60 = true) (xs : List α) : SeqAt.shaped (.list (encs xs)) = true := by
  have h1 := Nat.le_of_ble_eq_true hn
  have h2 := depthAll_map (n := n) xs
  refine Bool.and_eq_true_iff.mpr ⟨canLayAll0_map xs, decide_eq_true ?_⟩
  show PyData.depthAll (encs xs) + 1 ≤ 64
  omega
theorem rc_eqL [EqD α n] (xs ys : List α) (hn : Nat.ble n 60 = true := by rfl) : RC K sa (rEqD K) (.b (encs xs)) (.b (encs ys)) (decide (xs = ys)) :=
  rc_eqD (shaped_list hn xs) (shaped_list hn ys) (eqvAll_map xs ys) (by intro h; cases h) (by intro h; cases h)
theorem rc_neL [EqD α n] (xs ys : List α) (hn : Nat.ble n 60 = true := by rfl) : RC K sa (rNeD K) (.b (encs xs)) (.b (encs ys)) (decide (xs ≠ ys)) :=
  rc_neD (shaped_list hn xs) (shaped_list hn ys) (by show (!PyData.eqvAll (encs xs) (encs ys)) = _; rw [eqvAll_map, decide_not]) (by intro h; cases h) (by intro h; cases h)
end
/-! ### is None -/
theorem rc_isN {d : PyData} : RC K sa (fun x y H Q => y = .non ∧ Q (.bl (decide (x = .non))) H) (.p d) (.p .none) (match d with | .none => true | _ => false) := fun va vb H Q r1 r2 q => by
  refine ⟨dpn r2, ?_⟩
  obtain ⟨_, h, _⟩ := r1
  cases h <;> exact q
theorem rc_notN {d : PyData} : RC K sa (fun x y H Q => y = .non ∧ Q (.bl (!decide (x = .non))) H) (.p d) (.p .none) (match d with | .none => false | _ => true) := fun va vb H Q r1 r2 q => by
  refine ⟨dpn r2, ?_⟩
  obtain ⟨_, h, _⟩ := r1
  cases h <;> exact q

/-! ### tests -/
theorem et_val {k : Bool} (h : EE X sa δ S e (.p (.bool k)) S') (he : ∀ whole, isTrue e X.env whole = (do let v ← whole; standAt e.pos; holding [v] (truthy v)) := by intro _; rfl) : ET X sa δ S e k S' :=
  pt_imp (pt_val h he) fun σ H Q ⟨B, ok, kk⟩ => ⟨B, ok, fun v H1 B1 ok1 e1 b1 r1 => by
    obtain rfl : B1 = H1 := b1
    exact ⟨k, dpb r1, kk _ ok1 e1⟩⟩
theorem et_not {k : Bool} (h : ET X sa δ S e k S') : ET X sa δ S (.UnaryOp .Not e pos) (!k) S' := pt_imp (pt_not h) fun σ H Q ⟨B, ok, kk⟩ => ⟨B, ok, kk⟩
theorem et_pw {k : Bool} (h : EW X sa δ S e k S') : ET X sa δ S e k S' := h.pt
variable {rest : List Expr} {ka kb : Bool}
theorem ew_and1 (h : ET X sa δ S a ka S') : EW X sa δ S (.BoolOp .And [a] pos) ka S' := pw_and1 h
theorem ew_or1 (h : ET X sa δ S a ka S') : EW X sa δ S (.BoolOp .Or [a] pos) ka S' := pw_or1 h
/-- a and ..: b is asked if a holds -/
theorem ew_and (ha : ET X sa δ S a ka S1) (hb : ka = true → EW X sa δ S1 (.BoolOp .And (b :: rest) pos) kb S2) :
    EW X sa δ S (.BoolOp .And (a :: b :: rest) pos) (ka && kb) (if ka = true then S2 else S1) := by
  cases ka with
  | true => exact pw_imp (pw_and ha (hb rfl)) fun σ H Q ⟨B, ok, kk⟩ => ⟨B, ok, fun H1 ok1 e1 => iteT ⟨B, ok1, fun H2 ok2 e2 => kk H2 ok2 (e1.trans e2)⟩⟩
  | false => 
    have nv : PW X (.BoolOp .And (b :: rest) pos) (fun _ _ _ => False) := ⟨fun _ _ _ _ _ _ _ h => h.elim⟩
    exact pw_imp (pw_and ha nv) fun σ H Q ⟨B, ok, kk⟩ => ⟨B, ok, fun H1 ok1 e1 => iteF (kk H1 ok1 e1)⟩
theorem ew_or (ha : ET X sa δ S a ka S1) (hb : ka = false → EW X sa δ S1 (.BoolOp .Or (b :: rest) pos) kb S2) :
    EW X sa δ S (.BoolOp .Or (a :: b :: rest) pos) (ka || kb) (if ka = true then S1 else S2) := by
  cases ka with
  | false => exact pw_imp (pw_or ha (hb rfl)) fun σ H Q ⟨B, ok, kk⟩ => ⟨B, ok, fun H1 ok1 e1 => iteF ⟨B, ok1, fun H2 ok2 e2 => kk H2 ok2 (e1.trans e2)⟩⟩
  | true => 
    have nv : PW X (.BoolOp .Or (b :: rest) pos) (fun _ _ _ => False) := ⟨fun _ _ _ _ _ _ _ h => h.elim⟩
    exact pw_imp (pw_or ha nv) fun σ H Q ⟨B, ok, kk⟩ => ⟨B, ok, fun H1 ok1 e1 => iteT (kk H1 ok1 e1)⟩
/-- .. where nothing is drawn in what follows -/
theorem ew_andP (ha : ET X sa δ S a ka S1) (hb : ka = true → EW X sa δ S1 (.BoolOp .And (b :: rest) pos) kb S1) : EW X sa δ S (.BoolOp .And (a :: b :: rest) pos) (ka && kb) S1 := by
  have h := ew_and ha hb
  rw [ite_self] at h; exact h
theorem ew_orP (ha : ET X sa δ S a ka S1) (hb : ka = false → EW X sa δ S1 (.BoolOp .Or (b :: rest) pos) kb S1) : EW X sa δ S (.BoolOp .Or (a :: b :: rest) pos) (ka || kb) S1 := by
  have h := ew_or ha hb
  rw [ite_self] at h; exact h
/-! .. as values -/
theorem ev_one {op} (h : EG st X sa δ S a sl S') : EG st X sa δ S (.BoolOp op [a] pos) sl S' := pe_one h
theorem ev_and (ha : EE X sa δ S a (.p (.bool ka)) S1) (hb : ka = true → EE X sa δ S1 (.BoolOp .And (b :: rest) pos) (.p (.bool kb)) S2) :
    EE X sa δ S (.BoolOp .And (a :: b :: rest) pos) (.p (.bool (ka && kb))) (if ka = true then S2 else S1) := by
  cases ka with
  | true => exact pe_imp (pe_and ha (hb rfl)) fun σ H Q ⟨B, ok, kk⟩ => ⟨B, ok, fun v H1 B1 ok1 e1 b1 r1 => ⟨true, by
      obtain rfl : B1 = H1 := b1
      exact dpb r1, iteT ⟨B, ok1, fun w H2 B2 ok2 e2 b2 r2 => kk w H2 B2 ok2 (e1.trans e2) b2 r2⟩⟩⟩
  | false =>
    have nv : PE X (.BoolOp .And (b :: rest) pos) (fun _ _ _ => False) := ⟨fun _ _ _ _ _ _ h => h.elim⟩
    exact pe_imp (pe_and ha nv) fun σ H Q ⟨B, ok, kk⟩ => ⟨B, ok, fun v H1 B1 ok1 e1 b1 r1 => ⟨false, by
      obtain rfl : B1 = H1 := b1
      exact dpb r1, iteF (kk _ H1 H1 ok1 e1 rfl ⟨rfl, .bl _, trivial⟩)⟩⟩
theorem ev_or (ha : EE X sa δ S a (.p (.bool ka)) S1) (hb : ka = false → EE X sa δ S1 (.BoolOp .Or (b :: rest) pos) (.p (.bool kb)) S2) :
    EE X sa δ S (.BoolOp .Or (a :: b :: rest) pos) (.p (.bool (ka || kb))) (if ka = true then S1 else S2) := by
  cases ka with
  | false => exact pe_imp (pe_or ha (hb rfl)) fun σ H Q ⟨B, ok, kk⟩ => ⟨B, ok, fun v H1 B1 ok1 e1 b1 r1 => ⟨false, by
      obtain rfl : B1 = H1 := b1
      exact dpb r1, iteF ⟨B, ok1, fun w H2 B2 ok2 e2 b2 r2 => kk w H2 B2 ok2 (e1.trans e2) b2 r2⟩⟩⟩
  | true =>
    have nv : PE X (.BoolOp .Or (b :: rest) pos) (fun _ _ _ => False) := ⟨fun _ _ _ _ _ _ h => h.elim⟩
    exact pe_imp (pe_or ha nv) fun σ H Q ⟨B, ok, kk⟩ => ⟨B, ok, fun v H1 B1 ok1 e1 b1 r1 => ⟨true, by
      obtain rfl : B1 = H1 := b1
      exact dpb r1, iteT (kk _ H1 H1 ok1 e1 rfl ⟨rfl, .bl _, trivial⟩)⟩⟩
theorem ev_andP (ha : EE X sa δ S a (.p (.bool ka)) S1) (hb : ka = true → EE X sa δ S1 (.BoolOp .And (b :: rest) pos) (.p (.bool kb)) S1) : EE X sa δ S (.BoolOp .And (a :: b :: rest) pos) (.p (.bool (ka && kb))) S1 := by
  have h := ev_and ha hb
  rw [ite_self] at h; exact h
theorem ev_orP (ha : EE X sa δ S a (.p (.bool ka)) S1) (hb : ka = false → EE X sa δ S1 (.BoolOp .Or (b :: rest) pos) (.p (.bool kb)) S1) : EE X sa δ S (.BoolOp .Or (a :: b :: rest) pos) (.p (.bool (ka || kb))) S1 := by
  have h := ev_or ha hb
  rw [ite_self] at h; exact h
theorem ev_not (ha : EE X sa δ S a (.p (.bool ka)) S1) : EG st X sa δ S (.UnaryOp .Not a pos) (.p (.bool (!ka))) S1 := pe_imp (pe_not ha) fun σ H Q ⟨B, ok, kk⟩ => ⟨B, ok, fun v H1 B1 ok1 e1 b1 r1 => ⟨ka, by
    obtain rfl : B1 = H1 := b1
    exact dpb r1, give_p ok e1 ok1.src (.bl _) trivial fun B' ok' b r => kk _ _ B' ok' e1 b r⟩⟩
/-- a if c else b; g: how the answer is represented -/
theorem ev_if {β : Type} (g : β → Sl) {x y : β} (hc : ET X sa δ S c ka S1) (ha : ka = true → EG st X sa δ S1 a (g x) S2) (hb : ka = false → EG st X sa δ S1 b (g y) S3) : EG st X sa δ S (.IfExp c a b pos) (g (if ka = true then x else y)) (if ka = true then S2 else S3) := by
  have nv : ∀ e, PE X e (fun _ _ _ => False) := fun e => ⟨fun _ _ _ _ _ _ h => h.elim⟩
  cases ka with
  | true => exact pe_imp (pe_ifExp hc (ha rfl) (nv _)) fun σ H Q ⟨B, ok, kk⟩ => ⟨B, ok, fun H1 ok1 e1 => iteT ⟨B, ok1, fun w H2 B2 ok2 e2 b2 r2 => kk w H2 B2 ok2 (e1.trans e2) b2 r2⟩⟩
  | false => exact pe_imp (pe_ifExp hc (nv _) (hb rfl)) fun σ H Q ⟨B, ok, kk⟩ => ⟨B, ok, fun H1 ok1 e1 => iteF ⟨B, ok1, fun w H2 B2 ok2 e2 b2 r2 => kk w H2 B2 ok2 (e1.trans e2) b2 r2⟩⟩
theorem ev_ifP {β : Type} (g : β → Sl) {x y : β} (hc : ET X sa δ S c ka S1) (ha : ka = true → EG st X sa δ S1 a (g x) S1) (hb : ka = false → EG st X sa δ S1 b (g y) S1) : EG st X sa δ S (.IfExp c a b pos) (g (if ka = true then x else y)) S1 := by
  have h := ev_if (pos := pos) g hc ha hb
  rw [ite_self] at h; exact h

/-! ### chains of two comparisons -/
theorem ev_chain {op op' : CmpOp} {r r' : R2} {slc : Sl} (ho : OpR X (compareOp op) r) (ho' : OpR X (compareOp op') r') (h1 : RC X.K sa r sla slb ka) (h2 : RC X.K sa r' slb slc kb) (ha : EE X sa δ S a sla S1) (hb : EE X sa δ S1 b slb S2) (hc : EE X sa δ S2 c slc S2)
    (hp : PE X (.Compare a [op, op'] [b, c] pos) (tChain r r' (tEG false X.K sa δ S sla S1) (tEG false X.K sa δ S1 slb S2) (tEG false X.K sa δ S2 slc S2))) : EG st X sa δ S (.Compare a [op, op'] [b, c] pos) (.p (.bool (ka && kb))) S2 :=
  pe_imp hp fun σ H Q ⟨B, ok, k⟩ => ⟨B, ok, fun v H1 B1 ok1 e1 b1 r1 => ⟨B, ok1, fun u H2 B2 ok2 e2 b2 r2 => by
    obtain rfl : B1 = H1 := b1
    obtain rfl : B2 = H2 := b2
    refine h1 v u _ _ (r1.ext e2) r2 ⟨ka, rfl, ?_⟩
    cases ka with
    | false => exact give_p ok (e1.trans e2) ok2.src (.bl _) trivial fun B' ok' b r => k _ _ B' ok' (e1.trans e2) b r
    | true => exact ⟨B, ok1.ext e2 ok2.src, fun w H3 B3 ok3 e3 b3 r3 => by
        obtain rfl : B3 = H3 := b3
        exact h2 u w _ _ (r2.ext e3) r3 (give_p ok (e1.trans (e2.trans e3)) ok3.src (.bl _) trivial fun B' ok' b r => k _ _ B' ok' (e1.trans (e2.trans e3)) b r)⟩⟩⟩

end
end L2.Ev

set_option Elab.async false
set_option linter.all false
set_option maxRecDepth 100000
/-! Ev4: calls of defs, statements. -/
namespace L2.Ev
open PySem PySem.Spec PyProof.Rows

/-! ### defs, where nothing is being written as text (repr) around -/
structure FnG (P : Program) (w : World) (K : PySem.W.Frag) (mg : Str → Option Value) (base : Heap) (k : Nat) (f : Addr) (fd : FuncData) (ps : List Str) (sp : Sp) : Prop where
  len : ∀ vs H Q E, sp vs H Q E → vs.length = ps.length
  run : ∀ (A : Around) (outer : List PySem.Env) (s : Shared) (H : Hp) (args : Args) (us : List Value) (vs : List V) (Q : VK) (E : XK), Room k A → A.guards = some [] → Env0 P w K mg base A outer s H → BindsTo s fd args (ps.zip us) → Vals vs us → sp vs H Q E →
    codeAny (model P w) A (.call (.ref f) args) (CR CX0 outer P w H s Q E) s
/-- the context of a def's body -/
abbrev bx (P : Program) (w : World) (K : PySem.W.Frag) (mg : Str → Option Value) (base : Heap) (N : List Str) (qual : Str) (sc : Scope) (f : Addr) (cd : Value) (A : Around) (outer : List PySem.Env) (s : Shared) (H : Hp) (E : XK) : Cx :=
  (cxOf CX0 P w K mg base N qual sc f cd A outer s H E).nox
section
variable {P : Program} {w : World} {K : PySem.W.Frag} {mg : Str → Option Value} {base : Heap}
theorem fnG_of {x qual : Str} {st : Stmt} {f : Addr} {fd : FuncData} {N ps : List Str} {k : Nat} {sp : Sp} (F : Fun K x qual st f fd) (T : FnScope N ps (defScope st)) (len : ∀ vs H Q E, sp vs H Q E → vs.length = ps.length)
    (body : ∀ (cd : Value) (A : Around) (outer : List PySem.Env) (s : Shared) (H : Hp) (vs : List V) (Q : VK) (E : XK), Room k (A.deeper (envOfC qual (defScope st) s.heap.objs.size f cd)) → (A.deeper (envOfC qual (defScope st) s.heap.objs.size f cd)).guards = some [] → sp vs H Q E →
      ∃ t, PSs (bx P w K mg base N qual (defScope st) f cd A outer s H E) (defBody st) t ∧ t { nx := fun _ H' => Q .non H', rt := Q } (L2.start N vs) H) : FnG P w K mg base (k + 1) f fd ps sp := by
  obtain ⟨oc, od, kV, doc, pm, an, cd, ct, osl, rfl, lk, hcd⟩ := F.ex
  constructor
  · exact len
  intro A outer s H args us vs Q E hr hgd e0 hb r hsp
  have nl := len _ _ _ _ hsp
  have kin : K.In s.heap := e0.mod.kin.keeps fun b o e => (e0.bs b o e).1
  have kinds : ∀ y ∈ ps.zip us, (defScope st).names.lookup y.1 = some .local ∨ ((defScope st).names.lookup y.1 = some .cell ∧ ((cellsFrom (s.heap.objs.size + 1) (defScope st).names []).lookup y.1).isSome = true) := by
    intro y hy
    obtain ⟨n, v⟩ := y
    exact (T.par n (List.of_mem_zip hy).1).elim .inl fun q => .inr ⟨q, PySem.W.cellsFrom_some _ _ _ (.inl q)⟩
  refine codeAny_call_function hr.depth (kin _ _ lk) rfl T.co T.gen rfl (PySem.W.codeRec_of kin hcd) (hb _ _ _ _ ?_)
  refine wpAny_newFunctionEnv_cells T.kind kinds fun env he s1 inn => ?_
  subst he
  have lim : s.heap.NoLimit := e0.mod.nolimit.keeps fun b o e => (e0.bs b o e).1
  refine ⟨lim.keeps inn.toInCall.keep, codeAny_func ?_⟩
  obtain ⟨t, ht, hq⟩ := body cd A outer s H vs Q E (hr.deeper _) hgd hsp
  have I0 := inv_start (CX := CX0) (E := E) T hr.hd e0 nl r inn
  have done : ∀ {σ' : L2.St} {H' : Hp} {v : V} {u : Value} {s' : Shared}, Inv (cxOf CX0 P w K mg base N qual (defScope st) f cd A outer s H E) [] σ' H' s' → RelV v u → Q v H' → CE outer P w H s Q u s' := fun J rv q => ⟨_, _, J.os, J.bare, J.base, J.hok, rv, q⟩
  refine wpAny_mono (ht.nox.run [] s1 (L2.start N vs) H _ I0 hq) (fun fl s' hs => ?_) fun e s' hs => hs
  match fl, hs with
  | .ret u, ⟨v, σ', H', J, rv, q⟩ => exact done J rv q
  | .next, ⟨σ', H', J, q⟩ => exact done (v := V.non) (u := Value.none) J rfl q
  | .brk, ⟨_, _, _, q⟩ => exact q.elim
  | .cont, ⟨_, _, _, q⟩ => exact q.elim
end
/-! ### a def's promise by data -/
abbrev DR := List Sl → Src → Sl → Src → Prop
def Res : Sl → Prop
  | .p _ => True
  | .l _ => True
  | .ll _ => True
  | _ => False
theorem SlRep.base {K : PySem.W.Frag} {sa : SA} {B B' H : Hp} {v : V} {r : Sl} {F : List Addr} (hr : Res r) (h : SlRep K sa B H v r F) : SlRep K sa B' H v r F := by
  cases r with
  | p d => exact h
  | l d => exact h
  | ll d => exact h
  | b d => exact hr.elim
  | bb d => exact hr.elim
  | src => exact hr.elim
def spD (K : PySem.W.Frag) (n : Nat) (R : DR) : Sp := fun vs H Q _ => ∃ sa sls S r S', sls.length = n ∧ R sls S r S' ∧ SrcRep sa H S ∧ SlsRep K sa H vs sls ∧
  ∀ v H' F, Ext sa H H' → SrcRep sa H' S' → SlRep K sa H H' v r F → F.Nodup → (∀ a ∈ F, H a = none) → Q v H'
theorem SlsRep.length {K : PySem.W.Frag} {sa : SA} {B : Hp} : ∀ {vs : List V} {sls : List Sl}, SlsRep K sa B vs sls → vs.length = sls.length
  | [], [], _ => rfl
  | _ :: vs, _ :: sls, h => congrArg (· + 1) (SlsRep.length h.2)
  | [], _ :: _, h => h.elim
  | _ :: _, [], h => h.elim
theorem SlsRep.get {K : PySem.W.Frag} {sa : SA} {B : Hp} : ∀ {vs : List V} {sls : List Sl} {i : Nat} {sl : Sl}, SlsRep K sa B vs sls → sls[i]? = some sl → ∃ v, vs[i]? = some v ∧ SlRep K sa B B v sl []
  | v :: vs, s :: sls, 0, sl, h, e => by
    simp at e; subst e
    exact ⟨v, rfl, h.1⟩
  | v :: vs, s :: sls, i + 1, sl, h, e => SlsRep.get (i := i) h.2 (by simpa using e)
  | [], [], _, _, _, e => by simp at e
  | [], _ :: _, _, _, h, _ => h.elim
  | _ :: _, [], _, _, h, _ => h.elim

/-! ### statements -/
structure Spec where
  nx : Env → Src → Prop
  rt : Sl → Src → Prop
def tSB (K : PySem.W.Frag) (sa : SA) (δ : Env) (S : Src) (W : Spec) : TS := fun D σ H => ∃ B, Ok K sa B H σ δ S ∧
  (∀ B' σ' H' δ' S', W.nx δ' S' → Ext sa B B' → Ok K sa B' H' σ' δ' S' → D.nx σ' H') ∧
  ∀ B' v H' r S' F, W.rt r S' → Ext sa B B' → Ext sa B' H' → SrcRep sa H' S' → Res r → SlRep K sa B' H' v r F → F.Nodup → (∀ a ∈ F, B' a = none ∧ Away sa a) → D.rt v H'
def SB (X : Cx) (sa : SA) (δ : Env) (S : Src) (sts : List Stmt) (W : Spec) : Prop := PSs X sts (tSB X.K sa δ S W)
/-- returns r -/
def WR {ρ : Type} (rf : ρ → Sl × Src) (r : ρ) : Spec := ⟨fun _ _ => False, fun sl s => rf r = (sl, s)⟩
/-- falls through with n -/
def WN {ν : Type} (nf : ν → Env × Src) (n : ν) : Spec := ⟨fun δ s => nf n = (δ, s), fun _ _ => False⟩
/-- one of both -/
def WX {ρ ν : Type} (nf : ν → Env × Src) (rf : ρ → Sl × Src) (o : Except ρ ν) : Spec := ⟨fun δ s => ∃ n, o = .ok n ∧ nf n = (δ, s), fun sl s => ∃ r, o = .error r ∧ rf r = (sl, s)⟩

section
variable {P : Program} {w : World} {K : PySem.W.Frag} {mg : Str → Option Value} {base : Heap}
/-- THE RULE for a def -/
theorem fnD {x qual : Str} {st : Stmt} {f : Addr} {fd : FuncData} {N ps : List Str} {k n : Nat} {R : DR} (F : Fun K x qual st f fd) (T : FnScope N ps (defScope st)) (hn : n = ps.length) (hN : ps.length ≤ N.length)
    (body : ∀ (sa : SA) (sls : List Sl) (S : Src) (r : Sl) (S' : Src), R sls S r S' → ∀ (cd : Value) (A : Around) (outer : List PySem.Env) (s : Shared) (H : Hp) (E : XK), Room k (A.deeper (envOfC qual (defScope st) s.heap.objs.size f cd)) →
      (A.deeper (envOfC qual (defScope st) s.heap.objs.size f cd)).guards = some [] →
      SB (bx P w K mg base N qual (defScope st) f cd A outer s H E) sa (sls.map some ++ List.replicate (N.length - ps.length) none) S (defBody st) ⟨fun _ S'' => r = .p .none ∧ S'' = S', fun r' S'' => r' = r ∧ S'' = S'⟩) : FnG P w K mg base (k + 1) f fd ps (spD K n R) := by
  refine fnG_of F T (fun vs H Q E h => ?_) fun cd A outer s H vs Q E hr hg h => ?_
  · obtain ⟨sa, sls, S, r, S', hl, _, _, hs, _⟩ := h
    rw [hs.length, hl, hn]
  obtain ⟨sa, sls, S, r, S', hl, hR, hS, hs, q⟩ := h
  refine ⟨_, body sa sls S r S' hR cd A outer s H E hr hg, H, ⟨.refl _ _, ?_, ⟨fun _ => [], fun i sl e => ?_, fun _ => .nil, fun _ _ _ _ m => (nomatch m), fun _ _ m => (nomatch m)⟩, hS⟩, fun B' σ' H' δ' S'' hw eb ok => ?_, fun B' v H' r' S'' Fr hw eb eh hs' hres hrep hnd hfr => ?_⟩
  · unfold L2.start
    simp only [List.length_append, List.length_map, List.length_replicate]
    rw [hs.length, hl, hn]
  · have hi : i < sls.length := by
      rw [List.getElem?_append] at e
      split at e
      · rename_i h
        simpa using h
      · rw [List.getElem?_replicate] at e
        split at e <;> cases e
    have e' : sls[i]? = some sl := by
      rw [List.getElem?_append_left (by simpa using hi), List.getElem?_map] at e
      cases q : sls[i]? with
      | none => rw [q] at e; cases e
      | some z => rw [q] at e; cases e; rfl
    obtain ⟨v, h1, h2⟩ := hs.get e'
    refine ⟨v, ?_, h2⟩
    unfold L2.start
    rw [List.getElem?_append_left (by rw [List.length_map, hs.length]; exact hi), List.getElem?_map, h1]; rfl
  · obtain ⟨rfl, rfl⟩ := hw
    exact q _ H' [] (eb.trans ok.base) ok.src ⟨rfl, .non, trivial⟩ .nil fun _ m => nomatch m
  · obtain ⟨rfl, rfl⟩ := hw
    refine q v H' Fr (eb.trans eh) hs' (hrep.base hres) hnd fun a m => ?_
    obtain ⟨h1, h2⟩ := hfr a m
    cases z : H a with
    | none => rfl
    | some o =>
      have := eb.cell a o z h2
      rw [h1] at this; cases this
end

section
variable {X : Cx} {sa : SA} {δ δ' : Env} {S S1 S2 S' : Src} {e : Expr} {st : Stmt} {sts rest : List Stmt} {W : Spec} {pos : Pos} {d : PyData} {ds : List PyData} {dss : List (List PyData)} {sl : Sl} {i : Nat}
theorem ps_imp {t t' : TS} (h : PS X st t) (m : ∀ D σ H, t' D σ H → t D σ H) : PS X st t' := ⟨fun pins s σ H D I q => h.run pins s σ H D I (m D σ H q)⟩
theorem pss_imp {t t' : TS} (h : PSs X sts t) (m : ∀ D σ H, t' D σ H → t D σ H) : PSs X sts t' := ⟨fun pins s σ H D I q => h.run pins s σ H D I (m D σ H q)⟩
/-- one statement that falls through, then the rest -/
theorem sb_seq {t : TS} (h : PS X st t) (hr : SB X sa δ' S' rest W)
    (m : ∀ (D : Ends) (σ : L2.St) (H : Hp) (B : Hp), Ok X.K sa B H σ δ S → (∀ B' σ' H', Ext sa B B' → Ok X.K sa B' H' σ' δ' S' → D.nx σ' H') → t D σ H) : SB X sa δ S (st :: rest) W :=
  pss_imp (pss_cons h hr) fun D σ H ⟨B, ok, k1, k2⟩ => m _ σ H B ok fun B' σ' H' eb ok' =>
    ⟨B', ok', fun B2 σ2 H2 δ2 S2 hw e2 ok2 => k1 B2 σ2 H2 δ2 S2 hw (eb.trans e2) ok2, fun B2 v H2 r S2 F hw e2 e3 hs hres hrep hn hf => k2 B2 v H2 r S2 F hw (eb.trans e2) e3 hs hres hrep hn hf⟩
/-- the block's end -/
theorem sb_nil (hw : W.nx δ' S) (hs : Sub δ' δ) : SB X sa δ S [] W := pss_imp pss_nil fun D σ H ⟨B, ok, k1, _⟩ => k1 B σ H δ' S hw (.refl _ _) (ok.forget hs)
theorem sb_forget (hs : Sub δ' δ) (h : SB X sa δ' S sts W) : SB X sa δ S sts W := pss_imp h fun D σ H ⟨B, ok, k1, k2⟩ => ⟨B, ok.forget hs, k1, k2⟩
/-- x = e -/
theorem sb_set (h : PS X st (tAsg (tEG false X.K sa δ S (.p d) S1) (gName i))) (hr : SB X sa (δ.set i (some (.p d))) S1 rest W) (hi : Nat.blt i δ.length = true := by rfl) : SB X sa δ S (st :: rest) W :=
  sb_seq h hr fun D σ H B ok k => ⟨B, ok, fun v H' B' ok' e' b r => by
    obtain rfl : B' = H' := b
    exact k B _ B' (.refl _ _) (ok'.set ⟨r.1, r.2⟩ (Nat.blt_eq.mp hi))⟩
theorem sb_setB (hsl : sl = .b ds ∨ sl = .bb dss ∨ sl = .src) (h : PS X st (tAsg (tEG true X.K sa δ S sl S1) (gName i))) (hr : SB X sa (δ.set i (some sl)) S1 rest W) (hi : Nat.blt i δ.length = true := by rfl) : SB X sa δ S (st :: rest) W :=
  sb_seq h hr fun D σ H B ok k => ⟨B, ok, fun v H' B' ok' e' b r => by
    obtain ⟨eb, okb⟩ := b
    refine k B' _ H' eb (okb.set ?_ (Nat.blt_eq.mp hi))
    rcases hsl with rfl | rfl | rfl
    · exact r
    · exact r
    · exact r⟩
theorem sb_setL (h : PS X st (tAsg (tEL X.K sa δ S ds S1) (gName i))) (hr : SB X sa (δ.set i (some (.l ds))) S1 rest W) (hi : Nat.blt i δ.length = true := by rfl) : SB X sa δ S (st :: rest) W :=
  sb_seq h hr fun D σ H B ok k => ⟨B, ok, fun p H' hp ok' e' hl =>
    k B _ H' (.refl _ _) (ok.setNew e' ok'.src (Fn := [p]) ⟨p, rfl, rfl, hl⟩ (Nat.blt_eq.mp hi) (by simp) fun a m => by
      obtain rfl : a = p := by simpa using m
      exact hp)⟩
theorem sb_setM (h : PS X st (tAsg (tEM X.K sa δ S dss S1) (gName i))) (hr : SB X sa (δ.set i (some (.ll dss))) S1 rest W) (hi : Nat.blt i δ.length = true := by rfl) : SB X sa δ S (st :: rest) W :=
  sb_seq h hr fun D σ H B ok k => ⟨B, ok, fun p bs H' hp hn ok' e' hl hr hz =>
    k B _ H' (.refl _ _) (ok.setNew e' ok'.src (Fn := p :: bs) ⟨p, bs, rfl, rfl, hl, hr, hz⟩ (Nat.blt_eq.mp hi) hn hp)⟩
/-- a new list that nobody writes: kept as one that is read -/
theorem sb_setLB (h : PS X st (tAsg (tEL X.K sa δ S ds S1) (gName i))) (hr : SB X sa (δ.set i (some (.b ds))) S1 rest W) (hi : Nat.blt i δ.length = true := by rfl) : SB X sa δ S (st :: rest) W :=
  sb_seq h hr fun D σ H B ok k => ⟨B, ok, fun p H' hp ok' e' hl => by
    refine give_l (st := true) ok e' ok'.src hp hl fun B' ok'' b r => ?_
    obtain ⟨eb, okb⟩ := b
    exact k B' _ H' eb (okb.set r (Nat.blt_eq.mp hi))⟩
theorem sb_setMB (h : PS X st (tAsg (tEM X.K sa δ S dss S1) (gName i))) (hr : SB X sa (δ.set i (some (.bb dss))) S1 rest W) (hi : Nat.blt i δ.length = true := by rfl) : SB X sa δ S (st :: rest) W :=
  sb_seq h hr fun D σ H B ok k => ⟨B, ok, fun p bs H' hp hn ok' e' hl hr hz => by
    refine give_m (st := true) ok e' ok'.src hp hl hr hz fun B' ok'' b r => ?_
    obtain ⟨eb, okb⟩ := b
    exact k B' _ H' eb (okb.set r (Nat.blt_eq.mp hi))⟩
/-- an expression whose value is dropped -/
theorem sb_expr {sl : Sl} (h : PS X st (tDrop (tEG false X.K sa δ S sl S1))) (hr : SB X sa δ S1 rest W) : SB X sa δ S (st :: rest) W :=
  sb_seq h hr fun D σ H B ok k => ⟨B, ok, fun v H' B' ok' e' b r => k B _ H' (.refl _ _) ok'⟩

/-! return -/
theorem sb_ret (he : EE X sa δ S e (.p d) S1) (hw : W.rt (.p d) S1) : SB X sa δ S (.Return (some e) pos :: rest) W :=
  pss_imp (pss_cons (ps_ret he) (pss_never (sts := rest))) fun D σ H ⟨B, ok, k1, k2⟩ => ⟨B, ok, fun v H' B' ok' e' b r => by
    obtain rfl : B' = H' := b
    exact k2 B v B' _ _ [] hw (.refl _ _) ok'.base ok'.src trivial ⟨r.1, r.2⟩ .nil fun _ m => nomatch m⟩
theorem sb_retL (he : EL X sa δ S e ds S1) (hw : W.rt (.l ds) S1) : SB X sa δ S (.Return (some e) pos :: rest) W :=
  pss_imp (pss_cons (ps_ret he) (pss_never (sts := rest))) fun D σ H ⟨B, ok, k1, k2⟩ => ⟨B, ok, fun p H' hp ok' e' hl =>
    k2 B _ H' _ _ [p] hw (.refl _ _) ok'.base ok'.src trivial ⟨p, rfl, rfl, hl⟩ (by simp) fun a m => by
      obtain rfl : a = p := by simpa using m
      exact ⟨ok.basefree hp, ok.away hp⟩⟩
theorem sb_retM (he : EM X sa δ S e dss S1) (hw : W.rt (.ll dss) S1) : SB X sa δ S (.Return (some e) pos :: rest) W :=
  pss_imp (pss_cons (ps_ret he) (pss_never (sts := rest))) fun D σ H ⟨B, ok, k1, k2⟩ => ⟨B, ok, fun p bs H' hp hn ok' e' hl hr hz =>
    k2 B _ H' _ _ (p :: bs) hw (.refl _ _) ok'.base ok'.src trivial ⟨p, bs, rfl, rfl, hl, hr, hz⟩ hn fun a m => ⟨ok.basefree (hp a m), ok.away (hp a m)⟩⟩
/-- return of an own list -/
theorem sb_retOwn {x : Str} {p1 : Pos} {sl : Sl} (hd : δ[i]? = some (some sl)) (hsl : Res sl) (hv : PE X (.Name x p1) (tVar i)) (hw : W.rt sl S) : SB X sa δ S (.Return (some (.Name x p1)) pos :: rest) W :=
  pss_imp (pss_cons (ps_ret hv) (pss_never (sts := rest))) fun D σ H ⟨B, ok, k1, k2⟩ => by
    obtain ⟨F, o⟩ := ok.owns
    obtain ⟨v, h1, h2⟩ := o.rep i _ hd
    exact ⟨v, h1, k2 B v H _ _ (F i) hw (.refl _ _) ok.base ok.src hsl h2 (o.nodup i) fun a m => ⟨(o.own i a m).1, (o.own i a m).2.1⟩⟩

/-! if -/
variable {c : Expr} {sa1 sa2 : List Stmt} {k : Bool}
/-- if c: A (that doesn't fall through), rest -/
theorem sb_if {β : Type} {Wf : β → Spec} {x y : β} (hc : ET X sa δ S c k S1) (ha : k = true → SB X sa δ S1 sa1 ⟨fun _ _ => False, (Wf x).rt⟩) (hr : k = false → SB X sa δ S1 rest (Wf y)) : SB X sa δ S (.If c sa1 [] pos :: rest) (Wf (if k = true then x else y)) := by
  cases k with
  | true =>
    exact pss_imp (pss_cons (ps_if hc (ha rfl) (pss_never (sts := []))) (pss_never (sts := rest))) fun D σ H ⟨B, ok, k1, k2⟩ => ⟨B, ok, fun H1 ok1 e1 => iteT ⟨B, ok1, fun _ _ _ _ _ hf => hf.elim, fun B2 v H2 r S2 F hw => k2 B2 v H2 r S2 F hw⟩⟩
  | false =>
    exact pss_imp (pss_cons (ps_if hc (pss_never (sts := sa1)) pss_nil) (hr rfl)) fun D σ H ⟨B, ok, k1, k2⟩ => ⟨B, ok, fun H1 ok1 e1 => iteF ⟨B, ok1, k1, k2⟩⟩
/-- if c: A else: B, nothing behind -/
theorem sb_ifE {β : Type} {Wf : β → Spec} {x y : β} (hc : ET X sa δ S c k S1) (ha : k = true → SB X sa δ S1 sa1 (Wf x)) (hb : k = false → SB X sa δ S1 sa2 (Wf y)) : SB X sa δ S [.If c sa1 sa2 pos] (Wf (if k = true then x else y)) := by
  cases k with
  | true => exact pss_imp (pss_one (ps_if hc (ha rfl) (pss_never (sts := sa2)))) fun D σ H ⟨B, ok, k1, k2⟩ => ⟨B, ok, fun H1 ok1 e1 => iteT ⟨B, ok1, k1, k2⟩⟩
  | false => exact pss_imp (pss_one (ps_if hc (pss_never (sts := sa1)) (hb rfl))) fun D σ H ⟨B, ok, k1, k2⟩ => ⟨B, ok, fun H1 ok1 e1 => iteF ⟨B, ok1, k1, k2⟩⟩
/-- if c: A else: B, both fall through, then the rest -/
theorem sb_ifJ {ν : Type} {nf : ν → Env × Src} {x y : ν} (hc : ET X sa δ S c k S1) (ha : k = true → SB X sa δ S1 sa1 (WN nf x)) (hb : k = false → SB X sa δ S1 sa2 (WN nf y)) (hr : SB X sa (nf (if k = true then x else y)).1 (nf (if k = true then x else y)).2 rest W) :
    SB X sa δ S (.If c sa1 sa2 pos :: rest) W := by
  cases k with
  | true =>
    refine sb_seq (ps_if hc (ha rfl) (pss_never (sts := sa2))) hr fun D σ H B ok kk => ⟨B, ok, fun H1 ok1 e1 => iteT ⟨B, ok1, fun B' σ' H' δ' S' hw eb ok' => kk B' σ' H' eb ?_, fun _ _ _ _ _ _ hf => hf.elim⟩⟩
    have e1 : (nf (if true = true then x else y)) = (δ', S') := hw
    rw [e1]; exact ok'
  | false =>
    refine sb_seq (ps_if hc (pss_never (sts := sa1)) (hb rfl)) hr fun D σ H B ok kk => ⟨B, ok, fun H1 ok1 e1 => iteF ⟨B, ok1, fun B' σ' H' δ' S' hw eb ok' => kk B' σ' H' eb ?_, fun _ _ _ _ _ _ hf => hf.elim⟩⟩
    have e1 : (nf (if false = true then x else y)) = (δ', S') := hw
    rw [e1]; exact ok'
end

/-! ### calls -/
section
variable {X : Cx} {sa : SA} {δ : Env} {S S1 S2 : Src} {st : Bool} {k n : Nat} {f : Addr} {fd : FuncData} {ps : List Str} {R : DR} {x : Str} {p pos : Pos} {e : Expr} {es : List Expr} {sls : List Sl} {t : TA} {E : XK}
theorem run_g {pins : List (Addr × Obj)} {σ : L2.St} {H : Hp} {s : Shared} {Q : VK} {us : List Value} {vs : List V} {sp : Sp} (G : FnG X.prog X.w X.K X.mg X.base k f fd ps sp) (hr : Room k X.A) (hg : X.A.guards = some []) (hb : Binds X.K fd ps [])
    (I : Inv X pins σ H s) (r : Vals vs us) (h : sp vs H Q E) : wpAny (model X.prog X.w) X.A (call (.ref f) us) (EP X pins σ Q) X.xe s := by
  have hl : (us ++ []).length = ps.length := by rw [List.append_nil, ← r.length]; exact G.len _ _ _ _ h
  have bd := hb s us I.kIn hl
  rw [List.append_nil] at bd
  refine wpAny_call (codeAny_mono (G.run X.A X.stack s H ⟨us, []⟩ us vs Q E hr hg I.env0 bd r h) fun r s' hq => ?_)
  match r, hq with
  | .error e, hq => exact False.elim hq
  | .ok (.ret u), hq => exact I.after hq
  | .ok .next, hq => exact False.elim hq
  | .ok .brk, hq => exact False.elim hq
  | .ok .cont, hq => exact False.elim hq
/-- f(e, ..) -/
theorem pe_callG {sp : Sp} (G : FnG X.prog X.w X.K X.mg X.base k f fd ps sp) (hr : Room k X.A) (hgd : X.A.guards = some []) (hg : Gl X x) (hm : X.mg x = some (.ref f)) (hk : PySem.W.keepIn X.K (.ref f) = true) (hb : Binds X.K fd ps [])
    (ha : PA X (e :: es) t) (hdb : (x == ("__debug__" : Str)) = false := by decide) (he : starEach (e :: es) X.env = (false, eval e X.env) :: starEach es X.env := by rfl) (hpl : (backTo pos (starEach es X.env)).any (·.1) = false := by rfl) :
    PE X (.Call (.Name x p) (e :: es) [] pos) (fun σ H Q => t σ H fun vs H1 => sp vs H1 Q E) := by
  refine ⟨fun pins s σ H Q I h => wpAny_Call_Name_kw (ld_glob I hg hm (PySem.W.callWith_K (h₀ := X.base) I.ok.mod.kin hk (thn (ha.run pos pins s σ H _ I h) fun us s1 hh => ?_) he hpl) hdb)⟩
  obtain ⟨vs, H1, I1, r, q⟩ := hh
  exact ⟨I1.kIn, run_g G hr hgd hb I1 r q⟩
/-- what stands behind the call -/
structure Callee (X : Cx) (x : Str) (k : Nat) (f : Addr) (fd : FuncData) (ps : List Str) (n : Nat) (R : DR) : Prop where
  ok : FnG X.prog X.w X.K X.mg X.base k f fd ps (spD X.K n R)
  mg : X.mg x = some (.ref f)
  kp : PySem.W.keepIn X.K (.ref f) = true
  bd : Binds X.K fd ps []
section
variable {d : PyData} {ds : List PyData} {dss : List (List PyData)}
theorem ev_call (C : Callee X x k f fd ps n R) (hr : Room k X.A) (hgd : X.A.guards = some []) (hg : Gl X x) (ha : EA false X sa δ S (e :: es) sls S1) (hn : sls.length = n) (hR : R sls S1 (.p d) S2)
    (hdb : (x == ("__debug__" : Str)) = false := by decide) (he : starEach (e :: es) X.env = (false, eval e X.env) :: starEach es X.env := by rfl) (hpl : (backTo pos (starEach es X.env)).any (·.1) = false := by rfl) :
    EG st X sa δ S (.Call (.Name x p) (e :: es) [] pos) (.p d) S2 := pe_imp (pe_callG (E := E0) C.ok hr hgd hg C.mg C.kp C.bd ha hdb he hpl) fun σ H Q ⟨B, ok, kk⟩ =>
  ⟨B, ok, fun vs H1 B1 ok1 e1 b1 r1 => by
    obtain rfl : B1 = H1 := b1
    exact ⟨sa, sls, S1, .p d, S2, hn, hR, ok1.src, r1, fun v H' F eh hs hrep hnd hfr => give_p ok (e1.trans eh) hs hrep.2.1 hrep.2.2 fun B' ok' b r => kk v H' B' ok' (e1.trans eh) b r⟩⟩
theorem el_call (C : Callee X x k f fd ps n R) (hr : Room k X.A) (hgd : X.A.guards = some []) (hg : Gl X x) (ha : EA false X sa δ S (e :: es) sls S1) (hn : sls.length = n) (hR : R sls S1 (.l ds) S2)
    (hdb : (x == ("__debug__" : Str)) = false := by decide) (he : starEach (e :: es) X.env = (false, eval e X.env) :: starEach es X.env := by rfl) (hpl : (backTo pos (starEach es X.env)).any (·.1) = false := by rfl) :
    EL X sa δ S (.Call (.Name x p) (e :: es) [] pos) ds S2 := pe_imp (pe_callG (E := E0) C.ok hr hgd hg C.mg C.kp C.bd ha hdb he hpl) fun σ H Q ⟨B, ok, kk⟩ =>
  ⟨B, ok, fun vs H1 B1 ok1 e1 b1 r1 => by
    obtain rfl : B1 = H1 := b1
    refine ⟨sa, sls, S1, .l ds, S2, hn, hR, ok1.src, r1, fun v H' F eh hs hrep hnd hfr => ?_⟩
    obtain ⟨a, rfl, rfl, hl⟩ := hrep
    exact kk a H' (e1.none_of ok1 (hfr a (by simp))) (ok1.ext eh hs) (e1.trans eh) hl⟩
theorem em_call (C : Callee X x k f fd ps n R) (hr : Room k X.A) (hgd : X.A.guards = some []) (hg : Gl X x) (ha : EA false X sa δ S (e :: es) sls S1) (hn : sls.length = n) (hR : R sls S1 (.ll dss) S2)
    (hdb : (x == ("__debug__" : Str)) = false := by decide) (he : starEach (e :: es) X.env = (false, eval e X.env) :: starEach es X.env := by rfl) (hpl : (backTo pos (starEach es X.env)).any (·.1) = false := by rfl) :
    EM X sa δ S (.Call (.Name x p) (e :: es) [] pos) dss S2 := pe_imp (pe_callG (E := E0) C.ok hr hgd hg C.mg C.kp C.bd ha hdb he hpl) fun σ H Q ⟨B, ok, kk⟩ =>
  ⟨B, ok, fun vs H1 B1 ok1 e1 b1 r1 => by
    obtain rfl : B1 = H1 := b1
    refine ⟨sa, sls, S1, .ll dss, S2, hn, hR, ok1.src, r1, fun v H' F eh hs hrep hnd hfr => ?_⟩
    obtain ⟨a, bs, rfl, rfl, hl, hr', hz⟩ := hrep
    exact kk a bs H' (fun b m => e1.none_of ok1 (hfr b m)) hnd (ok1.ext eh hs) (e1.trans eh) hl hr' hz⟩
end
end
end L2.Ev

set_option Elab.async false
set_option linter.all false
set_option maxRecDepth 100000
/-! Ev5: what is walked, targets, comprehensions, for. -/
namespace L2.Ev
open PySem PySem.Spec PyProof.Rows

/-- an item: a value, or a new tuple of values -/
inductive Itm where
  | one (sl : Sl)
  | tup (sls : List Sl)
def SlsR (K : PySem.W.Frag) (sa : SA) (B H : Hp) : List V → List Sl → Prop
  | [], [] => True
  | v :: vs, sl :: sls => SlRep K sa B H v sl [] ∧ SlsR K sa B H vs sls
  | _, _ => False
def ItmRep (K : PySem.W.Frag) (sa : SA) (B H : Hp) (v : V) : Itm → Prop
  | .one sl => SlRep K sa B H v sl []
  | .tup sls => ∃ a xs, v = .ref a ∧ SqT K H a xs ∧ SlsR K sa B H xs sls
def JY (K : PySem.W.Frag) (sa : SA) (B : Hp) (J : It) (items : List Itm) : Prop := ∀ i H, Ext sa B H →
  (∀ it, items[i]? = some it → J.go i H ∧ ∀ x H', J.yld i H x H' → Same H H' ∧ ItmRep K sa B H' x it) ∧ (items.length = i → J.stop i H)
def tIJ (st : Bool) (K : PySem.W.Frag) (sa : SA) (δ : Env) (S : Src) (items : List Itm) (S' : Src) : TI := fun σ H R =>
  ∃ B, Ok K sa B H σ δ S ∧ ∀ J H1 B', Ok K sa B H1 σ δ S' → Ext sa H H1 → BOk st K sa B H1 σ δ S' B' → JY K sa B' J items → items.length ≤ sizeLine → R J H1
def IJ (st : Bool) (X : Cx) (sa : SA) (δ : Env) (S : Src) (tg iter : Expr) (items : List Itm) (S' : Src) : Prop := PI X tg iter (tIJ st X.K sa δ S items S')
def onesP (ds : List PyData) : List Itm := ds.map fun d => .one (.p d)
def onesB (dss : List (List PyData)) : List Itm := dss.map fun ds => .one (.b ds)
/-- the items of typed data -/
def its {α : Type} [Enc α] (xs : List α) : List Itm := xs.map fun x => .one (.p (enc x))
def itsB {α : Type} [Enc α] (xss : List (List α)) : List Itm := xss.map fun xs => .one (.b (encs xs))
theorem its_eq {α : Type} [Enc α] (xs : List α) : onesP (encs xs) = its xs := by
  unfold onesP its encs
  rw [List.map_map]; rfl
theorem itsB_eq {α : Type} [Enc α] (xss : List (List α)) : onesB (encss xss) = itsB xss := by
  unfold onesB itsB encss
  rw [List.map_map]; rfl

section
variable {X : Cx} {sa : SA} {δ δ' : Env} {S S1 S2 S' : Src} {st : Bool} {e a b c tg iter : Expr} {pos p pos' : Pos} {K : PySem.W.Frag} {B H H' : Hp} {items : List Itm}
theorem pi_imp {t t' : TI} (h : PI X tg iter t) (m : ∀ σ H R, t' σ H R → t σ H R) : PI X tg iter t' := ⟨fun pins s σ H R I q => h.run pins s σ H R I (m σ H R q)⟩
theorem jy_tup {x : Addr} {xs : List V} {ds : List PyData} (hs : SqT K B x xs) (hd : DpAll K B xs ds) (hp : PuAll ds) : JY K sa B (Itt K x) (onesP ds) := fun i H e => by
  have hq : SqT K H x xs := e.tup.sqt hs
  refine ⟨fun it hi => ?_, fun hi => ⟨xs, hq, by rw [hd.length]; exact Nat.le_of_eq (by simpa [onesP] using hi)⟩⟩
  unfold onesP at hi
  rw [List.getElem?_map] at hi
  cases q : ds[i]? with
  | none => rw [q] at hi; cases hi
  | some d =>
    rw [q] at hi; cases hi
    obtain ⟨v, h1, h2⟩ := hd.get' q
    refine ⟨⟨xs, v, hq, h1⟩, fun y H' hy => ?_⟩
    obtain ⟨rfl, hy⟩ := hy
    have := hy xs hq
    rw [h1] at this; cases this
    exact ⟨Same.refl _, rfl, e.tup.dp _ _ (hp.get q) h2, hp.get q⟩
theorem jy_list {x : Addr} {ds : List PyData} (h : BAt K sa B x ds) : JY K sa B (Itl K x) (onesP ds) := fun i H e => by
  obtain ⟨xs, hs, hw, hd, hp, hz⟩ := h
  have hq : SqL K H x xs := e.sql hw hs
  refine ⟨fun it hi => ?_, fun hi => ⟨xs, hq, by rw [hd.length]; exact Nat.le_of_eq (by simpa [onesP] using hi)⟩⟩
  unfold onesP at hi
  rw [List.getElem?_map] at hi
  cases q : ds[i]? with
  | none => rw [q] at hi; cases hi
  | some d =>
    rw [q] at hi; cases hi
    obtain ⟨v, h1, h2⟩ := hd.get' q
    refine ⟨⟨xs, v, hq, h1⟩, fun y H' hy => ?_⟩
    obtain ⟨rfl, hy⟩ := hy
    have := hy xs hq
    rw [h1] at this; cases this
    exact ⟨Same.refl _, rfl, e.tup.dp _ _ (hp.get q) h2, hp.get q⟩
theorem jy_rows {x : Addr} {vs : List V} {dss : List (List PyData)} (hs : SqL K B x vs) (hw : Away sa x) (hr : RowsB K sa B vs dss) : JY K sa B (Itl K x) (onesB dss) := fun i H e => by
  have hq : SqL K H x vs := e.sql hw hs
  refine ⟨fun it hi => ?_, fun hi => ⟨vs, hq, by rw [hr.length]; exact Nat.le_of_eq (by simpa [onesB] using hi)⟩⟩
  unfold onesB at hi
  rw [List.getElem?_map] at hi
  cases q : dss[i]? with
  | none => rw [q] at hi; cases hi
  | some ds =>
    rw [q] at hi; cases hi
    obtain ⟨bb, h1, h2⟩ := hr.get q
    refine ⟨⟨vs, _, hq, h1⟩, fun y H' hy => ?_⟩
    obtain ⟨rfl, hy⟩ := hy
    have := hy vs hq
    rw [h1] at this; cases this
    exact ⟨Same.refl _, rfl, bb, rfl, h2⟩
def rngI (lo : Int) (n : Nat) : List Int := (List.range n).map fun (i : Nat) => lo + (i : Int)
theorem jy_rng {lo : Int} {n : Nat} : JY K sa B (Itr lo n) (its (rngI lo n)) := fun i H e => by
  refine ⟨fun it hi => ?_, fun hi => by
    have h : n = i := by simpa [its, rngI] using hi
    exact Nat.le_of_eq h⟩
  unfold its rngI at hi
  rw [List.getElem?_map, List.getElem?_map] at hi
  by_cases hn : i < n
  · rw [List.getElem?_range hn] at hi
    cases hi
    refine ⟨hn, fun y H' hy => ?_⟩
    obtain ⟨rfl, rfl⟩ := hy
    exact ⟨Same.refl _, rfl, .int _, trivial⟩
  · rw [List.getElem?_eq_none (by simpa using hn)] at hi
    cases hi
theorem Ok.tup_there {σ : L2.St} {v : V} {ds : List PyData} (h : SlRep K sa B B v (.p (.tuple ds)) []) : ∃ x xs, v = .ref x ∧ SqT K B x xs ∧ DpAll K B xs ds ∧ PuAll ds ∧ ds.length ≤ sizeLine := dpt h
theorem bok_ext {σ : L2.St} (ok : Ok K sa B H σ δ S') (b : BOk st K sa B H σ δ S' B') : Ext sa B' H := by
  cases st with
  | false =>
    obtain rfl : B' = H := b
    exact .refl _ _
  | true => exact b.2.base
theorem ij_tup {ds : List PyData} (h : EG st X sa δ S iter (.p (.tuple ds)) S') : IJ st X sa δ S tg iter (onesP ds) S' := pi_imp (pi_tup h) fun σ H R ⟨B, ok, k⟩ => ⟨B, ok, fun v H1 B1 ok1 e1 b1 r1 => by
  obtain ⟨x, xs, rfl, hs, hd, hp, hz⟩ := Ok.tup_there (σ := σ) r1
  exact ⟨x, rfl, ⟨xs, (bok_ext ok1 b1).tup.sqt hs⟩, k _ H1 B1 ok1 e1 b1 (jy_tup hs hd hp) (by unfold onesP; rw [List.length_map]; exact hz)⟩⟩
theorem ij_list {ds : List PyData} (h : EG st X sa δ S iter (.b ds) S') : IJ st X sa δ S tg iter (onesP ds) S' := pi_imp (pi_list h) fun σ H R ⟨B, ok, k⟩ => ⟨B, ok, fun v H1 B1 ok1 e1 b1 r1 => by
  obtain ⟨_, x, rfl, hb⟩ := r1
  obtain ⟨xs, hs, hw, _, _, hz⟩ := id hb
  exact ⟨x, rfl, ⟨xs, (bok_ext ok1 b1).sql hw hs⟩, k _ H1 B1 ok1 e1 b1 (jy_list hb) (by unfold onesP; rw [List.length_map]; exact hz)⟩⟩
theorem ij_rows {dss : List (List PyData)} (h : EG st X sa δ S iter (.bb dss) S') : IJ st X sa δ S tg iter (onesB dss) S' := pi_imp (pi_list h) fun σ H R ⟨B, ok, k⟩ => ⟨B, ok, fun v H1 B1 ok1 e1 b1 r1 => by
  obtain ⟨_, x, vs, rfl, hs, hw, hr, hz⟩ := r1
  exact ⟨x, rfl, ⟨vs, (bok_ext ok1 b1).sql hw hs⟩, k _ H1 B1 ok1 e1 b1 (jy_rows hs hw hr) (by unfold onesB; rw [List.length_map]; exact hz)⟩⟩
theorem ij_T {α : Type} [Enc α] {xs : List α} (h : EG st X sa δ S iter (.p (enc xs)) S') : IJ st X sa δ S tg iter (its xs) S' := by rw [← its_eq]; exact ij_tup h
theorem ij_L {α : Type} [Enc α] {xs : List α} (h : EG st X sa δ S iter (.b (encs xs)) S') : IJ st X sa δ S tg iter (its xs) S' := by rw [← its_eq]; exact ij_list h
theorem ij_LL {α : Type} [Enc α] {xss : List (List α)} (h : EG st X sa δ S iter (.bb (encss xss)) S') : IJ st X sa δ S tg iter (itsB xss) S' := by rw [← itsB_eq]; exact ij_rows h
theorem sls1 {v1 : List V} {sl : Sl} (h : SlsRep K sa B v1 [sl]) : ∃ v, v1 = [v] ∧ SlRep K sa B B v sl [] := by
  cases v1 with
  | nil => exact h.elim
  | cons v vs =>
    cases vs with
    | nil => exact ⟨v, rfl, h.1⟩
    | cons w ws => exact h.2.elim
theorem sls2 {v1 : List V} {sl sl2 : Sl} (h : SlsRep K sa B v1 [sl, sl2]) : ∃ v w, v1 = [v, w] ∧ SlRep K sa B B v sl [] ∧ SlRep K sa B B w sl2 [] := by
  cases v1 with
  | nil => exact h.elim
  | cons v vs =>
    obtain ⟨w, rfl, h2⟩ := sls1 h.2
    exact ⟨v, w, rfl, h.1, h2⟩
def RngOk (n : Int) : Prop := -(2 ^ 62) ≤ n ∧ n ≤ 16777216
theorem ij_range1 {n : Int} (hn : RngOk n) (hg : Gl X "range") (hm : X.mg "range" = none) (ha : EA st X sa δ S [a] [.p (.int n)] S') (hs : starEach [a] X.env = [(false, eval a X.env)] := by rfl) :
    IJ st X sa δ S tg (.Call (.Name "range" p) [a] [] pos) (its (rngI 0 n.toNat)) S' := pi_imp (pi_range1 hg hm ha hs) fun σ H R ⟨B, ok, k⟩ => ⟨B, ok, fun vs H1 B1 ok1 e1 b1 r1 => by
  obtain ⟨v, rfl, h1⟩ := sls1 r1
  obtain rfl := dpi h1
  exact ⟨n, rfl, hn.1, by have := hn.2; omega, k _ H1 B1 ok1 e1 b1 jy_rng (by have := hn.2; rw [sizeLine_eq]; simp [its, rngI]; omega)⟩⟩
theorem ij_range2 {m n : Int} (hm0 : RngOk m) (hn : RngOk n) (hmn : n - m ≤ 16777216) (hg : Gl X "range") (hm : X.mg "range" = none) (ha : EA st X sa δ S [a, b] [.p (.int m), .p (.int n)] S')
    (hs : starEach [a, b] X.env = [(false, eval a X.env), (false, eval b X.env)] := by rfl) (hs2 : starEach [b] X.env = [(false, eval b X.env)] := by rfl) :
    IJ st X sa δ S tg (.Call (.Name "range" p) [a, b] [] pos) (its (rngI m (n - m).toNat)) S' := pi_imp (pi_range2 hg hm ha hs hs2) fun σ H R ⟨B, ok, k⟩ => ⟨B, ok, fun vs H1 B1 ok1 e1 b1 r1 => by
  obtain ⟨v, w, rfl, h1, h2⟩ := sls2 r1
  obtain rfl := dpi h1
  obtain rfl := dpi h2
  exact ⟨m, n, rfl, ⟨hm0.1, by have := hm0.2; omega, hn.1, by have := hn.2; omega⟩, k _ H1 B1 ok1 e1 b1 jy_rng (by rw [sizeLine_eq]; simp [its, rngI]; omega)⟩⟩

/-! ### targets -/
def SlsPure (sls : List Sl) : Prop := True
/-- the target is stored: δ' the slots behind, is: the places that are written -/
def tTg (K : PySem.W.Frag) (sa : SA) (δ : Env) (it : Itm) (δ' : Env) (js : List Nat) : TG := fun v σ H Q => ∃ B S, Ok K sa B H σ δ S ∧ ItmRep K sa B H v it ∧
  ∀ σ', Ok K sa B H σ' δ' S → σ'.length = σ.length → (∀ j, j ∉ js → σ'[j]? = σ[j]?) → Q σ' H
def tTgs (K : PySem.W.Frag) (sa : SA) (δ : Env) (sls : List Sl) (δ' : Env) (js : List Nat) : TGs := fun vs σ H Q => ∃ B S, Ok K sa B H σ δ S ∧ SlsR K sa B H vs sls ∧
  ∀ σ', Ok K sa B H σ' δ' S → σ'.length = σ.length → (∀ j, j ∉ js → σ'[j]? = σ[j]?) → Q σ' H
def TGt (X : Cx) (sa : SA) (δ : Env) (tg : Expr) (it : Itm) (δ' : Env) (js : List Nat) : Prop := PG X tg (tTg X.K sa δ it δ' js)
def TGts (X : Cx) (sa : SA) (δ : Env) (tgs : List Expr) (sls : List Sl) (δ' : Env) (js : List Nat) : Prop := PGs X tgs (tTgs X.K sa δ sls δ' js)
theorem pg_imp {t t' : TG} (h : PG X tg t) (m : ∀ v σ H Q, t' v σ H Q → t v σ H Q) : PG X tg t' := ⟨fun pins s σ H v u Q I r q => h.run pins s σ H v u Q I r (m v σ H Q q)⟩
theorem pgs_imp {tgs : List Expr} {t t' : TGs} (h : PGs X tgs t) (m : ∀ v σ H Q, t' v σ H Q → t v σ H Q) : PGs X tgs t' := ⟨fun pins s σ H v u Q I r q => h.run pins s σ H v u Q I r (m v σ H Q q)⟩
theorem tg_name {i : Nat} {x : Str} {sl : Sl} (h : PG X (.Name x p) (gName i)) (hi : Nat.blt i δ.length = true := by rfl) : TGt X sa δ (.Name x p) (.one sl) (δ.set i (some sl)) [i] :=
  pg_imp h fun v σ H Q ⟨B, S, ok, r, k⟩ => k _ (ok.set r (Nat.blt_eq.mp hi)) (by rw [List.length_set]) fun j hj => by rw [List.getElem?_set_ne (fun z => hj (by rw [z]; simp))]
theorem tgs_nil : TGts X sa δ [] [] δ [] := pgs_imp pgs_nil fun vs σ H Q ⟨B, S, ok, r, k⟩ => by
  cases vs with
  | nil => exact ⟨rfl, k σ ok rfl fun _ _ => rfl⟩
  | cons v vs => exact r.elim
theorem tgs_cons {tgs : List Expr} {sl : Sl} {sls : List Sl} {δ1 : Env} {js js2 : List Nat} (h1 : TGt X sa δ tg (.one sl) δ1 js) (h2 : TGts X sa δ1 tgs sls δ' js2)
    (hs : (assignEach (tg :: tgs) X.env).map (·.2) = assign tg X.env :: (assignEach tgs X.env).map (·.2) := by rfl) : TGts X sa δ (tg :: tgs) (sl :: sls) δ' (js ++ js2) := pgs_imp (pgs_cons h1 h2 hs) fun vs σ H Q ⟨B, S, ok, r, k⟩ => by
  cases vs with
  | nil => exact r.elim
  | cons v vs => exact ⟨v, vs, rfl, B, S, ok, r.1, fun σ1 ok1 l1 k1 => ⟨B, S, ok1, r.2, fun σ2 ok2 l2 k2 => k σ2 ok2 (l2.trans l1) fun j hj => by
      rw [k2 j fun z => hj (List.mem_append_right _ z), k1 j fun z => hj (List.mem_append_left _ z)]⟩⟩
theorem slsR_pures : ∀ {ds : List PyData} {vs : List V}, DpAll K H vs ds → PuAll ds → SlsR K sa B H vs (Pures ds)
  | _, _, .nil, _ => trivial
  | _, _, .cons r t, p => ⟨⟨rfl, r, p.1⟩, slsR_pures t p.2⟩
theorem slsR_length : ∀ {vs : List V} {sls : List Sl}, SlsR K sa B H vs sls → vs.length = sls.length
  | [], [], _ => rfl
  | _ :: vs, _ :: sls, h => congrArg (· + 1) (slsR_length h.2)
  | [], _ :: _, h => h.elim
  | _ :: _, [], h => h.elim
theorem tg_tup {tgs : List Expr} {k : Nat} {ds : List PyData} {js : List Nat} (hc : X.calm = true) (h : TGts X sa δ tgs (Pures ds) δ' js)
    (hn : (assignEach tgs X.env).length = ds.length := by rfl) (hst : (assignEach tgs X.env).findIdx? (·.1) = none := by rfl) : TGt X sa δ (.Tuple tgs k p) (.one (.p (.tuple ds))) δ' js :=
  pg_imp (pg_tup hc h hn hst) fun v σ H Q ⟨B, S, ok, r, kk⟩ => by
    obtain ⟨_, hd, hp⟩ := r
    cases hd with
    | tup hs ha => exact ⟨_, _, rfl, hs, ha.length, B, S, ok, slsR_pures ha hp.2, kk⟩
theorem tg_tupN {tgs : List Expr} {k : Nat} {sls : List Sl} {js : List Nat} (hc : X.calm = true) (h : TGts X sa δ tgs sls δ' js)
    (hn : (assignEach tgs X.env).length = sls.length := by rfl) (hst : (assignEach tgs X.env).findIdx? (·.1) = none := by rfl) : TGt X sa δ (.Tuple tgs k p) (.tup sls) δ' js :=
  pg_imp (pg_tup hc h hn hst) fun v σ H Q ⟨B, S, ok, r, kk⟩ => by
    obtain ⟨a, xs, rfl, hs, hr⟩ := r
    exact ⟨a, xs, rfl, hs, slsR_length hr, B, S, ok, hr, kk⟩

/-! ### comprehensions: within, all that is owned is only read -/
def frzS : Sl → Sl
  | .l ds => .b ds
  | .ll dss => .bb dss
  | s => s
def frz (δ : Env) : Env := δ.map (Option.map frzS)
theorem SlRep.frz {v : V} {sl : Sl} {F : List Addr} (h : SlRep K sa B H v sl F) (eb : Ext sa B H) (w : ∀ a ∈ F, Away sa a) : SlRep K sa H H v (frzS sl) [] := by
  cases sl with
  | p d => exact ⟨rfl, h.2⟩
  | l ds =>
    obtain ⟨a, e, hF, vs, q, q2⟩ := h
    subst hF
    exact ⟨rfl, a, e, vs, .of q, w a (by simp), q2⟩
  | ll dss =>
    obtain ⟨a, bs, e, hF, q, r, z⟩ := h
    subst hF
    exact ⟨rfl, a, _, e, .of q, w a (by simp), RowsB.of (fun b m => w b (List.mem_cons_of_mem _ m)) r, z⟩
  | b ds => obtain ⟨_, a, e, q⟩ := h; exact ⟨rfl, a, e, q.mono eb⟩
  | bb dss => obtain ⟨_, a, vs, e, q, w', r, z⟩ := h; exact ⟨rfl, a, vs, e, eb.sql w' q, w', r.mono eb, z⟩
  | src => exact ⟨rfl, h.2⟩
/-- the block of a comprehension: slots by vs forgotten, the rest only read -/
theorem Ok.block {σ σ' : L2.St} (ok : Ok K sa B H σ δ S) (e : Ext sa H H') (s : SrcRep sa H' S') (hl : δ'.length = σ'.length) (h : ∀ (i : Nat) sl, δ'[i]? = some (some sl) → (frz δ)[i]? = some (some sl) ∧ ∀ v, σ[i]? = some (some v) → σ'[i]? = some (some v)) : Ok K sa H H' σ' δ' S' := by
  obtain ⟨F, o⟩ := ok.owns
  refine ⟨e, hl, ⟨fun _ => [], fun i sl hi => ?_, fun _ => .nil, fun _ _ _ _ m => (nomatch m), fun _ _ m => (nomatch m)⟩, s⟩
  obtain ⟨h1, h2⟩ := h i sl hi
  unfold Ev.frz at h1
  rw [List.getElem?_map] at h1
  cases q : δ[i]? with
  | none => rw [q] at h1; cases h1
  | some x =>
    rw [q] at h1
    cases x with
    | none => cases h1
    | some sl0 =>
      cases h1
      obtain ⟨v, g1, g2⟩ := o.rep i sl0 q
      exact ⟨v, h2 v g1, (g2.frz ok.base fun a m => (o.own i a m).2.1).mono (.refl _ _) e.tup fun _ m => nomatch m⟩
theorem wipe_get {σ : L2.St} : ∀ {vs : List Nat} {j : Nat}, j ∉ vs → (wipe σ vs)[j]? = σ[j]?
  | [], _, _ => rfl
  | v :: vs, j, h => by
    unfold wipe
    rw [List.getElem?_set_ne (fun z => h (by rw [z]; simp)), wipe_get fun z => h (List.mem_cons_of_mem _ z)]
theorem wipe_eq {σ τ : L2.St} {vs : List Nat} (hl : τ.length = σ.length) (h : ∀ j, j ∉ vs → τ[j]? = σ[j]?) : wipe τ vs = wipe σ vs := by
  induction vs generalizing σ τ with
  | nil => exact List.ext_getElem? fun j => h j (by simp)
  | cons v vs ih =>
    have key : ∀ (σ : L2.St), wipe σ (v :: vs) = wipe (σ.set v none) vs := fun σ => by
      show (wipe σ vs).set v none = _
      clear ih h hl
      induction vs generalizing σ with
      | nil => rfl
      | cons w ws ih2 =>
        show ((wipe σ ws).set w none).set v none = (wipe (σ.set v none) ws).set w none
        rw [← ih2 σ]
        by_cases e : w = v
        · subst e; rw [List.set_set]
        · rw [List.set_comm _ _ e]
    rw [key τ, key σ]
    refine ih (by rw [List.length_set, List.length_set]; exact hl) fun j hj => ?_
    by_cases e : j = v
    · subst e
      rw [List.getElem?_set, List.getElem?_set, hl, if_pos (Eq.refl j), if_pos (Eq.refl j)]
    · rw [List.getElem?_set_ne (Ne.symm e), List.getElem?_set_ne (Ne.symm e)]
      exact h j (by simp only [List.mem_cons, not_or]; exact ⟨e, hj⟩)
/-- places forgotten -/
def wipeE (δ : Env) : List Nat → Env
  | [] => δ
  | v :: vs => (wipeE δ vs).set v none
theorem wipeE_get {δ : Env} : ∀ {vs : List Nat} {i : Nat} {sl : Sl}, (wipeE δ vs)[i]? = some (some sl) → δ[i]? = some (some sl) ∧ i ∉ vs
  | [], _, _, h => ⟨h, by simp⟩
  | v :: vs, i, sl, h => by
    unfold wipeE at h
    by_cases hi : v = i
    · subst hi
      by_cases hv : v < (wipeE δ vs).length
      · rw [List.getElem?_set_self hv] at h; cases h
      · rw [List.getElem?_eq_none (by simpa using hv)] at h; cases h
    · rw [List.getElem?_set_ne hi] at h
      obtain ⟨h1, h2⟩ := wipeE_get h
      exact ⟨h1, by simp only [List.mem_cons, not_or]; exact ⟨fun e => hi e.symm, h2⟩⟩
theorem wipeE_length {δ : Env} : ∀ vs : List Nat, (wipeE δ vs).length = δ.length
  | [] => rfl
  | v :: vs => by unfold wipeE; rw [List.length_set, wipeE_length vs]
theorem Ok.blk {σ : L2.St} (ok : Ok K sa B H σ δ S) (e : Ext sa H H') (s : SrcRep sa H' S') (vs : List Nat) : Ok K sa H H' (wipe σ vs) (wipeE (Ev.frz δ) vs) S' :=
  ok.block e s (by rw [wipeE_length, wipe_length]; unfold Ev.frz; rw [List.length_map]; exact ok.len) fun i sl h => by
    obtain ⟨h1, h2⟩ := wipeE_get h
    exact ⟨h1, fun v hv => by rw [wipe_get h2]; exact hv⟩

theorem pe_ex {ι : Type} {P : ι → Prop} {T : ι → TE} (h : ∀ x, P x → PE X e (T x)) : PE X e (fun σ H Q => ∃ x, P x ∧ T x σ H Q) := ⟨fun pins s σ H Q I ⟨x, p, q⟩ => (h x p).run pins s σ H Q I q⟩
theorem pt_ex {ι : Type} {P : ι → Prop} {T : ι → TT} (h : ∀ x, P x → PT X e (T x)) : PT X e (fun σ H Q => ∃ x, P x ∧ T x σ H Q) := ⟨fun pins s σ H Q I ⟨x, p, q⟩ => (h x p).run pins s σ H Q I q⟩
theorem pg_ex {ι : Type} {P : ι → Prop} {T : ι → TG} (h : ∀ x, P x → PG X e (T x)) : PG X e (fun v σ H Q => ∃ x, P x ∧ T x v σ H Q) := ⟨fun pins s σ H v u Q I r ⟨x, p, q⟩ => (h x p).run pins s σ H v u Q I r q⟩
theorem pss_ex {ι : Type} {P : ι → Prop} {T : ι → TS} {sts : List Stmt} (h : ∀ x, P x → PSs X sts (T x)) : PSs X sts (fun D σ H => ∃ x, P x ∧ T x D σ H) := ⟨fun pins s σ H D I ⟨x, p, q⟩ => (h x p).run pins s σ H D I q⟩
theorem SrcRep.updA {p : Addr} {o : HO} (s : SrcRep sa H S) (w : Away sa p) : SrcRep sa (upd H p o) S := fun q h => by
  obtain ⟨q1, q2, q3, q4⟩ := s q h
  exact ⟨by rw [upd_ne (Ne.symm (w q h).1)]; exact q1, by rw [upd_ne (Ne.symm (w q h).2)]; exact q2, q3, q4⟩
/-- a comprehension's list gets one more item -/
theorem Ext.grow {H1 H4 : Hp} {D : Addr} {acc : List V} {ys : List V} (e : Ext sa H1 H4) (hD : H1 D = none) (h4 : H4 D = some (.lst acc)) : Ext sa H1 (upd H4 D (.lst ys)) :=
  ⟨fun a o q w => by rw [upd_ne (ne_of_none q hD)]; exact e.cell a o q w, e.tup.trans (tupX_upd (.inr ⟨acc, h4⟩))⟩
variable {α : Type} {g : TG} {tt : TT} {te : TE} {vs js : List Nat} {S0 : Src}
theorem lc_read (xs : List α) (itm : α → Itm) (P : α → Prop) (δb : α → Env) (cnd : α → Bool) (f : α → PyData) (hP : ∀ x ∈ xs, P x) (hjs : ∀ j ∈ js, j ∈ vs)
    (htt : ∀ x σ (H : Hp) Q B, P x → Ok K sa B H σ (δb x) S0 → (∀ H', Ok K sa B H' σ (δb x) S0 → Ext sa H H' → Q (cnd x) H') → tt σ H Q) {σ : L2.St} {Q : VK}
    (h : tEL K sa δ S ((xs.filter cnd).map f) S0 σ H Q) :
    tLc (tIJ false K sa δ S (xs.map itm) S0) (fun v σ H Q => ∃ x, P x ∧ tTg K sa (wipeE (Ev.frz δ) vs) (itm x) (δb x) js v σ H Q) tt (fun σ H Q => ∃ x, (P x ∧ cnd x = true) ∧ tEG false K sa (δb x) S0 (.p (f x)) S0 σ H Q) vs σ H Q := by
  obtain ⟨B, ok, k⟩ := h
  refine ⟨B, ok, fun J H1 B1 ok1 e1 b1 jy hz D hD => ?_⟩
  obtain rfl : B1 = H1 := b1
  have hlen : xs.length ≤ sizeLine := by rw [List.length_map] at hz; exact hz
  have aw : Away sa D := ok1.away hD
  refine ⟨fun i m H' => m = xs.length - i ∧ i ≤ xs.length ∧ SrcRep sa H' S0 ∧ Ext sa B1 H' ∧ ∃ acc, H' D = some (.lst acc) ∧ DpAll K H' acc (((xs.take i).filter cnd).map f) ∧ PuAll (((xs.take i).filter cnd).map f),
    ⟨_, rfl, Nat.zero_le _, ok1.src.updA aw, .new hD, [], upd_same, .nil, trivial⟩, ?_⟩
  rintro i m H' ⟨rfl, hi, hs, he, acc, hacc, hd, hp⟩
  by_cases hlt : i < xs.length
  · right
    have hx : xs[i]? = some xs[i] := List.getElem?_eq_getElem hlt
    have hxm : P xs[i] := hP _ (List.getElem_mem hlt)
    obtain ⟨go, yl⟩ := (jy i H' he).1 (itm xs[i]) (by rw [List.getElem?_map, hx]; rfl)
    have htk : (xs.take (i + 1)).filter cnd = (xs.take i).filter cnd ++ (if cnd xs[i] = true then [xs[i]] else []) := by
      rw [List.take_add_one, hx, List.filter_append]
      show _ ++ List.filter cnd [xs[i]] = _
      rw [List.filter_cons, List.filter_nil]
    refine ⟨go, fun H2 => SrcRep sa H2 S0 ∧ Ext sa B1 H2 ∧ ∃ acc, H2 D = some (.lst acc) ∧ DpAll K H2 acc (((xs.take (i + 1)).filter cnd).map f) ∧ PuAll (((xs.take (i + 1)).filter cnd).map f), fun H2 n => ⟨_, by omega, rfl, hlt, n⟩, fun x H2 hy => ?_⟩
    obtain ⟨sm, rep⟩ := yl x H2 hy
    have e2 : Ext sa H' H2 := .of_same sm
    refine ⟨xs[i], hxm, B1, S0, ok1.blk (he.trans e2) (hs.same sm) vs, rep, fun σ2 ok2 l2 u2 => ⟨?_, ?_⟩⟩
    · have w1 : wipe σ2 vs = wipe (wipe σ vs) vs := wipe_eq l2 fun j hj => u2 j fun z => hj (hjs j z)
      rw [w1]
      exact wipe_eq (wipe_length _ _) fun j hj => wipe_get hj
    · refine htt xs[i] σ2 H2 _ B1 hxm ok2 fun H3 ok3 e3 => ?_
      cases hc : cnd xs[i] with
      | true =>
        refine iteT ⟨xs[i], ⟨hxm, hc⟩, B1, ok3, fun y H4 B4 ok4 e4 b4 r4 => ?_⟩
        obtain rfl : B4 = H4 := b4
        have h3 := e3.cell D _ (sm D _ hacc) aw
        have h4 := e4.cell D _ h3 aw
        have tx : TupX H' B4 := e2.tup.trans (e3.tup.trans e4.tup)
        have hal : acc.length ≤ i := by
          rw [hd.length, List.length_map]
          exact Nat.le_trans (List.length_filter_le _ _) (by rw [List.length_take]; exact Nat.min_le_left _ _)
        refine ⟨acc, h4, by omega, ok4.src.updA aw, (he.trans (e2.trans (e3.trans e4))).grow hD h4, acc ++ [y], upd_same, ?_, ?_⟩
        · rw [htk, hc, List.map_append]
          have tx2 : TupX B4 (upd B4 D (.lst (acc ++ [y]))) := tupX_upd (.inr ⟨acc, h4⟩)
          exact DpAll.append ((tx.trans tx2).dpAll _ _ hp hd) (.one (tx2.dp _ _ r4.2.2 r4.2.1))
        · rw [htk, hc, List.map_append]
          exact hp.append (puAll_one r4.2.2)
      | false =>
        refine iteF ⟨ok3.src, he.trans (e2.trans e3), acc, e3.cell D _ (sm D _ hacc) aw, ?_, ?_⟩
        · rw [htk, hc, List.map_append]
          show DpAll K H3 acc (_ ++ [])
          rw [List.append_nil]
          exact (e2.tup.trans e3.tup).dpAll _ _ hp hd
        · rw [htk, hc, List.map_append]
          show PuAll (_ ++ [])
          rw [List.append_nil]
          exact hp
  · left
    obtain rfl : i = xs.length := by omega
    rw [List.take_length] at hd hp
    refine ⟨(jy _ H' he).2 (List.length_map ..), k D H' (e1.none_of ok1 hD) (ok.ext (e1.trans he) hs) (e1.trans he) ⟨acc, hacc, hd, hp, ?_⟩⟩
    rw [List.length_map]
    exact Nat.le_trans (List.length_filter_le _ _) hlen
/-- a comprehension that draws: the items' values, the source behind -/
def mapS {α β : Type} (f : Src → α → β × Src) : Src → List α → List β × Src
  | s, [] => ([], s)
  | s, x :: xs => ((f s x).1 :: (mapS f (f s x).2 xs).1, (mapS f (f s x).2 xs).2)
theorem mapS_snoc {α β : Type} (f : Src → α → β × Src) : ∀ (xs : List α) (s : Src) (x : α), mapS f s (xs ++ [x]) = ((mapS f s xs).1 ++ [(f (mapS f s xs).2 x).1], (f (mapS f s xs).2 x).2)
  | [], s, x => rfl
  | y :: ys, s, x => by
    show ((f s y).1 :: (mapS f (f s y).2 (ys ++ [x])).1, (mapS f (f s y).2 (ys ++ [x])).2) = _
    rw [mapS_snoc f ys]; rfl
theorem mapS_length {α β : Type} (f : Src → α → β × Src) : ∀ (xs : List α) (s : Src), (mapS f s xs).1.length = xs.length
  | [], _ => rfl
  | x :: xs, s => congrArg (· + 1) (mapS_length f xs _)
/-- a guard at each turn -/
def GS {α β : Type} (f : Src → α → β × Src) (G : Src → α → Prop) : Src → List α → Prop
  | _, [] => True
  | s, x :: xs => G s x ∧ GS f G (f s x).2 xs
theorem GS.at {α β : Type} {f : Src → α → β × Src} {G : Src → α → Prop} : ∀ {xs : List α} {s : Src} {i : Nat} {x : α}, GS f G s xs → xs[i]? = some x → G (mapS f s (xs.take i)).2 x
  | y :: ys, s, 0, x, h, e => by
    simp at e; subst e; exact h.1
  | y :: ys, s, i + 1, x, h, e => GS.at (xs := ys) (i := i) h.2 (by simpa using e)
  | [], _, _, _, _, e => by simp at e
theorem lc_readS {β : Type} (xs : List α) (itm : α → Itm) (P : Src → α → Prop) (δb : α → Env) (f : Src → α → β × Src) (en : β → PyData) (hP : GS f P S0 xs) (hjs : ∀ j ∈ js, j ∈ vs) {σ : L2.St} {Q : VK}
    (h : tEL K sa δ S ((mapS f S0 xs).1.map en) (mapS f S0 xs).2 σ H Q) :
    tLc (tIJ false K sa δ S (xs.map itm) S0) (fun v σ H Q => ∃ x, True ∧ tTg K sa (wipeE (Ev.frz δ) vs) (itm x) (δb x) js v σ H Q) (fun σ H Q => Q true H) (fun σ H Q => ∃ x : Src × α, P x.1 x.2 ∧ tEG false K sa (δb x.2) x.1 (.p (en (f x.1 x.2).1)) (f x.1 x.2).2 σ H Q) vs σ H Q := by
  obtain ⟨B, ok, k⟩ := h
  refine ⟨B, ok, fun J H1 B1 ok1 e1 b1 jy hz D hD => ?_⟩
  obtain rfl : B1 = H1 := b1
  have hlen : xs.length ≤ sizeLine := by rw [List.length_map] at hz; exact hz
  have aw : Away sa D := ok1.away hD
  refine ⟨fun i m H' => m = xs.length - i ∧ i ≤ xs.length ∧ SrcRep sa H' (mapS f S0 (xs.take i)).2 ∧ Ext sa B1 H' ∧ ∃ acc, H' D = some (.lst acc) ∧ DpAll K H' acc ((mapS f S0 (xs.take i)).1.map en) ∧ PuAll ((mapS f S0 (xs.take i)).1.map en),
    ⟨_, rfl, Nat.zero_le _, ok1.src.updA aw, .new hD, [], upd_same, .nil, trivial⟩, ?_⟩
  rintro i m H' ⟨rfl, hi, hs, he, acc, hacc, hd, hp⟩
  by_cases hlt : i < xs.length
  · right
    have hx : xs[i]? = some xs[i] := List.getElem?_eq_getElem hlt
    have hxm := hP.at hx
    obtain ⟨go, yl⟩ := (jy i H' he).1 (itm xs[i]) (by rw [List.getElem?_map, hx]; rfl)
    have htk : xs.take (i + 1) = xs.take i ++ [xs[i]] := by rw [List.take_add_one, hx]; rfl
    refine ⟨go, fun H2 => SrcRep sa H2 (mapS f S0 (xs.take (i + 1))).2 ∧ Ext sa B1 H2 ∧ ∃ acc, H2 D = some (.lst acc) ∧ DpAll K H2 acc ((mapS f S0 (xs.take (i + 1))).1.map en) ∧ PuAll ((mapS f S0 (xs.take (i + 1))).1.map en), fun H2 n => ⟨_, by omega, rfl, hlt, n⟩, fun x H2 hy => ?_⟩
    obtain ⟨sm, rep⟩ := yl x H2 hy
    have e2 : Ext sa H' H2 := .of_same sm
    refine ⟨xs[i], trivial, B1, (mapS f S0 (xs.take i)).2, ok1.blk (he.trans e2) (hs.same sm) vs, rep, fun σ2 ok2 l2 u2 => ⟨?_, ?_⟩⟩
    · have w1 : wipe σ2 vs = wipe (wipe σ vs) vs := wipe_eq l2 fun j hj => u2 j fun z => hj (hjs j z)
      rw [w1]
      exact wipe_eq (wipe_length _ _) fun j hj => wipe_get hj
    · refine iteT ⟨((mapS f S0 (xs.take i)).2, xs[i]), hxm, B1, ok2, fun y H4 B4 ok4 e4 b4 r4 => ?_⟩
      obtain rfl : B4 = H4 := b4
      have h4 := e4.cell D _ (sm D _ hacc) aw
      have tx : TupX H' B4 := e2.tup.trans e4.tup
      have hal : acc.length ≤ i := by
        rw [hd.length, List.length_map, mapS_length, List.length_take]
        exact Nat.min_le_left _ _
      rw [htk, mapS_snoc]
      refine ⟨acc, h4, by omega, ok4.src.updA aw, (he.trans (e2.trans e4)).grow hD h4, acc ++ [y], upd_same, ?_, ?_⟩
      · rw [List.map_append]
        have tx2 : TupX B4 (upd B4 D (.lst (acc ++ [y]))) := tupX_upd (.inr ⟨acc, h4⟩)
        exact DpAll.append ((tx.trans tx2).dpAll _ _ hp hd) (.one (tx2.dp _ _ r4.2.2 r4.2.1))
      · rw [List.map_append]
        exact hp.append (puAll_one r4.2.2)
  · left
    obtain rfl : i = xs.length := by omega
    rw [List.take_length] at hd hp hs
    refine ⟨(jy _ H' he).2 (List.length_map ..), k D H' (e1.none_of ok1 hD) (ok.ext (e1.trans he) hs) (e1.trans he) ⟨acc, hacc, hd, hp, ?_⟩⟩
    rw [List.length_map, mapS_length]
    exact hlen
end
end L2.Ev

set_option Elab.async false
set_option linter.all false
set_option maxRecDepth 100000
/-! Ev6: loops, stores. -/
namespace L2.Ev
open PySem PySem.Spec PyProof.Rows
section
variable {X : Cx} {sa : SA} {δ δ' : Env} {S S0 S1 S2 S' : Src} {st : Bool} {e a b c tg iter : Expr} {pos p pos' : Pos} {K : PySem.W.Frag} {B B' H H' : Hp} {σ : L2.St} {rest body : List Stmt} {W : Spec} {sm : Stmt}

/-! ### comprehensions, whole -/
section
variable {α β : Type} {own : List (Str × Nat)} {scope : Scope} {elt : Expr} {js : List Nat} {ifs : List Expr}
abbrev ixs (own : List (Str × Nat)) : List Nat := own.map fun q => q.2
abbrev blkX (X : Cx) (scope : Scope) (s : Shared) (H : Hp) (C : Addr) (cl : List (Str × Addr)) (fp : List Addr) : Cx := X.blk s H scope (compEnvC scope cl C X.env) fp
theorem filter_all (xs : List α) : xs.filter (fun _ => true) = xs := List.filter_eq_self.mpr fun _ _ => rfl
/-- [elt for tg in iter]: what it reads as -/
theorem lcr {xs : List α} {itm : α → Itm} (P : α → Prop) (δb : α → Env) (f : α → PyData) (hP : ∀ x ∈ xs, P x) (hjs : ∀ j ∈ js, j ∈ ixs own) {H : Hp} {Q : VK} (h : tEL X.K sa δ S (xs.map f) S0 σ H Q) :
    tLc (tIJ false X.K sa δ S (xs.map itm) S0) (fun v σ H Q => ∃ x, P x ∧ tTg X.K sa (wipeE (Ev.frz δ) (ixs own)) (itm x) (δb x) js v σ H Q) tYes (fun σ H Q => ∃ x, (P x ∧ true = true) ∧ tEG false X.K sa (δb x) S0 (.p (f x)) S0 σ H Q) (ixs own) σ H Q :=
  lc_read xs itm P δb (fun _ => true) f hP hjs (fun x σ H Q B _ ok k => k H ok (.refl _ _)) (by
    have e : xs.filter (fun _ => true) = xs := List.filter_eq_self.mpr fun _ _ => rfl
    rw [e]; exact h)
theorem el_lc {xs : List α} {itm : α → Itm} (P : α → Prop) (δb : α → Env) (f : α → PyData) (hi : IJ false X sa δ S tg iter (xs.map itm) S0) (hP : ∀ x ∈ xs, P x)
    (hg : ∀ x s H C cl fp, TGt (blkX X scope s H C cl fp) sa (wipeE (Ev.frz δ) (ixs own)) tg (itm x) (δb x) js)
    (he : ∀ x, P x → ∀ s H C cl fp, EE (blkX X scope s H C cl fp) sa (δb x) S0 elt (.p (f x)) S0)
    (hc : X.calm = true) (hN : X.N.Nodup) (ok : BlkOk X.N X.env.scope scope own) (hjs : ∀ j ∈ js, j ∈ ixs own) (hs : ∀ x, foldedSetIterable iter X.env x = pure x := by intro _; rfl) :
    EL X sa δ S (.ListComp elt [⟨tg, iter, [], 0⟩] scope pos) (xs.map f) S0 :=
  pe_imp (pe_lc (own := own) hc hN hi ok (fun s H C cl fp => pg_ex (P := P) (T := fun x => tTg X.K sa (wipeE (Ev.frz δ) (ixs own)) (itm x) (δb x) js) fun x _ => hg x s H C cl fp) (fun s H C cl fp => pts_nil) (fun s H C cl fp => pe_ex (P := fun x => P x ∧ true = true) (T := fun x => tEG false X.K sa (δb x) S0 (.p (f x)) S0) fun x p => he x p.1 s H C cl fp) hs)
    fun σ H Q h => lcr P δb f hP hjs h
/-- y = [elt for ..] on one line -/
theorem ps_lc {xs : List α} {itm : α → Itm} {i : Nat} {y : Str} {py spos : Pos} (P : α → Prop) (δb : α → Env) (f : α → PyData) (hi : IJ false X sa δ S tg iter (xs.map itm) S0) (hP : ∀ x ∈ xs, P x)
    (hg : ∀ x s H C cl fp, TGt (blkX X scope s H C cl fp) sa (wipeE (Ev.frz δ) (ixs own)) tg (itm x) (δb x) js)
    (he : ∀ x, P x → ∀ s H C cl fp, EE (blkX X scope s H C cl fp) sa (δb x) S0 elt (.p (f x)) S0)
    (hc : X.calm = true) (hN : X.N.Nodup) (ok : BlkOk X.N X.env.scope scope own) (hjs : ∀ j ∈ js, j ∈ ixs own) (hy : X.N[i]? = some y) (hyl : X.env.scope.names.lookup y = some .local)
    (hsw : swapsWith (.ListComp elt [⟨tg, iter, [], 0⟩] scope pos) (some (.Name y py)) spos.line X.env = pure true) (hs : ∀ x, foldedSetIterable iter X.env x = pure x := by intro _; rfl) :
    PS X (.Assign [.Name y py] (.ListComp elt [⟨tg, iter, [], 0⟩] scope pos) spos) (tAsg (tEL X.K sa δ S (xs.map f) S0) (gName i)) :=
  ps_imp (ps_setLc (own := own) hc hN hy hyl hsw hi ok (fun s H C cl fp => pg_ex (P := P) (T := fun x => tTg X.K sa (wipeE (Ev.frz δ) (ixs own)) (itm x) (δb x) js) fun x _ => hg x s H C cl fp) (fun s H C cl fp => pts_nil) (fun s H C cl fp => pe_ex (P := fun x => P x ∧ true = true) (T := fun x => tEG false X.K sa (δb x) S0 (.p (f x)) S0) fun x p => he x p.1 s H C cl fp) hs)
    fun D σ H h => lcr P δb f hP hjs h
/-- .. with a test -/
theorem el_lcf {xs : List α} {itm : α → Itm} {q : Expr} (P : α → Prop) (δb : α → Env) (cnd : α → Bool) (f : α → PyData) (hi : IJ false X sa δ S tg iter (xs.map itm) S0) (hP : ∀ x ∈ xs, P x)
    (hg : ∀ x s H C cl fp, TGt (blkX X scope s H C cl fp) sa (wipeE (Ev.frz δ) (ixs own)) tg (itm x) (δb x) js)
    (hq : ∀ x, P x → ∀ s H C cl fp, ET (blkX X scope s H C cl fp) sa (δb x) S0 q (cnd x) S0)
    (he : ∀ x, P x → cnd x = true → ∀ s H C cl fp, EE (blkX X scope s H C cl fp) sa (δb x) S0 elt (.p (f x)) S0)
    (hc : X.calm = true) (hN : X.N.Nodup) (ok : BlkOk X.N X.env.scope scope own) (hjs : ∀ j ∈ js, j ∈ ixs own) (hs : ∀ x, foldedSetIterable iter X.env x = pure x := by intro _; rfl) :
    EL X sa δ S (.ListComp elt [⟨tg, iter, [q], 0⟩] scope pos) ((xs.filter cnd).map f) S0 :=
  pe_imp (pe_lc (own := own) hc hN hi ok (fun s H C cl fp => pg_ex (P := P) (T := fun x => tTg X.K sa (wipeE (Ev.frz δ) (ixs own)) (itm x) (δb x) js) fun x _ => hg x s H C cl fp) (fun s H C cl fp => pts_one (pt_ex (P := P) (T := fun x => tET X.K sa (δb x) S0 (cnd x) S0) fun x p => hq x p s H C cl fp)) (fun s H C cl fp => pe_ex (P := fun x => P x ∧ cnd x = true) (T := fun x => tEG false X.K sa (δb x) S0 (.p (f x)) S0) fun x p => he x p.1 p.2 s H C cl fp) hs)
    fun σ H Q h => lc_read xs itm P δb cnd f hP hjs (fun x σ H Q B p ok k => ⟨x, p, B, ok, fun H' ok' e' => k H' ok' e'⟩) h
theorem ps_lcf {xs : List α} {itm : α → Itm} {q : Expr} {i : Nat} {y : Str} {py spos : Pos} (P : α → Prop) (δb : α → Env) (cnd : α → Bool) (f : α → PyData) (hi : IJ false X sa δ S tg iter (xs.map itm) S0) (hP : ∀ x ∈ xs, P x)
    (hg : ∀ x s H C cl fp, TGt (blkX X scope s H C cl fp) sa (wipeE (Ev.frz δ) (ixs own)) tg (itm x) (δb x) js)
    (hq : ∀ x, P x → ∀ s H C cl fp, ET (blkX X scope s H C cl fp) sa (δb x) S0 q (cnd x) S0)
    (he : ∀ x, P x → cnd x = true → ∀ s H C cl fp, EE (blkX X scope s H C cl fp) sa (δb x) S0 elt (.p (f x)) S0)
    (hc : X.calm = true) (hN : X.N.Nodup) (ok : BlkOk X.N X.env.scope scope own) (hjs : ∀ j ∈ js, j ∈ ixs own) (hy : X.N[i]? = some y) (hyl : X.env.scope.names.lookup y = some .local)
    (hsw : swapsWith (.ListComp elt [⟨tg, iter, [q], 0⟩] scope pos) (some (.Name y py)) spos.line X.env = pure true) (hs : ∀ x, foldedSetIterable iter X.env x = pure x := by intro _; rfl) :
    PS X (.Assign [.Name y py] (.ListComp elt [⟨tg, iter, [q], 0⟩] scope pos) spos) (tAsg (tEL X.K sa δ S ((xs.filter cnd).map f) S0) (gName i)) :=
  ps_imp (ps_setLc (own := own) hc hN hy hyl hsw hi ok (fun s H C cl fp => pg_ex (P := P) (T := fun x => tTg X.K sa (wipeE (Ev.frz δ) (ixs own)) (itm x) (δb x) js) fun x _ => hg x s H C cl fp) (fun s H C cl fp => pts_one (pt_ex (P := P) (T := fun x => tET X.K sa (δb x) S0 (cnd x) S0) fun x p => hq x p s H C cl fp)) (fun s H C cl fp => pe_ex (P := fun x => P x ∧ cnd x = true) (T := fun x => tEG false X.K sa (δb x) S0 (.p (f x)) S0) fun x p => he x p.1 p.2 s H C cl fp) hs)
    fun D σ H h => lc_read xs itm P δb cnd f hP hjs (fun x σ H Q B p ok k => ⟨x, p, B, ok, fun H' ok' e' => k H' ok' e'⟩) h
/-- .. that draws -/
theorem el_lcS {γ : Type} {xs : List α} {itm : α → Itm} (P : Src → α → Prop) (δb : α → Env) (f : Src → α → γ × Src) (en : γ → PyData) (hi : IJ false X sa δ S tg iter (xs.map itm) S0) (hP : GS f P S0 xs)
    (hg : ∀ x s H C cl fp, TGt (blkX X scope s H C cl fp) sa (wipeE (Ev.frz δ) (ixs own)) tg (itm x) (δb x) js)
    (he : ∀ T x, P T x → ∀ s H C cl fp, EE (blkX X scope s H C cl fp) sa (δb x) T elt (.p (en (f T x).1)) (f T x).2)
    (hc : X.calm = true) (hN : X.N.Nodup) (ok : BlkOk X.N X.env.scope scope own) (hjs : ∀ j ∈ js, j ∈ ixs own) (hs : ∀ x, foldedSetIterable iter X.env x = pure x := by intro _; rfl) :
    EL X sa δ S (.ListComp elt [⟨tg, iter, [], 0⟩] scope pos) ((mapS f S0 xs).1.map en) (mapS f S0 xs).2 :=
  pe_imp (pe_lc (own := own) hc hN hi ok (fun s H C cl fp => pg_ex (P := fun _ => True) (T := fun x => tTg X.K sa (wipeE (Ev.frz δ) (ixs own)) (itm x) (δb x) js) fun x _ => hg x s H C cl fp) (fun s H C cl fp => pts_nil) (fun s H C cl fp => pe_ex (P := fun x : Src × α => P x.1 x.2) (T := fun x => tEG false X.K sa (δb x.2) x.1 (.p (en (f x.1 x.2).1)) (f x.1 x.2).2) fun x p => he x.1 x.2 p s H C cl fp) hs)
    fun σ H Q h => lc_readS xs itm P δb f en hP hjs h
theorem ps_lcS {γ : Type} {xs : List α} {itm : α → Itm} {i : Nat} {y : Str} {py spos : Pos} (P : Src → α → Prop) (δb : α → Env) (f : Src → α → γ × Src) (en : γ → PyData) (hi : IJ false X sa δ S tg iter (xs.map itm) S0) (hP : GS f P S0 xs)
    (hg : ∀ x s H C cl fp, TGt (blkX X scope s H C cl fp) sa (wipeE (Ev.frz δ) (ixs own)) tg (itm x) (δb x) js)
    (he : ∀ T x, P T x → ∀ s H C cl fp, EE (blkX X scope s H C cl fp) sa (δb x) T elt (.p (en (f T x).1)) (f T x).2)
    (hc : X.calm = true) (hN : X.N.Nodup) (ok : BlkOk X.N X.env.scope scope own) (hjs : ∀ j ∈ js, j ∈ ixs own) (hy : X.N[i]? = some y) (hyl : X.env.scope.names.lookup y = some .local)
    (hsw : swapsWith (.ListComp elt [⟨tg, iter, [], 0⟩] scope pos) (some (.Name y py)) spos.line X.env = pure true) (hs : ∀ x, foldedSetIterable iter X.env x = pure x := by intro _; rfl) :
    PS X (.Assign [.Name y py] (.ListComp elt [⟨tg, iter, [], 0⟩] scope pos) spos) (tAsg (tEL X.K sa δ S ((mapS f S0 xs).1.map en) (mapS f S0 xs).2) (gName i)) :=
  ps_imp (ps_setLc (own := own) hc hN hy hyl hsw hi ok (fun s H C cl fp => pg_ex (P := fun _ => True) (T := fun x => tTg X.K sa (wipeE (Ev.frz δ) (ixs own)) (itm x) (δb x) js) fun x _ => hg x s H C cl fp) (fun s H C cl fp => pts_nil) (fun s H C cl fp => pe_ex (P := fun x : Src × α => P x.1 x.2) (T := fun x => tEG false X.K sa (δb x.2) x.1 (.p (en (f x.1 x.2).1)) (f x.1 x.2).2) fun x p => he x.1 x.2 p s H C cl fp) hs)
    fun D σ H h => lc_readS xs itm P δb f en hP hjs h
end

/-! ### for -/
theorem ItmRep.mono {x : V} {it : Itm} (h : ItmRep K sa B H x it) (e : Ext sa B B') : ItmRep K sa B' H x it := by
  have key : ∀ {vs : List V} {sls : List Sl}, SlsR K sa B H vs sls → SlsR K sa B' H vs sls := fun {vs} => by
    induction vs with
    | nil => intro sls h; cases sls with
      | nil => trivial
      | cons _ _ => exact h.elim
    | cons v vs ih => intro sls h; cases sls with
      | nil => exact h.elim
      | cons sl sls => exact ⟨h.1.mono e (TupX.refl _) (fun _ m => nomatch m), ih h.2⟩
  cases it with
  | one sl => exact SlRep.mono h e (TupX.refl _) fun _ m => nomatch m
  | tup sls => obtain ⟨a, xs, h1, h2, h3⟩ := h; exact ⟨a, xs, h1, h2, key h3⟩
variable {α ν ρ : Type}
/-- the guard along a fold -/
def FG (P : ν → α → Prop) (f : ν → α → ν) : List α → ν → Prop
  | [], _ => True
  | x :: xs, n => P n x ∧ FG P f xs (f n x)
theorem FG.at {P : ν → α → Prop} {f : ν → α → ν} : ∀ {xs : List α} {n : ν} {i : Nat} {x : α}, FG P f xs n → xs[i]? = some x → P ((xs.take i).foldl f n) x
  | y :: ys, n, 0, x, h, e => by simp at e; subst e; exact h.1
  | y :: ys, n, i + 1, x, h, e => FG.at (xs := ys) (i := i) h.2 (by simpa using e)
  | [], _, _, _, _, e => by simp at e
/-- a fold that may end early -/
def foldX (f : ν → α → Except ρ ν) : List α → ν → Except ρ ν
  | [], n => .ok n
  | x :: xs, n => match f n x with
    | .ok n' => foldX f xs n'
    | .error r => .error r
def FX (P : ν → α → Prop) (f : ν → α → Except ρ ν) : List α → ν → Prop
  | [], _ => True
  | x :: xs, n => P n x ∧ match f n x with
    | .ok n' => FX P f xs n'
    | .error _ => True
/-- what a loop that may return is worth -/
def bindX (o : Except ρ ν) (k : ν → ρ) : ρ := match o with
  | .ok n => k n
  | .error r => r
def bindXX {μ : Type} (o : Except ρ ν) (k : ν → Except ρ μ) : Except ρ μ := match o with
  | .ok n => k n
  | .error r => .error r
def okX (o : Except ρ ν) (g : ν → Prop) : Prop := match o with
  | .ok n => g n
  | .error _ => True
theorem sb_for {xs : List α} {itm : α → Itm} (nf : ν → Env × Src) (n0 : ν) (P : ν → α → Prop) (δb : ν → α → Env) (f : ν → α → ν) {js : List Nat} (hi : IJ true X sa δ S tg iter (xs.map itm) (nf n0).2) (h0 : Sub (nf n0).1 δ)
    (hg : ∀ n x, TGt X sa (nf n).1 tg (itm x) (δb n x) js) (hb : ∀ n x, P n x → SB X sa (δb n x) (nf n).2 body (WN nf (f n x))) (hP : FG P f xs n0)
    (hr : SB X sa (nf (xs.foldl f n0)).1 (nf (xs.foldl f n0)).2 rest W) (hp : PassesOwn (model X.prog X.w) X.A X.env X.xe) (hc : X.calm = true) (hs : ∀ x, foldedSetIterable iter X.env x = pure x := by intro _; rfl) :
    SB X sa δ S (.For tg iter body [] pos :: rest) W := by
  refine sb_seq (ps_for hp hc hi (pg_ex (P := fun _ : ν × α => True) fun nx _ => hg nx.1 nx.2) (pss_ex (P := fun nx : ν × α => P nx.1 nx.2) fun nx q => hb nx.1 nx.2 q) hs) hr fun D σ H B ok k => ⟨B, ok, fun J H1 B1 ok1 e1 b1 jy hz => ?_⟩
  obtain ⟨eb, okb⟩ := b1
  refine ⟨fun i m σ H => m = xs.length - i ∧ i ≤ xs.length ∧ ∃ B2, Ext sa B1 B2 ∧ Ok X.K sa B2 H σ (nf ((xs.take i).foldl f n0)).1 (nf ((xs.take i).foldl f n0)).2, ⟨_, rfl, Nat.zero_le _, B1, .refl _ _, okb.forget h0⟩, ?_⟩
  rintro i m σ' H' ⟨rfl, hi, B2, eb2, ok2⟩
  have eh : Ext sa B1 H' := eb2.trans ok2.base
  by_cases hlt : i < xs.length
  · right
    have hx : xs[i]? = some xs[i] := List.getElem?_eq_getElem hlt
    obtain ⟨go, yl⟩ := (jy i H' eh).1 (itm xs[i]) (by rw [List.getElem?_map, hx]; rfl)
    have htk : (xs.take (i + 1)).foldl f n0 = f ((xs.take i).foldl f n0) xs[i] := by rw [List.take_add_one, hx, List.foldl_append]; rfl
    refine ⟨go, fun σ H => ∃ B2, Ext sa B1 B2 ∧ Ok X.K sa B2 H σ (nf ((xs.take (i + 1)).foldl f n0)).1 (nf ((xs.take (i + 1)).foldl f n0)).2, fun σ3 H3 n => ⟨_, by omega, rfl, hlt, n⟩, fun x H2 hy => ?_⟩
    obtain ⟨sm, rep⟩ := yl x H2 hy
    refine ⟨((xs.take i).foldl f n0, xs[i]), trivial, B2, _, ok2.same sm, rep.mono eb2, fun σ3 ok3 _ _ => ⟨((xs.take i).foldl f n0, xs[i]), hP.at hx, B2, ok3, fun B4 σ4 H4 δ4 S4 hw e4 ok4 => ⟨B4, eb2.trans e4, ?_⟩, fun _ _ _ _ _ _ hf => hf.elim⟩⟩
    have hw' : nf (f ((xs.take i).foldl f n0) xs[i]) = (δ4, S4) := hw
    rw [htk, hw']; exact ok4
  · left
    obtain rfl : i = xs.length := by omega
    rw [List.take_length] at ok2
    exact ⟨(jy _ H' eh).2 (List.length_map ..), k B2 σ' H' (eb.trans eb2) ok2⟩
theorem foldX_take {f : ν → α → Except ρ ν} : ∀ {xs : List α} {n m : ν} {i : Nat} {x : α}, foldX f (xs.take i) n = .ok m → xs[i]? = some x → foldX f (xs.take (i + 1)) n = (match f m x with | .ok n' => .ok n' | .error r => .error r) ∧ foldX f xs n = (match f m x with | .ok n' => foldX f (xs.drop (i + 1)) n' | .error r => .error r)
  | y :: ys, n, m, 0, x, h, e => by
    simp at e; subst e
    have h' : (Except.ok n : Except ρ ν) = .ok m := h
    cases h'
    exact ⟨by show (match f n y with | .ok n' => foldX f (ys.take 0) n' | .error r => .error r) = _; cases f n y <;> rfl, rfl⟩
  | y :: ys, n, m, i + 1, x, h, e => by
    have h' : (match f n y with | .ok n' => foldX f (ys.take i) n' | .error r => .error r) = .ok m := h
    have e' : ys[i]? = some x := by simpa using e
    show (match f n y with | .ok n' => foldX f (ys.take (i + 1)) n' | .error r => .error r) = _ ∧ (match f n y with | .ok n' => foldX f ys n' | .error r => .error r) = _
    cases q : f n y with
    | error r => rw [q] at h'; cases h'
    | ok n' =>
      rw [q] at h'
      exact foldX_take (xs := ys) h' e'
  | [], _, _, _, _, _, e => by simp at e
theorem FX.drop {P : ν → α → Prop} {f : ν → α → Except ρ ν} {m : ν} {xs : List α} {i : Nat} {x : α} (h : FX P f (xs.drop i) m) (e : xs[i]? = some x) : P m x ∧ ∀ n', f m x = .ok n' → FX P f (xs.drop (i + 1)) n' := by
  have hd : xs.drop i = x :: xs.drop (i + 1) := by
    obtain ⟨h1, h2⟩ := List.getElem?_eq_some_iff.mp e
    rw [List.drop_eq_getElem_cons h1, h2]
  rw [hd] at h
  exact ⟨h.1, fun n' q => by have := h.2; rw [q] at this; exact this⟩
/-- .. that may return -/
theorem sb_forX {xs : List α} {itm : α → Itm} (nf : ν → Env × Src) (rf : ρ → Sl × Src) (n0 : ν) (P : ν → α → Prop) (δb : ν → α → Env) (f : ν → α → Except ρ ν) {js : List Nat} (hi : IJ true X sa δ S tg iter (xs.map itm) (nf n0).2) (h0 : Sub (nf n0).1 δ)
    (hg : ∀ n x, TGt X sa (nf n).1 tg (itm x) (δb n x) js) (hb : ∀ n x, P n x → SB X sa (δb n x) (nf n).2 body (WX nf rf (f n x))) (hP : FX P f xs n0)
    (hrt : ∀ r sl s, foldX f xs n0 = .error r → rf r = (sl, s) → W.rt sl s)
    (hr : ∀ n, foldX f xs n0 = .ok n → SB X sa (nf n).1 (nf n).2 rest W) (hp : PassesOwn (model X.prog X.w) X.A X.env X.xe) (hc : X.calm = true) (hs : ∀ x, foldedSetIterable iter X.env x = pure x := by intro _; rfl) :
    SB X sa δ S (.For tg iter body [] pos :: rest) W := by
  have rest' : PSs X rest (fun D σ H => ∃ n, foldX f xs n0 = .ok n ∧ tSB X.K sa (nf n).1 (nf n).2 W D σ H) := pss_ex (P := fun n => foldX f xs n0 = .ok n) fun n q => hr n q
  refine pss_imp (pss_cons (ps_for hp hc hi (pg_ex (P := fun _ : ν × α => True) fun nx _ => hg nx.1 nx.2) (pss_ex (P := fun nx : ν × α => P nx.1 nx.2) fun nx q => hb nx.1 nx.2 q) hs) rest') fun D σ H ⟨B, ok, k1, k2⟩ => ⟨B, ok, fun J H1 B1 ok1 e1 b1 jy hz => ?_⟩
  obtain ⟨eb, okb⟩ := b1
  refine ⟨fun i m σ H => m = xs.length - i ∧ i ≤ xs.length ∧ ∃ B2 n, foldX f (xs.take i) n0 = .ok n ∧ FX P f (xs.drop i) n ∧ Ext sa B1 B2 ∧ Ok X.K sa B2 H σ (nf n).1 (nf n).2, ⟨_, rfl, Nat.zero_le _, B1, n0, rfl, hP, .refl _ _, okb.forget h0⟩, ?_⟩
  rintro i m σ' H' ⟨rfl, hi, B2, n, hn, hfx, eb2, ok2⟩
  have eh : Ext sa B1 H' := eb2.trans ok2.base
  by_cases hlt : i < xs.length
  · right
    have hx : xs[i]? = some xs[i] := List.getElem?_eq_getElem hlt
    obtain ⟨go, yl⟩ := (jy i H' eh).1 (itm xs[i]) (by rw [List.getElem?_map, hx]; rfl)
    obtain ⟨t1, t2⟩ := foldX_take hn hx
    obtain ⟨p1, p2⟩ := hfx.drop hx
    refine ⟨go, fun σ H => ∃ B2 n, foldX f (xs.take (i + 1)) n0 = .ok n ∧ FX P f (xs.drop (i + 1)) n ∧ Ext sa B1 B2 ∧ Ok X.K sa B2 H σ (nf n).1 (nf n).2, fun σ3 H3 n => ⟨_, by omega, rfl, hlt, n⟩, fun x H2 hy => ?_⟩
    obtain ⟨sm, rep⟩ := yl x H2 hy
    refine ⟨(n, xs[i]), trivial, B2, _, ok2.same sm, rep.mono eb2, fun σ3 ok3 _ _ => ⟨(n, xs[i]), p1, B2, ok3, fun B4 σ4 H4 δ4 S4 hw e4 ok4 => ?_, fun B4 v H4 r S4 F hw e4 e5 hs4 hres hrep hnd hfr => ?_⟩⟩
    · obtain ⟨n', q1, q2⟩ := hw
      refine ⟨B4, n', ?_, p2 n' q1, eb2.trans e4, ?_⟩
      · rw [t1, q1]
      · rw [q2]; exact ok4
    · obtain ⟨r', q1, q2⟩ := hw
      exact k2 B4 v H4 r S4 F (hrt r' _ _ (by rw [t2, q1]) q2) (eb.trans (eb2.trans e4)) e5 hs4 hres hrep hnd hfr
  · left
    obtain rfl : i = xs.length := by omega
    rw [List.take_length] at hn
    exact ⟨(jy _ H' eh).2 (List.length_map ..), n, hn, B2, ok2, fun B3 σ3 H3 δ3 S3 hw e3 ok3 => k1 B3 σ3 H3 δ3 S3 hw (eb.trans (eb2.trans e3)) ok3, fun B3 v H3 r S3 F hw e3 => k2 B3 v H3 r S3 F hw (eb.trans (eb2.trans e3))⟩
/-- .. in a def's body -/
theorem sb_forR {xs : List α} {itm : α → Itm} {m : ν → ρ} (nf : ν → Env × Src) (rf : ρ → Sl × Src) (n0 : ν) (P : ν → α → Prop) (δb : ν → α → Env) (f : ν → α → Except ρ ν) {js : List Nat} (hi : IJ true X sa δ S tg iter (xs.map itm) (nf n0).2) (h0 : Sub (nf n0).1 δ)
    (hg : ∀ n x, TGt X sa (nf n).1 tg (itm x) (δb n x) js) (hb : ∀ n x, P n x → SB X sa (δb n x) (nf n).2 body (WX nf rf (f n x))) (hP : FX P f xs n0)
    (hr : ∀ n, foldX f xs n0 = .ok n → SB X sa (nf n).1 (nf n).2 rest (WR rf (m n))) (hp : PassesOwn (model X.prog X.w) X.A X.env X.xe) (hc : X.calm = true) (hs : ∀ x, foldedSetIterable iter X.env x = pure x := by intro _; rfl) :
    SB X sa δ S (.For tg iter body [] pos :: rest) (WR rf (bindX (foldX f xs n0) m)) :=
  sb_forX nf rf n0 P δb f hi h0 hg hb hP (fun r sl s q1 q2 => by show rf (bindX _ _) = _; rw [q1]; exact q2) (fun n q => by rw [q]; exact hr n q) hp hc hs
/-- .. in another loop's body -/
theorem sb_forXX {μ : Type} {xs : List α} {itm : α → Itm} {nf' : μ → Env × Src} {m : ν → Except ρ μ} (nf : ν → Env × Src) (rf : ρ → Sl × Src) (n0 : ν) (P : ν → α → Prop) (δb : ν → α → Env) (f : ν → α → Except ρ ν) {js : List Nat} (hi : IJ true X sa δ S tg iter (xs.map itm) (nf n0).2) (h0 : Sub (nf n0).1 δ)
    (hg : ∀ n x, TGt X sa (nf n).1 tg (itm x) (δb n x) js) (hb : ∀ n x, P n x → SB X sa (δb n x) (nf n).2 body (WX nf rf (f n x))) (hP : FX P f xs n0)
    (hr : ∀ n, foldX f xs n0 = .ok n → SB X sa (nf n).1 (nf n).2 rest (WX nf' rf (m n))) (hp : PassesOwn (model X.prog X.w) X.A X.env X.xe) (hc : X.calm = true) (hs : ∀ x, foldedSetIterable iter X.env x = pure x := by intro _; rfl) :
    SB X sa δ S (.For tg iter body [] pos :: rest) (WX nf' rf (bindXX (foldX f xs n0) m)) :=
  sb_forX nf rf n0 P δb f hi h0 hg hb hP (fun r sl s q1 q2 => by rw [q1]; exact ⟨r, rfl, q2⟩) (fun n q => by rw [q]; exact hr n q) hp hc hs

/-! ### while -/
def whileN (c : ν → Bool) (f : ν → ν) : Nat → ν → ν
  | 0, n => n
  | k + 1, n => if c n = true then whileN c f k (f n) else n
def FW (Pc P : ν → Prop) (c : ν → Bool) (f : ν → ν) : Nat → ν → Prop
  | 0, n => Pc n ∧ c n = false
  | k + 1, n => Pc n ∧ (c n = true → P n ∧ FW Pc P c f k (f n))
theorem sb_while {test : Expr} (nf : ν → Env × Src) (n0 : ν) (Pc P : ν → Prop) (cnd : ν → Bool) (f : ν → ν) (fuel : Nat) (h0 : Sub (nf n0).1 δ) (hS : (nf n0).2 = S)
    (ht : ∀ n, Pc n → ET X sa (nf n).1 (nf n).2 test (cnd n) (nf n).2) (hb : ∀ n, P n → cnd n = true → SB X sa (nf n).1 (nf n).2 body (WN nf (f n))) (hP : FW Pc P cnd f fuel n0)
    (hr : SB X sa (nf (whileN cnd f fuel n0)).1 (nf (whileN cnd f fuel n0)).2 rest W) (hp : PassesOwn (model X.prog X.w) X.A X.env X.xe) : SB X sa δ S (.While test body [] pos :: rest) W := by
  refine sb_seq (ps_while hp (pt_ex (P := Pc) fun n q => ht n q) (pss_ex (P := fun n => P n ∧ cnd n = true) fun n q => hb n q.1 q.2)) hr fun D σ H B ok k => ?_
  refine ⟨fun m σ H => ∃ n B2, Ext sa B B2 ∧ Ok X.K sa B2 H σ (nf n).1 (nf n).2 ∧ FW Pc P cnd f m n ∧ whileN cnd f m n = whileN cnd f fuel n0, ⟨fuel, n0, B, .refl _ _, by rw [hS]; exact ok.forget h0, hP, rfl⟩, ?_⟩
  rintro m σ1 H1 ⟨n, B2, eb, ok1, fw, ew⟩
  have hpc : Pc n := by cases m with
    | zero => exact fw.1
    | succ m => exact fw.1
  refine ⟨n, hpc, B2, ok1, fun H2 ok2 e2 => ?_⟩
  cases hc : cnd n with
  | true =>
    cases m with
    | zero => have := fw.2; rw [hc] at this; cases this
    | succ m =>
      obtain ⟨p1, p2⟩ := fw.2 hc
      refine iteT ⟨fun σ H => ∃ n B2, Ext sa B B2 ∧ Ok X.K sa B2 H σ (nf n).1 (nf n).2 ∧ FW Pc P cnd f m n ∧ whileN cnd f m n = whileN cnd f fuel n0, fun σ' H' q => ⟨m, Nat.lt_succ_self _, q⟩, n, ⟨p1, hc⟩, B2, ok2, fun B3 σ3 H3 δ3 S3 hw e3 ok3 => ⟨f n, B3, eb.trans e3, ?_, p2, ?_⟩, fun _ _ _ _ _ _ hf => hf.elim⟩
      · have hw' : nf (f n) = (δ3, S3) := hw
        rw [hw']; exact ok3
      · rw [← ew]
        show _ = if cnd n = true then _ else _
        rw [if_pos hc]
  | false =>
    refine iteF ?_
    have hn : whileN cnd f m n = n := by
      cases m with
      | zero => rfl
      | succ m => show (if cnd n = true then _ else _) = _; rw [hc, if_neg Bool.false_ne_true]
    rw [← ew, hn] at k
    exact k B2 σ1 H2 eb ok2
end
end L2.Ev

set_option Elab.async false
set_option linter.all false
set_option maxRecDepth 100000
/-! Ev7: lists of lists, stores, built-ins. -/
namespace L2.Ev
open PySem PySem.Spec PyProof.Rows
section
variable {X : Cx} {sa : SA} {δ δ' : Env} {S S0 S1 S2 S' : Src} {st : Bool} {e a b c tg iter elt : Expr} {pos p pos' : Pos} {K : PySem.W.Frag} {B B' H H' : Hp} {σ : L2.St} {rest body : List Stmt} {W : Spec} {sm : Stmt}
variable {α : Type} {own : List (Str × Nat)} {scope : Scope} {js : List Nat}

/-! ### [[..] for ..] -/
theorem RowsAt.snoc : ∀ {bs : List Addr} {dss : List (List PyData)} {b : Addr} {ds : List PyData}, RowsAt K H bs dss → LsAt K H b ds → RowsAt K H (bs ++ [b]) (dss ++ [ds])
  | [], [], _, _, _, h => ⟨h, trivial⟩
  | _ :: bs, _ :: dss, _, _, h, g => ⟨h.1, RowsAt.snoc h.2 g⟩
  | [], _ :: _, _, _, h, _ => h.elim
  | _ :: _, [], _, _, h, _ => h.elim
theorem tyes {R : Bool → Hp → Prop} (h : R true H) : tYes σ H R := h
theorem lc_readM (xs : List α) (itm : α → Itm) (P : α → Prop) (δb : α → Env) (f : α → List PyData) {vs : List Nat} (hP : ∀ x ∈ xs, P x) (hjs : ∀ j ∈ js, j ∈ vs) {Q : VK}
    (h : tEM K sa δ S (xs.map f) S0 σ H Q) :
    tLc (tIJ false K sa δ S (xs.map itm) S0) (fun v σ H Q => ∃ x, P x ∧ tTg K sa (wipeE (Ev.frz δ) vs) (itm x) (δb x) js v σ H Q) tYes (fun σ H Q => ∃ x, P x ∧ tEL K sa (δb x) S0 (f x) S0 σ H Q) vs σ H Q := by
  obtain ⟨B, ok, k⟩ := h
  refine ⟨B, ok, fun J H1 B1 ok1 e1 b1 jy hz D hD => ?_⟩
  obtain rfl : B1 = H1 := b1
  have hlen : xs.length ≤ sizeLine := by rw [List.length_map] at hz; exact hz
  have aw : Away sa D := ok1.away hD
  refine ⟨fun i m H' => m = xs.length - i ∧ i ≤ xs.length ∧ SrcRep sa H' S0 ∧ Ext sa B1 H' ∧ ∃ bs, H' D = some (.lst (bs.map .ref)) ∧ RowsAt K H' bs ((xs.take i).map f) ∧ (D :: bs).Nodup ∧ ∀ b ∈ bs, B1 b = none,
    ⟨_, rfl, Nat.zero_le _, ok1.src.updA aw, .new hD, [], upd_same, trivial, by simp, fun _ m => nomatch m⟩, ?_⟩
  rintro i m H' ⟨rfl, hi, hs, he, bs, hacc, hr, hnd, hbs⟩
  by_cases hlt : i < xs.length
  · right
    have hx : xs[i]? = some xs[i] := List.getElem?_eq_getElem hlt
    have hxm : P xs[i] := hP _ (List.getElem_mem hlt)
    obtain ⟨go, yl⟩ := (jy i H' he).1 (itm xs[i]) (by rw [List.getElem?_map, hx]; rfl)
    have htk : (xs.take (i + 1)).map f = (xs.take i).map f ++ [f xs[i]] := by rw [List.take_add_one, hx, List.map_append]; rfl
    refine ⟨go, fun H2 => SrcRep sa H2 S0 ∧ Ext sa B1 H2 ∧ ∃ bs, H2 D = some (.lst (bs.map .ref)) ∧ RowsAt K H2 bs ((xs.take (i + 1)).map f) ∧ (D :: bs).Nodup ∧ ∀ b ∈ bs, B1 b = none, fun H2 n => ⟨_, by omega, rfl, hlt, n⟩, fun x H2 hy => ?_⟩
    obtain ⟨sm, rep⟩ := yl x H2 hy
    have e2 : Ext sa H' H2 := .of_same sm
    refine ⟨xs[i], hxm, B1, S0, ok1.blk (he.trans e2) (hs.same sm) vs, rep, fun σ2 ok2 l2 u2 => ⟨?_, ?_⟩⟩
    · have w1 : wipe σ2 vs = wipe (wipe σ vs) vs := wipe_eq l2 fun j hj => u2 j fun z => hj (hjs j z)
      rw [w1]
      exact wipe_eq (wipe_length _ _) fun j hj => wipe_get hj
    · refine tyes (iteT ⟨xs[i], hxm, B1, ok2, fun q H4 hq ok4 e4 hl => ?_⟩)
      have h2 := sm D _ hacc
      have h4 := e4.cell D _ h2 aw
      have tx : TupX H' H4 := e2.tup.trans e4.tup
      have nD : q ≠ D := fun z => by rw [z, h2] at hq; cases hq
      have same4 : ∀ b ∈ bs, H4 b = H' b := fun b m => by
        obtain ⟨vs, hv⟩ := hr.cell b m
        rw [hv]
        exact e4.cell b _ (sm b _ hv) (ok1.away (hbs b m))
      have nbs : q ∉ bs := fun z => by
        obtain ⟨vs, hv⟩ := hr.cell q z
        rw [sm q _ hv] at hq; cases hq
      have Dbs : D ∉ bs := (List.nodup_cons.mp hnd).1
      have q1 : B1 q = none := (he.trans e2).none_of ok2 hq
      refine ⟨bs.map .ref, h4, by rw [List.length_map, hr.length, List.length_map, List.length_take]; omega, ok4.src.updA aw, (he.trans (e2.trans e4)).grow hD h4, bs ++ [q], ?_, ?_, ?_, ?_⟩
      · rw [upd_same, List.map_append]; rfl
      · rw [htk]
        have tx2 : TupX H4 (upd H4 D (.lst (bs.map .ref ++ [.ref q]))) := tupX_upd (.inr ⟨_, h4⟩)
        refine RowsAt.snoc (hr.mono (tx.trans tx2) fun b m => ?_) (hl.mono (upd_ne nD) tx2)
        rw [upd_ne (fun z => Dbs (by rw [← z]; exact m))]
        exact same4 b m
      · rw [List.nodup_cons] at hnd ⊢
        refine ⟨fun z => (List.mem_append.mp z).elim hnd.1 fun z => nD (List.mem_singleton.mp z).symm, ?_⟩
        rw [List.nodup_append]
        exact ⟨hnd.2, by simp, fun x hx y hy => by
          obtain rfl : y = q := by simpa using hy
          exact fun z => nbs (z ▸ hx)⟩
      · intro b m
        rcases List.mem_append.mp m with m | m
        · exact hbs b m
        · obtain rfl : b = q := by simpa using m
          exact q1
  · left
    obtain rfl : i = xs.length := by omega
    rw [List.take_length] at hr
    refine ⟨(jy _ H' he).2 (List.length_map ..), k D bs H' (fun b m => ?_) hnd (ok.ext (e1.trans he) hs) (e1.trans he) hacc hr (by rw [List.length_map]; exact hlen)⟩
    rcases List.mem_cons.mp m with rfl | m
    · exact e1.none_of ok1 hD
    · exact e1.none_of ok1 (hbs b m)
theorem em_lc {xs : List α} {itm : α → Itm} (P : α → Prop) (δb : α → Env) (f : α → List PyData) (hi : IJ false X sa δ S tg iter (xs.map itm) S0) (hP : ∀ x ∈ xs, P x)
    (hg : ∀ x s H C cl fp, TGt (blkX X scope s H C cl fp) sa (wipeE (Ev.frz δ) (ixs own)) tg (itm x) (δb x) js)
    (he : ∀ x, P x → ∀ s H C cl fp, EL (blkX X scope s H C cl fp) sa (δb x) S0 elt (f x) S0)
    (hc : X.calm = true) (hN : X.N.Nodup) (ok : BlkOk X.N X.env.scope scope own) (hjs : ∀ j ∈ js, j ∈ ixs own) (hs : ∀ x, foldedSetIterable iter X.env x = pure x := by intro _; rfl) :
    EM X sa δ S (.ListComp elt [⟨tg, iter, [], 0⟩] scope pos) (xs.map f) S0 :=
  pe_imp (pe_lc (own := own) hc hN hi ok (fun s H C cl fp => pg_ex (P := P) (T := fun x => tTg X.K sa (wipeE (Ev.frz δ) (ixs own)) (itm x) (δb x) js) fun x _ => hg x s H C cl fp) (fun s H C cl fp => pts_nil) (fun s H C cl fp => pe_ex (P := P) (T := fun x => tEL X.K sa (δb x) S0 (f x) S0) fun x p => he x p s H C cl fp) hs)
    fun σ H Q h => lc_readM xs itm P δb f hP hjs h
theorem ps_lcM {xs : List α} {itm : α → Itm} {i : Nat} {y : Str} {py spos : Pos} (P : α → Prop) (δb : α → Env) (f : α → List PyData) (hi : IJ false X sa δ S tg iter (xs.map itm) S0) (hP : ∀ x ∈ xs, P x)
    (hg : ∀ x s H C cl fp, TGt (blkX X scope s H C cl fp) sa (wipeE (Ev.frz δ) (ixs own)) tg (itm x) (δb x) js)
    (he : ∀ x, P x → ∀ s H C cl fp, EL (blkX X scope s H C cl fp) sa (δb x) S0 elt (f x) S0)
    (hc : X.calm = true) (hN : X.N.Nodup) (ok : BlkOk X.N X.env.scope scope own) (hjs : ∀ j ∈ js, j ∈ ixs own) (hy : X.N[i]? = some y) (hyl : X.env.scope.names.lookup y = some .local)
    (hsw : swapsWith (.ListComp elt [⟨tg, iter, [], 0⟩] scope pos) (some (.Name y py)) spos.line X.env = pure true) (hs : ∀ x, foldedSetIterable iter X.env x = pure x := by intro _; rfl) :
    PS X (.Assign [.Name y py] (.ListComp elt [⟨tg, iter, [], 0⟩] scope pos) spos) (tAsg (tEM X.K sa δ S (xs.map f) S0) (gName i)) :=
  ps_imp (ps_setLc (own := own) hc hN hy hyl hsw hi ok (fun s H C cl fp => pg_ex (P := P) (T := fun x => tTg X.K sa (wipeE (Ev.frz δ) (ixs own)) (itm x) (δb x) js) fun x _ => hg x s H C cl fp) (fun s H C cl fp => pts_nil) (fun s H C cl fp => pe_ex (P := P) (T := fun x => tEL X.K sa (δb x) S0 (f x) S0) fun x p => he x p s H C cl fp) hs)
    fun D σ H h => lc_readM xs itm P δb f hP hjs h

/-! ### stores into own lists -/
theorem own_at {i : Nat} {ds : List PyData} (ok : Ok K sa B H σ δ S) (hd : δ[i]? = some (some (.l ds))) : ∃ l vs, σ[i]? = some (some (.ref l)) ∧ H l = some (.lst vs) ∧ DpAll K H vs ds ∧ PuAll ds ∧ ds.length ≤ sizeLine ∧ Away sa l := by
  obtain ⟨F, o⟩ := ok.owns
  obtain ⟨v, h1, l, rfl, hF, vs, q, q2, q3, q4⟩ := o.rep i _ hd
  exact ⟨l, vs, h1, q, q2, q3, q4, (o.own i l (by rw [hF]; simp)).2.1⟩
theorem dpk {vs : List V} {ds : List PyData} (h : DpAll K H vs ds) (p : PuAll ds) (e : Ext sa H H') : DpAll K H' vs ds := e.tup.dpAll _ _ p h
/-- x.append(e) -/
theorem sb_append {i : Nat} {x : Str} {ds : List PyData} {d : PyData} {p1 p2 p3 p4 : Pos} (hd : δ[i]? = some (some (.l ds))) (hv : PE X (.Name x p1) (tVar i)) (he : EE X sa δ S e (.p d) S1) (hz : ds.length < 16777216)
    (hr : SB X sa (δ.set i (some (.l (ds ++ [d])))) S1 rest W)
    (hps : ∀ {te : TE}, PE X (.Call (.Attribute (.Name x p1) "append" p2) [e] [] p3) te → PS X (.Expr (.Call (.Attribute (.Name x p1) "append" p2) [e] [] p3) p4) (tDrop te))
    (hpe : ∀ {to : TE} {t : TA}, PE X (.Name x p1) to → PA X [e] t → PE X (.Call (.Attribute (.Name x p1) "append" p2) [e] [] p3) (tBM X.K "list" rAppend to t))
    (hs : starEach [e] X.env = [(false, eval e X.env)] := by rfl) : SB X sa δ S (.Expr (.Call (.Attribute (.Name x p1) "append" p2) [e] [] p3) p4 :: rest) W :=
  sb_seq (hps (hpe hv (pa_cons he pa_nil hs))) hr fun D σ H B ok k => by
    obtain ⟨l, vs, h1, h2, h3, h4, h5, h6⟩ := own_at ok hd
    refine ⟨_, h1, .inl ⟨rfl, _, .of h2⟩, B, ok, fun v H' B' ok' e' b r => ?_⟩
    obtain rfl : B' = H' := b
    have g2 := e'.cell l _ h2 h6
    refine ⟨l, vs, v, rfl, rfl, g2, by rw [h3.length, sizeLine_eq]; exact hz, k B σ _ (.refl _ _) (ok'.write hd h1 (DpAll.append (dpk h3 h4 e') (.one r.2.1)) (h4.append (puAll_one r.2.2)) ?_)⟩
    rw [List.length_append, sizeLine_eq]; show ds.length + 1 ≤ _; omega
/-- x.extend(a new list) -/
theorem sb_extend {i : Nat} {x : Str} {ds es : List PyData} {p1 p2 p3 p4 : Pos} (hd : δ[i]? = some (some (.l ds))) (hv : PE X (.Name x p1) (tVar i)) (he : EL X sa δ S e es S1) (hz : ds.length + es.length ≤ 16777216)
    (hr : SB X sa (δ.set i (some (.l (ds ++ es)))) S1 rest W)
    (hps : ∀ {te : TE}, PE X (.Call (.Attribute (.Name x p1) "extend" p2) [e] [] p3) te → PS X (.Expr (.Call (.Attribute (.Name x p1) "extend" p2) [e] [] p3) p4) (tDrop te))
    (hpe : ∀ {to : TE} {t : TA}, PE X (.Name x p1) to → PA X [e] t → PE X (.Call (.Attribute (.Name x p1) "extend" p2) [e] [] p3) (tBM X.K "list" rExtend to t))
    (hs : starEach [e] X.env = [(false, eval e X.env)] := by rfl) : SB X sa δ S (.Expr (.Call (.Attribute (.Name x p1) "extend" p2) [e] [] p3) p4 :: rest) W :=
  sb_seq (hps (hpe hv (pa_cons he pa_nil hs))) hr fun D σ H B ok k => by
    obtain ⟨l, vs, h1, h2, h3, h4, h5, h6⟩ := own_at ok hd
    refine ⟨_, h1, .inl ⟨rfl, _, .of h2⟩, B, ok, fun q H' hq ok' e' hl => ?_⟩
    obtain ⟨zs, g1, g2, g3, g4⟩ := hl
    have gl := e'.cell l _ h2 h6
    refine ⟨l, q, vs, zs, rfl, rfl, gl, g1, by rw [h3.length, g2.length, sizeLine_eq]; exact hz, k B σ _ (.refl _ _) (ok'.write hd h1 (DpAll.append (dpk h3 h4 e') g2) (h4.append g3) ?_)⟩
    rw [List.length_append, sizeLine_eq]; exact hz
def setAt {β : Type} (xs : List β) (i : Int) (y : β) : List β := match ixN xs.length i with
  | some j => xs.set j y
  | none => xs
theorem setAt_length {β : Type} (xs : List β) (i : Int) (y : β) : (setAt xs i y).length = xs.length := by
  unfold setAt
  split
  · exact List.length_set
  · rfl
theorem setAt_map {β γ : Type} (f : β → γ) (xs : List β) (i : Int) (y : β) : setAt (xs.map f) i (f y) = (setAt xs i y).map f := by
  unfold setAt
  rw [List.length_map]
  split
  · rw [List.map_set]
  · rfl
theorem ixN_some {n : Nat} {i : Int} (h : -(n : Int) ≤ i ∧ i < n) : ∃ j, ixN n i = some j ∧ j < n := by
  unfold ixN
  by_cases c : 0 ≤ i
  · rw [if_pos c, if_pos h.2]
    exact ⟨_, rfl, by omega⟩
  · rw [if_neg c, if_pos h.1]
    exact ⟨_, rfl, by omega⟩
theorem PuAll.set {ds : List PyData} {d : PyData} (h : PuAll ds) (g : Pu d) (j : Nat) : PuAll (ds.set j d) := puAll_iff.mpr fun x m => by
  rcases List.mem_or_eq_of_mem_set m with m | rfl
  · exact puAll_iff.mp h x m
  · exact g
/-- x[i] = e -/
theorem sb_store {i : Nat} {x : Str} {ds : List PyData} {d : PyData} {j : Int} {ix : Expr} {p1 p2 p3 : Pos} (hd : δ[i]? = some (some (.l ds))) (hv : PE X (.Name x p1) (tVar i)) (he : EE X sa δ S e (.p d) S1) (hx : EE X sa δ S1 ix (.p (.int j)) S2) (hj : InB ds j)
    (hr : SB X sa (δ.set i (some (.l (setAt ds j d)))) S2 rest W)
    (hps : ∀ {te to ti : TE}, PE X e te → PE X (.Name x p1) to → PE X ix ti → PS X (.Assign [.Subscript (.Name x p1) ix p2] e p3) (tAsg te (gSub to ti rSetL))) : SB X sa δ S (.Assign [.Subscript (.Name x p1) ix p2] e p3 :: rest) W :=
  sb_seq (hps he hv hx) hr fun D σ H B ok k => ⟨B, ok, fun v H1 B1 ok1 e1 b1 r1 => by
    obtain rfl : B1 = H1 := b1
    obtain ⟨l, vs, h1, h2, h3, h4, h5, h6⟩ := own_at ok1 hd
    refine ⟨_, h1, B, ok1, fun u H2 B2 ok2 e2 b2 r2 => ?_⟩
    obtain rfl : B2 = H2 := b2
    obtain rfl := dpi r2
    obtain ⟨jj, q1, q2⟩ := ixN_some hj
    have gl := e2.cell l _ h2 h6
    refine ⟨l, vs, j, jj, rfl, rfl, gl, by rw [h3.length]; exact q1, k B σ _ (.refl _ _) ?_⟩
    have es : setAt ds j d = ds.set jj d := by unfold setAt; rw [q1]
    rw [es]
    exact ok2.write hd h1 (DpAll.set (e2.tup.dp _ _ r1.2.2 r1.2.1) jj (dpk h3 h4 e2)) (h4.set r1.2.2 jj) (by rw [List.length_set]; exact h5)⟩
theorem rows_at {i : Nat} {dss : List (List PyData)} (ok : Ok K sa B H σ δ S) (hd : δ[i]? = some (some (.ll dss))) : ∃ l bs, σ[i]? = some (some (.ref l)) ∧ H l = some (.lst (bs.map .ref)) ∧ RowsAt K H bs dss ∧ dss.length ≤ sizeLine ∧ (l :: bs).Nodup ∧ ∀ q ∈ l :: bs, Away sa q := by
  obtain ⟨F, o⟩ := ok.owns
  obtain ⟨v, h1, l, bs, rfl, hF, q, q2, q3⟩ := o.rep i _ hd
  exact ⟨l, bs, h1, q, q2, q3, hF ▸ o.nodup i, fun z m => (o.own i z (by rw [hF]; exact m)).2.1⟩
theorem RowsAt.put {b : Addr} {ds : List PyData} (hb : LsAt K H b ds) : ∀ {bs : List Addr} {dss : List (List PyData)} {j : Nat} (h : ∀ (k : Nat) (q : Addr), k ≠ j → bs[k]? = some q → ∃ es, dss[k]? = some es ∧ LsAt K H q es) (hl : bs.length = dss.length) (hj : bs[j]? = some b), RowsAt K H bs (dss.set j ds)
  | [], [], _, _, _, hj => by simp at hj
  | q :: bs, es :: dss, 0, h, hl, hj => by
    have e : q = b := by simpa using hj
    subst e
    refine ⟨hb, ?_⟩
    have go : ∀ {bs : List Addr} {dss : List (List PyData)}, bs.length = dss.length → (∀ (k : Nat) (q : Addr), bs[k]? = some q → ∃ es, dss[k]? = some es ∧ LsAt K H q es) → RowsAt K H bs dss := fun {bs} => by
      induction bs with
      | nil => intro dss hl _; cases dss with
        | nil => trivial
        | cons _ _ => cases hl
      | cons c bs ih => intro dss hl h; cases dss with
        | nil => cases hl
        | cons es dss =>
          obtain ⟨es', q1, q2⟩ := h 0 c rfl
          obtain rfl : es = es' := by simpa using q1
          exact ⟨q2, ih (by simpa using hl) fun k q hk => by simpa using h (k + 1) q (by simpa using hk)⟩
    exact go (by simpa using hl) fun k q hk => by simpa using h (k + 1) q (by omega) (by simpa using hk)
  | q :: bs, es :: dss, j + 1, h, hl, hj => by
    obtain ⟨es', q1, q2⟩ := h 0 q (by omega) rfl
    obtain rfl : es = es' := by simpa using q1
    exact ⟨q2, RowsAt.put hb (j := j) (fun k q hk e => by simpa using h (k + 1) q (by omega) (by simpa using e)) (by simpa using hl) (by simpa using hj)⟩
  | [], _ :: _, _, _, hl, _ => by cases hl
  | _ :: _, [], _, _, hl, _ => by cases hl
theorem RowsAt.get2 : ∀ {bs : List Addr} {dss : List (List PyData)} {i : Nat} {q : Addr}, RowsAt K H bs dss → bs[i]? = some q → ∃ ds, dss[i]? = some ds ∧ LsAt K H q ds
  | b :: bs, d :: dss, 0, q, h, e => by simp at e; subst e; exact ⟨d, rfl, h.1⟩
  | b :: bs, d :: dss, i + 1, q, h, e => RowsAt.get2 (i := i) h.2 (by simpa using e)
  | [], [], _, _, _, e => by simp at e
  | [], _ :: _, _, _, h, _ => h.elim
  | _ :: _, [], _, _, h, _ => h.elim
theorem map_ref_inj : ∀ {xs ys : List Addr}, xs.map V.ref = ys.map V.ref → xs = ys
  | [], [], _ => rfl
  | [], _ :: _, h => by cases h
  | _ :: _, [], h => by cases h
  | x :: xs, y :: ys, h => by
    rw [List.map_cons, List.map_cons] at h
    injection h with h1 h2
    injection h1 with h1
    rw [h1, map_ref_inj h2]
/-- an own row is written -/
theorem Ok.writeRow (ok : Ok K sa B H σ δ S) {i j : Nat} {dss : List (List PyData)} {l b : Addr} {bs : List Addr} {ds' : List PyData} {vs' : List V} (hi : δ[i]? = some (some (.ll dss))) (hσ : σ[i]? = some (some (.ref l))) (hl : H l = some (.lst (bs.map .ref))) (hb : bs[j]? = some b)
    (hd : DpAll K H vs' ds') (hp : PuAll ds') (hz : ds'.length ≤ sizeLine) : Ok K sa B (upd H b (.lst vs')) σ (δ.set i (some (.ll (dss.set j ds')))) S := by
  obtain ⟨F, o⟩ := ok.owns
  obtain ⟨v, h1, l', bs', h2, hF, q, hr, q3⟩ := o.rep i _ hi
  rw [hσ] at h1
  obtain rfl : V.ref l = v := Option.some.inj (Option.some.inj h1)
  obtain rfl : l = l' := by injection h2
  rw [hl] at q
  obtain rfl : bs = bs' := by
    have e : bs.map V.ref = bs'.map V.ref := by injection (Option.some.inj q)
    exact map_ref_inj e
  have mb : b ∈ F i := by rw [hF]; exact List.mem_cons_of_mem _ (List.mem_of_getElem? hb)
  obtain ⟨hbB, w, ws, hws⟩ := o.own i b mb
  have tx : TupX H (upd H b (.lst vs')) := tupX_upd (.inr ⟨ws, hws⟩)
  have il : i < δ.length := (List.getElem?_eq_some_iff.mp hi).1
  have nd : (l :: bs).Nodup := hF ▸ o.nodup i
  have lb : l ≠ b := fun z => (List.nodup_cons.mp nd).1 (z ▸ List.mem_of_getElem? hb)
  refine ⟨⟨fun c ob e wc => ?_, ok.base.tup.trans tx⟩, by rw [List.length_set]; exact ok.len, ⟨F, fun k sl' h => ?_, o.nodup, o.apart, fun k c m => ?_⟩, ok.src.updA w⟩
  · rw [upd_ne (fun z => by rw [z, hbB] at e; cases e)]
    exact ok.base.cell c ob e wc
  · by_cases hk : k = i
    · subst hk
      rw [List.getElem?_set_self il] at h
      cases h
      refine ⟨.ref l, hσ, l, bs, rfl, hF, by rw [upd_ne lb]; exact hl, RowsAt.put ⟨vs', upd_same, tx.dpAll _ _ hp hd, hp, hz⟩ (fun k q hk e => ?_) hr.length hb, by rw [List.length_set]; exact q3⟩
      obtain ⟨es, g1, g2⟩ := hr.get2 e
      refine ⟨es, g1, g2.mono (upd_ne fun z => ?_) tx⟩
      have nb := (List.nodup_cons.mp nd).2
      obtain ⟨k1, e1⟩ := List.getElem?_eq_some_iff.mp e
      obtain ⟨k2, e2⟩ := List.getElem?_eq_some_iff.mp hb
      exact hk ((List.getElem_inj nb).mp (e1.trans (z.trans e2.symm)))
    · rw [List.getElem?_set_ne (Ne.symm hk)] at h
      obtain ⟨u, g1, g2⟩ := o.rep k sl' h
      exact ⟨u, g1, g2.mono (.refl _ _) tx fun c m => upd_ne fun z => o.apart k i c hk m (z ▸ mb)⟩
  · obtain ⟨g1, g2, ws', g3⟩ := o.own k c m
    refine ⟨g1, g2, ?_⟩
    by_cases hc : c = b
    · exact ⟨vs', by rw [hc, upd_same]⟩
    · exact ⟨ws', by rw [upd_ne hc]; exact g3⟩
/-- rows with one place otherwise -/
def setAt2 {β : Type} (xss : List (List β)) (u v : Int) (y : β) : List (List β) := match ixN xss.length u with
  | some j => xss.set j (setAt (xss.getD j []) v y)
  | none => xss
theorem setAt2_map {β γ : Type} (f : β → γ) (xss : List (List β)) (u v : Int) (y : β) : setAt2 (xss.map (List.map f)) u v (f y) = (setAt2 xss u v y).map (List.map f) := by
  unfold setAt2
  rw [List.length_map]
  split
  · rename_i j h
    rw [List.map_set]
    congr 1
    have e : (xss.map (List.map f)).getD j [] = (xss.getD j []).map f := by
      rw [List.getD_eq_getElem?_getD, List.getD_eq_getElem?_getD, List.getElem?_map]
      cases xss[j]? <;> rfl
    rw [e, setAt_map]
  · rfl
def InB2 {β : Type} (xss : List (List β)) (u v : Int) : Prop := InB xss u ∧ ∀ xs, L2.atI xss u = some xs → InB xs v
/-- what a store into rows does, by values: the target's own reading -/
def tRow (K : PySem.W.Frag) (sa : SA) (δ : Env) (S : Src) (i : Nat) (dss : List (List PyData)) (d : PyData) (u v : Int) : TG := fun w σ H Q => ∃ B, Ok K sa B H σ δ S ∧ Dp K H w d ∧ Pu d ∧
  ∀ H', Ok K sa B H' σ (δ.set i (some (.ll (setAt2 dss u v d)))) S → TupX H H' → Q σ H'
theorem tg_row {i : Nat} {x : Str} {dss : List (List PyData)} {d : PyData} {u v : Int} {eu ev : Expr} {p1 p2 : Pos} {S : Src} (hd : δ[i]? = some (some (.ll dss))) (hv : PE X (.Name x p1) (tVar i)) (hu : EE X sa δ S eu (.p (.int u)) S) (hvv : EE X sa δ S ev (.p (.int v)) S) (hj : InB2 dss u v)
    (hpu : PlainIx eu := by exact fun _ _ => rfl)
    (hpg : ∀ {to ti : TE} {t : TSet}, PE X (.Subscript (.Name x p1) eu p2) to → PE X ev ti → PSet X t → PG X (.Subscript (.Subscript (.Name x p1) eu p2) ev p) (gSub to ti t)) :
    PG X (.Subscript (.Subscript (.Name x p1) eu p2) ev p) (tRow X.K sa δ S i dss d u v) :=
  pg_imp (hpg (pe_ix ix_list hv hu hpu) hvv set_list) fun w σ H Q ⟨B, ok, hw, hpw, k⟩ => by
    obtain ⟨l, bs, h1, h2, h3, h4, h5, h6⟩ := rows_at ok hd
    refine ⟨_, h1, B, ok, fun z H1 B1 ok1 e1 b1 r1 => ?_⟩
    obtain rfl : B1 = H1 := b1
    obtain rfl := dpi r1
    have al := h6 l List.mem_cons_self
    have g2 := e1.cell l _ h2 al
    obtain ⟨j, j1, j2⟩ := ixN_some hj.1
    have r3 : RowsAt X.K B1 bs dss := h3.mono e1.tup fun b m => by
      obtain ⟨vs, q⟩ := h3.cell b m
      rw [q]; exact e1.cell b _ q (h6 b (List.mem_cons_of_mem _ m))
    have hds : dss[j]? = some dss[j] := List.getElem?_eq_getElem j2
    obtain ⟨b, hb, ds2⟩ := r3.get hds
    refine ⟨l, bs.map .ref, u, .ref b, rfl, rfl, .of g2, ?_, B, ok1, fun z2 H2 B2 ok2 e2 b2 r2 => ?_⟩
    · unfold L2.atI
      rw [List.length_map, r3.length, j1]
      show (bs.map V.ref)[j]? = _
      rw [List.getElem?_map, hb]; rfl
    obtain rfl : B2 = H2 := b2
    obtain rfl := dpi r2
    have ab := h6 b (List.mem_cons_of_mem _ (List.mem_of_getElem? hb))
    obtain ⟨vs, q1, q2, q3, q4⟩ := ds2
    have hat : L2.atI dss u = some dss[j] := by unfold L2.atI; rw [j1]; exact hds
    obtain ⟨jj, k1, k2⟩ := ixN_some (hj.2 _ hat)
    refine ⟨b, vs, v, jj, rfl, rfl, e2.cell b _ q1 ab, by rw [q2.length]; exact k1, ?_⟩
    have es : setAt2 dss u v d = dss.set j (dss[j].set jj d) := by
      unfold setAt2
      rw [j1]
      show dss.set j (setAt (dss.getD j []) v d) = _
      have eg : dss.getD j [] = dss[j] := by rw [List.getD_eq_getElem?_getD, hds]; rfl
      rw [eg]
      unfold setAt
      rw [k1]
    have tx : TupX H B2 := e1.tup.trans e2.tup
    refine k _ ?_ (tx.trans (tupX_upd (.inr ⟨vs, e2.cell b _ q1 ab⟩)))
    rw [es]
    exact ok2.writeRow hd h1 (e2.cell l _ g2 al) hb (DpAll.set (tx.dp _ _ hpw hw) jj (e2.tup.dpAll _ _ q3 q2)) (q3.set hpw jj) (by rw [List.length_set]; exact q4)
/-- rows[u][v] = e -/
theorem sb_store2 {i : Nat} {tge : Expr} {dss : List (List PyData)} {d : PyData} {u v : Int} {p3 : Pos} (ht : PG X tge (tRow X.K sa δ S1 i dss d u v)) (he : EE X sa δ S e (.p d) S1)
    (hr : SB X sa (δ.set i (some (.ll (setAt2 dss u v d)))) S1 rest W) (hps : ∀ {te : TE} {g : TG}, PE X e te → PG X tge g → PS X (.Assign [tge] e p3) (tAsg te g)) : SB X sa δ S (.Assign [tge] e p3 :: rest) W :=
  sb_seq (hps he ht) hr fun D σ H B ok k => ⟨B, ok, fun w H1 B1 ok1 e1 b1 r1 => by
    obtain rfl : B1 = H1 := b1
    exact ⟨B, ok1, r1.2.1, r1.2.2, fun H' ok' _ => k B σ H' (.refl _ _) ok'⟩⟩
end
end L2.Ev

set_option Elab.async false
set_option linter.all false
set_option maxRecDepth 100000
/-! Ev8: enumerate, zip of lists and tuples in any mix. -/
namespace PySem
open Sem (wp)
set_option maxHeartbeats 2000000 in
theorem evMeetsEnum {v : Value} {o : Obj} {H : Heap → Prop} (B : Begins v o H) :
    Meets (Builtin.«enumerate.__new__» ⟨[.type "enumerate", v], []⟩) (fun _ R s => H s.heap ∧
      R (.ok (.ret (.ref (s.heap.push o).objs.size))) { s with heap := (s.heap.push o).push { cls := .type "enumerate", data := .fields #[.none, .bool false, .ref s.heap.objs.size, rawInt 0, .none, .none] } }) :=
  .of_wp fun prog w A R s h => by
    obtain ⟨hp, g, d, tk, os⟩ := s
    obtain ⟨h1, h⟩ := h
    have hsub := sub_enumerate
    have q1 : ∀ {A' : Around} {E : Value → Shared → Prop} {Q : Value → Shared → Prop}, Q (.ref hp.objs.size) ⟨hp.push o, g, d, tk, os⟩ → wpAny (model prog w) A' (pyIter v) Q E ⟨hp, g, d, tk, os⟩ :=
      fun q => B.iter prog w _ _ ⟨hp, g, d, tk, os⟩ _ h1 q
    wp_walk using q1
    first
      | exact ⟨_, rfl, h⟩
      | (refine wpAny_stack_any fun st => wpAny_pure ?_
         split
         · rename_i c _ _ _ _ _
           cases (c == Value.type "enumerate")
           · wp_walk using q1
             exact ⟨_, rfl, h⟩
           · wp_walk using q1
             exact ⟨_, rfl, h⟩
         · wp_walk using q1
           exact ⟨_, rfl, h⟩)
section
variable {prog : Program} {w : World} {A : Around} {E : Value → Shared → Prop} {s : Shared}
theorem evEnumBegins {v : Value} {o : Obj} {H : Heap → Prop} {Q : Value → Shared → Prop} (B : Begins v o H) (h1 : H s.heap)
    (h : ∀ h', IsEnum h' (s.heap.objs.size + 1) s.heap.objs.size 0 .none → h'.get? s.heap.objs.size = some o → (∀ b ob, s.heap.get? b = some ob → h'.get? b = some ob) → Q (.ref (s.heap.objs.size + 1)) { s with heap := h' }) :
    wpAny (model prog w) A (call (.type "enumerate") [v]) Q E s := by
  refine callType_new F.called_enumerate (by decide) (F.typeCall_enumerate_1 _) (F.newCall_enumerate_1 _) (fun obj => F.args_object_init_2 obj _) F.entry_enumerate_new (evMeetsEnum B) ⟨h1, ?_⟩
  have hz : (s.heap.push o).objs.size = s.heap.objs.size + 1 := Heap.size_push ..
  show _ ∧ _
  rw [hz]
  have he : IsEnum ((s.heap.push o).push { cls := .type "enumerate", data := .fields #[.none, .bool false, .ref s.heap.objs.size, rawInt 0, .none, .none] }) (s.heap.objs.size + 1) s.heap.objs.size 0 .none := by
    have g := Heap.get?_push_size (s.heap.push o) (o := { cls := .type "enumerate", data := .fields #[.none, .bool false, .ref s.heap.objs.size, rawInt 0, .none, .none] }) rfl
    rw [hz] at g
    exact g
  exact ⟨⟨_, he, rfl⟩, h _ he (Heap.get?_push_of_some _ (Heap.get?_push_size _ B.free)) fun b ob x => Heap.get?_push_of_some _ (Heap.get?_push_of_some _ x)⟩
end
end PySem
namespace L2.Ev
open PySem PySem.Spec PyProof.Rows

/-- a list or a tuple that is walked, in a base -/
inductive SrcV (K : PySem.W.Frag) (sa : SA) (B : Hp) (l : Addr) (vs : List V) : Prop where
  | lst (h : SqL K B l vs) (w : Away sa l)
  | tup (h : SqT K B l vs)
/-- its object, its iterator's state -/
def SrcO (ty : Bool) (h : Heap) (l : Addr) (its : Array Value) : Prop := if ty = true then h.IsTuple l its else h.IsList l its
def SrcI (ty : Bool) (h : Heap) (it l : Addr) (i : Nat) : Prop := if ty = true then h.IsTupleIter it l i else h.IsListIter it l i
def srcIt (ty : Bool) (l : Addr) : Obj := if ty = true then { cls := .type "tuple_iterator", data := .fields #[.ref l, .int 0 0] } else { cls := .type "list_iterator", data := .fields #[.ref l, .int 0 0] }
theorem src_draws {prog : Program} {w : World} {A : Around} (ty : Bool) (hh : A.handled = none) (it l : Addr) (hne : l ≠ it) (items : Array Value) : Draws prog w A it [it, l] items.size (fun i v => items[i]? = some v) (fun i h => SrcI ty h it l i ∧ SrcO ty h l items) := by
  cases ty with
  | true => exact Draws.tuple hh it l hne items
  | false => exact Draws.list hh it l hne items
theorem src_begins (ty : Bool) (l : Addr) (items : Array Value) : Begins (.ref l) (srcIt ty l) fun h => SrcO ty h l items := by
  cases ty with
  | true => exact begins_tuple l items
  | false => exact begins_list l items
theorem src_iter0 {ty : Bool} {h : Heap} {it l : Addr} (e : h.get? it = some (srcIt ty l)) : SrcI ty h it l 0 := by
  cases ty with
  | true => exact ⟨_, e, rfl, rfl⟩
  | false => exact ⟨_, e, rfl, rfl⟩
theorem src_iterObj {ty : Bool} {h : Heap} {it l : Addr} {i : Nat} (e : SrcI ty h it l i) : ∃ o, h.get? it = some o ∧ ∀ v, o.data ≠ .cell v := by
  cases ty with
  | true => obtain ⟨o, h1, _, h2⟩ := e; exact ⟨o, h1, fun v z => by rw [h2] at z; cases z⟩
  | false => obtain ⟨o, h1, _, h2⟩ := e; exact ⟨o, h1, fun v z => by rw [h2] at z; cases z⟩
theorem src_iterAt {ty : Bool} {h h' : Heap} {it l : Addr} {i : Nat} (e : SrcI ty h it l i) (k : ∀ o, h.get? it = some o → h'.get? it = some o) : SrcI ty h' it l i := by
  cases ty with
  | true => obtain ⟨o, h1, h2⟩ := e; exact ⟨o, k o h1, h2⟩
  | false => obtain ⟨o, h1, h2⟩ := e; exact ⟨o, k o h1, h2⟩
/-- told by the kind: the base's own row -/
def SrcB (ty : Bool) (K : PySem.W.Frag) (sa : SA) (B : Hp) (l : Addr) (vs : List V) : Prop := if ty = true then SqT K B l vs else SqL K B l vs ∧ Away sa l
section
variable {X : Cx} {sa : SA} {K : PySem.W.Frag} {B H : Hp} {σ : L2.St} {s : Shared} {pins : List (Addr × Obj)} {ty : Bool} {l : Addr} {vs : List V}
theorem SrcB.ext (h : SrcB ty K sa B l vs) (e : Ext sa B H) : SrcB ty K sa H l vs := by
  cases ty with
  | true => exact e.tup.sqt h
  | false => exact ⟨e.sql h.2 h.1, h.2⟩
theorem SrcB.obj (I : Inv X pins σ H s) (h : SrcB ty X.K sa H l vs) : ∃ us : List Value, Vals vs us ∧ SrcO ty s.heap l us.toArray := by
  cases ty with
  | true =>
    obtain ⟨us, r, t, _⟩ := I.tuple h
    exact ⟨us, r, t⟩
  | false =>
    obtain ⟨us, r, t, _⟩ := I.list h.1
    exact ⟨us, r, t.isList⟩
theorem SrcO.lt {h : Heap} {its : Array Value} (e : SrcO ty h l its) : l < h.objs.size := by
  cases ty with
  | true => obtain ⟨o, h1, _⟩ := e; exact Heap.lt_size h1
  | false => obtain ⟨o, h1, _⟩ := e; exact Heap.lt_size h1
end
/-- new tuples by rows of values -/
def Jn (sa : SA) (B : Hp) (rows : List (List V)) : It :=
  ⟨fun i H => Ext sa B H ∧ i < rows.length, fun i H x H' => ∃ T r, rows[i]? = some r ∧ x = .ref T ∧ H T = none ∧ H' = upd H T (.tup r), fun i H => Ext sa B H ∧ rows.length = i⟩
theorem turn_gn {P : Program} {w : World} {K : PySem.W.Frag} {elts : List Expr} {kk : Nat} {tpos : Pos} {sa : SA} {B : Hp} {rows : List (List V)} {fp wr : List Addr} {it : Addr} {tn : Nat → Heap → Prop}
    (mem : it ∈ fp) (wrf : ∀ b ∈ wr, b ∈ fp) (short : ∀ r ∈ rows, r.length ≤ 100) (obj : ∀ i h, tn i h → ∀ b ∈ fp, ∃ o, h.get? b = some o ∧ ∀ v, o.data ≠ .cell v)
    (keep : ∀ i h h', tn i h → (∀ b ∈ fp, ∀ o, h.get? b = some o → h'.get? b = some o) → tn i h')
    (self : ∀ (A : Around) (i : Nat) (s : Shared) (Q : Value → Shared → Prop) (E : Value → Shared → Prop), tn i s.heap → Q (.ref it) s → wpAny (model P w) A (pyIter (.ref it)) Q E s)
    (go : ∀ (X : Cx), X.prog = P → X.w = w → X.K = K → X.A.handled = none → ∀ (i : Nat) (pins : List (Addr × Obj)) (s : Shared) (σ : L2.St) (H : Hp), Inv X pins σ H s → Ext sa B H → tn i s.heap →
      ∃ (fpx : List Addr) (n : Nat) (Y : Nat → Heap → Value → Heap → Prop) (St : Nat → Heap → Prop), GoesN P w X.A (.Tuple elts kk tpos) it fpx wr n Y St ∧ n = rows.length ∧ St i s.heap ∧ (∀ h', St (i + 1) h' → tn (i + 1) h') ∧
        ∀ v h', Y i s.heap v h' → ∃ T r us, v = .ref T ∧ s.heap.objs.size ≤ T ∧ rows[i]? = some r ∧ Vals r us ∧ h'.IsTuple T us.toArray) :
    Turn P w K (.Tuple elts kk tpos) (Jn sa B rows) fp it tn where
  mem := mem
  obj := obj
  keep := keep
  item := by
    intro X hP hw hK hc i pins s σ H E I hf st hg
    subst hP hw hK
    obtain ⟨he, hi⟩ := hg
    obtain ⟨fpx, n, Y, St, G, hn, hSt, hSt', hY⟩ := go X rfl rfl rfl (I.ok.hd hc) i pins s σ H I he st
    subst hn
    refine wpAny_mono (G.goes i s (fun v s2 => ∃ x H', Inv X pins σ H' s2 ∧ RelV x v ∧ (Jn sa B rows).yld i H x H' ∧ tn (i + 1) s2.heap ∧ ∀ b ∈ fp, H' b = none) E hi hSt fun v h' tk y st' hk htk => ?_) (fun r s1 h => h) fun _ _ z => z
    obtain ⟨T, r, us, rfl, hT, hr, hv, htup⟩ := hY v h' y
    have short' : r.length ≤ sizeLine := by
      have := short r (List.mem_of_getElem? hr)
      rw [sizeLine_eq]; omega
    have I2 : Inv X pins σ (upd H T (.tup r)) { s with heap := h', toks := tk } := I.turnedNew (ch := wr) (fun b o hb e => hk b o hb e) (fun b hb => hf b (wrf b hb)) hT ⟨short', us, hv, htup⟩
    refine ⟨.ref T, _, I2, rfl, ⟨T, r, hr, rfl, I.hok.fresh hT, rfl⟩, hSt' _ st', fun b hb => ?_⟩
    obtain ⟨o, e, _⟩ := obj i _ st b hb
    rw [upd_ne (Nat.ne_of_lt (Nat.lt_of_lt_of_le (Heap.lt_size e) hT))]
    exact (hf b hb).1
  done := by
    intro X hP hw hK hc i pins s σ H E I hf st hg
    subst hP hw hK
    obtain ⟨he, hi⟩ := hg
    obtain ⟨fpx, n, Y, St, G, hn, hSt, hSt', hY⟩ := go X rfl rfl rfl (I.ok.hd hc) i pins s σ H I he st
    rw [← hi, ← hn] at hSt
    exact G.stops s (fun s1 => Inv X pins σ H s1) E hSt fun h' tk hk htk => I.turnedL (ch := wr) (fun b o hb e => hk b o hb e) fun b hb => hf b (wrf b hb)
  self := self
theorem fp_ok {X : Cx} {pins : List (Addr × Obj)} {σ : L2.St} {H : Hp} {s : Shared} {n : Nat} (I : Inv X pins σ H s) : ∀ b, s.heap.objs.size ≤ b → FpOk X pins H b := fun b h => I.fpOk h (I.hok.fresh h)
theorem natE {N b : Nat} (h : b = N + 1 ∨ b = N) : N ≤ b := by omega
theorem natZ {N b : Nat} (h : b = N + 4 ∨ b = N + 2 ∨ b = N + 3 ∨ b = N ∨ b = N + 1) : N ≤ b := by omega
theorem natZ3 {N b : Nat} (h : b = N + 5 ∨ b = N + 3 ∨ b = N + 4 ∨ b = N ∨ b = N + 1 ∨ b = N + 2) : N ≤ b := by omega
theorem natZw {N b : Nat} (h : b = N + 4 ∨ b = N + 3 ∨ b = N ∨ b = N + 1) : b = N + 4 ∨ b = N + 2 ∨ b = N + 3 ∨ b = N ∨ b = N + 1 := by omega
theorem natZ3w {N b : Nat} (h : b = N + 5 ∨ b = N + 4 ∨ b = N ∨ b = N + 1 ∨ b = N + 2) : b = N + 5 ∨ b = N + 3 ∨ b = N + 4 ∨ b = N ∨ b = N + 1 ∨ b = N + 2 := by omega
theorem natNe {N l : Nat} (h : l < N) : ¬ (N + 1 = N) ∧ ¬ (N + 1 = l) := by omega
/-! ### enumerate -/
def enumRows (xs : List V) : List (List V) := xs.mapIdx fun i x => [.int i, x]
def tnE (ty : Bool) (e it l : Addr) (i : Nat) (h : Heap) : Prop := (∃ old, IsEnum h e it (0 + (i : Int)) old) ∧ SrcI ty h it l i
theorem turn_enumG {P : Program} {w : World} {K : PySem.W.Frag} {elts : List Expr} {kk : Nat} {tpos : Pos} {sa : SA} {B : Hp} {ty : Bool} {l N : Addr} {xs : List V} (hs : SrcB ty K sa B l xs) (hl : l < N) :
    Turn P w K (.Tuple elts kk tpos) (Jn sa B (enumRows xs)) [N + 1, N] (N + 1) (tnE ty (N + 1) N l) := by
  refine turn_gn (wr := [N + 1, N]) (by simp) (fun b hb => hb) (fun r hr => ?_) (fun i h st b hb => ?_) (fun i h h' st k => ?_) (fun A i s Q E st q => ?_) fun X hP hw hK hc i pins s σ H I he st => ?_
  · unfold enumRows at hr
    obtain ⟨j, x, rfl⟩ := List.mem_mapIdx.mp hr
    simp
  · obtain ⟨⟨old, h1⟩, h2⟩ := st
    have hb : b = N + 1 ∨ b = N := by simpa using hb
    rcases hb with rfl | rfl
    · exact ⟨_, h1, fun v z => by have z' : Data.fields _ = Data.cell v := z; cases z'⟩
    · exact src_iterObj h2
  · obtain ⟨⟨old, h1⟩, h2⟩ := st
    exact ⟨⟨old, k (N + 1) (by simp) _ h1⟩, src_iterAt h2 fun o e => k N (by simp) o e⟩
  · obtain ⟨⟨old, h1⟩, h2⟩ := st
    exact wpAny_pyIter_enum h1 q
  · subst hP hw hK
    obtain ⟨us, rv, ho⟩ := (hs.ext he).obj I
    refine ⟨_, _, _, _, GoesN.enumFrom 0 (src_draws ty (A := X.A.in1) hc N l (Nat.ne_of_lt hl) us.toArray) (N + 1) (Nat.succ_ne_self _) (by simp only [List.mem_cons, List.not_mem_nil, or_false, not_or]; exact natNe hl) (by simp), ?_, ⟨st.1, st.2, ho⟩, fun h' q => ⟨q.1, q.2.1⟩, fun v h' q => ?_⟩
    · rw [List.size_toArray, ← rv.length]
      unfold enumRows
      rw [List.length_mapIdx]
    · obtain ⟨T, t, x, rfl, hT, hx, htup⟩ := q
      have hx' : us[i]? = some x := by simpa using hx
      have hlt : i < xs.length := by rw [rv.length]; exact (List.getElem?_eq_some_iff.mp hx').1
      obtain ⟨u, hu, ru⟩ := rv.get (List.getElem?_eq_getElem hlt)
      rw [hx'] at hu
      cases hu
      refine ⟨T, [.int i, xs[i]], [.int (0 + (i : Int)) t, x], rfl, hT, ?_, .cons ⟨t, by rw [Int.zero_add]⟩ (.cons ru .nil), htup⟩
      unfold enumRows
      rw [List.getElem?_mapIdx, List.getElem?_eq_getElem hlt]; rfl
def iEnumG (K : PySem.W.Frag) (sa : SA) (ta : TA) : TI := fun σ H R => ta σ H fun vs H1 => ∃ B ty l xs, vs = [.ref l] ∧ SrcB ty K sa B l xs ∧ Ext sa B H1 ∧ R (Jn sa B (enumRows xs)) H1
theorem pi_enumG {X : Cx} {sa : SA} {e : Expr} {ta : TA} {p pos tpos : Pos} {elts : List Expr} {kk : Nat} (hg : Gl X "enumerate") (hm : X.mg "enumerate" = none) (ha : PA X [e] ta) (hs : starEach [e] X.env = [(false, eval e X.env)] := by rfl) :
    PI X (.Tuple elts kk tpos) (.Call (.Name "enumerate" p) [e] [] pos) (iEnumG X.K sa ta) := by
  refine ⟨fun pins s σ H R I h => Call_ (ld_blt I hg hm PyProof.Rows.boot_enumerate (PyProof.Rows.callWith_type1 (thn (ha.run pos pins s σ H _ I h) fun us s1 hh => ?_) hs rfl))⟩
  obtain ⟨vs, H1, I1, r1, B, ty, l, xs, rfl, hsrc, he, q⟩ := hh
  rw [Vals.ref1 r1]
  obtain ⟨us, rv, ho⟩ := (hsrc.ext he).obj I1
  have hlt : l < s1.heap.objs.size := SrcO.lt ho
  refine evEnumBegins (src_begins ty l us.toArray) ho fun h' h1 h2 hk => wpAny_pyIter_enum h1 ⟨_, [s1.heap.objs.size + 1, s1.heap.objs.size], _, _, H1, rfl, I1.kept (t' := s1.toks) hk, turn_enumG hsrc hlt, ⟨⟨_, h1⟩, src_iter0 h2⟩, fun b hb => ?_, q⟩
  have hb' : b = s1.heap.objs.size + 1 ∨ b = s1.heap.objs.size := by simpa using hb
  exact fp_ok (n := 0) I1 b (natE hb')

/-! ### zip of two -/
def zipRows (xs ys : List V) : List (List V) := List.zipWith (fun x y => [x, y]) xs ys
def tnZ (ty1 ty2 : Bool) (N l1 l2 : Addr) (i : Nat) (h : Heap) : Prop := IsZip h (N + 4) (N + 2) (N + 3) .none ∧ IsTupOf2 h (N + 2) (.ref N) (.ref (N + 1)) ∧ (∃ a1 a2, IsTupOf2 h (N + 3) a1 a2) ∧ SrcI ty1 h N l1 i ∧ SrcI ty2 h (N + 1) l2 i
theorem turn_zipG {P : Program} {w : World} {K : PySem.W.Frag} {elts : List Expr} {kk : Nat} {tpos : Pos} {sa : SA} {B : Hp} {ty1 ty2 : Bool} {l1 l2 N : Addr} {xs ys : List V} (hs1 : SrcB ty1 K sa B l1 xs) (hs2 : SrcB ty2 K sa B l2 ys) (hl1 : l1 < N) (hl2 : l2 < N) :
    Turn P w K (.Tuple elts kk tpos) (Jn sa B (zipRows xs ys)) [N + 4, N + 2, N + 3, N, N + 1] (N + 4) (tnZ ty1 ty2 N l1 l2) := by
  refine turn_gn (wr := [N + 4, N + 3, N, N + 1]) (by simp) (fun b hb => ?_) (fun r hr => ?_) (fun i h st b hb => ?_) (fun i h h' st k => ?_) (fun A i s Q E st q => ?_) fun X hP hw hK hc i pins s σ H I he st => ?_
  · simp only [List.mem_cons, List.not_mem_nil, or_false] at hb ⊢
    exact natZw hb
  · unfold zipRows at hr
    obtain ⟨j, hj⟩ := List.getElem?_of_mem hr
    rw [List.getElem?_zipWith] at hj
    split at hj
    · cases hj; simp
    · cases hj
  · obtain ⟨h1, h2, ⟨a1, a2, h3⟩, h4, h5⟩ := st
    have hb : b = N + 4 ∨ b = N + 2 ∨ b = N + 3 ∨ b = N ∨ b = N + 1 := by simpa using hb
    rcases hb with rfl | rfl | rfl | rfl | rfl
    · exact ⟨_, h1, fun v z => by have z' : Data.fields _ = Data.cell v := z; cases z'⟩
    · exact ⟨_, h2, fun v z => by have z' : Data.seq _ _ = Data.cell v := z; cases z'⟩
    · exact ⟨_, h3, fun v z => by have z' : Data.seq _ _ = Data.cell v := z; cases z'⟩
    · exact src_iterObj h4
    · exact src_iterObj h5
  · obtain ⟨h1, h2, ⟨a1, a2, h3⟩, h4, h5⟩ := st
    exact ⟨k _ (by simp) _ h1, k _ (by simp) _ h2, ⟨a1, a2, k _ (by simp) _ h3⟩, src_iterAt h4 fun o e => k _ (by simp) o e, src_iterAt h5 fun o e => k _ (by simp) o e⟩
  · exact wpAny_pyIter_zip st.1 q
  · subst hP hw hK
    obtain ⟨us, rv, ho⟩ := (hs1.ext he).obj I
    obtain ⟨ws, rw', ho2⟩ := (hs2.ext he).obj I
    refine ⟨_, _, _, _, GoesN.zip2 (zip_sep2 (N := N) (fp1 := [l1]) (fp2 := [l2]) (by simpa using hl1) (by simpa using hl2)) (src_draws ty1 (A := X.A.in1) hc N l1 (Nat.ne_of_lt hl1) us.toArray) (src_draws ty2 (A := X.A.in1) hc (N + 1) l2 (Nat.ne_of_lt (Nat.lt_succ_of_lt hl2)) ws.toArray), ?_, ⟨st.1, st.2.1, st.2.2.1, ⟨st.2.2.2.1, ho⟩, ⟨st.2.2.2.2, ho2⟩⟩, fun h' q => ⟨q.1, q.2.1, q.2.2.1, q.2.2.2.1.1, q.2.2.2.2.1⟩, fun v h' q => ?_⟩
    · rw [List.size_toArray, List.size_toArray, ← rv.length, ← rw'.length]
      unfold zipRows
      rw [List.length_zipWith]
    · obtain ⟨T, x, y, rfl, hT, hx, hy, htup⟩ := q
      have hx' : us[i]? = some x := by simpa using hx
      have hy' : ws[i]? = some y := by simpa using hy
      have lx : i < xs.length := by rw [rv.length]; exact (List.getElem?_eq_some_iff.mp hx').1
      have ly : i < ys.length := by rw [rw'.length]; exact (List.getElem?_eq_some_iff.mp hy').1
      obtain ⟨u, hu, ru⟩ := rv.get (List.getElem?_eq_getElem lx)
      obtain ⟨u2, hu2, ru2⟩ := rw'.get (List.getElem?_eq_getElem ly)
      rw [hx'] at hu; cases hu
      rw [hy'] at hu2; cases hu2
      refine ⟨T, [xs[i], ys[i]], [x, y], rfl, hT, ?_, .cons ru (.cons ru2 .nil), htup⟩
      unfold zipRows
      rw [List.getElem?_zipWith, List.getElem?_eq_getElem lx, List.getElem?_eq_getElem ly]
def iZipG (K : PySem.W.Frag) (sa : SA) (ta : TA) : TI := fun σ H R => ta σ H fun vs H1 => ∃ B ty1 l1 xs ty2 l2 ys, vs = [.ref l1, .ref l2] ∧ SrcB ty1 K sa B l1 xs ∧ SrcB ty2 K sa B l2 ys ∧ Ext sa B H1 ∧ R (Jn sa B (zipRows xs ys)) H1
theorem pi_zipG {X : Cx} {sa : SA} {e e2 : Expr} {ta : TA} {p pos tpos : Pos} {elts : List Expr} {kk : Nat} (hg : Gl X "zip") (hm : X.mg "zip" = none) (ha : PA X [e, e2] ta)
    (hs : starEach [e, e2] X.env = (false, eval e X.env) :: starEach [e2] X.env := by rfl) (hpl : (backTo pos (starEach [e2] X.env)).any (·.1) = false := by rfl) :
    PI X (.Tuple elts kk tpos) (.Call (.Name "zip" p) [e, e2] [] pos) (iZipG X.K sa ta) := by
  refine ⟨fun pins s σ H R I h => Call_ (ld_blt I hg hm PyProof.Rows.boot_zip (PyProof.Rows.callWith_type1 (thn (ha.run pos pins s σ H _ I h) fun us s1 hh => ?_) hs hpl))⟩
  obtain ⟨vs, H1, I1, r1, B, ty1, l1, xs, ty2, l2, ys, rfl, hs1, hs2, he, q⟩ := hh
  obtain ⟨u1, u2, rfl, ru1, ru2⟩ := Vals.two r1
  cases ru1
  cases ru2
  obtain ⟨us, rv, ho⟩ := (hs1.ext he).obj I1
  obtain ⟨ws, rw', ho2⟩ := (hs2.ext he).obj I1
  refine zip_begins2 (src_begins ty1 l1 us.toArray) (src_begins ty2 l2 ws.toArray) ho ho2 fun h' h1 h2 h3 h4 h5 hsz hk => wpAny_pyIter_zip h1 ⟨_, [s1.heap.objs.size + 4, s1.heap.objs.size + 2, s1.heap.objs.size + 3, s1.heap.objs.size, s1.heap.objs.size + 1], _, _, H1, rfl, I1.kept (t' := s1.toks) hk,
    turn_zipG hs1 hs2 (SrcO.lt ho) (SrcO.lt ho2), ⟨h1, h2, ⟨_, _, h3⟩, src_iter0 h4, src_iter0 h5⟩, fun b hb => ?_, q⟩
  simp only [List.mem_cons, List.not_mem_nil, or_false] at hb
  exact fp_ok (n := 0) I1 b (natZ hb)

/-! ### zip of three -/
def zipRows3 (xs ys zs : List V) : List (List V) := List.zipWith (fun (q : V × V) z => [q.1, q.2, z]) (List.zip xs ys) zs
def tnZ3 (ty1 ty2 ty3 : Bool) (N l1 l2 l3 : Addr) (i : Nat) (h : Heap) : Prop := IsZip h (N + 5) (N + 3) (N + 4) .none ∧ IsTupOf3 h (N + 3) (.ref N) (.ref (N + 1)) (.ref (N + 2)) ∧ (∃ a1 a2 a3, IsTupOf3 h (N + 4) a1 a2 a3) ∧ SrcI ty1 h N l1 i ∧ SrcI ty2 h (N + 1) l2 i ∧ SrcI ty3 h (N + 2) l3 i
theorem turn_zipG3 {P : Program} {w : World} {K : PySem.W.Frag} {elts : List Expr} {kk : Nat} {tpos : Pos} {sa : SA} {B : Hp} {ty1 ty2 ty3 : Bool} {l1 l2 l3 N : Addr} {xs ys zs : List V} (hs1 : SrcB ty1 K sa B l1 xs) (hs2 : SrcB ty2 K sa B l2 ys) (hs3 : SrcB ty3 K sa B l3 zs) (hl1 : l1 < N) (hl2 : l2 < N) (hl3 : l3 < N) :
    Turn P w K (.Tuple elts kk tpos) (Jn sa B (zipRows3 xs ys zs)) [N + 5, N + 3, N + 4, N, N + 1, N + 2] (N + 5) (tnZ3 ty1 ty2 ty3 N l1 l2 l3) := by
  refine turn_gn (wr := [N + 5, N + 4, N, N + 1, N + 2]) (by simp) (fun b hb => ?_) (fun r hr => ?_) (fun i h st b hb => ?_) (fun i h h' st k => ?_) (fun A i s Q E st q => ?_) fun X hP hw hK hc i pins s σ H I he st => ?_
  · simp only [List.mem_cons, List.not_mem_nil, or_false] at hb ⊢
    exact natZ3w hb
  · unfold zipRows3 at hr
    obtain ⟨j, hj⟩ := List.getElem?_of_mem hr
    rw [List.getElem?_zipWith] at hj
    split at hj
    · cases hj; simp
    · cases hj
  · obtain ⟨h1, h2, ⟨a1, a2, a3, h3⟩, h4, h5, h6⟩ := st
    have hb : b = N + 5 ∨ b = N + 3 ∨ b = N + 4 ∨ b = N ∨ b = N + 1 ∨ b = N + 2 := by simpa using hb
    rcases hb with rfl | rfl | rfl | rfl | rfl | rfl
    · exact ⟨_, h1, fun v z => by have z' : Data.fields _ = Data.cell v := z; cases z'⟩
    · exact ⟨_, h2, fun v z => by have z' : Data.seq _ _ = Data.cell v := z; cases z'⟩
    · exact ⟨_, h3, fun v z => by have z' : Data.seq _ _ = Data.cell v := z; cases z'⟩
    · exact src_iterObj h4
    · exact src_iterObj h5
    · exact src_iterObj h6
  · obtain ⟨h1, h2, ⟨a1, a2, a3, h3⟩, h4, h5, h6⟩ := st
    exact ⟨k _ (by simp) _ h1, k _ (by simp) _ h2, ⟨a1, a2, a3, k _ (by simp) _ h3⟩, src_iterAt h4 fun o e => k _ (by simp) o e, src_iterAt h5 fun o e => k _ (by simp) o e, src_iterAt h6 fun o e => k _ (by simp) o e⟩
  · exact wpAny_pyIter_zip st.1 q
  · subst hP hw hK
    obtain ⟨us, rv, ho⟩ := (hs1.ext he).obj I
    obtain ⟨ws, rw', ho2⟩ := (hs2.ext he).obj I
    obtain ⟨ts, rt', ho3⟩ := (hs3.ext he).obj I
    refine ⟨_, _, _, _, GoesN.zip3 (zip_sep3 (N := N) (fp1 := [l1]) (fp2 := [l2]) (fp3 := [l3]) (by simpa using hl1) (by simpa using hl2) (by simpa using hl3)) (src_draws ty1 (A := X.A.in1) hc N l1 (Nat.ne_of_lt hl1) us.toArray)
      (src_draws ty2 (A := X.A.in1) hc (N + 1) l2 (Nat.ne_of_lt (Nat.lt_succ_of_lt hl2)) ws.toArray) (src_draws ty3 (A := X.A.in1) hc (N + 2) l3 (Nat.ne_of_lt (Nat.lt_succ_of_lt (Nat.lt_succ_of_lt hl3))) ts.toArray), ?_,
      ⟨st.1, st.2.1, st.2.2.1, ⟨st.2.2.2.1, ho⟩, ⟨st.2.2.2.2.1, ho2⟩, ⟨st.2.2.2.2.2, ho3⟩⟩, fun h' q => ⟨q.1, q.2.1, q.2.2.1, q.2.2.2.1.1, q.2.2.2.2.1.1, q.2.2.2.2.2.1⟩, fun v h' q => ?_⟩
    · rw [List.size_toArray, List.size_toArray, List.size_toArray, ← rv.length, ← rw'.length, ← rt'.length]
      unfold zipRows3
      rw [List.length_zipWith, List.length_zip]
    · obtain ⟨T, x, y, z, rfl, hT, hx, hy, hz, htup⟩ := q
      have hx' : us[i]? = some x := by simpa using hx
      have hy' : ws[i]? = some y := by simpa using hy
      have hz' : ts[i]? = some z := by simpa using hz
      have lx : i < xs.length := by rw [rv.length]; exact (List.getElem?_eq_some_iff.mp hx').1
      have ly : i < ys.length := by rw [rw'.length]; exact (List.getElem?_eq_some_iff.mp hy').1
      have lz : i < zs.length := by rw [rt'.length]; exact (List.getElem?_eq_some_iff.mp hz').1
      obtain ⟨u, hu, ru⟩ := rv.get (List.getElem?_eq_getElem lx)
      obtain ⟨u2, hu2, ru2⟩ := rw'.get (List.getElem?_eq_getElem ly)
      obtain ⟨u3, hu3, ru3⟩ := rt'.get (List.getElem?_eq_getElem lz)
      rw [hx'] at hu; cases hu
      rw [hy'] at hu2; cases hu2
      rw [hz'] at hu3; cases hu3
      refine ⟨T, [xs[i], ys[i], zs[i]], [x, y, z], rfl, hT, ?_, .cons ru (.cons ru2 (.cons ru3 .nil)), htup⟩
      unfold zipRows3
      have e1 : (List.zip xs ys)[i]? = some (xs[i], ys[i]) := by
        rw [List.getElem?_zip_eq_some]
        exact ⟨List.getElem?_eq_getElem lx, List.getElem?_eq_getElem ly⟩
      rw [List.getElem?_zipWith, e1, List.getElem?_eq_getElem lz]
def iZipG3 (K : PySem.W.Frag) (sa : SA) (ta : TA) : TI := fun σ H R => ta σ H fun vs H1 => ∃ B ty1 l1 xs ty2 l2 ys ty3 l3 zs, vs = [.ref l1, .ref l2, .ref l3] ∧ SrcB ty1 K sa B l1 xs ∧ SrcB ty2 K sa B l2 ys ∧ SrcB ty3 K sa B l3 zs ∧ Ext sa B H1 ∧ R (Jn sa B (zipRows3 xs ys zs)) H1
theorem pi_zipG3 {X : Cx} {sa : SA} {e e2 e3 : Expr} {ta : TA} {p pos tpos : Pos} {elts : List Expr} {kk : Nat} (hg : Gl X "zip") (hm : X.mg "zip" = none) (ha : PA X [e, e2, e3] ta)
    (hs : starEach [e, e2, e3] X.env = (false, eval e X.env) :: starEach [e2, e3] X.env := by rfl) (hpl : (backTo pos (starEach [e2, e3] X.env)).any (·.1) = false := by rfl) :
    PI X (.Tuple elts kk tpos) (.Call (.Name "zip" p) [e, e2, e3] [] pos) (iZipG3 X.K sa ta) := by
  refine ⟨fun pins s σ H R I h => Call_ (ld_blt I hg hm PyProof.Rows.boot_zip (PyProof.Rows.callWith_type1 (thn (ha.run pos pins s σ H _ I h) fun us s1 hh => ?_) hs hpl))⟩
  obtain ⟨vs, H1, I1, r1, B, ty1, l1, xs, ty2, l2, ys, ty3, l3, zs, rfl, hs1, hs2, hs3, he, q⟩ := hh
  obtain ⟨u1, u2, u3, rfl, ru1, ru2, ru3⟩ : ∃ u1 u2 u3, us = [u1, u2, u3] ∧ RelV (.ref l1) u1 ∧ RelV (.ref l2) u2 ∧ RelV (.ref l3) u3 := by
    cases r1 with
    | cons a r =>
      obtain ⟨u, v, rfl, b, c⟩ := Vals.two r
      exact ⟨_, _, _, rfl, a, b, c⟩
  cases ru1
  cases ru2
  cases ru3
  obtain ⟨us, rv, ho⟩ := (hs1.ext he).obj I1
  obtain ⟨ws, rw', ho2⟩ := (hs2.ext he).obj I1
  obtain ⟨ts, rt', ho3⟩ := (hs3.ext he).obj I1
  refine zip_begins3 (src_begins ty1 l1 us.toArray) (src_begins ty2 l2 ws.toArray) (src_begins ty3 l3 ts.toArray) ho ho2 ho3 fun h' h1 h2 h3 h4 h5 h6 hsz hk => wpAny_pyIter_zip h1 ⟨_, [s1.heap.objs.size + 5, s1.heap.objs.size + 3, s1.heap.objs.size + 4, s1.heap.objs.size, s1.heap.objs.size + 1, s1.heap.objs.size + 2], _, _, H1, rfl, I1.kept (t' := s1.toks) hk,
    turn_zipG3 hs1 hs2 hs3 (SrcO.lt ho) (SrcO.lt ho2) (SrcO.lt ho3), ⟨h1, h2, ⟨_, _, _, h3⟩, src_iter0 h4, src_iter0 h5, src_iter0 h6⟩, fun b hb => ?_, q⟩
  simp only [List.mem_cons, List.not_mem_nil, or_false] at hb
  exact fp_ok (n := 0) I1 b (natZ3 hb)
end L2.Ev

set_option Elab.async false
set_option linter.all false
set_option maxRecDepth 100000
/-! Ev9: enumerate and zip by data; built-ins. -/
namespace L2.Ev
open PySem PySem.Spec PyProof.Rows
section
variable {X : Cx} {sa : SA} {δ δ' : Env} {S S0 S1 S2 S' : Src} {st : Bool} {e a b c d' tg iter elt e1 e2 e3 : Expr} {es : List Expr} {pos p pos' tpos : Pos} {elts : List Expr} {kk : Nat} {K : PySem.W.Frag} {B B' H H' : Hp} {σ : L2.St} {rest body : List Stmt} {W : Spec} {sm : Stmt}

/-! ### what is walked, by its items' slots -/
def Sl.items : Sl → List Sl
  | .p (.tuple ds) => ds.map .p
  | .b ds => ds.map .p
  | .bb dss => dss.map .b
  | _ => []
def Walk : Sl → Prop
  | .p (.tuple _) => True
  | .b _ => True
  | .bb _ => True
  | _ => False
theorem slsRep_pures : ∀ {ds : List PyData} {vs : List V}, DpAll K B vs ds → PuAll ds → SlsRep K sa B vs (ds.map .p)
  | _, _, .nil, _ => trivial
  | _, _, .cons r t, p => ⟨⟨rfl, r, p.1⟩, slsRep_pures t p.2⟩
theorem slsRep_rows : ∀ {vs : List V} {dss : List (List PyData)}, RowsB K sa B vs dss → SlsRep K sa B vs (dss.map .b)
  | [], [], _ => trivial
  | v :: vs, ds :: dss, h => ⟨⟨rfl, h.1⟩, slsRep_rows h.2⟩
  | [], _ :: _, h => h.elim
  | _ :: _, [], h => h.elim
theorem walk_src {v : V} {sl : Sl} (h : SlRep K sa B B v sl []) (hw : Walk sl) : ∃ ty l vs, v = .ref l ∧ SrcB ty K sa B l vs ∧ SlsRep K sa B vs sl.items ∧ sl.items.length ≤ sizeLine := by
  cases sl with
  | p d =>
    cases d with
    | tuple ds =>
      obtain ⟨l, vs, rfl, h1, h2, h3, h4⟩ := dpt h
      exact ⟨true, l, vs, rfl, h1, slsRep_pures h2 h3, by show (ds.map Sl.p).length ≤ _; rw [List.length_map]; exact h4⟩
    | none => exact hw.elim
    | bool _ => exact hw.elim
    | int _ => exact hw.elim
    | str _ => exact hw.elim
    | list _ => exact hw.elim
    | dict _ => exact hw.elim
  | b ds =>
    obtain ⟨_, l, rfl, vs, h1, h2, h3, h4, h5⟩ := h
    exact ⟨false, l, vs, rfl, ⟨h1, h2⟩, slsRep_pures h3 h4, by show (ds.map Sl.p).length ≤ _; rw [List.length_map]; exact h5⟩
  | bb dss =>
    obtain ⟨_, l, vs, rfl, h1, h2, h3, h4⟩ := h
    exact ⟨false, l, vs, rfl, ⟨h1, h2⟩, slsRep_rows h3, by show (dss.map Sl.b).length ≤ _; rw [List.length_map]; exact h4⟩
  | l _ => exact hw.elim
  | ll _ => exact hw.elim
  | src => exact hw.elim
theorem SlsRep.get2 : ∀ {vs : List V} {sls : List Sl} {i : Nat} {v : V}, SlsRep K sa B vs sls → vs[i]? = some v → ∃ sl, sls[i]? = some sl ∧ SlRep K sa B B v sl []
  | w :: vs, s :: sls, 0, v, h, e => by simp at e; subst e; exact ⟨s, rfl, h.1⟩
  | w :: vs, s :: sls, i + 1, v, h, e => SlsRep.get2 (i := i) h.2 (by simpa using e)
  | [], [], _, _, _, e => by simp at e
  | [], _ :: _, _, _, h, _ => h.elim
  | _ :: _, [], _, _, h, _ => h.elim
theorem slsR_of : ∀ {vs : List V} {sls : List Sl}, SlsRep K sa B vs sls → TupX B H → SlsR K sa B H vs sls
  | [], [], _, _ => trivial
  | v :: vs, sl :: sls, h, t => ⟨h.1.mono (.refl _ _) t (fun _ m => nomatch m), slsR_of h.2 t⟩
  | [], _ :: _, h, _ => h.elim
  | _ :: _, [], h, _ => h.elim
theorem jy_n {rows : List (List V)} {items : List Itm} (hl : rows.length = items.length) (hr : ∀ (i : Nat) (r : List V), rows[i]? = some r → ∃ sls : List Sl, items[i]? = some (Itm.tup sls) ∧ SlsRep K sa B r sls) : JY K sa B (Jn sa B rows) items := fun i H e => by
  refine ⟨fun it hi => ?_, fun hi => ⟨e, hl.trans hi⟩⟩
  have hlt : i < rows.length := by rw [hl]; exact (List.getElem?_eq_some_iff.mp hi).1
  obtain ⟨sls, h1, h2⟩ := hr i _ (List.getElem?_eq_getElem hlt)
  rw [h1] at hi
  cases hi
  refine ⟨⟨e, hlt⟩, fun x H' hy => ?_⟩
  obtain ⟨T, r, q1, rfl, q2, rfl⟩ := hy
  rw [List.getElem?_eq_getElem hlt] at q1
  cases q1
  exact ⟨same_new q2, T, _, rfl, .of upd_same, slsR_of h2 (e.tup.trans (Ext.new (sa := sa) q2).tup)⟩
theorem sls3 {v1 : List V} {sl sl2 sl3 : Sl} (h : SlsRep K sa B v1 [sl, sl2, sl3]) : ∃ v w u, v1 = [v, w, u] ∧ SlRep K sa B B v sl [] ∧ SlRep K sa B B w sl2 [] ∧ SlRep K sa B B u sl3 [] := by
  cases v1 with
  | nil => exact h.elim
  | cons v vs =>
    obtain ⟨w, u, rfl, h2, h3⟩ := sls2 h.2
    exact ⟨v, w, u, rfl, h.1, h2, h3⟩
def enumI (xs : List Sl) : List Itm := xs.mapIdx fun i sl => .tup [.p (.int i), sl]
theorem ij_enumG {sl : Sl} (hw : Walk sl) (hg : Gl X "enumerate") (hm : X.mg "enumerate" = none) (ha : EA st X sa δ S [e] [sl] S') (hs : starEach [e] X.env = [(false, eval e X.env)] := by rfl) :
    IJ st X sa δ S (.Tuple elts kk tpos) (.Call (.Name "enumerate" p) [e] [] pos) (enumI sl.items) S' := pi_imp (pi_enumG (sa := sa) hg hm ha hs) fun σ H R ⟨B, ok, k⟩ => ⟨B, ok, fun vs H1 B1 ok1 e1 b1 r1 => by
  obtain ⟨v, rfl, h1⟩ := sls1 r1
  obtain ⟨ty, l, xs, rfl, hs, hr, hz⟩ := walk_src h1 hw
  refine ⟨B1, ty, l, xs, rfl, hs, bok_ext ok1 b1, k _ H1 B1 ok1 e1 b1 (jy_n ?_ fun i r hi => ?_) ?_⟩
  · unfold enumRows enumI
    rw [List.length_mapIdx, List.length_mapIdx, hr.length]
  · unfold enumRows at hi
    rw [List.getElem?_mapIdx] at hi
    cases q : xs[i]? with
    | none => rw [q] at hi; cases hi
    | some x =>
      rw [q] at hi
      cases hi
      obtain ⟨sl', q1, q2⟩ := hr.get2 q
      refine ⟨[.p (.int i), sl'], ?_, ⟨rfl, .int _, trivial⟩, q2, trivial⟩
      unfold enumI
      rw [List.getElem?_mapIdx, q1]; rfl
  · unfold enumI
    rw [List.length_mapIdx]; exact hz⟩
def zipI (xs ys : List Sl) : List Itm := List.zipWith (fun x y => .tup [x, y]) xs ys
theorem ij_zipG {sl sl2 : Sl} (hw : Walk sl) (hw2 : Walk sl2) (hg : Gl X "zip") (hm : X.mg "zip" = none) (ha : EA st X sa δ S [e1, e2] [sl, sl2] S')
    (hs : starEach [e1, e2] X.env = (false, eval e1 X.env) :: starEach [e2] X.env := by rfl) (hpl : (backTo pos (starEach [e2] X.env)).any (·.1) = false := by rfl) :
    IJ st X sa δ S (.Tuple elts kk tpos) (.Call (.Name "zip" p) [e1, e2] [] pos) (zipI sl.items sl2.items) S' := pi_imp (pi_zipG (sa := sa) hg hm ha hs hpl) fun σ H R ⟨B, ok, k⟩ => ⟨B, ok, fun vs H1 B1 ok1 e1 b1 r1 => by
  obtain ⟨v, v2, rfl, h1, h2⟩ := sls2 r1
  obtain ⟨ty, l, xs, rfl, hs, hr, hz⟩ := walk_src h1 hw
  obtain ⟨ty2, l2, ys, rfl, hs2, hr2, hz2⟩ := walk_src h2 hw2
  refine ⟨B1, ty, l, xs, ty2, l2, ys, rfl, hs, hs2, bok_ext ok1 b1, k _ H1 B1 ok1 e1 b1 (jy_n ?_ fun i r hi => ?_) ?_⟩
  · unfold zipRows zipI
    rw [List.length_zipWith, List.length_zipWith, hr.length, hr2.length]
  · unfold zipRows at hi
    rw [List.getElem?_zipWith] at hi
    split at hi
    · rename_i x y q q'
      cases hi
      obtain ⟨s1, q1, q2⟩ := hr.get2 q
      obtain ⟨s2, q3, q4⟩ := hr2.get2 q'
      refine ⟨[s1, s2], ?_, q2, q4, trivial⟩
      unfold zipI
      rw [List.getElem?_zipWith, q1, q3]
    · cases hi
  · unfold zipI
    rw [List.length_zipWith]; exact Nat.le_trans (Nat.min_le_left _ _) hz⟩
def zipI3 (xs ys zs : List Sl) : List Itm := List.zipWith (fun (q : Sl × Sl) z => .tup [q.1, q.2, z]) (List.zip xs ys) zs
theorem ij_zipG3 {sl sl2 sl3 : Sl} (hw : Walk sl) (hw2 : Walk sl2) (hw3 : Walk sl3) (hg : Gl X "zip") (hm : X.mg "zip" = none) (ha : EA st X sa δ S [e1, e2, e3] [sl, sl2, sl3] S')
    (hs : starEach [e1, e2, e3] X.env = (false, eval e1 X.env) :: starEach [e2, e3] X.env := by rfl) (hpl : (backTo pos (starEach [e2, e3] X.env)).any (·.1) = false := by rfl) :
    IJ st X sa δ S (.Tuple elts kk tpos) (.Call (.Name "zip" p) [e1, e2, e3] [] pos) (zipI3 sl.items sl2.items sl3.items) S' := pi_imp (pi_zipG3 (sa := sa) hg hm ha hs hpl) fun σ H R ⟨B, ok, k⟩ => ⟨B, ok, fun vs H1 B1 ok1 e1 b1 r1 => by
  obtain ⟨v, v2, v3, rfl, h1, h2, h3⟩ := sls3 r1
  obtain ⟨ty, l, xs, rfl, hs, hr, hz⟩ := walk_src h1 hw
  obtain ⟨ty2, l2, ys, rfl, hs2, hr2, hz2⟩ := walk_src h2 hw2
  obtain ⟨ty3, l3, zs, rfl, hs3, hr3, hz3⟩ := walk_src h3 hw3
  refine ⟨B1, ty, l, xs, ty2, l2, ys, ty3, l3, zs, rfl, hs, hs2, hs3, bok_ext ok1 b1, k _ H1 B1 ok1 e1 b1 (jy_n ?_ fun i r hi => ?_) ?_⟩
  · unfold zipRows3 zipI3
    rw [List.length_zipWith, List.length_zipWith, List.length_zip, List.length_zip, hr.length, hr2.length, hr3.length]
  · unfold zipRows3 at hi
    rw [List.getElem?_zipWith] at hi
    split at hi
    · rename_i x y q q'
      cases hi
      obtain ⟨x1, x2⟩ := x
      obtain ⟨q5, q6⟩ := List.getElem?_zip_eq_some.mp q
      obtain ⟨s1, q1, q2⟩ := hr.get2 q5
      obtain ⟨s2, q3, q4⟩ := hr2.get2 q6
      obtain ⟨s3, q7, q8⟩ := hr3.get2 q'
      refine ⟨[s1, s2, s3], ?_, q2, q4, q8, trivial⟩
      unfold zipI3
      have e1 : (List.zip sl.items sl2.items)[i]? = some (s1, s2) := List.getElem?_zip_eq_some.mpr ⟨q1, q3⟩
      rw [List.getElem?_zipWith, e1, q7]
    · cases hi
  · unfold zipI3
    rw [List.length_zipWith, List.length_zip]; exact Nat.le_trans (Nat.min_le_left _ _) (Nat.le_trans (Nat.min_le_left _ _) hz)⟩
/-! .. typed: α a kind of items: pure data, or rows -/
/-- a walked thing of items of type α -/
class Wk (α : Type) where
  sl : α → Sl
@[reducible] def wk {α : Type} [Wk α] (x : α) : Sl := Wk.sl x
structure Wlk {α : Type} [Wk α] (s : Sl) (xs : List α) : Prop where
  walk : Walk s
  eq : s.items = xs.map wk
instance (priority := 100) wkP {α : Type} [Enc α] : Wk α := ⟨fun x => .p (enc x)⟩
/-- a row of an own or borrowed list of lists -/
structure Row (α : Type) where
  l : List α
instance {α : Type} [Enc α] : Wk (Row α) := ⟨fun x => .b (encs x.l)⟩
theorem wlk_t {α : Type} [Enc α] (xs : List α) : Wlk (.p (enc xs)) xs := ⟨trivial, by show (xs.map enc).map Sl.p = _; rw [List.map_map]; rfl⟩
theorem wlk_l {α : Type} [Enc α] (xs : List α) : Wlk (.b (encs xs)) xs := ⟨trivial, by show (xs.map enc).map Sl.p = _; rw [List.map_map]; rfl⟩
theorem wlk_r {α : Type} [Enc α] (xss : List (List α)) : Wlk (.bb (encss xss)) (xss.map (fun l => (Row.mk l : Row α))) := ⟨trivial, by show (xss.map encs).map Sl.b = _; rw [List.map_map, List.map_map]; rfl⟩
def enumL {α : Type} (xs : List α) : List (Int × α) := xs.mapIdx fun i x => ((i : Int), x)
def itP2 {α β : Type} [Wk α] [Wk β] (q : α × β) : Itm := .tup [wk q.1, wk q.2]
def itP3 {α β γ : Type} [Wk α] [Wk β] [Wk γ] (q : (α × β) × γ) : Itm := .tup [wk q.1.1, wk q.1.2, wk q.2]
theorem enumI_eq {α : Type} [Wk α] {s : Sl} {xs : List α} (h : Wlk s xs) : enumI s.items = (enumL xs).map itP2 := by
  rw [h.eq]
  unfold enumI enumL itP2
  apply List.ext_getElem?
  intro i
  rw [List.getElem?_mapIdx, List.getElem?_map, List.getElem?_map, List.getElem?_mapIdx]
  cases xs[i]? <;> rfl
theorem zipI_eq {α β : Type} [Wk α] [Wk β] {s t : Sl} {xs : List α} {ys : List β} (h : Wlk s xs) (g : Wlk t ys) : zipI s.items t.items = (List.zip xs ys).map itP2 := by
  rw [h.eq, g.eq]
  unfold zipI itP2
  rw [List.zipWith_map, List.zip_eq_zipWith, List.map_zipWith]
theorem zipI3_eq {α β γ : Type} [Wk α] [Wk β] [Wk γ] {s t u : Sl} {xs : List α} {ys : List β} {zs : List γ} (h : Wlk s xs) (g : Wlk t ys) (f : Wlk u zs) : zipI3 s.items t.items u.items = (List.zip (List.zip xs ys) zs).map itP3 := by
  rw [h.eq, g.eq, f.eq]
  unfold zipI3 itP3
  rw [List.zip_map, List.zipWith_map, List.zip_eq_zipWith (l₁ := List.zip xs ys), List.map_zipWith]
  rfl
theorem ij_enum {α : Type} [Wk α] {s : Sl} {xs : List α} (h : Wlk s xs) (hg : Gl X "enumerate") (hm : X.mg "enumerate" = none) (ha : EA st X sa δ S [e] [s] S') (hs : starEach [e] X.env = [(false, eval e X.env)] := by rfl) :
    IJ st X sa δ S (.Tuple elts kk tpos) (.Call (.Name "enumerate" p) [e] [] pos) ((enumL xs).map itP2) S' := by
  rw [← enumI_eq h]
  exact ij_enumG h.walk hg hm ha hs
theorem ij_zip {α β : Type} [Wk α] [Wk β] {s t : Sl} {xs : List α} {ys : List β} (h : Wlk s xs) (g : Wlk t ys) (hg : Gl X "zip") (hm : X.mg "zip" = none) (ha : EA st X sa δ S [e1, e2] [s, t] S')
    (hs : starEach [e1, e2] X.env = (false, eval e1 X.env) :: starEach [e2] X.env := by rfl) (hpl : (backTo pos (starEach [e2] X.env)).any (·.1) = false := by rfl) :
    IJ st X sa δ S (.Tuple elts kk tpos) (.Call (.Name "zip" p) [e1, e2] [] pos) ((List.zip xs ys).map itP2) S' := by
  rw [← zipI_eq h g]
  exact ij_zipG h.walk g.walk hg hm ha hs hpl
theorem ij_zip3 {α β γ : Type} [Wk α] [Wk β] [Wk γ] {s t u : Sl} {xs : List α} {ys : List β} {zs : List γ} (h : Wlk s xs) (g : Wlk t ys) (f : Wlk u zs) (hg : Gl X "zip") (hm : X.mg "zip" = none) (ha : EA st X sa δ S [e1, e2, e3] [s, t, u] S')
    (hs : starEach [e1, e2, e3] X.env = (false, eval e1 X.env) :: starEach [e2, e3] X.env := by rfl) (hpl : (backTo pos (starEach [e2, e3] X.env)).any (·.1) = false := by rfl) :
    IJ st X sa δ S (.Tuple elts kk tpos) (.Call (.Name "zip" p) [e1, e2, e3] [] pos) ((List.zip (List.zip xs ys) zs).map itP3) S' := by
  rw [← zipI3_eq h g f]
  exact ij_zipG3 h.walk g.walk f.walk hg hm ha hs hpl

/-! ### built-ins -/
theorem ev_cb {id : String} {x : Str} {r : List V → Hp → VK → Prop} {sls : List Sl} {w : V} {d : PyData} (hc : CallR X (.builtin id) r) (hr : ∀ vs H Q, SlsRep X.K sa H vs sls → Q w H → r vs H Q) (hd : ∀ K H, Dp K H w d) (hp : Pu d) (hg : Gl X x) (hm : X.mg x = none) (hv : bootBuiltins x = some (.builtin id))
    (ha : EA false X sa δ S (e :: es) sls S1) (hn : x ≠ "__name__" := by decide) (hdb : (x == ("__debug__" : Str)) = false := by decide) (he : starEach (e :: es) X.env = (false, eval e X.env) :: starEach es X.env := by rfl) (hpl : (backTo pos (starEach es X.env)).any (·.1) = false := by rfl) :
    EG st X sa δ S (.Call (.Name x p) (e :: es) [] pos) (.p d) S1 := pe_imp (pe_callB hc hg hm hv ha hn hdb he hpl) fun σ H Q ⟨B, ok, k⟩ => ⟨B, ok, fun vs H1 B1 ok1 e1 b1 r1 => by
      obtain rfl : B1 = H1 := b1
      exact hr vs B1 Q r1 (give_p ok e1 ok1.src (hd _ _) hp fun B' ok' b r => k _ _ B' ok' e1 b r)⟩
theorem ev_ct {id : String} {x : Str} {r : List V → Hp → VK → Prop} {sls : List Sl} {w : V} {d : PyData} (hc : CallR X (.type id) r) (hr : ∀ vs H Q, SlsRep X.K sa H vs sls → Q w H → r vs H Q) (hd : ∀ K H, Dp K H w d) (hp : Pu d) (hg : Gl X x) (hm : X.mg x = none) (hv : bootBuiltins x = some (.type id))
    (ha : EA false X sa δ S (e :: es) sls S1) (hn : x ≠ "__name__" := by decide) (hdb : (x == ("__debug__" : Str)) = false := by decide) (he : starEach (e :: es) X.env = (false, eval e X.env) :: starEach es X.env := by rfl) (hpl : (backTo pos (starEach es X.env)).any (·.1) = false := by rfl) :
    EG st X sa δ S (.Call (.Name x p) (e :: es) [] pos) (.p d) S1 := pe_imp (pe_callTy hc hg hm hv ha hn hdb he hpl) fun σ H Q ⟨B, ok, k⟩ => ⟨B, ok, fun vs H1 B1 ok1 e1 b1 r1 => by
      obtain rfl : B1 = H1 := b1
      exact hr vs B1 Q r1 (give_p ok e1 ok1.src (hd _ _) hp fun B' ok' b r => k _ _ B' ok' e1 b r)⟩
section
variable (hs1 : starEach [e] X.env = [(false, eval e X.env)])
/-- len of what is walked -/
theorem ev_len {α : Type} [Wk α] {s : Sl} {xs : List α} (h : Wlk s xs) (hg : Gl X "len") (hm : X.mg "len" = none) (ha : EE X sa δ S e s S1) (he : starEach [e] X.env = (false, eval e X.env) :: starEach [] X.env := by rfl) (hpl : (backTo pos (starEach [] X.env)).any (·.1) = false := by rfl) :
    EG st X sa δ S (.Call (.Name "len" p) [e] [] pos) (.p (.int xs.length)) S1 :=
  ev_cb (w := .int xs.length) call_len_seq (fun vs H Q r q => by
    obtain ⟨v, rfl, h1⟩ := sls1 r
    obtain ⟨ty, l, ys, rfl, hs, hr, hz⟩ := walk_src h1 h.walk
    have hl : ys.length = xs.length := by rw [hr.length, h.eq, List.length_map]
    refine ⟨l, ys, rfl, ?_, by rw [hl]; exact q⟩
    cases ty with
    | true => exact .inr hs
    | false => exact .inl hs.1) (fun _ _ => .int _) trivial hg hm PySem.boot_len (ea_cons ha ea_nil he) (by decide) (by decide) he hpl
theorem ev_abs {i : Int} (hg : Gl X "abs") (hm : X.mg "abs" = none) (ha : EE X sa δ S e (.p (.int i)) S1) (he : starEach [e] X.env = (false, eval e X.env) :: starEach [] X.env := by rfl) (hpl : (backTo pos (starEach [] X.env)).any (·.1) = false := by rfl) :
    EG st X sa δ S (.Call (.Name "abs" p) [e] [] pos) (.p (.int (if i < 0 then -i else i))) S1 :=
  ev_cb (w := .int (if i < 0 then -i else i)) call_abs (fun vs H Q r q => by
    obtain ⟨v, rfl, h1⟩ := sls1 r
    exact ⟨i, by rw [dpi h1], q⟩) (fun _ _ => .int _) trivial hg hm PyProof.Rows.boot_abs (ea_cons ha ea_nil he) (by decide) (by decide) he hpl
theorem ev_intI {i : Int} (hg : Gl X "int") (hm : X.mg "int" = none) (ha : EE X sa δ S e (.p (.int i)) S1) (he : starEach [e] X.env = (false, eval e X.env) :: starEach [] X.env := by rfl) (hpl : (backTo pos (starEach [] X.env)).any (·.1) = false := by rfl) :
    EG st X sa δ S (.Call (.Name "int" p) [e] [] pos) (.p (.int i)) S1 :=
  ev_ct (w := .int i) call_int1 (fun vs H Q r q => by
    obtain ⟨v, rfl, h1⟩ := sls1 r
    exact .inl ⟨i, by rw [dpi h1], q⟩) (fun _ _ => .int _) trivial hg hm PyProof.Rows.boot_int (ea_cons ha ea_nil he) (by decide) (by decide) he hpl
theorem ev_intB {k : Bool} (hg : Gl X "int") (hm : X.mg "int" = none) (ha : EE X sa δ S e (.p (.bool k)) S1) (he : starEach [e] X.env = (false, eval e X.env) :: starEach [] X.env := by rfl) (hpl : (backTo pos (starEach [] X.env)).any (·.1) = false := by rfl) :
    EG st X sa δ S (.Call (.Name "int" p) [e] [] pos) (.p (.int (if k then 1 else 0))) S1 :=
  ev_ct (w := .int (if k then 1 else 0)) call_int1 (fun vs H Q r q => by
    obtain ⟨v, rfl, h1⟩ := sls1 r
    exact .inr ⟨k, by rw [dpb h1], q⟩) (fun _ _ => .int _) trivial hg hm PyProof.Rows.boot_int (ea_cons ha ea_nil he) (by decide) (by decide) he hpl
theorem dp_ints : ∀ {ns : List Int} {vs : List V}, DpAll K H vs (encs ns) → vs = ns.map .int
  | [], _, h => by cases h; rfl
  | n :: ns, _, h => by
    cases h with
    | cons h1 h2 =>
      cases h1
      rw [dp_ints h2]; rfl
theorem dp_bls : ∀ {ns : List Bool} {vs : List V}, DpAll K H vs (encs ns) → vs = ns.map .bl
  | [], _, h => by cases h; rfl
  | n :: ns, _, h => by
    cases h with
    | cons h1 h2 =>
      cases h1
      rw [dp_bls h2]; rfl
/-- sum of a list of ints -/
theorem ev_sum {ns : List Int} (hc : X.calm = true) (hg : Gl X "sum") (hm : X.mg "sum" = none) (ha : EE X sa δ S e (.b (encs ns)) S1) (he : starEach [e] X.env = (false, eval e X.env) :: starEach [] X.env := by rfl) (hpl : (backTo pos (starEach [] X.env)).any (·.1) = false := by rfl) :
    EG st X sa δ S (.Call (.Name "sum" p) [e] [] pos) (.p (.int ns.sum)) S1 :=
  ev_cb (w := .int ns.sum) (cr_sum hc) (fun vs H Q r q => by
    obtain ⟨v, rfl, h1⟩ := sls1 r
    obtain ⟨_, l, rfl, ys, g1, g2, g3, g4, g5⟩ := h1
    rw [dp_ints g3] at g1
    exact ⟨l, ns, rfl, g1, q⟩) (fun _ _ => .int _) trivial hg hm PyProof.Rows.boot_sum (ea_cons ha ea_nil he) (by decide) (by decide) he hpl
theorem ev_all {ns : List Bool} (hc : X.calm = true) (hg : Gl X "all") (hm : X.mg "all" = none) (ha : EE X sa δ S e (.b (encs ns)) S1) (he : starEach [e] X.env = (false, eval e X.env) :: starEach [] X.env := by rfl) (hpl : (backTo pos (starEach [] X.env)).any (·.1) = false := by rfl) :
    EG st X sa δ S (.Call (.Name "all" p) [e] [] pos) (.p (.bool (ns.all id))) S1 :=
  ev_cb (w := .bl (ns.all id)) (cr_all hc) (fun vs H Q r q => by
    obtain ⟨v, rfl, h1⟩ := sls1 r
    obtain ⟨_, l, rfl, ys, g1, g2, g3, g4, g5⟩ := h1
    rw [dp_bls g3] at g1
    exact ⟨l, ns, rfl, g1, q⟩) (fun _ _ => .bl _) trivial hg hm PyProof.Rows.boot_all (ea_cons ha ea_nil he) (by decide) (by decide) he hpl
theorem ev_any {ns : List Bool} (hc : X.calm = true) (hg : Gl X "any") (hm : X.mg "any" = none) (ha : EE X sa δ S e (.b (encs ns)) S1) (he : starEach [e] X.env = (false, eval e X.env) :: starEach [] X.env := by rfl) (hpl : (backTo pos (starEach [] X.env)).any (·.1) = false := by rfl) :
    EG st X sa δ S (.Call (.Name "any" p) [e] [] pos) (.p (.bool (ns.any id))) S1 :=
  ev_cb (w := .bl (ns.any id)) (cr_any hc) (fun vs H Q r q => by
    obtain ⟨v, rfl, h1⟩ := sls1 r
    obtain ⟨_, l, rfl, ys, g1, g2, g3, g4, g5⟩ := h1
    rw [dp_bls g3] at g1
    exact ⟨l, ns, rfl, g1, q⟩) (fun _ _ => .bl _) trivial hg hm PyProof.Rows.boot_any (ea_cons ha ea_nil he) (by decide) (by decide) he hpl
/-- tuple(a list) -/
theorem ev_tupleD {ds : List PyData} (hg : Gl X "tuple") (hm : X.mg "tuple" = none) (ha : EE X sa δ S e (.b ds) S1) (he : starEach [e] X.env = (false, eval e X.env) :: starEach [] X.env := by rfl) (hpl : (backTo pos (starEach [] X.env)).any (·.1) = false := by rfl) :
    EG st X sa δ S (.Call (.Name "tuple" p) [e] [] pos) (.p (.tuple ds)) S1 := pe_imp (pe_callTy call_tuple_of hg hm PyProof.Rows.boot_tuple (ea_cons ha ea_nil he) (by decide) (by decide) he hpl) fun σ H Q ⟨B, ok, k⟩ => ⟨B, ok, fun vs H1 B1 ok1 e1 b1 r1 => by
      obtain rfl : B1 = H1 := b1
      obtain ⟨v, rfl, h1⟩ := sls1 r1
      obtain ⟨_, l, rfl, ys, g1, g2, g3, g4, g5⟩ := h1
      refine ⟨l, ys, rfl, .inl ⟨g1, fun q hq => ?_⟩⟩
      have ex : Ext sa B1 (upd B1 q (.tup ys)) := .new hq
      exact give_p (v := .ref q) (d := .tuple ds) ok (e1.trans ex) (ok1.src.same (same_new hq)) (.tup (.of upd_same) (ex.tup.dpAll _ _ g4 g3)) ⟨g5, g4⟩ fun B' ok' bb r => k _ _ B' ok' (e1.trans ex) bb r⟩
theorem ev_tuple {α : Type} [Enc α] {xs : List α} (hg : Gl X "tuple") (hm : X.mg "tuple" = none) (ha : EE X sa δ S e (.b (encs xs)) S1) (he : starEach [e] X.env = (false, eval e X.env) :: starEach [] X.env := by rfl) (hpl : (backTo pos (starEach [] X.env)).any (·.1) = false := by rfl) :
    EG st X sa δ S (.Call (.Name "tuple" p) [e] [] pos) (.p (enc xs)) S1 := ev_tupleD hg hm ha he hpl
/-- list(a list or a tuple) -/
theorem el_listG {s : Sl} {ds : List PyData} (hw : Walk s) (hi : s.items = ds.map .p) (hg : Gl X "list") (hm : X.mg "list" = none) (ha : EE X sa δ S e s S1) (he : starEach [e] X.env = (false, eval e X.env) :: starEach [] X.env := by rfl) (hpl : (backTo pos (starEach [] X.env)).any (·.1) = false := by rfl) :
    EL X sa δ S (.Call (.Name "list" p) [e] [] pos) ds S1 := pe_imp (pe_callTy call_list_of hg hm PyProof.Rows.boot_list (ea_cons ha ea_nil he) (by decide) (by decide) he hpl) fun σ H Q ⟨B, ok, k⟩ => ⟨B, ok, fun vs H1 B1 ok1 e1 b1 r1 => by
      obtain rfl : B1 = H1 := b1
      obtain ⟨v, rfl, h1⟩ := sls1 r1
      obtain ⟨ty, l, ys, rfl, hs, hr, hz⟩ := walk_src h1 hw
      rw [hi] at hr hz
      obtain ⟨hd, hp⟩ := SlsRep.pures hr
      refine ⟨l, ys, rfl, ?_, fun q hq => ?_⟩
      · cases ty with
        | true => exact .inr hs
        | false => exact .inl hs.1
      have ex : Ext sa B1 (upd B1 q (.lst ys)) := .new hq
      exact k q _ (e1.none_of ok1 hq) (ok1.new hq) (e1.trans ex) ⟨ys, upd_same, ex.tup.dpAll _ _ hp hd, hp, by rw [List.length_map] at hz; exact hz⟩⟩
theorem el_listT {α : Type} [Enc α] {xs : List α} (hg : Gl X "list") (hm : X.mg "list" = none) (ha : EE X sa δ S e (.p (enc xs)) S1) (he : starEach [e] X.env = (false, eval e X.env) :: starEach [] X.env := by rfl) (hpl : (backTo pos (starEach [] X.env)).any (·.1) = false := by rfl) :
    EL X sa δ S (.Call (.Name "list" p) [e] [] pos) (encs xs) S1 := el_listG (s := .p (enc xs)) (ds := encs xs) trivial rfl hg hm ha he hpl
theorem el_listB {ds : List PyData} (hg : Gl X "list") (hm : X.mg "list" = none) (ha : EE X sa δ S e (.b ds) S1) (he : starEach [e] X.env = (false, eval e X.env) :: starEach [] X.env := by rfl) (hpl : (backTo pos (starEach [] X.env)).any (·.1) = false := by rfl) :
    EL X sa δ S (.Call (.Name "list" p) [e] [] pos) ds S1 := el_listG (s := .b ds) trivial rfl hg hm ha he hpl
end

/-! ### lists put together -/
theorem el_bin {r : R2} {ds : List PyData} {ta tb : TE} (h : PE X e (tOp r ta tb)) (hh : ∀ σ H Q, tEL X.K sa δ S ds S' σ H Q → tOp r ta tb σ H Q) : EL X sa δ S e ds S' := pe_imp h hh
/-- a new list + a new list -/
theorem el_cat {xs ys : List PyData} (hz : xs.length + ys.length ≤ 16777216) (ha : EL X sa δ S a xs S1) (hb : EL X sa δ S1 b ys S2) : EL X sa δ S (.BinOp a .Add b pos) (xs ++ ys) S2 := pe_imp (pe_op op_cat ha hb) fun σ H Q ⟨B, ok, k⟩ =>
  ⟨B, ok, fun l H1 hl ok1 e1 q1 => ⟨B, ok1, fun m H2 hm ok2 e2 q2 => by
    obtain ⟨vs, g1, g2, g3, g4⟩ := q1
    obtain ⟨ws, f1, f2, f3, f4⟩ := q2
    have aw : Away sa l := ok.away hl
    refine ⟨l, m, vs, ws, rfl, rfl, e2.cell l _ g1 aw, f1, by rw [g2.length, f2.length, sizeLine_eq]; exact hz, fun q hq => ?_⟩
    have ex : Ext sa H2 (upd H2 q (.lst (vs ++ ws))) := .new hq
    exact k q _ ((e1.trans e2).none_of ok2 hq) (ok2.new hq) ((e1.trans e2).trans ex) ⟨_, upd_same, ex.tup.dpAll _ _ (g3.append f3) (DpAll.append (e2.tup.dpAll _ _ g3 g2) f2), g3.append f3, by rw [List.length_append, sizeLine_eq]; exact hz⟩⟩⟩
/-- an own list + a new list -/
theorem el_catOwn {i : Nat} {x : Str} {xs ys : List PyData} {p1 : Pos} (hd : δ[i]? = some (some (.l xs))) (hv : PE X (.Name x p1) (tVar i)) (hz : xs.length + ys.length ≤ 16777216) (hb : EL X sa δ S b ys S2) : EL X sa δ S (.BinOp (.Name x p1) .Add b pos) (xs ++ ys) S2 := pe_imp (pe_op op_cat hv hb) fun σ H Q ⟨B, ok, k⟩ => by
    obtain ⟨l, vs, h1, g1, g2, g3, g4, aw⟩ := own_at ok hd
    refine ⟨_, h1, B, ok, fun m H2 hm ok2 e2 q2 => ?_⟩
    obtain ⟨ws, f1, f2, f3, f4⟩ := q2
    refine ⟨l, m, vs, ws, rfl, rfl, e2.cell l _ g1 aw, f1, by rw [g2.length, f2.length, sizeLine_eq]; exact hz, fun q hq => ?_⟩
    have ex : Ext sa H2 (upd H2 q (.lst (vs ++ ws))) := .new hq
    exact k q _ (e2.none_of ok2 hq) (ok2.new hq) (e2.trans ex) ⟨_, upd_same, ex.tup.dpAll _ _ (g3.append f3) (DpAll.append (e2.tup.dpAll _ _ g3 g2) f2), g3.append f3, by rw [List.length_append, sizeLine_eq]; exact hz⟩
/-- [..] * k -/
def RepOk (n : Nat) (k : Int) : Prop := -(2 ^ 63) ≤ k ∧ k < 2 ^ 63 ∧ n * k.toNat ≤ 16777216
def repL {α : Type} (k : Int) (xs : List α) : List α := (List.replicate k.toNat xs).flatten
theorem repL_map {α β : Type} (f : α → β) (k : Int) (xs : List α) : repL k (xs.map f) = (repL k xs).map f := by
  unfold repL
  rw [List.map_flatten, List.map_replicate]
theorem repL_length {α : Type} (k : Int) (xs : List α) : (repL k xs).length = xs.length * k.toNat := by
  unfold repL
  simp [List.length_flatten, Nat.mul_comm]
theorem PuAll.rep {xs : List PyData} (h : PuAll xs) (k : Int) : PuAll (repL k xs) := puAll_iff.mpr fun d m => by
  unfold repL at m
  rw [List.mem_flatten] at m
  obtain ⟨l, hl, hm⟩ := m
  rw [List.eq_of_mem_replicate hl] at hm
  exact puAll_iff.mp h d hm
theorem el_rep {xs : List PyData} {k : Int} (hz : RepOk xs.length k) (ha : EL X sa δ S a xs S1) (hb : EE X sa δ S1 b (.p (.int k)) S2) : EL X sa δ S (.BinOp a .Mult b pos) (repL k xs) S2 := pe_imp (pe_op op_rep ha hb) fun σ H Q ⟨B, ok, kk⟩ =>
  ⟨B, ok, fun l H1 hl ok1 e1 q1 => ⟨B, ok1, fun v H2 B2 ok2 e2 b2 r2 => by
    obtain rfl : B2 = H2 := b2
    obtain rfl := dpi r2
    obtain ⟨vs, g1, g2, g3, g4⟩ := q1
    have aw : Away sa l := ok.away hl
    refine ⟨l, k, vs, rfl, rfl, e2.cell l _ g1 aw, hz.1, hz.2.1, by rw [g2.length, sizeLine_eq]; exact hz.2.2, fun q hq => ?_⟩
    have ex : Ext sa B2 (upd B2 q (.lst (List.replicate k.toNat vs).flatten)) := .new hq
    exact kk q _ ((e1.trans e2).none_of ok2 hq) (ok2.new hq) ((e1.trans e2).trans ex) ⟨_, upd_same, ex.tup.dpAll _ _ (g3.rep k) ((e2.tup.dpAll _ _ g3 g2).flat k.toNat), g3.rep k, by rw [repL_length, sizeLine_eq]; exact hz.2.2⟩⟩⟩
end
end L2.Ev

set_option Elab.async false
set_option linter.all false
set_option maxRecDepth 100000
/-! Ev10: typed comprehensions, statements whose values get names. -/
namespace L2.Ev
open PySem PySem.Spec PyProof.Rows
section
variable {X : Cx} {sa : SA} {δ δ' : Env} {S S0 S1 S2 S' : Src} {st : Bool} {e a b c d' tg iter elt e1 e2 e3 : Expr} {es : List Expr} {pos p pos' tpos : Pos} {elts : List Expr} {kk : Nat} {K : PySem.W.Frag} {B B' H H' : Hp} {σ : L2.St} {rest body : List Stmt} {W : Spec} {sm : Stmt}

/-! ### comprehensions by types -/
section
variable {α β γ : Type} [Enc β] {own : List (Str × Nat)} {scope : Scope} {js : List Nat} {xs : List α} {itm : α → Itm} {q : Expr} {i : Nat} {y : Str} {py spos : Pos}
theorem map_enc (f : α → β) (xs : List α) : xs.map (fun x => enc (f x)) = encs (xs.map f) := (List.map_map ..).symm
theorem map_encs (f : α → List β) (xs : List α) : xs.map (fun x => encs (f x)) = encss (xs.map f) := (List.map_map ..).symm
theorem elc (P : α → Prop) (δb : α → Env) (f : α → β) (hi : IJ false X sa δ S tg iter (xs.map itm) S0) (hP : ∀ x ∈ xs, P x)
    (hg : ∀ x s H C cl fp, TGt (blkX X scope s H C cl fp) sa (wipeE (Ev.frz δ) (ixs own)) tg (itm x) (δb x) js)
    (he : ∀ x, P x → ∀ s H C cl fp, EE (blkX X scope s H C cl fp) sa (δb x) S0 elt (.p (enc (f x))) S0)
    (hc : X.calm = true) (hN : X.N.Nodup) (ok : BlkOk X.N X.env.scope scope own) (hjs : ∀ j ∈ js, j ∈ ixs own) (hs : ∀ x, foldedSetIterable iter X.env x = pure x := by intro _; rfl) :
    EL X sa δ S (.ListComp elt [⟨tg, iter, [], 0⟩] scope pos) (encs (xs.map f)) S0 := by
  rw [← map_enc]; exact el_lc P δb (fun x => enc (f x)) hi hP hg he hc hN ok hjs hs
theorem plc (P : α → Prop) (δb : α → Env) (f : α → β) (hi : IJ false X sa δ S tg iter (xs.map itm) S0) (hP : ∀ x ∈ xs, P x)
    (hg : ∀ x s H C cl fp, TGt (blkX X scope s H C cl fp) sa (wipeE (Ev.frz δ) (ixs own)) tg (itm x) (δb x) js)
    (he : ∀ x, P x → ∀ s H C cl fp, EE (blkX X scope s H C cl fp) sa (δb x) S0 elt (.p (enc (f x))) S0)
    (hc : X.calm = true) (hN : X.N.Nodup) (ok : BlkOk X.N X.env.scope scope own) (hjs : ∀ j ∈ js, j ∈ ixs own) (hy : X.N[i]? = some y) (hyl : X.env.scope.names.lookup y = some .local)
    (hsw : swapsWith (.ListComp elt [⟨tg, iter, [], 0⟩] scope pos) (some (.Name y py)) spos.line X.env = pure true) (hs : ∀ x, foldedSetIterable iter X.env x = pure x := by intro _; rfl) :
    PS X (.Assign [.Name y py] (.ListComp elt [⟨tg, iter, [], 0⟩] scope pos) spos) (tAsg (tEL X.K sa δ S (encs (xs.map f)) S0) (gName i)) := by
  rw [← map_enc]; exact ps_lc P δb (fun x => enc (f x)) hi hP hg he hc hN ok hjs hy hyl hsw hs
theorem elcf (P : α → Prop) (δb : α → Env) (cnd : α → Bool) (f : α → β) (hi : IJ false X sa δ S tg iter (xs.map itm) S0) (hP : ∀ x ∈ xs, P x)
    (hg : ∀ x s H C cl fp, TGt (blkX X scope s H C cl fp) sa (wipeE (Ev.frz δ) (ixs own)) tg (itm x) (δb x) js)
    (hq : ∀ x, P x → ∀ s H C cl fp, ET (blkX X scope s H C cl fp) sa (δb x) S0 q (cnd x) S0)
    (he : ∀ x, P x → cnd x = true → ∀ s H C cl fp, EE (blkX X scope s H C cl fp) sa (δb x) S0 elt (.p (enc (f x))) S0)
    (hc : X.calm = true) (hN : X.N.Nodup) (ok : BlkOk X.N X.env.scope scope own) (hjs : ∀ j ∈ js, j ∈ ixs own) (hs : ∀ x, foldedSetIterable iter X.env x = pure x := by intro _; rfl) :
    EL X sa δ S (.ListComp elt [⟨tg, iter, [q], 0⟩] scope pos) (encs ((xs.filter cnd).map f)) S0 := by
  rw [← map_enc]; exact el_lcf P δb cnd (fun x => enc (f x)) hi hP hg hq he hc hN ok hjs hs
theorem plcf (P : α → Prop) (δb : α → Env) (cnd : α → Bool) (f : α → β) (hi : IJ false X sa δ S tg iter (xs.map itm) S0) (hP : ∀ x ∈ xs, P x)
    (hg : ∀ x s H C cl fp, TGt (blkX X scope s H C cl fp) sa (wipeE (Ev.frz δ) (ixs own)) tg (itm x) (δb x) js)
    (hq : ∀ x, P x → ∀ s H C cl fp, ET (blkX X scope s H C cl fp) sa (δb x) S0 q (cnd x) S0)
    (he : ∀ x, P x → cnd x = true → ∀ s H C cl fp, EE (blkX X scope s H C cl fp) sa (δb x) S0 elt (.p (enc (f x))) S0)
    (hc : X.calm = true) (hN : X.N.Nodup) (ok : BlkOk X.N X.env.scope scope own) (hjs : ∀ j ∈ js, j ∈ ixs own) (hy : X.N[i]? = some y) (hyl : X.env.scope.names.lookup y = some .local)
    (hsw : swapsWith (.ListComp elt [⟨tg, iter, [q], 0⟩] scope pos) (some (.Name y py)) spos.line X.env = pure true) (hs : ∀ x, foldedSetIterable iter X.env x = pure x := by intro _; rfl) :
    PS X (.Assign [.Name y py] (.ListComp elt [⟨tg, iter, [q], 0⟩] scope pos) spos) (tAsg (tEL X.K sa δ S (encs ((xs.filter cnd).map f)) S0) (gName i)) := by
  rw [← map_enc]; exact ps_lcf P δb cnd (fun x => enc (f x)) hi hP hg hq he hc hN ok hjs hy hyl hsw hs
theorem elcS (P : Src → α → Prop) (δb : α → Env) (f : Src → α → β × Src) (hi : IJ false X sa δ S tg iter (xs.map itm) S0) (hP : GS f P S0 xs)
    (hg : ∀ x s H C cl fp, TGt (blkX X scope s H C cl fp) sa (wipeE (Ev.frz δ) (ixs own)) tg (itm x) (δb x) js)
    (he : ∀ T x, P T x → ∀ s H C cl fp, EE (blkX X scope s H C cl fp) sa (δb x) T elt (.p (enc (f T x).1)) (f T x).2)
    (hc : X.calm = true) (hN : X.N.Nodup) (ok : BlkOk X.N X.env.scope scope own) (hjs : ∀ j ∈ js, j ∈ ixs own) (hs : ∀ x, foldedSetIterable iter X.env x = pure x := by intro _; rfl) :
    EL X sa δ S (.ListComp elt [⟨tg, iter, [], 0⟩] scope pos) (encs (mapS f S0 xs).1) (mapS f S0 xs).2 := el_lcS P δb f enc hi hP hg he hc hN ok hjs hs
theorem plcS (P : Src → α → Prop) (δb : α → Env) (f : Src → α → β × Src) (hi : IJ false X sa δ S tg iter (xs.map itm) S0) (hP : GS f P S0 xs)
    (hg : ∀ x s H C cl fp, TGt (blkX X scope s H C cl fp) sa (wipeE (Ev.frz δ) (ixs own)) tg (itm x) (δb x) js)
    (he : ∀ T x, P T x → ∀ s H C cl fp, EE (blkX X scope s H C cl fp) sa (δb x) T elt (.p (enc (f T x).1)) (f T x).2)
    (hc : X.calm = true) (hN : X.N.Nodup) (ok : BlkOk X.N X.env.scope scope own) (hjs : ∀ j ∈ js, j ∈ ixs own) (hy : X.N[i]? = some y) (hyl : X.env.scope.names.lookup y = some .local)
    (hsw : swapsWith (.ListComp elt [⟨tg, iter, [], 0⟩] scope pos) (some (.Name y py)) spos.line X.env = pure true) (hs : ∀ x, foldedSetIterable iter X.env x = pure x := by intro _; rfl) :
    PS X (.Assign [.Name y py] (.ListComp elt [⟨tg, iter, [], 0⟩] scope pos) spos) (tAsg (tEL X.K sa δ S (encs (mapS f S0 xs).1) (mapS f S0 xs).2) (gName i)) := ps_lcS P δb f enc hi hP hg he hc hN ok hjs hy hyl hsw hs
theorem elcM (P : α → Prop) (δb : α → Env) (f : α → List β) (hi : IJ false X sa δ S tg iter (xs.map itm) S0) (hP : ∀ x ∈ xs, P x)
    (hg : ∀ x s H C cl fp, TGt (blkX X scope s H C cl fp) sa (wipeE (Ev.frz δ) (ixs own)) tg (itm x) (δb x) js)
    (he : ∀ x, P x → ∀ s H C cl fp, EL (blkX X scope s H C cl fp) sa (δb x) S0 elt (encs (f x)) S0)
    (hc : X.calm = true) (hN : X.N.Nodup) (ok : BlkOk X.N X.env.scope scope own) (hjs : ∀ j ∈ js, j ∈ ixs own) (hs : ∀ x, foldedSetIterable iter X.env x = pure x := by intro _; rfl) :
    EM X sa δ S (.ListComp elt [⟨tg, iter, [], 0⟩] scope pos) (encss (xs.map f)) S0 := by
  rw [← map_encs]; exact em_lc P δb (fun x => encs (f x)) hi hP hg he hc hN ok hjs hs
theorem plcM (P : α → Prop) (δb : α → Env) (f : α → List β) (hi : IJ false X sa δ S tg iter (xs.map itm) S0) (hP : ∀ x ∈ xs, P x)
    (hg : ∀ x s H C cl fp, TGt (blkX X scope s H C cl fp) sa (wipeE (Ev.frz δ) (ixs own)) tg (itm x) (δb x) js)
    (he : ∀ x, P x → ∀ s H C cl fp, EL (blkX X scope s H C cl fp) sa (δb x) S0 elt (encs (f x)) S0)
    (hc : X.calm = true) (hN : X.N.Nodup) (ok : BlkOk X.N X.env.scope scope own) (hjs : ∀ j ∈ js, j ∈ ixs own) (hy : X.N[i]? = some y) (hyl : X.env.scope.names.lookup y = some .local)
    (hsw : swapsWith (.ListComp elt [⟨tg, iter, [], 0⟩] scope pos) (some (.Name y py)) spos.line X.env = pure true) (hs : ∀ x, foldedSetIterable iter X.env x = pure x := by intro _; rfl) :
    PS X (.Assign [.Name y py] (.ListComp elt [⟨tg, iter, [], 0⟩] scope pos) spos) (tAsg (tEM X.K sa δ S (encss (xs.map f)) S0) (gName i)) := by
  rw [← map_encs]; exact ps_lcM P δb (fun x => encs (f x)) hi hP hg he hc hN ok hjs hy hyl hsw hs
end

/-! ### values made new, of any kind -/
def tEO (K : PySem.W.Frag) (sa : SA) (δ : Env) (S : Src) (sl : Sl) (S' : Src) : TE := fun σ H Q =>
  ∃ B, Ok K sa B H σ δ S ∧ ∀ v H' F, (∀ a ∈ F, H a = none) → F.Nodup → Ok K sa B H' σ δ S' → Ext sa H H' → SlRep K sa B H' v sl F → Q v H'
def EO (X : Cx) (sa : SA) (δ : Env) (S : Src) (e : Expr) (sl : Sl) (S' : Src) : Prop := PE X e (tEO X.K sa δ S sl S')
theorem eo_p {d : PyData} (h : EE X sa δ S e (.p d) S') : EO X sa δ S e (.p d) S' := pe_imp h fun σ H Q ⟨B, ok, k⟩ => ⟨B, ok, fun v H1 B1 ok1 e1 b1 r1 => k v H1 [] (fun _ m => nomatch m) .nil ok1 e1 (by
  obtain rfl : B1 = H1 := b1
  exact ⟨rfl, r1.2⟩)⟩
theorem eo_l {ds : List PyData} (h : EL X sa δ S e ds S') : EO X sa δ S e (.l ds) S' := pe_imp h fun σ H Q ⟨B, ok, k⟩ => ⟨B, ok, fun p H1 hp ok1 e1 q => k _ H1 [p] (fun a m => by rw [List.mem_singleton.mp m]; exact hp) (by simp) ok1 e1 ⟨p, rfl, rfl, q⟩⟩
theorem eo_m {dss : List (List PyData)} (h : EM X sa δ S e dss S') : EO X sa δ S e (.ll dss) S' := pe_imp h fun σ H Q ⟨B, ok, k⟩ => ⟨B, ok, fun p bs H1 hp hn ok1 e1 q r z => k _ H1 (p :: bs) hp hn ok1 e1 ⟨p, bs, rfl, rfl, q, r, z⟩⟩

/-! ### statements, by what they leave -/
def Step (X : Cx) (sa : SA) (δ : Env) (S : Src) (st : Stmt) (δ' : Env) (S' : Src) : Prop := ∀ rest W, SB X sa δ' S' rest W → SB X sa δ S (st :: rest) W
section
variable {sm : Stmt} {β γ ρ : Type} {i j : Nat} {d : PyData} {ds : List PyData} {dss : List (List PyData)} {sl sl1 sl2 sl3 : Sl}
theorem st_p (h : PS X sm (tAsg (tEG false X.K sa δ S (.p d) S1) (gName i))) (hi : Nat.blt i δ.length = true := by rfl) : Step X sa δ S sm (δ.set i (some (.p d))) S1 := fun _ _ hr => sb_set h hr hi
theorem st_b (h : PS X sm (tAsg (tEG true X.K sa δ S (.b ds) S1) (gName i))) (hi : Nat.blt i δ.length = true := by rfl) : Step X sa δ S sm (δ.set i (some (.b ds))) S1 := fun _ _ hr => sb_setB (dss := []) (.inl rfl) h hr hi
theorem st_bb (h : PS X sm (tAsg (tEG true X.K sa δ S (.bb dss) S1) (gName i))) (hi : Nat.blt i δ.length = true := by rfl) : Step X sa δ S sm (δ.set i (some (.bb dss))) S1 := fun _ _ hr => sb_setB (ds := []) (.inr (.inl rfl)) h hr hi
theorem st_l (h : PS X sm (tAsg (tEL X.K sa δ S ds S1) (gName i))) (hi : Nat.blt i δ.length = true := by rfl) : Step X sa δ S sm (δ.set i (some (.l ds))) S1 := fun _ _ hr => sb_setL h hr hi
theorem st_m (h : PS X sm (tAsg (tEM X.K sa δ S dss S1) (gName i))) (hi : Nat.blt i δ.length = true := by rfl) : Step X sa δ S sm (δ.set i (some (.ll dss))) S1 := fun _ _ hr => sb_setM h hr hi
theorem st_lB (h : PS X sm (tAsg (tEL X.K sa δ S ds S1) (gName i))) (hi : Nat.blt i δ.length = true := by rfl) : Step X sa δ S sm (δ.set i (some (.b ds))) S1 := fun _ _ hr => sb_setLB h hr hi
theorem st_mB (h : PS X sm (tAsg (tEM X.K sa δ S dss S1) (gName i))) (hi : Nat.blt i δ.length = true := by rfl) : Step X sa δ S sm (δ.set i (some (.bb dss))) S1 := fun _ _ hr => sb_setMB h hr hi
theorem st_expr (h : PS X sm (tDrop (tEG false X.K sa δ S sl S1))) : Step X sa δ S sm δ S1 := fun _ _ hr => sb_expr h hr
/-- targets = a pure value -/
theorem st_asg {js : List Nat} (he : EE X sa δ S e (.p d) S1) (ht : TGt X sa δ tg (.one (.p d)) δ' js) (hs : swapsWithSole [tg] e pos.line X.env = pure false := by rfl) (hw : swappedStores [tg] e X.env = pure none := by rfl)
    (h1 : (assignEach [tg] X.env).map (·.2) = [assign tg X.env] := by rfl) : Step X sa δ S (.Assign [tg] e pos) δ' S1 := fun rest W hr =>
  sb_seq (ps_asg he ht hs hw h1) hr fun D σ H B ok k => ⟨B, ok, fun v H' B' ok' e' b r => by
    obtain rfl : B' = H' := b
    exact ⟨B, S1, ok', ⟨r.1, r.2⟩, fun σ' ok2 _ _ => k B σ' B' (.refl _ _) ok2⟩⟩
/-- a, b = x, y -/
theorem st_par {x y : Str} {px py pt : Pos} {kt k2 pt2} (h1 : EO X sa δ S a sl1 S1) (h2 : EO X sa δ S1 b sl2 S2) (hc : X.calm = true) (hN : X.N.Nodup) (hi : X.N[i]? = some x) (hj : X.N[j]? = some y) (hij : i ≠ j)
    (hx : X.env.scope.names.lookup x = some .local) (hy : X.env.scope.names.lookup y = some .local)
    (hw : swappedStores [.Tuple [.Name x px, .Name y py] kt pt] (.Tuple [a, b] k2 pt2) X.env = pure (some [x, y])) (hil : Nat.blt i δ.length = true := by rfl) (hjl : Nat.blt j δ.length = true := by rfl)
    (hsa : starEach [a, b] X.env = (false, eval a X.env) :: starEach [b] X.env := by rfl) (hsb : starEach [b] X.env = [(false, eval b X.env)] := by rfl)
    (hs : swapsWithSole [.Tuple [.Name x px, .Name y py] kt pt] (.Tuple [a, b] k2 pt2) pos.line X.env = pure false := by rfl) :
    Step X sa δ S (.Assign [.Tuple [.Name x px, .Name y py] kt pt] (.Tuple [a, b] k2 pt2) pos) ((δ.set i (some sl1)).set j (some sl2)) S2 := fun rest W hr =>
  sb_seq (ps_par hc hN hi hj hij hx hy (pa_cons h1 (pa_cons h2 pa_nil hsb) hsa) hw hs) hr fun D σ H B ok k => ⟨B, ok, fun v H1 F1 f1 n1 ok1 e1 r1 => ⟨B, ok1, fun u H2 F2 f2 n2 ok2 e2 r2 => ⟨v, u, rfl, by
    have i1 : i < δ.length := Nat.blt_eq.mp hil
    have j1 : j < δ.length := Nat.blt_eq.mp hjl
    exact k B _ H2 (.refl _ _) ((ok.setNew e1 ok1.src r1 i1 n1 f1).setNew e2 ok2.src r2 (by rw [List.length_set]; exact j1) n2 f2)⟩⟩⟩
end
end
end L2.Ev

set_option Elab.async false
set_option linter.all false
set_option maxRecDepth 100000
/-! Ev11: statements whose values get names; casts; stores by types. -/
namespace L2.Ev
open PySem PySem.Spec PyProof.Rows
section
variable {X : Cx} {sa : SA} {δ δ' : Env} {S S0 S1 S2 S' : Src} {st : Bool} {e a b c d' tg iter elt e1 e2 e3 : Expr} {es : List Expr} {pos p pos' tpos : Pos} {elts : List Expr} {kk : Nat} {K : PySem.W.Frag} {B B' H H' : Hp} {σ : L2.St} {rest body : List Stmt} {W : Spec} {sm : Stmt}
variable {α β γ ρ ν μ : Type} {i j : Nat} {d : PyData} {ds : List PyData} {dss : List (List PyData)} {sl sl1 sl2 sl3 : Sl}

/-! ### an own list becomes one that is read -/
theorem Ok.frzAt (ok : Ok K sa B H σ δ S) (hd : δ[i]? = some (some sl)) : ∃ B', Ext sa B B' ∧ Ok K sa B' H σ (δ.set i (some (frzS sl))) S := by
  obtain ⟨F, o⟩ := ok.owns
  classical
  obtain ⟨F', hF'⟩ : ∃ F' : Nat → List Addr, ∀ j, F' j = if j = i then [] else F j := ⟨_, fun _ => rfl⟩
  have f1 : ∀ j a, a ∈ F' j → j ≠ i ∧ a ∈ F j := fun j a m => by
    rw [hF'] at m
    by_cases h : j = i
    · rw [if_pos h] at m; cases m
    · rw [if_neg h] at m; exact ⟨h, m⟩
  obtain ⟨B', hB'⟩ : ∃ B' : Hp, ∀ b, B' b = if ∃ j, b ∈ F' j then none else H b := ⟨_, fun _ => rfl⟩
  have b1 : ∀ b, (∃ j, b ∈ F' j) → B' b = none := fun b h => by rw [hB', if_pos h]
  have b2 : ∀ b, ¬ (∃ j, b ∈ F' j) → B' b = H b := fun b h => by rw [hB', if_neg h]
  have tx : TupX H B' := fun a xs r => by
    have nm : ¬ ∃ j, a ∈ F' j := fun ⟨j, m⟩ => by
      obtain ⟨_, _, vs, q⟩ := o.own j a (f1 j a m).2
      rcases r with r | ⟨_, r⟩ <;> (rw [q] at r; cases r)
    rcases r with r | ⟨u, r⟩
    · exact .inl (by rw [b2 a nm]; exact r)
    · exact .inr ⟨u, by rw [b2 a nm]; exact r⟩
  have eb : Ext sa B B' := ⟨fun a ob q w => by
    have nm : ¬ ∃ j, a ∈ F' j := fun ⟨j, m⟩ => by
      rw [(o.own j a (f1 j a m).2).1] at q; cases q
    rw [b2 a nm]
    exact ok.base.cell a ob q w, ok.base.tup.trans tx⟩
  have eh : Ext sa B' H := ⟨fun a ob q w => by
    by_cases hm : ∃ j, a ∈ F' j
    · rw [b1 a hm] at q; cases q
    · rw [b2 a hm] at q; exact q, fun a xs r => by
    by_cases hm : ∃ j, a ∈ F' j
    · rcases r with r | ⟨_, r⟩ <;> (rw [b1 a hm] at r; cases r)
    · rcases r with r | ⟨u, r⟩
      · exact .inl (by rw [b2 a hm] at r; exact r)
      · exact .inr ⟨u, by rw [b2 a hm] at r; exact r⟩⟩
  have il : i < δ.length := (List.getElem?_eq_some_iff.mp hd).1
  have ni : ∀ a ∈ F i, B' a = H a := fun a m => b2 a fun ⟨j, mj⟩ => o.apart j i a (f1 j a mj).1 (f1 j a mj).2 m
  refine ⟨B', eb, ⟨eh, by rw [List.length_set]; exact ok.len, ⟨F', fun j sl' h => ?_, fun j => ?_, fun j k a ne m => ?_, fun j a m => ?_⟩, ok.src⟩⟩
  · by_cases hj : j = i
    · subst hj
      rw [List.getElem?_set_self il] at h
      cases h
      obtain ⟨v, h1, h2⟩ := o.rep j _ hd
      refine ⟨v, h1, ?_⟩
      rw [hF', if_pos rfl]
      have key : ∀ {q : Addr} {es : List PyData}, q ∈ F j → LsAt K H q es → BAt K sa B' q es := fun {q es} m ⟨vs, g1, g2, g3, g4⟩ => ⟨vs, .of (by rw [ni q m]; exact g1), (o.own j q m).2.1, tx.dpAll _ _ g3 g2, g3, g4⟩
      cases sl with
      | p d => exact ⟨rfl, h2.2⟩
      | l es =>
        obtain ⟨q, rfl, hF, hl⟩ := h2
        exact ⟨rfl, q, rfl, key (by rw [hF]; simp) hl⟩
      | ll ess =>
        obtain ⟨q, bs, rfl, hF, hl, hr, hz⟩ := h2
        have mq : ∀ z ∈ q :: bs, z ∈ F j := fun z m => by rw [hF]; exact m
        refine ⟨rfl, q, _, rfl, .of (by rw [ni q (mq q List.mem_cons_self)]; exact hl), (o.own j q (mq q List.mem_cons_self)).2.1, ?_, hz⟩
        have sub : ∀ z ∈ bs, z ∈ F j := fun z m => mq z (List.mem_cons_of_mem _ m)
        clear hF mq hl hz hd
        induction bs generalizing ess with
        | nil => cases ess with
          | nil => trivial
          | cons _ _ => exact hr.elim
        | cons z bs ih => cases ess with
          | nil => exact hr.elim
          | cons es ess => exact ⟨⟨z, rfl, key (sub z List.mem_cons_self) hr.1⟩, ih ess hr.2 fun y m => sub y (List.mem_cons_of_mem _ m)⟩
      | b es => obtain ⟨_, q, e, w⟩ := h2; exact ⟨rfl, q, e, w.mono eb⟩
      | bb ess => obtain ⟨_, q, vs, e, w1, w2, w3, w4⟩ := h2; exact ⟨rfl, q, vs, e, eb.sql w2 w1, w2, w3.mono eb, w4⟩
      | src => exact ⟨rfl, h2.2⟩
    · rw [List.getElem?_set_ne (Ne.symm hj)] at h
      obtain ⟨v, h1, h2⟩ := o.rep j sl' h
      exact ⟨v, h1, by rw [hF', if_neg hj]; exact h2.mono eb (TupX.refl _) fun _ _ => rfl⟩
  · rw [hF']
    by_cases hj : j = i
    · rw [if_pos hj]; exact .nil
    · rw [if_neg hj]; exact o.nodup j
  · exact fun z => o.apart j k a ne (f1 j a m).2 (f1 k a z).2
  · obtain ⟨_, w, q⟩ := o.own j a (f1 j a m).2
    exact ⟨b1 a ⟨j, m⟩, w, q⟩
theorem sb_frz (i : Nat) (hd : δ[i]? = some (some sl)) (h : SB X sa (δ.set i (some (frzS sl))) S rest W) : SB X sa δ S rest W := pss_imp h fun D σ H ⟨B, ok, k1, k2⟩ => by
  obtain ⟨B', eb, ok'⟩ := ok.frzAt hd
  exact ⟨B', ok', fun B2 σ' H' δ' S' hw e2 => k1 B2 σ' H' δ' S' hw (eb.trans e2), fun B2 v H' r S' F hw e2 => k2 B2 v H' r S' F hw (eb.trans e2)⟩
theorem Step.frz {δ1 : Env} (i : Nat) (h : Step X sa δ S sm δ1 S1) (hd : δ1[i]? = some (some sl)) : Step X sa δ S sm (δ1.set i (some (frzS sl))) S1 := fun rest W hr => h rest W (sb_frz i hd hr)

/-! ### values get names -/
theorem stepV {Wf : ρ → Spec} {δf : β → Env} (v : β) (M : β → ρ) (G : β → Prop) (h : Step X sa δ S sm (δf v) S1) (hg : G v) (hr : ∀ v, G v → SB X sa (δf v) S1 rest (Wf (M v))) : SB X sa δ S (sm :: rest) (Wf (M v)) := h _ _ (hr v hg)
theorem stepVS {Wf : ρ → Spec} {δf : β → Env} (v : β) (M : β → Src → ρ) (G : β → Src → Prop) (h : Step X sa δ S sm (δf v) S1) (hg : G v S1) (hr : ∀ v S, G v S → SB X sa (δf v) S rest (Wf (M v S))) : SB X sa δ S (sm :: rest) (Wf (M v S1)) := h _ _ (hr v S1 hg)
theorem step0 {Wf : ρ → Spec} {m : ρ} (h : Step X sa δ S sm δ' S1) (hr : SB X sa δ' S1 rest (Wf m)) : SB X sa δ S (sm :: rest) (Wf m) := h _ _ hr
theorem step0S {Wf : ρ → Spec} (M : Src → ρ) (G : Src → Prop) (h : Step X sa δ S sm δ' S1) (hg : G S1) (hr : ∀ S, G S → SB X sa δ' S rest (Wf (M S))) : SB X sa δ S (sm :: rest) (Wf (M S1)) := h _ _ (hr _ hg)
theorem forV {Wf : ρ → Spec} {xs : List α} {itm : α → Itm} (M : ν → ρ) (G : ν → Prop) (nf : ν → Env × Src) (n0 : ν) (P : ν → α → Prop) (δb : ν → α → Env) (f : ν → α → ν) {js : List Nat} (hi : IJ true X sa δ S tg iter (xs.map itm) (nf n0).2) (h0 : Sub (nf n0).1 δ)
    (hg : ∀ n x, TGt X sa (nf n).1 tg (itm x) (δb n x) js) (hb : ∀ n x, P n x → SB X sa (δb n x) (nf n).2 body (WN nf (f n x))) (hP : FG P f xs n0) (hG : G (xs.foldl f n0))
    (hr : ∀ n, G n → SB X sa (nf n).1 (nf n).2 rest (Wf (M n))) (hp : PassesOwn (model X.prog X.w) X.A X.env X.xe := by exact PassesOwn.never) (hc : X.calm = true := by rfl) (hs : ∀ x, foldedSetIterable iter X.env x = pure x := by intro _; rfl) :
    SB X sa δ S (.For tg iter body [] pos :: rest) (Wf (M (xs.foldl f n0))) := sb_for nf n0 P δb f hi h0 hg hb hP (hr _ hG) hp hc hs
theorem forR {xs : List α} {itm : α → Itm} (M : ν → ρ) (G : ν → Prop) (nf : ν → Env × Src) (rf : ρ → Sl × Src) (n0 : ν) (P : ν → α → Prop) (δb : ν → α → Env) (f : ν → α → Except ρ ν) {js : List Nat} (hi : IJ true X sa δ S tg iter (xs.map itm) (nf n0).2) (h0 : Sub (nf n0).1 δ)
    (hg : ∀ n x, TGt X sa (nf n).1 tg (itm x) (δb n x) js) (hb : ∀ n x, P n x → SB X sa (δb n x) (nf n).2 body (WX nf rf (f n x))) (hP : FX P f xs n0) (hG : okX (foldX f xs n0) G)
    (hr : ∀ n, G n → SB X sa (nf n).1 (nf n).2 rest (WR rf (M n))) (hp : PassesOwn (model X.prog X.w) X.A X.env X.xe := by exact PassesOwn.never) (hc : X.calm = true := by rfl) (hs : ∀ x, foldedSetIterable iter X.env x = pure x := by intro _; rfl) :
    SB X sa δ S (.For tg iter body [] pos :: rest) (WR rf (bindX (foldX f xs n0) M)) := sb_forR nf rf n0 P δb f hi h0 hg hb hP (fun n q => hr n (by rw [q] at hG; exact hG)) hp hc hs
theorem forX {xs : List α} {itm : α → Itm} {nf' : μ → Env × Src} (M : ν → Except ρ μ) (G : ν → Prop) (nf : ν → Env × Src) (rf : ρ → Sl × Src) (n0 : ν) (P : ν → α → Prop) (δb : ν → α → Env) (f : ν → α → Except ρ ν) {js : List Nat} (hi : IJ true X sa δ S tg iter (xs.map itm) (nf n0).2) (h0 : Sub (nf n0).1 δ)
    (hg : ∀ n x, TGt X sa (nf n).1 tg (itm x) (δb n x) js) (hb : ∀ n x, P n x → SB X sa (δb n x) (nf n).2 body (WX nf rf (f n x))) (hP : FX P f xs n0) (hG : okX (foldX f xs n0) G)
    (hr : ∀ n, G n → SB X sa (nf n).1 (nf n).2 rest (WX nf' rf (M n))) (hp : PassesOwn (model X.prog X.w) X.A X.env X.xe := by exact PassesOwn.never) (hc : X.calm = true := by rfl) (hs : ∀ x, foldedSetIterable iter X.env x = pure x := by intro _; rfl) :
    SB X sa δ S (.For tg iter body [] pos :: rest) (WX nf' rf (bindXX (foldX f xs n0) M)) := sb_forXX nf rf n0 P δb f hi h0 hg hb hP (fun n q => hr n (by rw [q] at hG; exact hG)) hp hc hs
section
variable {sa1 sa2 : List Stmt} {k : Bool}
theorem ifJ {Wf : ρ → Spec} {nf : ν → Env × Src} {x y : ν} (M : ν → ρ) (G : ν → Prop) (hc : ET X sa δ S c k S1) (ha : k = true → SB X sa δ S1 sa1 (WN nf x)) (hb : k = false → SB X sa δ S1 sa2 (WN nf y)) (hG : G (if k = true then x else y))
    (hr : ∀ n, G n → SB X sa (nf n).1 (nf n).2 rest (Wf (M n))) : SB X sa δ S (.If c sa1 sa2 pos :: rest) (Wf (M (if k = true then x else y))) := sb_ifJ hc ha hb (hr _ hG)
theorem sb_ifXg {nf : ν → Env × Src} {rf : ρ → Sl × Src} {x y : Except ρ ν} (hc : ET X sa δ S c k S1) (ha : k = true → SB X sa δ S1 sa1 (WX nf rf x)) (hb : k = false → SB X sa δ S1 sa2 (WX nf rf y))
    (hrt : ∀ r sl s, (if k = true then x else y) = .error r → rf r = (sl, s) → W.rt sl s)
    (hr : ∀ n, (if k = true then x else y) = .ok n → SB X sa (nf n).1 (nf n).2 rest W) : SB X sa δ S (.If c sa1 sa2 pos :: rest) W := by
  have rest' : ∀ o : Except ρ ν, o = (if k = true then x else y) → PSs X rest (fun D σ H => ∃ n, o = .ok n ∧ tSB X.K sa (nf n).1 (nf n).2 W D σ H) := fun o ho => pss_ex (P := fun n => o = .ok n) fun n q => hr n (ho.symm.trans q)
  cases k with
  | true =>
    refine pss_imp (pss_cons (ps_if hc (ha rfl) (pss_never (sts := sa2))) (rest' x rfl)) fun D σ H ⟨B, ok, k1, k2⟩ => ⟨B, ok, fun H1 ok1 e1 => iteT ⟨B, ok1, fun B' σ' H' δ' S' hw eb ok' => ?_, fun B' v H' r S' F hw eb eh hs hres hrep hnd hfr => ?_⟩⟩
    · obtain ⟨n, q1, q2⟩ := hw
      exact ⟨n, q1, B', by rw [q2]; exact ok', fun B3 σ3 H3 δ3 S3 hw e3 => k1 B3 σ3 H3 δ3 S3 hw (eb.trans e3), fun B3 v H3 r S3 F hw e3 => k2 B3 v H3 r S3 F hw (eb.trans e3)⟩
    · obtain ⟨r', q1, q2⟩ := hw
      exact k2 B' v H' r S' F (hrt r' _ _ q1 q2) eb eh hs hres hrep hnd hfr
  | false =>
    refine pss_imp (pss_cons (ps_if hc (pss_never (sts := sa1)) (hb rfl)) (rest' y rfl)) fun D σ H ⟨B, ok, k1, k2⟩ => ⟨B, ok, fun H1 ok1 e1 => iteF ⟨B, ok1, fun B' σ' H' δ' S' hw eb ok' => ?_, fun B' v H' r S' F hw eb eh hs hres hrep hnd hfr => ?_⟩⟩
    · obtain ⟨n, q1, q2⟩ := hw
      exact ⟨n, q1, B', by rw [q2]; exact ok', fun B3 σ3 H3 δ3 S3 hw e3 => k1 B3 σ3 H3 δ3 S3 hw (eb.trans e3), fun B3 v H3 r S3 F hw e3 => k2 B3 v H3 r S3 F hw (eb.trans e3)⟩
    · obtain ⟨r', q1, q2⟩ := hw
      exact k2 B' v H' r S' F (hrt r' _ _ q1 q2) eb eh hs hres hrep hnd hfr
theorem ifR {nf : ν → Env × Src} {rf : ρ → Sl × Src} {x y : Except ρ ν} (M : ν → ρ) (G : ν → Prop) (hc : ET X sa δ S c k S1) (ha : k = true → SB X sa δ S1 sa1 (WX nf rf x)) (hb : k = false → SB X sa δ S1 sa2 (WX nf rf y)) (hG : okX (if k = true then x else y) G)
    (hr : ∀ n, G n → SB X sa (nf n).1 (nf n).2 rest (WR rf (M n))) : SB X sa δ S (.If c sa1 sa2 pos :: rest) (WR rf (bindX (if k = true then x else y) M)) :=
  sb_ifXg hc ha hb (fun r sl s q1 q2 => by show rf (bindX _ _) = _; rw [q1]; exact q2) (fun n q => by rw [q]; exact hr n (by rw [q] at hG; exact hG))
theorem ifX {nf : ν → Env × Src} {nf' : μ → Env × Src} {rf : ρ → Sl × Src} {x y : Except ρ ν} (M : ν → Except ρ μ) (G : ν → Prop) (hc : ET X sa δ S c k S1) (ha : k = true → SB X sa δ S1 sa1 (WX nf rf x)) (hb : k = false → SB X sa δ S1 sa2 (WX nf rf y)) (hG : okX (if k = true then x else y) G)
    (hr : ∀ n, G n → SB X sa (nf n).1 (nf n).2 rest (WX nf' rf (M n))) : SB X sa δ S (.If c sa1 sa2 pos :: rest) (WX nf' rf (bindXX (if k = true then x else y) M)) :=
  sb_ifXg hc ha hb (fun r sl s q1 q2 => by rw [q1]; exact ⟨r, rfl, q2⟩) (fun n q => by rw [q]; exact hr n (by rw [q] at hG; exact hG))
end

/-! ### casts -/
theorem ev_cast [Enc α] [Enc β] {x : α} {y : β} (h : enc x = enc y) (he : EG st X sa δ S e (.p (enc x)) S') : EG st X sa δ S e (.p (enc y)) S' := h ▸ he
theorem ev_castB [Enc α] [Enc β] {x : List α} {y : List β} (h : encs x = encs y) (he : EG st X sa δ S e (.b (encs x)) S') : EG st X sa δ S e (.b (encs y)) S' := h ▸ he
theorem el_cast [Enc α] [Enc β] {x : List α} {y : List β} (h : encs x = encs y) (he : EL X sa δ S e (encs x) S') : EL X sa δ S e (encs y) S' := h ▸ he
theorem enc_opt [Enc α] [Inhabited α] {o : Option α} (h : o.isSome = true) : enc o = enc (o.getD default) := by
  cases o with
  | none => cases h
  | some x => rfl
theorem encs_map [Enc α] [Enc β] {xs : List α} {f : α → β} (h : ∀ x ∈ xs, enc x = enc (f x)) : encs xs = encs (xs.map f) := by
  show xs.map enc = (xs.map f).map enc
  rw [List.map_map]
  exact List.map_congr_left h
theorem enc_map [Enc α] [Enc β] {xs : List α} {f : α → β} (h : ∀ x ∈ xs, enc x = enc (f x)) : enc xs = enc (xs.map f) := congrArg PyData.tuple (encs_map h)
theorem enc_s1 [Enc α] [Inhabited α] {xs : List α} (h : xs.length = 1) : enc xs = enc (T1.mk (getI xs 0)) := by
  match xs, h with
  | [a], _ => rfl
theorem enc_s2 [Enc α] [Inhabited α] {xs : List α} (h : xs.length = 2) : enc xs = enc (getI xs 0, getI xs 1) := by
  match xs, h with
  | [a, b], _ => rfl
theorem enc_s3 [Enc α] [Inhabited α] {xs : List α} (h : xs.length = 3) : enc xs = enc (T3.mk (getI xs 0) (getI xs 1) (getI xs 2)) := by
  match xs, h with
  | [a, b, c], _ => rfl
theorem enc_s4 [Enc α] [Inhabited α] {xs : List α} (h : xs.length = 4) : enc xs = enc (T4.mk (getI xs 0) (getI xs 1) (getI xs 2) (getI xs 3)) := by
  match xs, h with
  | [a, b, c, d], _ => rfl
theorem enc_t2 {α' β' : Type} [Enc α] [Enc β] [Enc α'] [Enc β'] {x : α × β} {f : α → α'} {g : β → β'} (h1 : enc x.1 = enc (f x.1)) (h2 : enc x.2 = enc (g x.2)) : enc x = enc (f x.1, g x.2) := by
  show PyData.tuple [enc x.1, enc x.2] = PyData.tuple [enc (f x.1), enc (g x.2)]
  rw [h1, h2]

/-! ### blocks -/
def blkB (N : List Str) (sc scope : Scope) (own : List (Str × Nat)) : Bool :=
  (match scope.kind with | .function => true | _ => false) && scope.names.all (fun y => decide (scope.names.lookup y.1 = some y.2)) && own.all (fun q => decide (N[q.2]? = some q.1))
    && scope.names.all (fun y => decide (y.2 = .free → sc.names.lookup y.1 = some .cell ∨ sc.names.lookup y.1 = some .free))
    && scope.names.all (fun y => decide (y.2 = .local ∨ y.2 = .cell → y.1 ∈ own.map (·.1) ∨ y.1 ∉ N))
theorem blk_of {N : List Str} {sc scope : Scope} {own : List (Str × Nat)} (h : blkB N sc scope own = true) : BlkOk N sc scope own := by
  unfold blkB at h
  simp only [Bool.and_eq_true, List.all_eq_true, decide_eq_true_eq] at h
  obtain ⟨⟨⟨⟨h1, h2⟩, h3⟩, h4⟩, h5⟩ := h
  refine ⟨?_, h2, h3, h4, h5⟩
  cases q : scope.kind <;> rw [q] at h1 <;> first | rfl | cases h1

/-! ### stores by types -/
theorem encs_snoc [Enc β] (xs : List β) (v : β) : encs xs ++ [enc v] = encs (xs ++ [v]) := by
  show xs.map enc ++ [enc v] = (xs ++ [v]).map enc
  rw [List.map_append]; rfl
theorem encs_app [Enc β] (xs ys : List β) : encs xs ++ encs ys = encs (xs ++ ys) := (List.map_append ..).symm
def SzOk (n : Int) : Prop := n < 16777216
theorem st_app [Enc β] {x : Str} {xs : List β} {v : β} {p1 p2 p3 p4 : Pos} (hd : δ[i]? = some (some (.l (encs xs)))) (hv : PE X (.Name x p1) (tVar i)) (he : EE X sa δ S e (.p (enc v)) S1) (hz : xs.length < 16777216)
    (hpe : ∀ {to : TE} {t : TA}, PE X (.Name x p1) to → PA X [e] t → PE X (.Call (.Attribute (.Name x p1) "append" p2) [e] [] p3) (tBM X.K "list" rAppend to t)) (hs : starEach [e] X.env = [(false, eval e X.env)] := by rfl) : Step X sa δ S (.Expr (.Call (.Attribute (.Name x p1) "append" p2) [e] [] p3) p4) (δ.set i (some (.l (encs (xs ++ [v]))))) S1 := fun rest W hr =>
  sb_append hd hv he (by rw [List.length_map]; exact hz) (by rw [encs_snoc]; exact hr) (fun h => ps_expr h) hpe hs
theorem st_ext [Enc β] {x : Str} {xs ys : List β} {p1 p2 p3 p4 : Pos} (hd : δ[i]? = some (some (.l (encs xs)))) (hv : PE X (.Name x p1) (tVar i)) (he : EL X sa δ S e (encs ys) S1) (hz : xs.length + ys.length ≤ 16777216)
    (hpe : ∀ {to : TE} {t : TA}, PE X (.Name x p1) to → PA X [e] t → PE X (.Call (.Attribute (.Name x p1) "extend" p2) [e] [] p3) (tBM X.K "list" rExtend to t)) (hs : starEach [e] X.env = [(false, eval e X.env)] := by rfl) : Step X sa δ S (.Expr (.Call (.Attribute (.Name x p1) "extend" p2) [e] [] p3) p4) (δ.set i (some (.l (encs (xs ++ ys))))) S1 := fun rest W hr =>
  sb_extend hd hv he (by rw [List.length_map, List.length_map]; exact hz) (by rw [encs_app]; exact hr) (fun h => ps_expr h) hpe hs
theorem encs_setAt [Enc β] (xs : List β) (j : Int) (y : β) : setAt (encs xs) j (enc y) = encs (setAt xs j y) := setAt_map enc xs j y
theorem encss_setAt2 [Enc β] (xss : List (List β)) (u v : Int) (y : β) : setAt2 (encss xss) u v (enc y) = encss (setAt2 xss u v y) := setAt2_map enc xss u v y
theorem inB_map (f : α → β) {xs : List α} {i : Int} (h : InB xs i) : InB (xs.map f) i := by
  unfold InB at h ⊢
  rw [List.length_map]; exact h
theorem inB2_map [Enc β] {xss : List (List β)} {u v : Int} (h : InB2 xss u v) : InB2 (encss xss) u v := ⟨inB_map _ h.1, fun xs q => by
  rw [atI_map] at q
  cases z : L2.atI xss u with
  | none => rw [z] at q; cases q
  | some ys => rw [z] at q; cases q; exact inB_map _ (h.2 ys z)⟩
/-- x[j] = v -/
theorem st_sto [Enc β] {x : Str} {xs : List β} {v : β} {j : Int} {ix : Expr} {p1 p2 p3 : Pos} (hd : δ[i]? = some (some (.l (encs xs)))) (hv : PE X (.Name x p1) (tVar i)) (he : EE X sa δ S e (.p (enc v)) S1) (hx : EE X sa δ S1 ix (.p (.int j)) S2) (hj : InB xs j)
    (hps : ∀ {te to ti : TE}, PE X e te → PE X (.Name x p1) to → PE X ix ti → PS X (.Assign [.Subscript (.Name x p1) ix p2] e p3) (tAsg te (gSub to ti rSetL))) : Step X sa δ S (.Assign [.Subscript (.Name x p1) ix p2] e p3) (δ.set i (some (.l (encs (setAt xs j v))))) S2 := fun rest W hr =>
  sb_store hd hv he hx (inB_map _ hj) (by rw [encs_setAt]; exact hr) hps
/-- rows[u][v] = w -/
theorem st_sto2 [Enc β] {tge : Expr} {xss : List (List β)} {w : β} {u v : Int} {p3 : Pos} (ht : PG X tge (tRow X.K sa δ S1 i (encss xss) (enc w) u v)) (he : EE X sa δ S e (.p (enc w)) S1)
    (hps : ∀ {te : TE} {g : TG}, PE X e te → PG X tge g → PS X (.Assign [tge] e p3) (tAsg te g)) : Step X sa δ S (.Assign [tge] e p3) (δ.set i (some (.ll (encss (setAt2 xss u v w))))) S1 := fun rest W hr =>
  sb_store2 ht he (by rw [encss_setAt2]; exact hr) hps
/-- a row's place as a target -/
theorem tg_rowT [Enc β] {x : Str} {xss : List (List β)} {w : β} {u v : Int} {eu ev : Expr} {p1 p2 : Pos} (hd : δ[i]? = some (some (.ll (encss xss)))) (hv : PE X (.Name x p1) (tVar i)) (hu : EE X sa δ S eu (.p (.int u)) S) (hvv : EE X sa δ S ev (.p (.int v)) S) (hj : InB2 xss u v)
    (hpu : PlainIx eu := by exact fun _ _ => rfl)
    (hpg : ∀ {to ti : TE} {t : TSet}, PE X (.Subscript (.Name x p1) eu p2) to → PE X ev ti → PSet X t → PG X (.Subscript (.Subscript (.Name x p1) eu p2) ev p) (gSub to ti t)) : PG X (.Subscript (.Subscript (.Name x p1) eu p2) ev p) (tRow X.K sa δ S i (encss xss) (enc w) u v) := tg_row hd hv hu hvv (inB2_map hj) hpu hpg
/-- rows[u][v], rows[u2][v2] = a pair -/
theorem st_sto22 [Enc β] {t1 t2 : Expr} {xss : List (List β)} {w w2 : β} {u v u2 v2 : Int} (hc : X.calm = true) (he : EE X sa δ S e (.p (enc (w, w2))) S1) (h1 : PG X t1 (tRow X.K sa δ S1 i (encss xss) (enc w) u v))
    (h2 : PG X t2 (tRow X.K sa (δ.set i (some (.ll (encss (setAt2 xss u v w))))) S1 i (encss (setAt2 xss u v w)) (enc w2) u2 v2))
    (hs : swapsWithSole [.Tuple [t1, t2] kk p] e pos.line X.env = pure false := by rfl) (hw : swappedStores [.Tuple [t1, t2] kk p] e X.env = pure none := by rfl) (ha : (assignEach [.Tuple [t1, t2] kk p] X.env).map (·.2) = [assign (.Tuple [t1, t2] kk p) X.env] := by rfl)
    (hs1 : (assignEach [t1, t2] X.env).map (·.2) = assign t1 X.env :: (assignEach [t2] X.env).map (·.2) := by rfl) (hs2 : (assignEach [t2] X.env).map (·.2) = assign t2 X.env :: (assignEach [] X.env).map (·.2) := by rfl)
    (hn : (assignEach [t1, t2] X.env).length = 2 := by rfl) (hst : (assignEach [t1, t2] X.env).findIdx? (·.1) = none := by rfl) :
    Step X sa δ S (.Assign [.Tuple [t1, t2] kk p] e pos) ((δ.set i (some (.ll (encss (setAt2 xss u v w))))).set i (some (.ll (encss (setAt2 (setAt2 xss u v w) u2 v2 w2))))) S1 := fun rest W hr =>
  sb_seq (ps_asg he (pg_tup hc (pgs_cons h1 (pgs_cons h2 pgs_nil hs2) hs1) hn hst) hs hw ha) hr fun D σ H B ok k => ⟨B, ok, fun z H1 B1 ok1 e1 b1 r1 => by
    obtain rfl : B1 = H1 := b1
    obtain ⟨a, xs, rfl, hq, hd, hp, _⟩ := dpt r1
    cases hd with
    | cons d1 t =>
      cases t with
      | cons d2 t =>
        cases t
        refine ⟨a, _, rfl, hq, rfl, _, _, rfl, B, ok1, d1, hp.1, fun H2 ok2 tx => ⟨_, _, rfl, B, ?_, tx.dp _ _ hp.2.1 d2, hp.2.1, fun H3 ok3 tx3 => ⟨rfl, k B σ H3 (.refl _ _) ?_⟩⟩⟩
        · rw [encss_setAt2] at ok2; exact ok2
        · rw [encss_setAt2] at ok3; exact ok3⟩
end
end L2.Ev

set_option Elab.async false
set_option linter.all false
set_option maxRecDepth 100000
/-! Ev12: the start of a def's proof; small rules that the generator names. -/
namespace L2.Ev
open PySem PySem.Spec PyProof.Rows
section
variable {X : Cx} {sa : SA} {δ δ' : Env} {S S0 S1 S2 S' : Src} {st : Bool} {e a b c d' tg iter elt e1 e2 e3 : Expr} {es : List Expr} {pos p pos' tpos : Pos} {elts : List Expr} {kk : Nat} {K : PySem.W.Frag} {B B' H H' : Hp} {σ : L2.St} {rest body sts : List Stmt} {W : Spec} {sm : Stmt}
variable {α β γ ρ ν μ : Type} {i j : Nat} {d : PyData} {ds : List PyData} {dss : List (List PyData)} {sl sl1 sl2 sl3 r : Sl}
theorem SB.start {rf : ρ → Sl × Src} {m : ρ} (he : δ = δ') (hm : rf m = (r, S')) (h : SB X sa δ' S sts (WR rf m)) : SB X sa δ S sts ⟨fun _ S'' => r = .p .none ∧ S'' = S', fun r' S'' => r' = r ∧ S'' = S'⟩ := by
  subst he
  refine pss_imp h fun D σ H ⟨B, ok, k1, k2⟩ => ⟨B, ok, fun _ _ _ _ _ hf => hf.elim, fun B' v H' r' S'' F hw => k2 B' v H' r' S'' F ?_⟩
  have hw' : rf m = (r', S'') := hw
  rw [hm] at hw'
  cases hw'
  exact ⟨rfl, rfl⟩
def itP1 [Enc α] (x : α) : Itm := .one (.p (enc x))
def itB1 [Enc α] (x : List α) : Itm := .one (.b (encs x))
theorem _root_.L2.Room.un64 {k : Nat} {A : Around} (r : Room k A) (h : 0 ≤ k) : A.units + 64 < cLine := r.units
theorem _root_.L2.Room.un65 {k : Nat} {A : Around} (r : Room k A) (h : 0 ≤ k) : A.units + 65 < cLine := by have := r.un; omega
theorem enc_p2 {α' β' : Type} [Enc α] [Enc β] [Enc α'] [Enc β'] {a : α} {b : β} {a' : α'} {b' : β'} (h1 : enc a = enc a') (h2 : enc b = enc b') : enc (a, b) = enc (a', b') := by
  show PyData.tuple [enc a, enc b] = PyData.tuple [enc a', enc b']
  rw [h1, h2]
theorem enc_p3 {α' β' γ' : Type} [Enc α] [Enc β] [Enc γ] [Enc α'] [Enc β'] [Enc γ'] {a : α} {b : β} {c : γ} {a' : α'} {b' : β'} {c' : γ'} (h1 : enc a = enc a') (h2 : enc b = enc b') (h3 : enc c = enc c') : enc (T3.mk a b c) = enc (T3.mk a' b' c') := by
  show PyData.tuple [enc a, enc b, enc c] = PyData.tuple [enc a', enc b', enc c']
  rw [h1, h2, h3]
end
end L2.Ev

set_option Elab.async false
set_option linter.all false
set_option maxRecDepth 100000
/-! Ev13: more operators: * and + and slices of tuples, lists; is, in; repr; unpacking. -/
namespace L2.Ev
open PySem PySem.Spec PyProof.Rows
section
variable {X : Cx} {sa : SA} {δ δ' : Env} {S S0 S1 S2 S3 S' : Src} {st : Bool} {e a b c d' tg iter elt e1 e2 e3 : Expr} {es : List Expr} {pos p pos' tpos : Pos} {elts : List Expr} {kk : Nat} {K : PySem.W.Frag} {B B' H H' : Hp} {σ : L2.St} {rest body sts : List Stmt} {W : Spec} {sm : Stmt}
variable {α β γ ρ ν μ : Type} {i j : Nat} {d : PyData} {ds : List PyData} {dss : List (List PyData)} {sl sl1 sl2 sl3 r : Sl}
/-! ### [..] * k, + -/
theorem el_repT [Enc β] {xs : List β} {k : Int} (hz : RepOk xs.length k) (ha : EL X sa δ S a (encs xs) S1) (hb : EE X sa δ S1 b (.p (.int k)) S2) : EL X sa δ S (.BinOp a .Mult b pos) (encs (repL k xs)) S2 := by
  have h := el_rep (pos := pos) (xs := encs xs) (by rw [List.length_map]; exact hz) ha hb
  rw [show encs (repL k xs) = repL k (encs xs) from (repL_map enc k xs).symm]
  exact h
/-- a list, its own cell -/
def tEC (K : PySem.W.Frag) (sa : SA) (δ : Env) (S : Src) (ds : List PyData) (S' : Src) : TE := fun σ H Q =>
  ∃ B, Ok K sa B H σ δ S ∧ ∀ p H', Ok K sa B H' σ δ S' → Ext sa H H' → LsAt K H' p ds → Away sa p → Q (.ref p) H'
def EC (X : Cx) (sa : SA) (δ : Env) (S : Src) (e : Expr) (ds : List PyData) (S' : Src) : Prop := PE X e (tEC X.K sa δ S ds S')
theorem ec_new (h : EL X sa δ S e ds S') : EC X sa δ S e ds S' := pe_imp h fun σ H Q ⟨B, ok, k⟩ => ⟨B, ok, fun p H' hp ok' e' hl => k p H' ok' e' hl (ok.away hp)⟩
theorem ec_var (i : Nat) {x : Str} (hd : δ[i]? = some (some (.l ds))) (hv : PE X (.Name x pos) (tVar i)) : EC X sa δ S (.Name x pos) ds S := pe_imp hv fun σ H Q ⟨B, ok, k⟩ => by
  obtain ⟨l, vs, h1, h2, h3, h4, h5, h6⟩ := own_at ok hd
  exact ⟨.ref l, h1, k l H ok (.refl _ _) ⟨vs, h2, h3, h4, h5⟩ h6⟩
theorem el_catB [Enc β] {xs ys : List β} (hz : (xs.length : Int) + (ys.length : Int) ≤ 16777216) (ha : EC X sa δ S a (encs xs) S1) (hb : EC X sa δ S1 b (encs ys) S2) : EL X sa δ S (.BinOp a .Add b pos) (encs (xs ++ ys)) S2 := pe_imp (pe_op op_cat ha hb) fun σ H Q ⟨B, ok, k⟩ => ⟨B, ok, fun l H1 ok1 e1 q1 a1 => ⟨B, ok1, fun m H2 ok2 e2 q2 a2 => by
    obtain ⟨vs, g1, g3, g4, g5⟩ := q1
    obtain ⟨ws, f1, f3, f4, f5⟩ := q2
    have hl : (encs xs).length + (encs ys).length ≤ sizeLine := by rw [List.length_map, List.length_map, sizeLine_eq]; omega
    refine ⟨l, m, vs, ws, rfl, rfl, e2.cell l _ g1 a1, f1, by rw [g3.length, f3.length]; exact hl, fun q hq => ?_⟩
    have ex : Ext sa H2 (upd H2 q (.lst (vs ++ ws))) := .new hq
    refine k q _ ((e1.trans e2).none_of ok2 hq) (ok2.new hq) ((e1.trans e2).trans ex) ⟨_, upd_same, ?_, ?_, ?_⟩
    · rw [← encs_app]; exact ex.tup.dpAll _ _ (g4.append f4) (DpAll.append (e2.tup.dpAll _ _ g4 g3) f3)
    · rw [← encs_app]; exact g4.append f4
    · rw [← encs_app, List.length_append]; exact hl⟩⟩
theorem ev_catT [Enc β] {xs ys : List β} (hz : (xs.length : Int) + (ys.length : Int) ≤ 16777216) (ha : EE X sa δ S a (.p (enc xs)) S1) (hb : EE X sa δ S1 b (.p (enc ys)) S2) : EG st X sa δ S (.BinOp a .Add b pos) (.p (enc (xs ++ ys))) S2 := pe_imp (pe_op op_catA ha hb) fun σ H Q ⟨B, ok, k⟩ => ⟨B, ok, fun v H1 B1 ok1 e1 b1 r1 => ⟨B, ok1, fun u H2 B2 ok2 e2 b2 r2 => by
    obtain rfl : B1 = H1 := b1
    obtain rfl : B2 = H2 := b2
    have r1' := r1.ext e2
    obtain ⟨l, vs, rfl, g1, g2, g3, g4⟩ := dpt r1'
    obtain ⟨m, ws, rfl, f1, f2, f3, f4⟩ := dpt r2
    have hl : (encs xs).length + (encs ys).length ≤ sizeLine := by rw [List.length_map, List.length_map, sizeLine_eq]; omega
    have lv : vs.length = xs.length := by rw [g2.length, List.length_map]
    have lw : ws.length = ys.length := by rw [f2.length, List.length_map]
    refine ⟨l, m, vs, ws, rfl, rfl, g1, f1, by rw [g2.length, f2.length]; exact hl, fun h0 => ?_, fun _ h0 => ?_, fun _ _ q hq => ?_⟩
    · obtain rfl : xs = [] := List.eq_nil_of_length_eq_zero (by rw [← lv, h0]; rfl)
      exact give_p ok (e1.trans e2) ok2.src r2.2.1 r2.2.2 fun B' ok' b r => k _ _ B' ok' (e1.trans e2) b r
    · obtain rfl : ys = [] := List.eq_nil_of_length_eq_zero (by rw [← lw, h0]; rfl)
      rw [List.append_nil] at k
      exact give_p ok (e1.trans e2) ok2.src r1'.2.1 r1'.2.2 fun B' ok' b r => k _ _ B' ok' (e1.trans e2) b r
    · have ex : Ext sa B2 (upd B2 q (.tup (vs ++ ws))) := .new hq
      refine give_p (v := .ref q) (d := .tuple (encs (xs ++ ys))) ok ((e1.trans e2).trans ex) (ok2.src.same (same_new hq)) (.tup (.of upd_same) ?_) ⟨?_, ?_⟩ fun B' ok' bb r => k _ _ B' ok' ((e1.trans e2).trans ex) bb r
      · rw [← encs_app]; exact ex.tup.dpAll _ _ (g3.append f3) (DpAll.append g2 f2)
      · rw [← encs_app, List.length_append]; exact hl
      · rw [← encs_app]; exact g3.append f3⟩⟩
/-! ### slices -/
def cutL {α : Type} (xs : List α) (lo hi : Option Int) : List α := (xs.drop (HT.sIx xs.length 0 lo)).take (HT.sIx xs.length xs.length hi - HT.sIx xs.length 0 lo)
theorem cutL_map {α β : Type} (f : α → β) (xs : List α) (lo hi : Option Int) : cutL (xs.map f) lo hi = (cutL xs lo hi).map f := by
  unfold cutL
  rw [List.length_map, ← List.map_drop, ← List.map_take]
theorem DpAll.cut {vs : List V} {ds : List PyData} (h : DpAll K H vs ds) (lo hi : Option Int) : DpAll K H (cutV vs lo hi) (cutL ds lo hi) := by
  unfold cutV cutL
  rw [h.length]
  exact (h.drop _).take _
theorem PuAll.cut {ds : List PyData} (h : PuAll ds) (lo hi : Option Int) : PuAll (cutL ds lo hi) := h.sub fun d m => List.mem_of_mem_drop (List.mem_of_mem_take m)
theorem cutL_length {α : Type} (xs : List α) (lo hi : Option Int) : (cutL xs lo hi).length ≤ xs.length := by
  unfold cutL
  rw [List.length_take, List.length_drop]; omega
def tEP (K : PySem.W.Frag) (sa : SA) (δ : Env) (S : Src) (o : Option Int) (S' : Src) : TO := fun σ H Q => ∃ B, Ok K sa B H σ δ S ∧ ∀ H', Ok K sa B H' σ δ S' → Ext sa H H' → Q o H'
def EP (X : Cx) (sa : SA) (δ : Env) (S : Src) (e : Option Expr) (o : Option Int) (S' : Src) : Prop := PO X e (tEP X.K sa δ S o S')
theorem po_imp {e : Option Expr} {t t' : TO} (h : PO X e t) (m : ∀ σ H Q, t' σ H Q → t σ H Q) : PO X e t' := ⟨fun pins s σ H Q I q => h.run pins s σ H Q I (m σ H Q q)⟩
theorem ep_none : EP X sa δ S none none S := po_imp po_none fun σ H Q ⟨B, ok, k⟩ => k H ok (.refl _ _)
theorem ep_some {i : Int} (h : EE X sa δ S e (.p (.int i)) S') : EP X sa δ S (some e) (some i) S' := po_imp (po_some h) fun σ H Q ⟨B, ok, k⟩ => ⟨B, ok, fun v H1 B1 ok1 e1 b1 r1 => ⟨i, by
  obtain rfl : B1 = H1 := b1
  exact dpi r1, k _ ok1 e1⟩⟩
theorem ev_slT [Enc β] {xs : List β} {lo hi : Option Expr} {l h : Option Int} {p2 : Pos} (ha : EE X sa δ S a (.p (enc xs)) S1) (hl : EP X sa δ S1 lo l S2) (hh : EP X sa δ S2 hi h S3) : EG st X sa δ S (.Subscript a (.Slice lo hi none p2) pos) (.p (enc (cutL xs l h))) S3 :=
  pe_imp (pe_slice sl_tupA ha hl hh) fun σ H Q ⟨B, ok, k⟩ => ⟨B, ok, fun v H1 B1 ok1 e1 b1 r1 => ⟨B, ok1, fun H2 ok2 e2 => ⟨B, ok2, fun H3 ok3 e3 => by
    obtain rfl : B1 = H1 := b1
    have r1' := r1.ext (e2.trans e3)
    obtain ⟨q, vs, rfl, g1, g2, g3, g4⟩ := dpt r1'
    have lv : vs.length = xs.length := by rw [g2.length, List.length_map]
    have ex0 := e1.trans (e2.trans e3)
    refine ⟨q, vs, rfl, g1, fun hw => ?_, fun _ z hz => ?_⟩
    · have : cutL xs l h = xs := by
        unfold cutL
        rw [lv] at hw
        rw [hw.1, hw.2, List.drop_zero, Nat.sub_zero, List.take_length]
      rw [this] at k
      exact give_p ok ex0 ok3.src r1'.2.1 r1'.2.2 fun B' ok' b r => k _ _ B' ok' ex0 b r
    · have ex : Ext sa H3 (upd H3 z (.tup (cutV vs l h))) := .new hz
      have en : encs (cutL xs l h) = cutL (encs xs) l h := (cutL_map enc xs l h).symm
      refine give_p (v := .ref z) (d := .tuple (encs (cutL xs l h))) ok (ex0.trans ex) (ok3.src.same (same_new hz)) (.tup (.of upd_same) ?_) ⟨?_, ?_⟩ fun B' ok' bb r => k _ _ B' ok' (ex0.trans ex) bb r
      · rw [en]; exact ex.tup.dpAll _ _ (g3.cut l h) (DpAll.cut g2 l h)
      · rw [en]; exact Nat.le_trans (cutL_length _ _ _) g4
      · rw [en]; exact g3.cut l h⟩⟩⟩
theorem el_slL [Enc β] {xs : List β} {lo hi : Option Expr} {l h : Option Int} {p2 : Pos} (ha : EE X sa δ S a (.b (encs xs)) S1) (hl : EP X sa δ S1 lo l S2) (hh : EP X sa δ S2 hi h S3) : EL X sa δ S (.Subscript a (.Slice lo hi none p2) pos) (encs (cutL xs l h)) S3 :=
  pe_imp (pe_slice sl_list ha hl hh) fun σ H Q ⟨B, ok, k⟩ => ⟨B, ok, fun v H1 B1 ok1 e1 b1 r1 => ⟨B, ok1, fun H2 ok2 e2 => ⟨B, ok2, fun H3 ok3 e3 => by
    obtain rfl : B1 = H1 := b1
    obtain ⟨_, q, rfl, vs, g1, g2, g3, g4, g5⟩ := r1.ext (e2.trans e3)
    have ex0 := e1.trans (e2.trans e3)
    refine ⟨q, vs, rfl, g1, fun z hz => ?_⟩
    have ex : Ext sa H3 (upd H3 z (.lst (cutV vs l h))) := .new hz
    have en : encs (cutL xs l h) = cutL (encs xs) l h := (cutL_map enc xs l h).symm
    refine k z _ (ex0.none_of ok3 hz) (ok3.new hz) (ex0.trans ex) ⟨_, upd_same, ?_, ?_, ?_⟩
    · rw [en]; exact ex.tup.dpAll _ _ (g4.cut l h) (DpAll.cut g3 l h)
    · rw [en]; exact g4.cut l h
    · rw [en]; exact Nat.le_trans (cutL_length _ _ _) g5⟩⟩⟩
theorem DpAll.rev' {vs : List V} {ds : List PyData} (h : DpAll K H vs ds) : DpAll K H vs.reverse ds.reverse := h.rev
/-- xs[::-1] of a list -/
theorem el_revL [Enc β] {xs : List β} {k : Nat} {p1 p2 p3 : Pos} (ha : EE X sa δ S a (.b (encs xs)) S1) : EL X sa δ S (.Subscript a (.Slice none none (some (.UnaryOp .USub (.Constant (.int 1) k p1) p2)) p3) pos) (encs xs.reverse) S1 :=
  pe_imp (pe_revL ha) fun σ H Q ⟨B, ok, kk⟩ => ⟨B, ok, fun v H1 B1 ok1 e1 b1 r1 => by
    obtain rfl : B1 = H1 := b1
    obtain ⟨_, q, rfl, vs, g1, g2, g3, g4, g5⟩ := r1
    refine ⟨q, vs, rfl, g1, fun z hz => ?_⟩
    have ex : Ext sa B1 (upd B1 z (.lst vs.reverse)) := .new hz
    have en : encs xs.reverse = (encs xs).reverse := List.map_reverse
    refine kk z _ (e1.none_of ok1 hz) (ok1.new hz) (e1.trans ex) ⟨_, upd_same, ?_, ?_, ?_⟩
    · rw [en]; exact ex.tup.dpAll _ _ (g4.sub fun d m => List.mem_reverse.mp m) g3.rev
    · rw [en]; exact g4.sub fun d m => List.mem_reverse.mp m
    · rw [en, List.length_reverse]; exact g5⟩

/-! ### is, in -/
theorem rc_isNO [Enc α] {o : Option α} (hn : ∀ x : α, enc x ≠ .none) : RC K sa (fun x y H Q => y = .non ∧ Q (.bl (decide (x = .non))) H) (.p (enc o)) (.p (enc ())) o.isNone := by
  have h := rc_isN (K := K) (sa := sa) (d := enc o)
  cases o with
  | none => exact h
  | some x =>
    have z := hn x
    cases q : enc x with
    | none => exact absurd q z
    | _ => simp only [show enc (some x) = enc x from rfl, q] at h ⊢; exact h
theorem rc_notNO [Enc α] {o : Option α} (hn : ∀ x : α, enc x ≠ .none) : RC K sa (fun x y H Q => y = .non ∧ Q (.bl (!decide (x = .non))) H) (.p (enc o)) (.p (enc ())) o.isSome := by
  have h := rc_notN (K := K) (sa := sa) (d := enc o)
  cases o with
  | none => exact h
  | some x =>
    have z := hn x
    cases q : enc x with
    | none => exact absurd q z
    | _ => simp only [show enc (some x) = enc x from rfl, q] at h ⊢; exact h
theorem rc_isBl {x y : Bool} : RC K sa rIsB (.p (.bool x)) (.p (.bool y)) (decide (x = y)) := fun va vb H Q r1 r2 q => ⟨x, y, dpb r1, dpb r2, q⟩
theorem rc_notBl {x y : Bool} : RC K sa rNotB (.p (.bool x)) (.p (.bool y)) (decide (x ≠ y)) := fun va vb H Q r1 r2 q => ⟨x, y, dpb r1, dpb r2, by rw [decide_not] at q; exact q⟩
def rInT (K : PySem.W.Frag) : R2 := fun x y H Q => ∃ d ds, Dp K H x d ∧ Dp K H y (.tuple ds) ∧ SeqAt.shaped d = true ∧ SeqAt.shaped (.list ds) = true ∧ Q (.bl (ds.any fun z => PyData.eqv z d)) H
def rNotInT (K : PySem.W.Frag) : R2 := fun x y H Q => ∃ d ds, Dp K H x d ∧ Dp K H y (.tuple ds) ∧ SeqAt.shaped d = true ∧ SeqAt.shaped (.list ds) = true ∧ Q (.bl (!ds.any fun z => PyData.eqv z d)) H
theorem op_inT (hu : X.A.units + 65 < cLine) : OpR X (compareOp .In) (rInT X.K) := by
  intro pins s σ H x y v u Q I rx ry h
  obtain ⟨d, ds, hd, he, sd, se, q⟩ := h
  obtain ⟨as, r1⟩ := Dp.reads I d x v hd rx
  obtain ⟨bs, r2⟩ := Dp.reads I (.tuple ds) y u he ry
  exact SeqAt.in_tuple_reads r2 r1 (SeqAt.canLay_of_shaped se) (SeqAt.canLay_of_shaped sd) (room_in_shaped sd hu) ⟨.bl _, H, I, rfl, q⟩
theorem op_notInT (hu : X.A.units + 65 < cLine) : OpR X (compareOp .NotIn) (rNotInT X.K) := by
  intro pins s σ H x y v u Q I rx ry h
  obtain ⟨d, ds, hd, he, sd, se, q⟩ := h
  obtain ⟨as, r1⟩ := Dp.reads I d x v hd rx
  obtain ⟨bs, r2⟩ := Dp.reads I (.tuple ds) y u he ry
  exact SeqAt.notIn_tuple_reads r2 r1 (SeqAt.canLay_of_shaped se) (SeqAt.canLay_of_shaped sd) (room_in_shaped sd hu) ⟨.bl _, H, I, rfl, q⟩
/-- x in xs -/
def mem {α : Type} [DecidableEq α] (x : α) (xs : List α) : Bool := decide (x ∈ xs)
theorem any_eqv [Enc α] [DecidableEq α] {n : Nat} [EqD α n] (x : α) (xs : List α) : ((encs xs).any fun z => PyData.eqv z (enc x)) = mem x xs := by
  unfold mem
  induction xs with
  | nil => simp
  | cons y ys ih =>
    show (PyData.eqv (enc y) (enc x) || (encs ys).any fun z => PyData.eqv z (enc x)) = _
    rw [ih, EqD.eqv]
    by_cases h : y = x
    · subst h; simp
    · rw [decide_eq_false h, Bool.false_or]
      have : x ≠ y := fun z => h z.symm
      simp [this]
section
variable [Enc α] [DecidableEq α] {n : Nat}
theorem rc_inT [EqD α n] (x : α) (xs : List α) (hn : Nat.ble n 60 = true := by rfl) : RC K sa (rInT K) (.p (enc x)) (.p (enc xs)) (mem x xs) := fun va vb H Q r1 r2 q =>
  ⟨enc x, encs xs, r1.2.1, r2.2.1, EqD.shaped hn x, shaped_list hn xs, by rw [any_eqv]; exact q⟩
theorem rc_niT [EqD α n] (x : α) (xs : List α) (hn : Nat.ble n 60 = true := by rfl) : RC K sa (rNotInT K) (.p (enc x)) (.p (enc xs)) (!mem x xs) := fun va vb H Q r1 r2 q =>
  ⟨enc x, encs xs, r1.2.1, r2.2.1, EqD.shaped hn x, shaped_list hn xs, by rw [any_eqv]; exact q⟩
theorem rc_inL [EqD α n] (x : α) (xs : List α) (hn : Nat.ble n 60 = true := by rfl) : RC K sa (rInD K) (.p (enc x)) (.b (encs xs)) (mem x xs) := fun va vb H Q r1 r2 q =>
  ⟨enc x, encs xs, r1.2.1, r2.data (by intro h; cases h), EqD.shaped hn x, shaped_list hn xs, by rw [any_eqv]; exact q⟩
theorem rc_niL [EqD α n] (x : α) (xs : List α) (hn : Nat.ble n 60 = true := by rfl) : RC K sa (rNotInD K) (.p (enc x)) (.b (encs xs)) (!mem x xs) := fun va vb H Q r1 r2 q =>
  ⟨enc x, encs xs, r1.2.1, r2.data (by intro h; cases h), EqD.shaped hn x, shaped_list hn xs, by rw [any_eqv]; exact q⟩
end
theorem ev_lenR {β : Type} [Enc β] {xss : List (List β)} (hg : Gl X "len") (hm : X.mg "len" = none) (ha : EE X sa δ S e (.bb (encss xss)) S1) (he : starEach [e] X.env = (false, eval e X.env) :: starEach [] X.env := by rfl) (hpl : (backTo pos (starEach [] X.env)).any (·.1) = false := by rfl) :
    EG st X sa δ S (.Call (.Name "len" p) [e] [] pos) (.p (.int xss.length)) S1 := by
  have h := ev_len (st := st) (p := p) (pos := pos) (wlk_r xss) hg hm ha he hpl
  rw [List.length_map] at h
  exact h

/-! ### repr -/
def RpOk (d : PyData) : Prop := d.showable = true ∧ d.hasDict = false ∧ d.depth ≤ 60 ∧ d.shown.length ≤ sizeLine
@[irreducible] def rp (d : PyData) : Str := d.shown
theorem rp_eq (d : PyData) : rp d = d.shown := by unfold rp; rfl
def rRepr (K : PySem.W.Frag) : List V → Hp → VK → Prop := fun vs H Q => ∃ v d, vs = [v] ∧ Dp K H v d ∧ RpOk d ∧ Q (.str (rp d)) H
theorem call_reprD {k : Nat} (hr : Room k X.A) (hgd : X.A.guards = some []) : CallR X (.builtin "repr") (rRepr X.K) := by
  intro pins s σ H xs us Q I r h
  obtain ⟨v, d, rfl, hd, ⟨h1, h2, h3, h4⟩, q⟩ := h
  rw [rp_eq] at q
  obtain ⟨u, rfl, ru⟩ := vals1 r
  have key : ∀ (l : Addr), v = .ref l → wpAny (model X.prog X.w) X.A (call (.builtin "repr") [u]) (L2.EP X pins σ Q) X.xe s := fun l e => by
    subst e
    obtain ⟨as, rd⟩ := Dp.reads I d _ u hd ru
    cases ru
    exact PySem.repr_of_reads' rd h1 (fun z => by rw [h2] at z; cases z) hgd (by have := hr.un; omega) (fun _ _ z => z) (fun h' t tk hk => ⟨.str d.shown, H, I.kept hk, ⟨_, rfl⟩, q⟩) h4
  cases hd with
  | lst => exact key _ rfl
  | tup => exact key _ rfl
  | non =>
    cases ru
    exact PySem.P.repr_of_none ⟨.str _, H, I.tok _, ⟨_, rfl⟩, q⟩
  | bl b =>
    obtain rfl : u = .bool b := ru
    exact PySem.P.repr_of_bool ⟨.str _, H, I.tok _, ⟨_, rfl⟩, q⟩
  | int i =>
    obtain ⟨t, rfl⟩ := ru
    exact PySem.P.repr_of_int (of_decide_eq_true h1) ⟨.str _, H, I.tok _, ⟨_, rfl⟩, q⟩
  | str x =>
    obtain ⟨t, rfl⟩ := ru
    exact PySem.P.repr_of_str ⟨.str _, H, I.tok _, ⟨_, rfl⟩, q⟩ h4
/-- data that is read only: lists too -/
def DSt (K : PySem.W.Frag) (sa : SA) (H : Hp) (v : V) (d : PyData) : Prop := ∀ H', Ext sa H H' → Dp K H' v d
def DSts (K : PySem.W.Frag) (sa : SA) (H : Hp) (vs : List V) (ds : List PyData) : Prop := ∀ H', Ext sa H H' → DpAll K H' vs ds
theorem DSt.ext {v : V} (h : DSt K sa H v d) (e : Ext sa H H') : DSt K sa H' v d := fun H2 e2 => h H2 (e.trans e2)
theorem DSts.ext {vs : List V} (h : DSts K sa H vs ds) (e : Ext sa H H') : DSts K sa H' vs ds := fun H2 e2 => h H2 (e.trans e2)
def tED (K : PySem.W.Frag) (sa : SA) (δ : Env) (S : Src) (d : PyData) (S' : Src) : TE := fun σ H Q => ∃ B, Ok K sa B H σ δ S ∧ ∀ v H', Ok K sa B H' σ δ S' → Ext sa H H' → DSt K sa H' v d → Q v H'
def ED (X : Cx) (sa : SA) (δ : Env) (S : Src) (e : Expr) (d : PyData) (S' : Src) : Prop := PE X e (tED X.K sa δ S d S')
def tEDA (K : PySem.W.Frag) (sa : SA) (δ : Env) (S : Src) (ds : List PyData) (S' : Src) : TA := fun σ H Q => ∃ B, Ok K sa B H σ δ S ∧ ∀ vs H', Ok K sa B H' σ δ S' → Ext sa H H' → DSts K sa H' vs ds → Q vs H'
def EDA (X : Cx) (sa : SA) (δ : Env) (S : Src) (es : List Expr) (ds : List PyData) (S' : Src) : Prop := PA X es (tEDA X.K sa δ S ds S')
theorem ed_p (h : EE X sa δ S e (.p d) S') : ED X sa δ S e d S' := pe_imp h fun σ H Q ⟨B, ok, k⟩ => ⟨B, ok, fun v H1 B1 ok1 e1 b1 r1 => by
  obtain rfl : B1 = H1 := b1
  exact k v B1 ok1 e1 fun H2 e2 => e2.tup.dp _ _ r1.2.2 r1.2.1⟩
theorem ed_b (h : EE X sa δ S e (.b ds) S') : ED X sa δ S e (.list ds) S' := pe_imp h fun σ H Q ⟨B, ok, k⟩ => ⟨B, ok, fun v H1 B1 ok1 e1 b1 r1 => by
  obtain rfl : B1 = H1 := b1
  exact k v B1 ok1 e1 fun H2 e2 => (r1.ext e2).data (by intro h; cases h)⟩
theorem ed_bb (h : EE X sa δ S e (.bb dss) S') : ED X sa δ S e (.list (dss.map .list)) S' := pe_imp h fun σ H Q ⟨B, ok, k⟩ => ⟨B, ok, fun v H1 B1 ok1 e1 b1 r1 => by
  obtain rfl : B1 = H1 := b1
  exact k v B1 ok1 e1 fun H2 e2 => (r1.ext e2).data (by intro h; cases h)⟩
theorem eda_nil : EDA X sa δ S [] [] S := pa_imp pa_nil fun σ H Q ⟨B, ok, k⟩ => k [] H ok (.refl _ _) fun _ _ => .nil
theorem eda_cons (h1 : ED X sa δ S e d S1) (h2 : EDA X sa δ S1 es ds S2) (hs : starEach (e :: es) X.env = (false, eval e X.env) :: starEach es X.env := by rfl) : EDA X sa δ S (e :: es) (d :: ds) S2 := pa_imp (pa_cons h1 h2 hs) fun σ H Q ⟨B, ok, k⟩ =>
  ⟨B, ok, fun v H1 ok1 e1 r1 => ⟨B, ok1, fun vs H2 ok2 e2 r2 => k _ H2 ok2 (e1.trans e2) fun H3 e3 => .cons (r1 H3 (e2.trans e3)) (r2 H3 e3)⟩⟩
theorem ed_lst (h : EDA X sa δ S es ds S') (hz : Nat.ble ds.length 1000 = true := by rfl) : ED X sa δ S (.List es pos) (.list ds) S' := pe_imp (pe_lst h) fun σ H Q ⟨B, ok, k⟩ => ⟨B, ok, fun vs H1 ok1 e1 r1 => by
  have hd := r1 H1 (.refl _ _)
  refine ⟨by rw [hd.length]; exact ble_line hz, fun p hn => ?_⟩
  have ex : Ext sa H1 (upd H1 p (.lst vs)) := .new hn
  exact k _ _ (ok1.new hn) (e1.trans ex) fun H2 e2 => .lst (.of (e2.cell p _ upd_same (ok1.away hn))) (r1 H2 (ex.trans e2))⟩
theorem ed_tup {x1} (h : EDA X sa δ S es ds S') (hz : Nat.ble ds.length 1000 = true := by rfl) : ED X sa δ S (.Tuple es x1 pos) (.tuple ds) S' := pe_imp (pe_tup h) fun σ H Q ⟨B, ok, k⟩ => ⟨B, ok, fun vs H1 ok1 e1 r1 => by
  have hd := r1 H1 (.refl _ _)
  refine ⟨by rw [hd.length]; exact ble_line hz, fun p hn => ?_⟩
  have ex : Ext sa H1 (upd H1 p (.tup vs)) := .new hn
  exact k _ _ (ok1.new hn) (e1.trans ex) fun H2 e2 => .tup (e2.tup _ _ (.of upd_same) |> .inl) (r1 H2 (ex.trans e2))⟩
theorem ev_repr {k : Nat} (hr : Room k X.A) (hgd : X.A.guards = some []) (hd : RpOk d) (hg : Gl X "repr") (hm : X.mg "repr" = none) (ha : ED X sa δ S e d S1) (he : starEach [e] X.env = (false, eval e X.env) :: starEach [] X.env := by rfl) (hpl : (backTo pos (starEach [] X.env)).any (·.1) = false := by rfl) :
    EG st X sa δ S (.Call (.Name "repr" p) [e] [] pos) (.p (.str (rp d))) S1 := pe_imp (pe_callB (call_reprD hr hgd) hg hm PyProof.Rows.boot_repr (pa_cons ha pa_nil he) (by decide) (by decide) he hpl) fun σ H Q ⟨B, ok, kk⟩ => ⟨B, ok, fun v H1 ok1 e1 r1 =>
    ⟨v, d, rfl, r1 H1 (.refl _ _), hd, give_p ok e1 ok1.src (.str _) (by show (rp d).length ≤ _; rw [rp_eq]; exact hd.2.2.2) fun B' ok' b r => kk _ _ B' ok' e1 b r⟩⟩
end
end L2.Ev

set_option Elab.async false
set_option linter.all false
set_option maxRecDepth 100000
/-! Ev14: the law's own source of numbers: what is drawn. -/
namespace L2.Ev
open PySem PySem.Spec PyProof.Rows
/-- cells are taken from the end till one is more than 1 -/
def pull : Nat → List Int → Int → List Int × Int
  | 0, cs, l => (cs, l)
  | k + 1, cs, l => if l < 2 ∧ cs ≠ [] then pull k cs.dropLast (cs.getLast?.getD 0) else (cs, l)
def pulled (S : Src) : List Int × Int := pull S.cells.length S.cells S.left
/-- the numbers of _law_pick, where the source's mixed number stays -/
def pickA (S : Src) (m : Int) : Int × Src :=
  if m < 2 then (0, S) else
  if 1 < (pulled S).2 then ((pulled S).2 % m, ⟨(pulled S).1, (pulled S).2 / m, S.mixed, S.turn⟩) else
  ((((S.mixed + (S.turn + 1) * 104729) % 998244353 * ((S.mixed + (S.turn + 1) * 104729) % 998244353) + (S.turn + 1) * 17) % 2147483647 / 16) % m, ⟨(pulled S).1, (pulled S).2, S.mixed, S.turn + 1⟩)
/-- .. and where it is exchanged -/
def pickB (S : Src) (m : Int) : Int × Src :=
  let q := if 1 < m then pulled S else (S.cells, S.left)
  if m < 2 ∨ 1 < q.2 then (q.2 % max 1 m, ⟨q.1, q.2 / max 1 m, S.mixed, S.turn⟩) else
  let x := ((S.mixed + (S.turn + 1) * 104729) % 998244353 * ((S.mixed + (S.turn + 1) * 104729) % 998244353) + (S.turn + 1) * 17) % 2147483647
  ((x / 16) % m, ⟨q.1, q.2, x, S.turn + 1⟩)
def srcD (S : Src) (L : Addr) : HO := .dK [(.inr "cells", .ref L), (.inr "left", .int S.left), (.inr "mixed", .int S.mixed), (.inr "turn", .int S.turn)]
theorem put_left (a : V) (b c d e : V) : putK ([(.inr "cells", a), (.inr "left", b), (.inr "mixed", c), (.inr "turn", d)] : List (Key × V)) (.inr "left") e = [(.inr "cells", a), (.inr "left", e), (.inr "mixed", c), (.inr "turn", d)] := by rfl
theorem put_turn (a : V) (b c d e : V) : putK ([(.inr "cells", a), (.inr "left", b), (.inr "mixed", c), (.inr "turn", d)] : List (Key × V)) (.inr "turn") e = [(.inr "cells", a), (.inr "left", b), (.inr "mixed", c), (.inr "turn", e)] := by rfl
theorem put_mixed (a : V) (b c d e : V) : putK ([(.inr "cells", a), (.inr "left", b), (.inr "mixed", c), (.inr "turn", d)] : List (Key × V)) (.inr "mixed") e = [(.inr "cells", a), (.inr "left", b), (.inr "mixed", e), (.inr "turn", d)] := by rfl
/-- the heap where the source stands as S -/
def srcH (H : Hp) (D L : Addr) (S : Src) : Hp := upd (upd H L (.lst (S.cells.map .int))) D (srcD S L)
section
variable {H : Hp} {D L : Addr} {S : Src} {K : PySem.W.Frag}
theorem srcH_d : srcH H D L S D = some (srcD S L) := upd_same
theorem srcH_l (h : D ≠ L) : srcH H D L S L = some (.lst (S.cells.map .int)) := by unfold srcH; rw [upd_ne h.symm, upd_same]
theorem srcH_o {a : Addr} (h : a ≠ D) (h2 : a ≠ L) : srcH H D L S a = H a := by unfold srcH; rw [upd_ne h, upd_ne h2]
theorem srcH_at (h : SrcAt H S (D, L)) : srcH H D L S = H := by
  obtain ⟨h1, h2, h3, h4⟩ := h
  funext a
  by_cases e : a = D
  · subst e; rw [srcH_d]; exact h1.symm
  · by_cases e2 : a = L
    · subst e2; rw [srcH_l h3]; exact h2.symm
    · exact srcH_o e e2
theorem srcH_put (l : Int) (h : D ≠ L) : upd (srcH H D L S) D (srcD { S with left := l } L) = srcH H D L { S with left := l } := by
  unfold srcH
  funext a
  by_cases e : a = D
  · subst e; rw [upd_same, upd_same]
  · rw [upd_ne e, upd_ne e, upd_ne e]
theorem srcH_d2 {S' : Src} (h : D ≠ L) (e : S'.cells = S.cells) : upd (srcH H D L S) D (srcD S' L) = srcH H D L S' := by
  unfold srcH
  rw [e]
  funext a
  by_cases e : a = D
  · subst e; rw [upd_same, upd_same]
  · rw [upd_ne e, upd_ne e, upd_ne e]
theorem srcH_pop {S' : Src} {xs : List V} (h : D ≠ L) (e : S'.cells.map V.int = xs) : upd (upd (srcH H D L S) L (.lst xs)) D (srcD S' L) = srcH H D L S' := by
  subst e
  unfold srcH
  funext a
  by_cases e : a = D
  · subst e; rw [upd_same, upd_same]
  · rw [upd_ne e, upd_ne e]
    by_cases e2 : a = L
    · subst e2; rw [upd_same, upd_same]
    · rw [upd_ne e2, upd_ne e, upd_ne e2, upd_ne e2]
theorem srcH_ext (h : SrcAt H S (D, L)) (S' : Src) : Ext (some (D, L)) H (srcH H D L S') := ⟨fun a o e w => by
  obtain ⟨w1, w2⟩ := w _ rfl
  rw [srcH_o w1 w2]; exact e, fun a xs r => by
  obtain ⟨h1, h2, h3, h4⟩ := h
  have n1 : a ≠ D := fun z => by subst z; rcases r with r | ⟨_, r⟩ <;> (rw [h1] at r; cases r)
  have n2 : a ≠ L := fun z => by subst z; rcases r with r | ⟨_, r⟩ <;> (rw [h2] at r; cases r)
  rcases r with r | ⟨o, r⟩
  · exact .inl (by rw [srcH_o n1 n2]; exact r)
  · exact .inr ⟨o, by rw [srcH_o n1 n2]; exact r⟩⟩
theorem srcH_rep {S' : Src} (h : D ≠ L) (hz : S'.cells.length ≤ sizeLine) : SrcRep (some (D, L)) (srcH H D L S') S' := fun p e => by
  cases e
  exact ⟨srcH_d, srcH_l h, h, hz⟩
theorem pull_len : ∀ (k : Nat) (cs : List Int) (l : Int), (pull k cs l).1.length ≤ cs.length
  | 0, cs, l => Nat.le_refl _
  | k + 1, cs, l => by
    unfold pull
    split
    · refine Nat.le_trans (pull_len k _ _) ?_
      rw [List.length_dropLast]; omega
    · exact Nat.le_refl _
theorem get_src (k : Key) (v : V) (S' : Src) (h : H D = some (srcD S' L)) (e : valV [(.inr "cells", .ref L), (.inr "left", .int S'.left), (.inr "mixed", .int S'.mixed), (.inr "turn", .int S'.turn)] k = some v) : DGet H D (kV k) (some v) := by
  rw [← e]; exact .k h
end
@[reducible] def R_pickA : DR := fun sls S r S' => ∃ m : Int, sls = [.src, .p (enc m)] ∧ m < 1073741824 ∧ r = .p (enc (pickA S m).1) ∧ S' = (pickA S m).2
@[reducible] def R_pickB : DR := fun sls S r S' => ∃ m : Int, sls = [.src, .p (enc m)] ∧ m < 1073741824 ∧ r = .p (enc (pickB S m).1) ∧ S' = (pickB S m).2
end L2.Ev
namespace L2.Ev
open PySem PySem.Spec PyProof.Rows
def stir (ns : List Int) : Int := ns.foldl (fun s c => (s * 69069 + c * 31 + 5) % 2147483629) 11
def openS (ns : List Int) : Src := ⟨(ns.map fun c => if c < 0 then -c else c).reverse, 1, stir ns, 0⟩
/-- what opens the source: a dict and a list that are new -/
def spOpen (K : PySem.W.Frag) : Sp := fun vs H Q _ => ∃ a ns, vs = [.ref a] ∧ SqL K H a (ns.map .int) ∧ ns.length ≤ 1000 ∧
  ∀ D L H', Same H H' → SrcAt H' (openS ns) (D, L) → Q (.ref D) H'
theorem dp_of_ints {K : PySem.W.Frag} {H : Hp} : ∀ ns : List Int, DpAll K H (ns.map .int) (encs ns)
  | [] => .nil
  | n :: ns => .cons (.int n) (dp_of_ints ns)
theorem pu_ints : ∀ ns : List Int, PuAll (encs ns)
  | [] => trivial
  | _ :: ns => ⟨trivial, pu_ints ns⟩
theorem ok_script {K : PySem.W.Frag} {H : Hp} {a : Addr} {ns : List Int} {m : Int} {x : Option V} {S : Src} (h : SqL K H a (ns.map .int)) (hz : ns.length ≤ 1000) : Ok K Option.none H H [some (.ref a), some (.int m), x, Option.none] [some (.b (encs ns)), some (.p (enc m)), Option.none, Option.none] S := by
  refine ⟨.refl _ _, rfl, ⟨fun _ => [], ⟨fun i sl e => ?_, fun _ => .nil, (fun _ _ _ _ z => nomatch z), (fun _ _ z => nomatch z)⟩⟩, .empty⟩
  match i, e with
  | 0, e =>
    cases e
    exact ⟨_, rfl, rfl, a, rfl, _, h, .empty, dp_of_ints ns, pu_ints ns, by rw [List.length_map]; exact ble_line (Nat.ble_eq.mpr hz)⟩
  | 1, e =>
    cases e
    exact ⟨_, rfl, rfl, .int m, trivial⟩
  | 2, e => cases e
  | 3, e => cases e
  | i + 4, e => cases e
end L2.Ev

set_option Elab.async false
set_option linter.all false
set_option maxRecDepth 100000
/-! Ev15: unpacked lists, sorted, tuple * int, more stores and slices. -/
namespace L2.Ev
open PySem PySem.Spec PyProof.Rows PySem.W
section
variable {X : Cx} {sa : SA} {δ δ' : Env} {S S0 S1 S2 S3 S' : Src} {st : Bool} {e a b c d' tg iter elt e1 e2 e3 : Expr} {es : List Expr} {pos p pos' tpos : Pos} {elts : List Expr} {kk : Nat} {K : PySem.W.Frag} {B B' H H' : Hp} {σ : L2.St} {rest body sts : List Stmt} {W : Spec} {sm : Stmt}
variable {α β γ ρ ν μ : Type} {i j : Nat} {d : PyData} {ds : List PyData} {dss : List (List PyData)} {sl sl1 sl2 sl3 r : Sl}
/-! ### a, b, .. = a list -/
theorem st_unl {tgs : List Expr} {js : List Nat} {es' : List PyData} (hd : es' = ds) (he : EE X sa δ S e (.b es') S1) (ht : TGts X sa δ tgs (Pures ds) δ' js) (hc : X.calm = true)
    (hn : (assignEach tgs X.env).length = ds.length := by rfl) (hst : (assignEach tgs X.env).findIdx? (·.1) = none := by rfl)
    (hs : swapsWithSole [.Tuple tgs kk p] e pos.line X.env = pure false := by rfl) (hw : swappedStores [.Tuple tgs kk p] e X.env = pure none := by rfl) (h1 : (assignEach [.Tuple tgs kk p] X.env).map (·.2) = [assign (.Tuple tgs kk p) X.env] := by rfl) :
    Step X sa δ S (.Assign [.Tuple tgs kk p] e pos) δ' S1 := fun rest W hr => by
  subst hd
  refine sb_seq (ps_asg he (pg_unl hc ht hn hst) hs hw h1) hr fun D σ H B ok k => ⟨B, ok, fun v H1 B1 ok1 e1 b1 r1 => ?_⟩
  obtain rfl : B1 = H1 := b1
  obtain ⟨_, l, rfl, vs, g1, g2, g3, g4, g5⟩ := r1
  exact ⟨l, vs, rfl, g1, g3.length, B, S1, ok1, slsR_pures g3 g4, fun σ' ok2 _ _ => k B σ' B1 (.refl _ _) ok2⟩
theorem encs_s1 [Enc α] [Inhabited α] {xs : List α} (h : xs.length = 1) : encs xs = [enc (getI xs 0)] := by
  match xs, h with
  | [a], _ => rfl
theorem encs_s2 [Enc α] [Inhabited α] {xs : List α} (h : xs.length = 2) : encs xs = [enc (getI xs 0), enc (getI xs 1)] := by
  match xs, h with
  | [a, b], _ => rfl
theorem encs_s3 [Enc α] [Inhabited α] {xs : List α} (h : xs.length = 3) : encs xs = [enc (getI xs 0), enc (getI xs 1), enc (getI xs 2)] := by
  match xs, h with
  | [a, b, c], _ => rfl
theorem encs_s4 [Enc α] [Inhabited α] {xs : List α} (h : xs.length = 4) : encs xs = [enc (getI xs 0), enc (getI xs 1), enc (getI xs 2), enc (getI xs 3)] := by
  match xs, h with
  | [a, b, c, d], _ => rfl
/-! ### sorted -/
def SortOk (ds : List PyData) : Prop := AllAlike ds ∧ Sortable ds
def sortD [Enc α] (xs : List α) : List α := xs.mergeSort (dataLe false enc)
def rSortD [Enc α] (K : PySem.W.Frag) : List V → Hp → VK → Prop := fun vs H Q => ∃ (a : Addr) (us : List V) (xs : List α), vs = [V.ref a] ∧ SqL K H a us ∧ DpAll K H us (encs xs) ∧ SortOk (encs xs) ∧ xs.length ≤ sizeLine ∧ (∀ x ∈ xs, (enc x).depth ≤ 60) ∧
  ∀ ys q, H q = none → DpAll K H ys (encs (sortD xs)) → Q (.ref q) (upd H q (.lst ys))
theorem each_of [Enc α] {pins : List (Addr × Obj)} {s : Shared} (I : Inv X pins σ H s) : ∀ {us : List V} {xs : List α} {its : List Value}, DpAll X.K H us (encs xs) → Vals us its → EachIs (fun v x => ∃ y, RelV y v ∧ Dp X.K H y (enc x)) its xs ∧ EachIs (fun v x => ∃ as, Reads s.heap v (enc x) as) its xs
  | [], [], [], _, _ => ⟨.nil, .nil⟩
  | u :: us, x :: xs, i :: its, h, r => by
    cases h with
    | cons h1 h2 =>
      cases r with
      | cons r1 r2 =>
        obtain ⟨g1, g2⟩ := each_of I h2 r2
        exact ⟨.cons ⟨u, r1, h1⟩ g1, .cons (Dp.reads I _ _ _ h1 r1) g2⟩
  | [], _ :: _, _, h, _ => by cases h
  | _ :: _, [], _, h, _ => by cases h
  | [], [], _ :: _, _, r => by cases r
  | _ :: _, _ :: _, [], _, r => by cases r
theorem each_back [Enc α] : ∀ {its : List Value} {xs : List α}, EachIs (fun v x => ∃ y, RelV y v ∧ Dp K H y (enc x)) its xs → ∃ us, Vals us its ∧ DpAll K H us (encs xs)
  | [], [], _ => ⟨[], .nil, .nil⟩
  | i :: its, x :: xs, h => by
    cases h with
    | cons h1 h2 =>
      obtain ⟨y, g1, g2⟩ := h1
      obtain ⟨us, f1, f2⟩ := each_back h2
      exact ⟨y :: us, .cons g1 f1, .cons g2 f2⟩
  | [], _ :: _, h => by cases h
  | _ :: _, [], h => by cases h
theorem cr_sortD [Enc α] {k : Nat} (hr : Room k X.A) : CallR X (.builtin "sorted") (rSortD (α := α) X.K) := by
  intro pins s σ H vs us Q I r h
  obtain ⟨a, ws, xs, rfl, hs, hd, ⟨h1, h2⟩, hz, hdp, q⟩ := h
  obtain ⟨its, rv, hl, hz'⟩ := I.list hs
  rw [Vals.ref1 r]
  obtain ⟨e1, e2⟩ := each_of I hd rv
  refine sorted_data hl.isList e1 e2 h1 h2 hz (fun b hb => by have := hdp b hb; have := hr.un; omega) fun out ho eo => ?_
  obtain ⟨ys, f1, f2⟩ := each_back eo
  obtain ⟨ep, he'⟩ := PyProof.Rows.sortedAll_at s.heap its out.toArray
  have hlen : ys.length ≤ sizeLine := by rw [f2.length, List.length_map, List.length_mergeSort]; exact hz
  exact ⟨.ref _, upd H (s.heap.objs.size + 1) (.lst ys), I.laid (t' := s.toks) (fun _ _ => PyProof.Rows.sortedAll_old) (Nat.le_succ _) ⟨hlen, out, ep, f1, he'⟩, rfl, q ys _ (I.hok.fresh (Nat.le_succ _)) f2⟩
theorem el_sorted [Enc α] {xs : List α} {k : Nat} (hr : Room k X.A) (ho : SortOk (encs xs)) (hdp : ∀ x ∈ xs, (enc x).depth ≤ 60) (hg : Gl X "sorted") (hm : X.mg "sorted" = none) (ha : EE X sa δ S e (.b (encs xs)) S1) (he : starEach [e] X.env = (false, eval e X.env) :: starEach [] X.env := by rfl) (hpl : (backTo pos (starEach [] X.env)).any (·.1) = false := by rfl) :
    EL X sa δ S (.Call (.Name "sorted" p) [e] [] pos) (encs (sortD xs)) S1 := pe_imp (pe_callB (cr_sortD (α := α) hr) hg hm PyProof.Rows.boot_sorted (ea_cons ha ea_nil he) (by decide) (by decide) he hpl) fun σ H Q ⟨B, ok, k⟩ => ⟨B, ok, fun vs H1 B1 ok1 e1 b1 r1 => by
      obtain rfl : B1 = H1 := b1
      obtain ⟨v, rfl, h1⟩ := sls1 r1
      obtain ⟨_, l, rfl, us, g1, g2, g3, g4, g5⟩ := h1
      rw [List.length_map] at g5
      refine ⟨l, us, xs, rfl, g1, g3, ho, g5, hdp, fun ys q hq hy => ?_⟩
      have ex : Ext sa B1 (upd B1 q (.lst ys)) := .new hq
      have hp : PuAll (encs (sortD xs)) := g4.sub fun d m => by
        rw [List.mem_map] at m ⊢
        obtain ⟨x, m1, m2⟩ := m
        exact ⟨x, List.mem_mergeSort.mp m1, m2⟩
      exact k q _ (e1.none_of ok1 hq) (ok1.new hq) (e1.trans ex) ⟨_, upd_same, ex.tup.dpAll _ _ hp hy, hp, by rw [List.length_map]; show (xs.mergeSort _).length ≤ _; rw [List.length_mergeSort]; exact g5⟩⟩
/-! ### rows[v][u] = rows[u][v] = e -/
theorem st_sto2t [Enc β] {t1 t2 : Expr} {xss : List (List β)} {w : β} {u v u2 v2 : Int} {p3 : Pos} (he : EE X sa δ S e (.p (enc w)) S1) (h1 : PG X t1 (tRow X.K sa δ S1 i (encss xss) (enc w) u v))
    (h2 : PG X t2 (tRow X.K sa (δ.set i (some (.ll (encss (setAt2 xss u v w))))) S1 i (encss (setAt2 xss u v w)) (enc w) u2 v2))
    (ha : (assignEach [t1, t2] X.env).map (·.2) = [assign t1 X.env, assign t2 X.env] := by rfl) (hw : swappedStores [t1, t2] e X.env = pure none := by rfl) :
    Step X sa δ S (.Assign [t1, t2] e p3) ((δ.set i (some (.ll (encss (setAt2 xss u v w))))).set i (some (.ll (encss (setAt2 (setAt2 xss u v w) u2 v2 w))))) S1 := fun rest W hr =>
  sb_seq (ps_asg2 he h1 h2 ha hw) hr fun D σ H B ok k => ⟨B, ok, fun z H1 B1 ok1 e1 b1 r1 => by
    obtain rfl : B1 = H1 := b1
    refine ⟨B, ok1, r1.2.1, r1.2.2, fun H2 ok2 tx => ⟨B, ?_, tx.dp _ _ r1.2.2 r1.2.1, r1.2.2, fun H3 ok3 tx3 => k B σ H3 (.refl _ _) ?_⟩⟩
    · rw [encss_setAt2] at ok2; exact ok2
    · rw [encss_setAt2] at ok3; exact ok3⟩
/-! ### slices of tuples by fields -/
theorem ev_slD {lo hi : Option Expr} {l h : Option Int} {p2 : Pos} {ds' : List PyData} (hd : cutL ds l h = ds') (ha : EE X sa δ S a (.p (.tuple ds)) S1) (hl : EP X sa δ S1 lo l S2) (hh : EP X sa δ S2 hi h S3) : EG st X sa δ S (.Subscript a (.Slice lo hi none p2) pos) (.p (.tuple ds')) S3 := by
  have := ev_slT (β := PyData) (st := st) (xs := ds) (pos := pos) (p2 := p2) (by show EE X sa δ S a (.p (.tuple (ds.map (fun d => d)))) S1; rw [List.map_id']; exact ha) hl hh
  have e : (enc (cutL ds l h) : PyData) = .tuple ds' := by
    show PyData.tuple ((cutL ds l h).map (fun d => d)) = _
    rw [List.map_id', hd]
  rw [e] at this
  exact this
/-! ### names = new values -/
theorem Ok.set2 {F1 F2 : List Addr} {v w : V} {H1 H2 H3 : Hp} (ok : Ok K sa B H σ δ S) (ok1 : Ok K sa B H1 σ δ S1) (e1 : Ext sa H H1) (ok2 : Ok K sa B H2 σ δ S2) (e2 : Ext sa H1 H2) (e3 : Ext sa H2 H3) (s3 : SrcRep sa H3 S2) (f1 : ∀ a ∈ F1, H a = none) (n1 : F1.Nodup) (f2 : ∀ a ∈ F2, H1 a = none) (n2 : F2.Nodup)
    (r1 : SlRep K sa B H1 v sl1 F1) (r2 : SlRep K sa B H2 w sl2 F2) (hi : i < δ.length) (hj : j < δ.length) : Ok K sa B H3 ((σ.set i (some v)).set j (some w)) ((δ.set i (some sl1)).set j (some sl2)) S2 :=
  ((ok.setNew e1 ok1.src r1 hi n1 f1).setNew e2 ok2.src r2 (by rw [List.length_set]; exact hj) n2 f2).ext e3 s3
theorem st_parG {x y : Str} {px py pt : Pos} {kt k2 pt2} (h1 : EO X sa δ S a sl1 S1) (h2 : EO X sa δ S1 b sl2 S2) (g1 : PG X (.Name x px) (gName i)) (g2 : PG X (.Name y py) (gName j)) (hc : X.calm = true) (hil : Nat.blt i δ.length = true := by rfl) (hjl : Nat.blt j δ.length = true := by rfl)
    (hsa : starEach [a, b] X.env = (false, eval a X.env) :: starEach [b] X.env := by rfl) (hsb : starEach [b] X.env = [(false, eval b X.env)] := by rfl)
    (hs1 : (assignEach [.Name x px, .Name y py] X.env).map (·.2) = assign (.Name x px) X.env :: (assignEach [.Name y py] X.env).map (·.2) := by rfl) (hs2 : (assignEach [.Name y py] X.env).map (·.2) = assign (.Name y py) X.env :: (assignEach [] X.env).map (·.2) := by rfl)
    (hn : (assignEach [.Name x px, .Name y py] X.env).length = 2 := by rfl) (hst : (assignEach [.Name x px, .Name y py] X.env).findIdx? (·.1) = none := by rfl)
    (hs : swapsWithSole [.Tuple [.Name x px, .Name y py] kt pt] (.Tuple [a, b] k2 pt2) pos.line X.env = pure false := by rfl) (hw : swappedStores [.Tuple [.Name x px, .Name y py] kt pt] (.Tuple [a, b] k2 pt2) X.env = pure none := by rfl)
    (ha : (assignEach [.Tuple [.Name x px, .Name y py] kt pt] X.env).map (·.2) = [assign (.Tuple [.Name x px, .Name y py] kt pt) X.env] := by rfl) :
    Step X sa δ S (.Assign [.Tuple [.Name x px, .Name y py] kt pt] (.Tuple [a, b] k2 pt2) pos) ((δ.set i (some sl1)).set j (some sl2)) S2 := fun rest W hr =>
  sb_seq (ps_asg (pe_tup (pa_cons h1 (pa_cons h2 pa_nil hsb) hsa)) (pg_tup hc (pgs_cons g1 (pgs_cons g2 pgs_nil hs2) hs1) hn hst) hs hw ha) hr fun D σ H B ok k => ⟨B, ok, fun v H1 F1 f1 n1 ok1 e1 r1 => ⟨B, ok1, fun u H2 F2 f2 n2 ok2 e2 r2 => ⟨by show (2 : Nat) ≤ _; rw [sizeLine_eq]; decide, fun q hq => by
    refine ⟨q, _, rfl, .inl (.of upd_same), rfl, v, [u], rfl, u, [], rfl, rfl, k B _ _ (.refl _ _) (ok.set2 ok1 e1 ok2 e2 (.new hq) (ok2.src.same (same_new hq)) f1 n1 f2 n2 r1 r2 (Nat.blt_eq.mp hil) (Nat.blt_eq.mp hjl))⟩⟩⟩⟩
theorem Ok.set3 {l : Nat} {F1 F2 F3 : List Addr} {v w u : V} {H1 H2 H3 H4 : Hp} (ok : Ok K sa B H σ δ S) (ok1 : Ok K sa B H1 σ δ S1) (e1 : Ext sa H H1) (ok2 : Ok K sa B H2 σ δ S2) (e2 : Ext sa H1 H2) (ok3 : Ok K sa B H3 σ δ S3) (e3 : Ext sa H2 H3) (e4 : Ext sa H3 H4) (s4 : SrcRep sa H4 S3) (f1 : ∀ a ∈ F1, H a = none) (n1 : F1.Nodup) (f2 : ∀ a ∈ F2, H1 a = none) (n2 : F2.Nodup) (f3 : ∀ a ∈ F3, H2 a = none) (n3 : F3.Nodup)
    (r1 : SlRep K sa B H1 v sl1 F1) (r2 : SlRep K sa B H2 w sl2 F2) (r3 : SlRep K sa B H3 u sl3 F3) (hi : i < δ.length) (hj : j < δ.length) (hl : l < δ.length) : Ok K sa B H4 (((σ.set i (some v)).set j (some w)).set l (some u)) (((δ.set i (some sl1)).set j (some sl2)).set l (some sl3)) S3 :=
  (((ok.setNew e1 ok1.src r1 hi n1 f1).setNew e2 ok2.src r2 (by rw [List.length_set]; exact hj) n2 f2).setNew e3 ok3.src r3 (by rw [List.length_set, List.length_set]; exact hl) n3 f3).ext e4 s4
theorem st_par3 {l : Nat} {x y z : Str} {px py pz pt : Pos} {kt k2 pt2} (h1 : EO X sa δ S a sl1 S1) (h2 : EO X sa δ S1 b sl2 S2) (h3 : EO X sa δ S2 c sl3 S3) (hc : X.calm = true) (hN : X.N.Nodup) (hi : X.N[i]? = some x) (hj : X.N[j]? = some y) (hl : X.N[l]? = some z) (hij : i ≠ j) (hil' : i ≠ l) (hjl' : j ≠ l)
    (hx : X.env.scope.names.lookup x = some .local) (hy : X.env.scope.names.lookup y = some .local) (hz : X.env.scope.names.lookup z = some .local)
    (hw : swappedStores [.Tuple [.Name x px, .Name y py, .Name z pz] kt pt] (.Tuple [a, b, c] k2 pt2) X.env = pure (some [x, y, z])) (hil : Nat.blt i δ.length = true := by rfl) (hjl : Nat.blt j δ.length = true := by rfl) (hll : Nat.blt l δ.length = true := by rfl)
    (hsa : starEach [a, b, c] X.env = (false, eval a X.env) :: starEach [b, c] X.env := by rfl) (hsb : starEach [b, c] X.env = (false, eval b X.env) :: starEach [c] X.env := by rfl) (hsc : starEach [c] X.env = [(false, eval c X.env)] := by rfl)
    (hs : swapsWithSole [.Tuple [.Name x px, .Name y py, .Name z pz] kt pt] (.Tuple [a, b, c] k2 pt2) pos.line X.env = pure false := by rfl) :
    Step X sa δ S (.Assign [.Tuple [.Name x px, .Name y py, .Name z pz] kt pt] (.Tuple [a, b, c] k2 pt2) pos) (((δ.set i (some sl1)).set j (some sl2)).set l (some sl3)) S3 := fun rest W hr =>
  sb_seq (ps_par3 hc hN hi hj hl hij hil' hjl' hx hy hz (pa_cons h1 (pa_cons h2 (pa_cons h3 pa_nil hsc) hsb) hsa) hw hs) hr fun D σ H B ok k => ⟨B, ok, fun v H1 F1 f1 n1 ok1 e1 r1 => ⟨B, ok1, fun u H2 F2 f2 n2 ok2 e2 r2 => ⟨B, ok2, fun t H3 F3 f3 n3 ok3 e3 r3 => ⟨v, u, t, rfl,
    k B _ _ (.refl _ _) (ok.set3 ok1 e1 ok2 e2 ok3 e3 (.refl _ _) ok3.src f1 n1 f2 n2 f3 n3 r1 r2 r3 (Nat.blt_eq.mp hil) (Nat.blt_eq.mp hjl) (Nat.blt_eq.mp hll))⟩⟩⟩⟩
theorem st_parG3 {l : Nat} {x y z : Str} {px py pz pt : Pos} {kt k2 pt2} (h1 : EO X sa δ S a sl1 S1) (h2 : EO X sa δ S1 b sl2 S2) (h3 : EO X sa δ S2 c sl3 S3) (g1 : PG X (.Name x px) (gName i)) (g2 : PG X (.Name y py) (gName j)) (g3 : PG X (.Name z pz) (gName l)) (hc : X.calm = true) (hil : Nat.blt i δ.length = true := by rfl) (hjl : Nat.blt j δ.length = true := by rfl) (hll : Nat.blt l δ.length = true := by rfl)
    (hsa : starEach [a, b, c] X.env = (false, eval a X.env) :: starEach [b, c] X.env := by rfl) (hsb : starEach [b, c] X.env = (false, eval b X.env) :: starEach [c] X.env := by rfl) (hsc : starEach [c] X.env = [(false, eval c X.env)] := by rfl)
    (hs1 : (assignEach [.Name x px, .Name y py, .Name z pz] X.env).map (·.2) = assign (.Name x px) X.env :: (assignEach [.Name y py, .Name z pz] X.env).map (·.2) := by rfl) (hs2 : (assignEach [.Name y py, .Name z pz] X.env).map (·.2) = assign (.Name y py) X.env :: (assignEach [.Name z pz] X.env).map (·.2) := by rfl) (hs3 : (assignEach [.Name z pz] X.env).map (·.2) = assign (.Name z pz) X.env :: (assignEach [] X.env).map (·.2) := by rfl)
    (hn : (assignEach [.Name x px, .Name y py, .Name z pz] X.env).length = 3 := by rfl) (hst : (assignEach [.Name x px, .Name y py, .Name z pz] X.env).findIdx? (·.1) = none := by rfl)
    (hs : swapsWithSole [.Tuple [.Name x px, .Name y py, .Name z pz] kt pt] (.Tuple [a, b, c] k2 pt2) pos.line X.env = pure false := by rfl) (hw : swappedStores [.Tuple [.Name x px, .Name y py, .Name z pz] kt pt] (.Tuple [a, b, c] k2 pt2) X.env = pure none := by rfl)
    (ha : (assignEach [.Tuple [.Name x px, .Name y py, .Name z pz] kt pt] X.env).map (·.2) = [assign (.Tuple [.Name x px, .Name y py, .Name z pz] kt pt) X.env] := by rfl) :
    Step X sa δ S (.Assign [.Tuple [.Name x px, .Name y py, .Name z pz] kt pt] (.Tuple [a, b, c] k2 pt2) pos) (((δ.set i (some sl1)).set j (some sl2)).set l (some sl3)) S3 := fun rest W hr =>
  sb_seq (ps_asg (pe_tup (pa_cons h1 (pa_cons h2 (pa_cons h3 pa_nil hsc) hsb) hsa)) (pg_tup hc (pgs_cons g1 (pgs_cons g2 (pgs_cons g3 pgs_nil hs3) hs2) hs1) hn hst) hs hw ha) hr fun D σ H B ok k => ⟨B, ok, fun v H1 F1 f1 n1 ok1 e1 r1 => ⟨B, ok1, fun u H2 F2 f2 n2 ok2 e2 r2 => ⟨B, ok2, fun t H3 F3 f3 n3 ok3 e3 r3 => ⟨by show (3 : Nat) ≤ _; rw [sizeLine_eq]; decide, fun q hq => by
    refine ⟨q, _, rfl, .inl (.of upd_same), rfl, v, [u, t], rfl, u, [t], rfl, t, [], rfl, rfl, k B _ _ (.refl _ _) (ok.set3 ok1 e1 ok2 e2 ok3 e3 (.new hq) (ok3.src.same (same_new hq)) f1 n1 f2 n2 f3 n3 r1 r2 r3 (Nat.blt_eq.mp hil) (Nat.blt_eq.mp hjl) (Nat.blt_eq.mp hll))⟩⟩⟩⟩⟩
theorem ev_ifp [Enc β] {ka : Bool} {x y : β} (hc : ET X sa δ S c ka S1) (ha : ka = true → EG st X sa δ S1 a (.p (enc x)) S1) (hb : ka = false → EG st X sa δ S1 b (.p (enc y)) S1) : EG st X sa δ S (.IfExp c a b pos) (.p (enc (if ka = true then x else y))) S1 := ev_ifP (fun z => .p (enc z)) hc ha hb
theorem ev_ifpS [Enc β] {ka : Bool} {x y : β} (hc : ET X sa δ S c ka S1) (ha : ka = true → EG st X sa δ S1 a (.p (enc x)) S2) (hb : ka = false → EG st X sa δ S1 b (.p (enc y)) S3) : EG st X sa δ S (.IfExp c a b pos) (.p (enc (if ka = true then x else y))) (if ka = true then S2 else S3) := ev_if (fun z => .p (enc z)) hc ha hb
theorem ev_ifb [Enc β] {ka : Bool} {x y : List β} (hc : ET X sa δ S c ka S1) (ha : ka = true → EG st X sa δ S1 a (.b (encs x)) S1) (hb : ka = false → EG st X sa δ S1 b (.b (encs y)) S1) : EG st X sa δ S (.IfExp c a b pos) (.b (encs (if ka = true then x else y))) S1 := ev_ifP (fun z => .b (encs z)) hc ha hb
theorem ev_ifbS [Enc β] {ka : Bool} {x y : List β} (hc : ET X sa δ S c ka S1) (ha : ka = true → EG st X sa δ S1 a (.b (encs x)) S2) (hb : ka = false → EG st X sa δ S1 b (.b (encs y)) S3) : EG st X sa δ S (.IfExp c a b pos) (.b (encs (if ka = true then x else y))) (if ka = true then S2 else S3) := ev_if (fun z => .b (encs z)) hc ha hb
theorem ev_ifbb [Enc β] {ka : Bool} {x y : List (List β)} (hc : ET X sa δ S c ka S1) (ha : ka = true → EG st X sa δ S1 a (.bb (encss x)) S1) (hb : ka = false → EG st X sa δ S1 b (.bb (encss y)) S1) : EG st X sa δ S (.IfExp c a b pos) (.bb (encss (if ka = true then x else y))) S1 := ev_ifP (fun z => .bb (encss z)) hc ha hb
theorem ev_ifbbS [Enc β] {ka : Bool} {x y : List (List β)} (hc : ET X sa δ S c ka S1) (ha : ka = true → EG st X sa δ S1 a (.bb (encss x)) S2) (hb : ka = false → EG st X sa δ S1 b (.bb (encss y)) S3) : EG st X sa δ S (.IfExp c a b pos) (.bb (encss (if ka = true then x else y))) (if ka = true then S2 else S3) := ev_if (fun z => .bb (encss z)) hc ha hb
theorem Step.frz' {δ1 δ2 : Env} (i : Nat) (h : Step X sa δ S sm δ1 S1) (hd : δ1[i]? = some (some sl)) (h2 : δ1.set i (some (frzS sl)) = δ2) : Step X sa δ S sm δ2 S1 := h2 ▸ Step.frz i h hd
end
end L2.Ev

set_option Elab.async false
set_option linter.all false
set_option maxRecDepth 100000
set_option maxHeartbeats 4000000
/-! Ev16: t[::-1], t[1::-1] of tuples. -/
namespace L2.Ev
open PySem PySem.Spec PyProof.Rows PySem.W
section
variable {prog : Program} {w : World} {A : Around} {E : Value → Shared → Prop} {s : Shared}
theorem sliceApplied_back {sl : Addr} {vl vu vs : Value} {lo hi : Option Int} {n : Nat} {Q : Int × Int × Nat → Shared → Prop} (hs : s.heap.IsSliceOf sl vl vu vs) (pl : IsPart vl lo) (pu : IsPart vu hi) (ps : IsPart vs (some (-1)))
    (h : Q ((Builtin.Slice.sliceAdjust lo hi (-1) (n : Int)).1, -1, Builtin.Slice.slicePlaces (Builtin.Slice.sliceAdjust lo hi (-1) (n : Int)).1 (Builtin.Slice.sliceAdjust lo hi (-1) (n : Int)).2 (-1)) s) : wpAny (model prog w) A (Builtin.Slice.sliceApplied (.ref sl) (pure (n : Int))) Q E s := by
  obtain ⟨os, hos, hcs, hds⟩ := id hs
  unfold Builtin.Slice.sliceApplied Builtin.Slice.sliceFields
  refine wpAny_bind (wpAny_bind (wpAny_field hos hds (x := vl) rfl (wpAny_bind (wpAny_field hos hds (x := vu) rfl (wpAny_bind (wpAny_field hos hds (x := vs) rfl (wpAny_pure ?_)))))))
  refine wpAny_bind (HT.slicePart_ ps ?_)
  show wpAny _ _ (if ((-1 : Int) == 0) = true then _ else _) _ _ s
  rw [if_neg (by decide)]
  refine wpAny_bind (HT.slicePart_ pl (wpAny_bind (HT.slicePart_ pu (wpAny_bind (wpAny_pure ?_)))))
  exact wpAny_pure h
theorem getItem_tuple_back {t sl : Addr} {items : Array Value} {vl vu vs : Value} {lo hi : Option Int} {out : List Value} {Q : Value → Shared → Prop} (ht : IsTup s.heap t items) (hs : s.heap.IsSliceOf sl vl vu vs) (pl : IsPart vl lo) (pu : IsPart vu hi) (ps : IsPart vs (some (-1)))
    (ho : ((List.range (Builtin.Slice.slicePlaces (Builtin.Slice.sliceAdjust lo hi (-1) (items.size : Int)).1 (Builtin.Slice.sliceAdjust lo hi (-1) (items.size : Int)).2 (-1))).filterMap fun (k : Nat) => items[((Builtin.Slice.sliceAdjust lo hi (-1) (items.size : Int)).1 + (k : Int) * -1).toNat]?) = out)
    (h : Q (.ref s.heap.objs.size) { s with heap := s.heap.push { cls := .type "tuple", data := .seq out.toArray } }) (hsz : out.length ≤ sizeLine) : wpAny (model prog w) A (getItem (.ref t) (.ref sl)) Q E s := by
  have htake : sizeOk (.seq out.toArray) := by
    show out.toArray.size ≤ sizeLine
    rw [List.size_toArray]; exact hsz
  obtain ⟨os, hos, hcs, hds⟩ := id hs
  have hTs : s.TypeIs (.ref sl) "slice" := ⟨os, hos, hcs⟩
  unfold getItem
  try with_reducible refine wpAny_holding ?_
  first | refine wpAny_bind (wpAny_pure ?_) | skip
  refine wpAny_bind (wpAny_sequenceKey ht.typeIs (by decide) ?_)
  refine wpAny_bind (wpAny_callSpecial?_slot (name := Str.ofString "__getitem__") ht.typeIs PyProof.Rows.slot_tuple_getitem
    (wpAny_call_entry PyProof.Rows.slot_tuple_getitem ht.typeIs entry_tuple_getitem ?_ (args_tuple_getitem _ _)))
  show wpAny _ _ (Builtin.Tuple.tupleItemsOf (.ref t) >>= _) _ _ s
  refine wpAny_bind (PyProof.Rows.tupleItemsOf_ ht ?_)
  refine wpAny_bind (wpAny_typeOf hTs ?_)
  rw [if_pos (by decide)]
  refine wpAny_bind (sliceApplied_back hs pl pu ps ?_)
  have hno : ∀ (a b : Bool), ¬ ((a && (-1 : Int) == 1 && b) = true) := by
    intro a b q
    rw [Bool.and_eq_true, Bool.and_eq_true] at q
    have q1 : (-1 : Int) = 1 := eq_of_beq q.1.2
    cases q1
  show wpAny _ _ (if (_ && (-1 : Int) == 1 && _) = true then _ else _) _ _ s
  rw [if_neg (hno _ _), ho]
  first
    | exact wpAny_bind (m := Builtin.Tuple.tupleExact _) (wpAny_newObj_type (wpAny_pure ⟨_, rfl, wpAny_pure h⟩) htake)
    | exact wpAny_bind (m := Builtin.Tuple.tupleExact _) (wpAny_newObj_type (wpAny_bind (wpAny_pure (wpAny_pure ⟨_, rfl, wpAny_pure h⟩))) htake)
    | exact wpAny_bind (wpAny_bind (m := Builtin.Tuple.tupleExact _) (wpAny_newObj_type (wpAny_pure (wpAny_pure ⟨_, rfl, wpAny_pure h⟩)) htake))
    | exact wpAny_bind (wpAny_bind (m := Builtin.Tuple.tupleExact _) (wpAny_newObj_type (wpAny_pure ⟨_, rfl, wpAny_pure h⟩) htake))
end
theorem back_all {α : Type} (xs : Array α) : ((List.range (Builtin.Slice.slicePlaces (Builtin.Slice.sliceAdjust none none (-1) (xs.size : Int)).1 (Builtin.Slice.sliceAdjust none none (-1) (xs.size : Int)).2 (-1))).filterMap fun (k : Nat) => xs[((Builtin.Slice.sliceAdjust none none (-1) (xs.size : Int)).1 + (k : Int) * -1).toNat]?) = xs.toList.reverse := by
  have e1 : Builtin.Slice.sliceAdjust none none (-1) (xs.size : Int) = ((xs.size : Int) - 1, -1) := rfl
  rw [e1]
  have e2 : Builtin.Slice.slicePlaces ((xs.size : Int) - 1) (-1) (-1) = xs.size := by
    unfold Builtin.Slice.slicePlaces
    rw [if_neg (by decide)]
    by_cases h : xs.size = 0
    · rw [h]; rfl
    · rw [if_pos (by omega)]
      have : ((xs.size : Int) - 1 - -1 - 1) / (- -1) = (xs.size : Int) - 1 := by
        show ((xs.size : Int) - 1 - -1 - 1) / 1 = _
        rw [Int.ediv_one]; omega
      rw [this]; omega
  show (List.range (Builtin.Slice.slicePlaces ((xs.size : Int) - 1) (-1) (-1))).filterMap (fun (k : Nat) => xs[((xs.size : Int) - 1 + (k : Int) * -1).toNat]?) = _
  rw [e2]
  obtain ⟨l⟩ := xs
  simp only [List.size_toArray, List.getElem?_toArray]
  have key : ∀ (m : Nat), m ≤ l.length → (List.range m).filterMap (fun (k : Nat) => l[((l.length : Int) - 1 + (k : Int) * -1).toNat]?) = l.reverse.take m := by
    intro m
    induction m with
    | zero => intro _; rfl
    | succ m ih =>
      intro hm
      rw [List.range_succ, List.filterMap_append, ih (by omega), List.take_add_one]
      congr 1
      have : ((l.length : Int) - 1 + (m : Int) * -1).toNat = l.length - 1 - m := by omega
      show (List.filterMap _ [m]) = _
      rw [List.filterMap_cons, List.filterMap_nil, this, List.getElem?_reverse (by omega)]
      cases l[l.length - 1 - m]? <;> rfl
  rw [key _ (Nat.le_refl _), ← List.length_reverse, List.take_length]
section
variable {X : Cx} {sa : SA} {δ δ' : Env} {S S0 S1 S2 S3 S' : Src} {st : Bool} {e a b c : Expr} {pos p pos' : Pos} {K : PySem.W.Frag} {H : Hp} {β γ α : Type}
def tBackT (lo : Option Int) (K : PySem.W.Frag) (te : TE) : TE := fun σ H Q => te σ H fun x H1 => ∃ a xs ys, x = .ref a ∧ SqT K H1 a xs ∧ (∀ us : List Value, Vals xs us → ∃ out, Vals ys out ∧ ((List.range (Builtin.Slice.slicePlaces (Builtin.Slice.sliceAdjust lo none (-1) (us.toArray.size : Int)).1 (Builtin.Slice.sliceAdjust lo none (-1) (us.toArray.size : Int)).2 (-1))).filterMap fun (k : Nat) => us.toArray[((Builtin.Slice.sliceAdjust lo none (-1) (us.toArray.size : Int)).1 + (k : Int) * -1).toNat]?) = out) ∧ ys.length ≤ sizeLine ∧ ∀ p, H1 p = none → Q (.ref p) (upd H1 p (.tup ys))
theorem pe_backT {lo : Option Expr} {tl : TO} {l : Option Int} {te : TE} {k : Nat} {p1 p2 p3 : Pos} (he : PE X e te) (hl : ∀ (pins : List (Addr × Obj)) (s : Shared) (σ : L2.St) (H : Hp) (Q : Option Int → Hp → Prop), Inv X pins σ H s → tl σ H Q → Q l H) (hlo : PO X lo tl) (htl : ∀ σ H, tl σ H fun o H' => o = l ∧ H' = H) : PE X (.Subscript e (.Slice lo none (some (.UnaryOp .USub (.Constant (.int 1) k p1) p2)) p3) pos) (tBackT l X.K te) := by
  refine ⟨fun pins s σ H Q I h => ?_⟩
  refine Subscript_ (thn (he.run pins s σ H _ I h) fun v s1 ⟨x, H1, I1, r1, q1⟩ => ?_)
  obtain ⟨a, xs, ys, ex, hx, ho, hz, q⟩ := q1
  subst ex
  cases r1
  have hst : PO X (some (.UnaryOp .USub (.Constant (.int 1) k p1) p2)) (tPart (tUn (rU fun i => .int (-i)) (tC (.int 1)))) := po_some (pe_un un_neg pe_int)
  refine wpAny_Slice (thn (hlo.run pins s1 σ H1 (fun o H2 => o = l ∧ H2 = H1) I1 (htl σ H1)) fun vl s2 ⟨l', H2, I2, pl, el, e2⟩ => ?_)
  subst el e2
  refine thn (po_none.run pins s2 σ H2 (fun o H3 => o = none ∧ H3 = H2) I2 ⟨rfl, rfl⟩) fun vu s3 ⟨u, H3, I3, pu, eu, e3⟩ => ?_
  subst eu e3
  refine thn (hst.run pins s3 σ H3 (fun o H4 => o = some (-1) ∧ H4 = H3) I3 ⟨1, rfl, -1, rfl, rfl, rfl⟩) fun vs s4 ⟨o, H4, I4, ps, eo, e4⟩ => ?_
  subst eo e4
  have I5 : Inv X pins σ H4 { s4 with heap := s4.heap.push { cls := .type "slice", data := .fields #[vl, vu, vs] } } := I4.kept (t' := s4.toks) fun b ob q => Heap.get?_push_of_some _ q
  obtain ⟨its, r, ht, hz'⟩ := I5.tuple hx
  obtain ⟨out, rout, hout⟩ := ho its r
  show wpAny (model X.prog X.w) X.A (subscriptTail e (.Slice lo none (some (.UnaryOp .USub (.Constant (.int 1) k p1) p2)) p3) (.ref a) (.ref s4.heap.objs.size)) (L2.EP X pins σ Q) X.xe { s4 with heap := s4.heap.push { cls := .type "slice", data := .fields #[vl, vu, vs] } }
  refine tail_any (ops := [.ref a, .ref s4.heap.objs.size]) ht.typeIs (PyProof.Rows.slot_tuple_getitem.lookup) ?_ (by with_unfolding_all rfl)
  refine getItem_tuple_back ht (Heap.IsSliceOf.new _ vl vu vs) pl pu ps hout ?_ (by rw [← rout.length]; exact hz)
  refine ⟨.ref _, _, I5.laid (t' := s4.toks) (o := .tup ys) (fun b ob q => Heap.get?_push_of_some _ q) (Nat.le_refl _) ?_, rfl, q _ (I5.hok.fresh (Nat.le_refl _))⟩
  exact ⟨hz, out, rout, IsTup.new _ _⟩
/-- t[::-1] -/
theorem ev_revT [Enc β] {xs : List β} {k : Nat} {p1 p2 p3 : Pos} (ha : EE X sa δ S a (.p (enc xs)) S1) : EG st X sa δ S (.Subscript a (.Slice none none (some (.UnaryOp .USub (.Constant (.int 1) k p1) p2)) p3) pos) (.p (enc xs.reverse)) S1 :=
  pe_imp (pe_backT (l := none) ha (fun _ _ _ _ _ _ h => h) po_none (fun _ _ => ⟨rfl, rfl⟩)) fun σ H Q ⟨B, ok, kk⟩ => ⟨B, ok, fun v H1 B1 ok1 e1 b1 r1 => by
    obtain rfl : B1 = H1 := b1
    obtain ⟨q, vs, rfl, g1, g2, g3, g4⟩ := dpt r1
    refine ⟨q, vs, vs.reverse, rfl, g1, fun us r => ⟨us.reverse, r.reverse, back_all us.toArray⟩, by rw [List.length_reverse, g2.length]; exact g4, fun z hz => ?_⟩
    have ex : Ext sa B1 (upd B1 z (.tup vs.reverse)) := .new hz
    have en : encs xs.reverse = (encs xs).reverse := List.map_reverse
    refine give_p (v := .ref z) (d := .tuple (encs xs.reverse)) ok (e1.trans ex) (ok1.src.same (same_new hz)) (.tup (.of upd_same) ?_) ⟨?_, ?_⟩ fun B' ok' bb r => kk _ _ B' ok' (e1.trans ex) bb r
    · rw [en]; exact ex.tup.dpAll _ _ (g3.sub fun d m => List.mem_reverse.mp m) g2.rev
    · rw [en, List.length_reverse]; exact g4
    · rw [en]; exact g3.sub fun d m => List.mem_reverse.mp m⟩
theorem dp3 {vs : List V} {d1 d2 d3 : PyData} (h : DpAll K H vs [d1, d2, d3]) : ∃ v1 v2 v3, vs = [v1, v2, v3] ∧ Dp K H v1 d1 ∧ Dp K H v2 d2 ∧ Dp K H v3 d3 := by
  cases h with
  | cons h1 h => cases h with
    | cons h2 h => cases h with
      | cons h3 h => cases h; exact ⟨_, _, _, rfl, h1, h2, h3⟩
/-- t[1::-1] of a triple -/
theorem ev_back1 [Enc α] [Enc β] [Enc γ] {t : T3 α β γ} {k k2 : Nat} {p0 p1 p2 p3 : Pos} (ha : EE X sa δ S a (.p (enc t)) S1) : EG st X sa δ S (.Subscript a (.Slice (some (.Constant (.int 1) k2 p0)) none (some (.UnaryOp .USub (.Constant (.int 1) k p1) p2)) p3) pos) (.p (enc (t.b, t.a))) S1 :=
  pe_imp (pe_backT (l := some 1) (tl := tPart (tC (.int 1))) ha (fun _ _ _ _ _ _ ⟨i, e, h⟩ => by cases e; exact h) (po_some pe_int) (fun _ _ => ⟨1, rfl, rfl, rfl⟩)) fun σ H Q ⟨B, ok, kk⟩ => ⟨B, ok, fun v H1 B1 ok1 e1 b1 r1 => by
    obtain rfl : B1 = H1 := b1
    obtain ⟨q, vs, rfl, g1, g2, g3, g4⟩ := dpt r1
    obtain ⟨v1, v2, v3, rfl, d1, d2, d3⟩ := dp3 g2
    refine ⟨q, _, [v2, v1], rfl, g1, fun us r => ?_, by show (2 : Nat) ≤ _; rw [sizeLine_eq]; decide, fun z hz => ?_⟩
    · cases r with
      | cons r1 r => cases r with
        | cons r2 r => cases r with
          | cons r3 r =>
            cases r
            exact ⟨_, .cons r2 (.cons r1 .nil), rfl⟩
    · have ex : Ext sa B1 (upd B1 z (.tup [v2, v1])) := .new hz
      exact give_p (v := .ref z) (d := .tuple [enc t.b, enc t.a]) ok (e1.trans ex) (ok1.src.same (same_new hz)) (.tup (.of upd_same) (ex.tup.dpAll _ _ ⟨g3.2.1, g3.1, trivial⟩ (.cons d2 (.cons d1 .nil)))) ⟨by show (2 : Nat) ≤ _; rw [sizeLine_eq]; decide, g3.2.1, g3.1, trivial⟩ fun B' ok' bb r => kk _ _ B' ok' (e1.trans ex) bb r⟩
end
end L2.Ev

set_option Elab.async false
set_option linter.all false
set_option maxRecDepth 100000
/-! Ev17: the law itself: its start, its head. -/
namespace L2.Ev
open PySem PySem.Spec PyProof.Rows
section
variable {P : Program} {w : World} {K : PySem.W.Frag} {mg mb : Str → Option Value}
/-- the heap that knows nothing but the script -/
def scrH (a : Addr) (o : Obj) (ns : List Int) : Hp := fun b => if b = a then some (.frz o (.lst (ns.map V.int))) else none
theorem law_run {k : Nat} {fa a : Addr} {fd : FuncData} {x : Str} {sp : Sp} {s₁ : Shared} {vs : List Value} {ns : List Int}
    (KX : K.In s₁.heap) (hns : s₁.heap.Ns mainGlobals mg) (hb : s₁.heap.Ns builtinsNs mb) (hbb : ∀ x : Str, x ≠ "__name__" → mb x = bootBuiltins x) (hlim : s₁.heap.NoLimit) (hg : s₁.gens = #[])
    (ha : s₁.heap.get? a = some { cls := .type "list", data := .seq vs.toArray }) (hi : IntsAre vs ns) (hl : ns.length ≤ sizeLine) (hr : Room k callerA)
    (F : ∀ base : Heap, K.In base → base.Ns mainGlobals mg → FnG P w K mg base k fa fd [x] sp) (hbind : ∀ (s : Shared) (u : Value), BindsTo s fd ⟨[u], []⟩ [(x, u)])
    (hsp : ∀ H : Hp, SqL K H a (ns.map V.int) → sp [.ref a] H (fun v _ => v = .bl true) fun _ _ _ => False)
    {H : Hp} (hS : SqL K H a (ns.map V.int)) (hok : HOk P w H s₁.heap) (hH : H = (fun _ => none) ∨ (H = scrH a { cls := .type "list", data := .seq vs.toArray } ns ∧ K.lookup a = none)) :
    codeAny (model P w) callerA (.call (.ref fa) ⟨[.ref a], []⟩) (fun r s' => r = .ok (.ret (.bool true)) ∧ OldK s₁.heap s'.heap ∧ s'.os = s₁.os ∧ AllBare s'.gens) s₁ := by
  have out : ∀ b, b ≠ a → H b = none := fun b nb => by
    rcases hH with rfl | ⟨rfl, _⟩
    · rfl
    · exact if_neg nb
  have noK : ∀ b o, K.lookup b = some o → H b = none := fun b o e => by
    rcases hH with rfl | ⟨rfl, n⟩
    · rfl
    · by_cases z : b = a
      · subst z; rw [n] at e; cases e
      · exact if_neg z
  have noA : ∀ {b : Addr} {o : Obj} {es : Array DictEntry} {ep : Nat}, s₁.heap.get? b = some o → o.data = .dict es ep → H b = none := fun {b o es ep} e d => by
    by_cases z : b = a
    · subst z
      rw [ha] at e; cases e
      have d' : Data.seq vs.toArray _ = Data.dict es ep := d
      cases d'
    · exact out b z
  have nsK : ∀ {b : Addr} {m : Str → Option Value}, s₁.heap.Ns b m → (hidT s₁.heap H).Ns b m := fun {b m} ⟨o, es, ep, e, d, r⟩ => ⟨o, es, ep, hidT_get e (noA e d), d, r⟩
  have hKb : K.In (hidT s₁.heap H) := fun b o e => hidT_get (KX b o e) (noK b o e)
  have hM : Mod K mg (hidT s₁.heap H) := ⟨hKb, nsK hns, ⟨mb, nsK hb, hbb⟩, let ⟨mc, h1, h2⟩ := hlim; ⟨mc, nsK h1, h2⟩⟩
  have e0 : Env0 P w K mg (hidT s₁.heap H) callerA [] s₁ H := ⟨rfl, hM, fun b o e => of_hidT e, Nat.le_of_eq (hidT_size _ _), trivial, (fun b hb => absurd (show b ∈ ([] : List Addr) from hb) (by simp)), hok, .of_eq hg⟩
  refine codeAny_mono ((F _ hKb (nsK hns)).run callerA [] s₁ H ⟨[.ref a], []⟩ [.ref a] [.ref a] _ _ hr rfl e0 (hbind s₁ (.ref a)) (.cons rfl .nil) (hsp H hS)) fun r s' h => ?_
  match r, h with
  | .error e, h => exact False.elim h
  | .ok .next, h => exact False.elim h
  | .ok .brk, h => exact False.elim h
  | .ok .cont, h => exact False.elim h
  | .ok (.ret u), ⟨v, H', os, bare, un, hok', r', q⟩ =>
    obtain rfl : v = .bl true := q
    obtain rfl : u = Value.bool true := r'
    refine ⟨rfl, OldK.of_keep fun b o e => ?_, os, bare⟩
    by_cases z : b = a
    · rcases hH with rfl | ⟨rfl, _⟩
      · exact un.keep b o e rfl (by intro z; exact absurd (show b ∈ ([] : List Addr) from z) (by simp)) (by simp)
      · have z1 : scrH a { cls := .type "list", data := .seq vs.toArray } ns b = some (.frz { cls := .type "list", data := .seq vs.toArray } (.lst (ns.map V.int))) := if_pos z
        have z2 := un.frzs b _ _ z1
        obtain ⟨e1, _⟩ := hok b _ z1
        obtain ⟨e2, _⟩ := hok' b _ z2
        rw [e] at e1; cases e1
        exact e2
    · exact un.keep b o e (out b z) (by intro z; exact absurd (show b ∈ ([] : List Addr) from z) (by simp)) (by simp)
theorem law_callG {k : Nat} {fa a : Addr} {fd : FuncData} {x : Str} {sp : Sp} {s₁ : Shared} {vs : List Value} {ns : List Int}
    (KX : K.In s₁.heap) (hns : s₁.heap.Ns mainGlobals mg) (hb : s₁.heap.Ns builtinsNs mb) (hbb : ∀ x : Str, x ≠ "__name__" → mb x = bootBuiltins x) (hlim : s₁.heap.NoLimit) (hg : s₁.gens = #[])
    (ha : s₁.heap.get? a = some { cls := .type "list", data := .seq vs.toArray }) (hi : IntsAre vs ns) (hl : ns.length ≤ sizeLine) (hr : Room k callerA)
    (F : ∀ base : Heap, K.In base → base.Ns mainGlobals mg → FnG P w K mg base k fa fd [x] sp) (hbind : ∀ (s : Shared) (u : Value), BindsTo s fd ⟨[u], []⟩ [(x, u)])
    (hsp : ∀ H : Hp, SqL K H a (ns.map V.int) → sp [.ref a] H (fun v _ => v = .bl true) fun _ _ _ => False) :
    codeAny (model P w) callerA (.call (.ref fa) ⟨[.ref a], []⟩) (fun r s' => r = .ok (.ret (.bool true)) ∧ OldK s₁.heap s'.heap ∧ s'.os = s₁.os ∧ AllBare s'.gens) s₁ := by
  have rv := vals_ints hi
  cases hk : K.lookup a with
  | some o =>
    have e := KX a o hk
    rw [ha] at e
    cases e
    exact law_run KX hns hb hbb hlim hg ha hi hl hr F hbind hsp (H := fun _ => none) (.inr ⟨_, vs.toArray, _, hk, rfl, rfl, rfl, by rw [List.size_toArray, hi.length]; exact hl, by simpa using rv⟩) (fun b u z => by cases z) (.inl rfl)
  | none =>
    refine law_run KX hns hb hbb hlim hg ha hi hl hr F hbind hsp (H := scrH a { cls := .type "list", data := .seq vs.toArray } ns) (.inl (.inr ⟨{ cls := .type "list", data := .seq vs.toArray }, if_pos rfl⟩)) (fun b u z => ?_) (.inr ⟨rfl, hk⟩)
    by_cases hb : b = a
    · have z' : some (HO.frz { cls := .type "list", data := .seq vs.toArray } (.lst (ns.map V.int))) = some u := (if_pos hb).symm.trans z
      cases z'
      subst hb
      exact ⟨ha, by rw [List.length_map]; exact hl, vs, _, rv, ha⟩
    · have z' : (none : Option HO) = some u := (if_neg hb).symm.trans z
      cases z'
end
theorem walk_ofG {l : PySem.W.OpenLaw} {n k : Nat} {q : Program} {loose : List Str} {XP : (Str → Option Value) → Heap → Prop} {YP : World → Heap → Prop} {d : DefRec} {K : Params → PySem.W.Frag} {sp : PySem.W.Frag → Sp} {x : Str}
    (hn : l.most = some n) (hn2 : n ≤ sizeLine) (hdf : d.params.defaults = []) (hr : Room k callerA)
    (hY : ∀ (w : World) (h : Heap), YP w h → (K w.params).In h)
    (F : ∀ (w : World) (mg : Str → Option Value) (fa : Addr) (h : Heap), (K w.params).In h → h.Ns mainGlobals mg → mg d.name = some (.ref fa) →
      ∃ fd : FuncData, (∀ (s : Shared) (u : Value), BindsTo s fd ⟨[u], []⟩ [(x, u)]) ∧
        ∀ base : Heap, (K w.params).In base → base.Ns mainGlobals mg → FnG l.prog w (K w.params) mg base k fa fd [x] (sp (K w.params)))
    (hsp : ∀ (K : PySem.W.Frag) (H : Hp) (a : Addr) (ns : List Int), ns.length ≤ n → SqL K H a (ns.map V.int) → sp K [.ref a] H (fun v _ => v = .bl true) fun _ _ _ => False) :
    PySem.W.WalkO q loose XP YP l.row.toRowW d [] (fun f vs => PySem.call f vs) := by
  refine Att.attach_call hn hdf fun w s₀ s₁ mg mb fa o pm cd doc a vs ns G Y ho hd hcd hmg hobj hints hlen hg => ?_
  have KX := hY w _ Y
  obtain ⟨fd, hb, hF⟩ := F w mg fa _ KX G.T.g hmg
  exact law_callG KX G.T.g G.T.b G.T.builtins G.T.nolimit hg hobj hints (Nat.le_trans hlen hn2) hr hF hb fun H hS => hsp _ H a ns hlen hS

/-! ### the law's def: source = ..(script), then the rest -/
theorem ok_src {K : PySem.W.Frag} {H : Hp} {D L : Addr} {σ : L2.St} {S : Src} {n : Nat} (h : SrcAt H S (D, L)) (hl : σ.length = n + 2) (h1 : σ[1]? = some (some (.ref D))) : Ok K (some (D, L)) H H σ (Option.none :: some .src :: List.replicate n Option.none) S := by
  refine ⟨.refl _ _, by rw [hl]; simp, ⟨fun _ => [], ⟨fun i sl e => ?_, fun _ => .nil, (fun _ _ _ _ z => nomatch z), (fun _ _ z => nomatch z)⟩⟩, fun p e => by cases e; exact h⟩
  match i, e with
  | 0, e => cases e
  | 1, e =>
    cases e
    exact ⟨_, h1, rfl, (D, L), rfl, rfl⟩
  | i + 2, e =>
    have e' : (List.replicate n (Option.none : Option Sl))[i]? = some (some sl) := e
    rw [List.getElem?_replicate] at e'
    split at e' <;> cases e'
def spLaw (K : PySem.W.Frag) (g : Src → Prop) (m : Src → Bool × Src) : Sp := fun vs H Q _ => ∃ a ns, vs = [.ref a] ∧ SqL K H a (ns.map .int) ∧ ns.length ≤ 1000 ∧ g (openS ns) ∧ (m (openS ns)).1 = true ∧ ∀ H', Q (.bl true) H'
end L2.Ev

set_option Elab.async false
set_option linter.all false
set_option maxRecDepth 100000
namespace L2.Ev
open PySem PySem.Spec PyProof.Rows
def m__law_pick (m_0 : Int) (S : Src) : Int × Src := pickA S m_0
def g__law_pick (m_0 : Int) (S : Src) : Prop := m_0 < 1073741824
@[reducible] def R__law_pick : DR := fun sls S r S' => ∃ (m_0 : Int), sls = [.src, .p (enc m_0)] ∧ g__law_pick m_0 S ∧ r = .p (enc (m__law_pick m_0 S).1) ∧ S' = (m__law_pick m_0 S).2
@[reducible] def rf__law_web (r : (T3 Int Int (List (T3 Int Int Int))) × Src) : Sl × Src := (.p (enc r.1), r.2)
@[reducible] def nf__law_web_1 (p_0 : Int) (n_0 : Int) (share_0 : Int) (n : ((List (T3 Int Int Int)) × Src)) : Env × Src := ([some (.src), some (.p (enc p_0)), some (.p (enc n_0)), some (.p (enc share_0)), some (.l (encs n.1)), none, none], n.2)
@[reducible] def nf__law_web_2 (p_0 : Int) (n_0 : Int) (share_0 : Int) (q_65 : Int) (n : ((List (T3 Int Int Int)) × Src)) : Env × Src := ([some (.src), some (.p (enc p_0)), some (.p (enc n_0)), some (.p (enc share_0)), some (.l (encs n.1)), some (.p (enc q_65)), none], n.2)
def m__law_web_3 (ties_81 : (List (T3 Int Int Int))) (S_83 : Src) : ((List (T3 Int Int Int)) × Src) := (ties_81, S_83)
def g__law_web_3 (ties_81 : (List (T3 Int Int Int))) (S_83 : Src) : Prop := True
def m__law_web_4 (p_0 : Int) (q_65 : Int) (n_71 : ((List (T3 Int Int Int)) × Src)) (q_72 : Int) (S_76 : Src) : ((List (T3 Int Int Int)) × Src) := (m__law_web_3 (n_71.1 ++ [(T3.mk q_65 q_72 ((1 : Int) + (m__law_pick (p_0 - (1 : Int)) S_76).1))]) ((m__law_pick (p_0 - (1 : Int)) S_76).2))
def g__law_web_4 (p_0 : Int) (q_65 : Int) (n_71 : ((List (T3 Int Int Int)) × Src)) (q_72 : Int) (S_76 : Src) : Prop := (g__law_pick (p_0 - (1 : Int)) S_76) ∧ (List.length n_71.1 < 16777216) ∧ (g__law_web_3 (n_71.1 ++ [(T3.mk q_65 q_72 ((1 : Int) + (m__law_pick (p_0 - (1 : Int)) S_76).1))]) ((m__law_pick (p_0 - (1 : Int)) S_76).2))
def m__law_web_5 (n_71 : ((List (T3 Int Int Int)) × Src)) (S_76 : Src) : ((List (T3 Int Int Int)) × Src) := (n_71.1, S_76)
def g__law_web_5 (n_71 : ((List (T3 Int Int Int)) × Src)) (S_76 : Src) : Prop := True
def m__law_web_6 (p_0 : Int) (share_0 : Int) (q_65 : Int) (n_71 : ((List (T3 Int Int Int)) × Src)) (q_72 : Int) : ((List (T3 Int Int Int)) × Src) := (if (decide ((0 : Int) < (m__law_pick share_0 n_71.2).1)) = true then m__law_web_4 p_0 q_65 n_71 q_72 ((m__law_pick share_0 n_71.2).2) else m__law_web_5 n_71 ((m__law_pick share_0 n_71.2).2))
def g__law_web_6 (p_0 : Int) (share_0 : Int) (q_65 : Int) (n_71 : ((List (T3 Int Int Int)) × Src)) (q_72 : Int) : Prop := (g__law_pick share_0 n_71.2) ∧ ((decide ((0 : Int) < (m__law_pick share_0 n_71.2).1)) = true → g__law_web_4 p_0 q_65 n_71 q_72 ((m__law_pick share_0 n_71.2).2)) ∧ ((decide ((0 : Int) < (m__law_pick share_0 n_71.2).1)) = false → g__law_web_5 n_71 ((m__law_pick share_0 n_71.2).2))
def m__law_web_7 (n_85 : ((List (T3 Int Int Int)) × Src)) : ((List (T3 Int Int Int)) × Src) := (n_85.1, n_85.2)
def g__law_web_7 (n_85 : ((List (T3 Int Int Int)) × Src)) : Prop := True
def m__law_web_8 (p_0 : Int) (n_0 : Int) (share_0 : Int) (n_64 : ((List (T3 Int Int Int)) × Src)) (q_65 : Int) : ((List (T3 Int Int Int)) × Src) := (m__law_web_7 (List.foldl (fun (n_71 : ((List (T3 Int Int Int)) × Src)) (q_72 : Int) => m__law_web_6 p_0 share_0 q_65 n_71 q_72) ((n_64.1, n_64.2) : ((List (T3 Int Int Int)) × Src)) (rngI (q_65 + (1 : Int)) (Int.toNat (n_0 - (q_65 + (1 : Int)))))))
def g__law_web_8 (p_0 : Int) (n_0 : Int) (share_0 : Int) (n_64 : ((List (T3 Int Int Int)) × Src)) (q_65 : Int) : Prop := (RngOk (q_65 + (1 : Int))) ∧ (RngOk n_0) ∧ (n_0 - (q_65 + (1 : Int)) ≤ 16777216) ∧ (FG (fun (n_71 : ((List (T3 Int Int Int)) × Src)) (q_72 : Int) => g__law_web_6 p_0 share_0 q_65 n_71 q_72) (fun (n_71 : ((List (T3 Int Int Int)) × Src)) (q_72 : Int) => m__law_web_6 p_0 share_0 q_65 n_71 q_72) (rngI (q_65 + (1 : Int)) (Int.toNat (n_0 - (q_65 + (1 : Int))))) ((n_64.1, n_64.2) : ((List (T3 Int Int Int)) × Src))) ∧ (g__law_web_7 (List.foldl (fun (n_71 : ((List (T3 Int Int Int)) × Src)) (q_72 : Int) => m__law_web_6 p_0 share_0 q_65 n_71 q_72) ((n_64.1, n_64.2) : ((List (T3 Int Int Int)) × Src)) (rngI (q_65 + (1 : Int)) (Int.toNat (n_0 - (q_65 + (1 : Int)))))))
def m__law_web_9 (p_0 : Int) (n_0 : Int) (n_87 : ((List (T3 Int Int Int)) × Src)) : ((T3 Int Int (List (T3 Int Int Int))) × Src) := ((T3.mk p_0 n_0 n_87.1), n_87.2)
def g__law_web_9 (p_0 : Int) (n_0 : Int) (n_87 : ((List (T3 Int Int Int)) × Src)) : Prop := True
def m__law_web_10 (p_0 : Int) (n_0 : Int) (share_0 : Int) (S : Src) (ties_58 : (List (T3 Int Int Int))) : ((T3 Int Int (List (T3 Int Int Int))) × Src) := (m__law_web_9 p_0 n_0 (List.foldl (fun (n_64 : ((List (T3 Int Int Int)) × Src)) (q_65 : Int) => m__law_web_8 p_0 n_0 share_0 n_64 q_65) ((ties_58, S) : ((List (T3 Int Int Int)) × Src)) (rngI 0 (Int.toNat n_0))))
def g__law_web_10 (p_0 : Int) (n_0 : Int) (share_0 : Int) (S : Src) (ties_58 : (List (T3 Int Int Int))) : Prop := (RngOk n_0) ∧ (FG (fun (n_64 : ((List (T3 Int Int Int)) × Src)) (q_65 : Int) => g__law_web_8 p_0 n_0 share_0 n_64 q_65) (fun (n_64 : ((List (T3 Int Int Int)) × Src)) (q_65 : Int) => m__law_web_8 p_0 n_0 share_0 n_64 q_65) (rngI 0 (Int.toNat n_0)) ((ties_58, S) : ((List (T3 Int Int Int)) × Src))) ∧ (g__law_web_9 p_0 n_0 (List.foldl (fun (n_64 : ((List (T3 Int Int Int)) × Src)) (q_65 : Int) => m__law_web_8 p_0 n_0 share_0 n_64 q_65) ((ties_58, S) : ((List (T3 Int Int Int)) × Src)) (rngI 0 (Int.toNat n_0))))
def m__law_web (p_0 : Int) (n_0 : Int) (share_0 : Int) (S : Src) : ((T3 Int Int (List (T3 Int Int Int))) × Src) := (m__law_web_10 p_0 n_0 share_0 S ([] : List (T3 Int Int Int)))
def g__law_web (p_0 : Int) (n_0 : Int) (share_0 : Int) (S : Src) : Prop := (g__law_web_10 p_0 n_0 share_0 S ([] : List (T3 Int Int Int)))
@[reducible] def R__law_web : DR := fun sls S r S' => ∃ (p_0 : Int), ∃ (n_0 : Int), ∃ (share_0 : Int), sls = [.src, .p (enc p_0), .p (enc n_0), .p (enc share_0)] ∧ g__law_web p_0 n_0 share_0 S ∧ r = .p (enc (m__law_web p_0 n_0 share_0 S).1) ∧ S' = (m__law_web p_0 n_0 share_0 S).2
@[reducible] def rf__law_table (S : Src) (r : (List (List Int))) : Sl × Src := (.ll (encss r), S)
@[reducible] def nf__law_table_1 (web_0 : (T3 Int Int (List (T3 Int Int Int)))) (S : Src) (n : (List (List Int))) : Env × Src := ([some (.p (enc web_0)), none, some (.ll (encss n)), none, none], S)
def m__law_table_2 (rows_140 : (List (List Int))) : (List (List Int)) := rows_140
def g__law_table_2 (rows_140 : (List (List Int))) : Prop := True
def m__law_table_3 (q_134 : (T3 Int Int Int)) (rows_136 : (List (List Int))) : (List (List Int)) := (m__law_table_2 (setAt2 rows_136 q_134.b q_134.a q_134.c))
def g__law_table_3 (q_134 : (T3 Int Int Int)) (rows_136 : (List (List Int))) : Prop := (InB2 rows_136 q_134.b q_134.a) ∧ (g__law_table_2 (setAt2 rows_136 q_134.b q_134.a q_134.c))
def m__law_table_4 (n_133 : (List (List Int))) (q_134 : (T3 Int Int Int)) : (List (List Int)) := (m__law_table_3 q_134 (setAt2 n_133 q_134.a q_134.b q_134.c))
def g__law_table_4 (n_133 : (List (List Int))) (q_134 : (T3 Int Int Int)) : Prop := (InB2 n_133 q_134.a q_134.b) ∧ (g__law_table_3 q_134 (setAt2 n_133 q_134.a q_134.b q_134.c))
def m__law_table_5 (n_143 : (List (List Int))) : (List (List Int)) := n_143
def g__law_table_5 (n_143 : (List (List Int))) : Prop := True
def m__law_table_6 (web_0 : (T3 Int Int (List (T3 Int Int Int)))) (rows_128 : (List (List Int))) : (List (List Int)) := (m__law_table_5 (List.foldl (fun (n_133 : (List (List Int))) (q_134 : (T3 Int Int Int)) => m__law_table_4 n_133 q_134) (rows_128 : (List (List Int))) web_0.c))
def g__law_table_6 (web_0 : (T3 Int Int (List (T3 Int Int Int)))) (rows_128 : (List (List Int))) : Prop := (FG (fun (n_133 : (List (List Int))) (q_134 : (T3 Int Int Int)) => g__law_table_4 n_133 q_134) (fun (n_133 : (List (List Int))) (q_134 : (T3 Int Int Int)) => m__law_table_4 n_133 q_134) web_0.c (rows_128 : (List (List Int)))) ∧ (g__law_table_5 (List.foldl (fun (n_133 : (List (List Int))) (q_134 : (T3 Int Int Int)) => m__law_table_4 n_133 q_134) (rows_128 : (List (List Int))) web_0.c))
def m__law_table (web_0 : (T3 Int Int (List (T3 Int Int Int)))) : (List (List Int)) := (m__law_table_6 web_0 (List.map (fun (q_123 : Int) => (repL web_0.b ([(0 : Int)] : List Int))) (rngI 0 (Int.toNat web_0.b))))
def g__law_table (web_0 : (T3 Int Int (List (T3 Int Int Int)))) : Prop := (RngOk web_0.b) ∧ (∀ q_123 ∈ (rngI 0 (Int.toNat web_0.b)), (RepOk (List.length ([(0 : Int)] : List Int)) web_0.b)) ∧ (g__law_table_6 web_0 (List.map (fun (q_123 : Int) => (repL web_0.b ([(0 : Int)] : List Int))) (rngI 0 (Int.toNat web_0.b))))
@[reducible] def R__law_table : DR := fun sls S r S' => ∃ (web_0 : (T3 Int Int (List (T3 Int Int Int)))), sls = [.p (enc web_0)] ∧ g__law_table web_0 ∧ r = .ll (encss (m__law_table web_0)) ∧ S = S'
@[reducible] def rf_table_of (S : Src) (r : (List (List Int))) : Sl × Src := (.p (enc r), S)
@[reducible] def nf_table_of_1 (web_0 : (T3 Int Int (List (T3 Int Int Int)))) (S : Src) (n : (List (List Int))) : Env × Src := ([some (.p (enc web_0)), some (.p (enc web_0.a)), some (.p (enc web_0.b)), some (.p (enc web_0.c)), none, some (.ll (encss n)), none, none, none], S)
def m_table_of_2 (rows_193 : (List (List Int))) : (List (List Int)) := rows_193
def g_table_of_2 (rows_193 : (List (List Int))) : Prop := True
def m_table_of_3 (n_189 : (List (List Int))) (q_190 : (T3 Int Int Int)) : (List (List Int)) := (m_table_of_2 (setAt2 (setAt2 n_189 q_190.a q_190.b q_190.c) q_190.b q_190.a q_190.c))
def g_table_of_3 (n_189 : (List (List Int))) (q_190 : (T3 Int Int Int)) : Prop := (InB2 n_189 q_190.a q_190.b) ∧ (InB2 (setAt2 n_189 q_190.a q_190.b q_190.c) q_190.b q_190.a) ∧ (g_table_of_2 (setAt2 (setAt2 n_189 q_190.a q_190.b q_190.c) q_190.b q_190.a q_190.c))
def m_table_of_4 (n_196 : (List (List Int))) : (List (List Int)) := (List.map (fun (q_198 : (List Int)) => q_198) n_196)
def g_table_of_4 (n_196 : (List (List Int))) : Prop := True
def m_table_of_5 (web_0 : (T3 Int Int (List (T3 Int Int Int)))) (rows_184 : (List (List Int))) : (List (List Int)) := (m_table_of_4 (List.foldl (fun (n_189 : (List (List Int))) (q_190 : (T3 Int Int Int)) => m_table_of_3 n_189 q_190) (rows_184 : (List (List Int))) web_0.c))
def g_table_of_5 (web_0 : (T3 Int Int (List (T3 Int Int Int)))) (rows_184 : (List (List Int))) : Prop := (FG (fun (n_189 : (List (List Int))) (q_190 : (T3 Int Int Int)) => g_table_of_3 n_189 q_190) (fun (n_189 : (List (List Int))) (q_190 : (T3 Int Int Int)) => m_table_of_3 n_189 q_190) web_0.c (rows_184 : (List (List Int)))) ∧ (g_table_of_4 (List.foldl (fun (n_189 : (List (List Int))) (q_190 : (T3 Int Int Int)) => m_table_of_3 n_189 q_190) (rows_184 : (List (List Int))) web_0.c))
def m_table_of (web_0 : (T3 Int Int (List (T3 Int Int Int)))) : (List (List Int)) := (m_table_of_5 web_0 (List.map (fun (q_179 : Int) => (repL web_0.b ([(0 : Int)] : List Int))) (rngI 0 (Int.toNat web_0.b))))
def g_table_of (web_0 : (T3 Int Int (List (T3 Int Int Int)))) : Prop := ((RngOk web_0.b) ∧ (∀ q_179 ∈ (rngI 0 (Int.toNat web_0.b)), (RepOk (List.length ([(0 : Int)] : List Int)) web_0.b)) ∧ (g_table_of_5 web_0 (List.map (fun (q_179 : Int) => (repL web_0.b ([(0 : Int)] : List Int))) (rngI 0 (Int.toNat web_0.b)))))
@[reducible] def R_table_of : DR := fun sls S r S' => ∃ (web_0 : (T3 Int Int (List (T3 Int Int Int)))), sls = [.p (enc web_0)] ∧ g_table_of web_0 ∧ r = .p (enc (m_table_of web_0)) ∧ S = S'
@[reducible] def rf_web_of (S : Src) (r : (T3 Int Int (List (T3 Int Int Int)))) : Sl × Src := (.p (enc r), S)
@[reducible] def nf_web_of_1 (p_0 : Int) (table_0 : (List (List Int))) (z_243 : (Int × (List (T3 Int Int Int)))) (S : Src) (n : (List (T3 Int Int Int))) : Env × Src := ([some (.p (enc p_0)), some (.p (enc table_0)), some (.p (enc z_243.1)), some (.l (encs n)), none, none], S)
def m_web_of_2 (ties_264 : (List (T3 Int Int Int))) : (List (T3 Int Int Int)) := ties_264
def g_web_of_2 (ties_264 : (List (T3 Int Int Int))) : Prop := True
def m_web_of_3 (table_0 : (List (List Int))) (z_243 : (Int × (List (T3 Int Int Int)))) (n_249 : (List (T3 Int Int Int))) (q_250 : Int) : (List (T3 Int Int Int)) := (m_web_of_2 (n_249 ++ (List.map (fun (q_254 : Int) => (T3.mk q_250 q_254 (getI (getI table_0 q_250) q_254))) (List.filter (fun (q_254 : Int) => decide ((getI (getI table_0 q_250) q_254) ≠ (0 : Int))) (rngI (q_250 + (1 : Int)) (Int.toNat (z_243.1 - (q_250 + (1 : Int)))))))))
def g_web_of_3 (table_0 : (List (List Int))) (z_243 : (Int × (List (T3 Int Int Int)))) (n_249 : (List (T3 Int Int Int))) (q_250 : Int) : Prop := (RngOk (q_250 + (1 : Int))) ∧ (RngOk z_243.1) ∧ (z_243.1 - (q_250 + (1 : Int)) ≤ 16777216) ∧ (∀ q_254 ∈ (rngI (q_250 + (1 : Int)) (Int.toNat (z_243.1 - (q_250 + (1 : Int))))), (InB table_0 q_250) ∧ (InB (getI table_0 q_250) q_254) ∧ (decide ((getI (getI table_0 q_250) q_254) ≠ (0 : Int)) = true → (InB table_0 q_250) ∧ (InB (getI table_0 q_250) q_254))) ∧ (List.length n_249 + List.length (List.map (fun (q_254 : Int) => (T3.mk q_250 q_254 (getI (getI table_0 q_250) q_254))) (List.filter (fun (q_254 : Int) => decide ((getI (getI table_0 q_250) q_254) ≠ (0 : Int))) (rngI (q_250 + (1 : Int)) (Int.toNat (z_243.1 - (q_250 + (1 : Int))))))) ≤ 16777216) ∧ (g_web_of_2 (n_249 ++ (List.map (fun (q_254 : Int) => (T3.mk q_250 q_254 (getI (getI table_0 q_250) q_254))) (List.filter (fun (q_254 : Int) => decide ((getI (getI table_0 q_250) q_254) ≠ (0 : Int))) (rngI (q_250 + (1 : Int)) (Int.toNat (z_243.1 - (q_250 + (1 : Int)))))))))
def m_web_of_4 (p_0 : Int) (z_243 : (Int × (List (T3 Int Int Int)))) (n_267 : (List (T3 Int Int Int))) : (T3 Int Int (List (T3 Int Int Int))) := (T3.mk p_0 z_243.1 n_267)
def g_web_of_4 (p_0 : Int) (z_243 : (Int × (List (T3 Int Int Int)))) (n_267 : (List (T3 Int Int Int))) : Prop := True
def m_web_of_5 (p_0 : Int) (table_0 : (List (List Int))) (z_243 : (Int × (List (T3 Int Int Int)))) : (T3 Int Int (List (T3 Int Int Int))) := (m_web_of_4 p_0 z_243 (List.foldl (fun (n_249 : (List (T3 Int Int Int))) (q_250 : Int) => m_web_of_3 table_0 z_243 n_249 q_250) (z_243.2 : (List (T3 Int Int Int))) (rngI 0 (Int.toNat z_243.1))))
def g_web_of_5 (p_0 : Int) (table_0 : (List (List Int))) (z_243 : (Int × (List (T3 Int Int Int)))) : Prop := (RngOk z_243.1) ∧ (FG (fun (n_249 : (List (T3 Int Int Int))) (q_250 : Int) => g_web_of_3 table_0 z_243 n_249 q_250) (fun (n_249 : (List (T3 Int Int Int))) (q_250 : Int) => m_web_of_3 table_0 z_243 n_249 q_250) (rngI 0 (Int.toNat z_243.1)) (z_243.2 : (List (T3 Int Int Int)))) ∧ (g_web_of_4 p_0 z_243 (List.foldl (fun (n_249 : (List (T3 Int Int Int))) (q_250 : Int) => m_web_of_3 table_0 z_243 n_249 q_250) (z_243.2 : (List (T3 Int Int Int))) (rngI 0 (Int.toNat z_243.1))))
def m_web_of (p_0 : Int) (table_0 : (List (List Int))) : (T3 Int Int (List (T3 Int Int Int))) := (m_web_of_5 p_0 table_0 ((List.length table_0 : Int), ([] : List (T3 Int Int Int))))
def g_web_of (p_0 : Int) (table_0 : (List (List Int))) : Prop := (g_web_of_5 p_0 table_0 ((List.length table_0 : Int), ([] : List (T3 Int Int Int))))
@[reducible] def R_web_of : DR := fun sls S r S' => ∃ (p_0 : Int), ∃ (table_0 : (List (List Int))), sls = [.p (enc p_0), .p (enc table_0)] ∧ g_web_of p_0 table_0 ∧ r = .p (enc (m_web_of p_0 table_0)) ∧ S = S'
@[reducible] def rf_weight_at (S : Src) (r : Int) : Sl × Src := (.p (enc r), S)
def m_weight_at_1 (some_317 : (List Int)) : Int := (if decide (some_317 ≠ ([] : List Int)) = true then (getI some_317 (0 : Int)) else (0 : Int))
def g_weight_at_1 (some_317 : (List Int)) : Prop := (decide (some_317 ≠ ([] : List Int)) = true → (InB some_317 (0 : Int)))
def m_weight_at (web_0 : (T3 Int Int (List (T3 Int Int Int)))) (u_0 : Int) (v_0 : Int) : Int := (m_weight_at_1 (List.map (fun (q_314 : (T3 Int Int Int)) => q_314.c) (List.filter (fun (q_314 : (T3 Int Int Int)) => (mem ((q_314.a, q_314.b) : (Int × Int)) ([((u_0, v_0), (v_0, u_0)).1, ((u_0, v_0), (v_0, u_0)).2] : (List (Int × Int))))) web_0.c)))
def g_weight_at (web_0 : (T3 Int Int (List (T3 Int Int Int)))) (u_0 : Int) (v_0 : Int) : Prop := (g_weight_at_1 (List.map (fun (q_314 : (T3 Int Int Int)) => q_314.c) (List.filter (fun (q_314 : (T3 Int Int Int)) => (mem ((q_314.a, q_314.b) : (Int × Int)) ([((u_0, v_0), (v_0, u_0)).1, ((u_0, v_0), (v_0, u_0)).2] : (List (Int × Int))))) web_0.c)))
@[reducible] def R_weight_at : DR := fun sls S r S' => ∃ (web_0 : (T3 Int Int (List (T3 Int Int Int)))), ∃ (u_0 : Int), ∃ (v_0 : Int), sls = [.p (enc web_0), .p (enc u_0), .p (enc v_0)] ∧ g_weight_at web_0 u_0 v_0 ∧ r = .p (enc (m_weight_at web_0 u_0 v_0)) ∧ S = S'
@[reducible] def rf_tied_to (S : Src) (r : (List (Int × Int))) : Sl × Src := (.l (encs r), S)
@[reducible] def nf_tied_to_1 (web_0 : (T3 Int Int (List (T3 Int Int Int)))) (v_0 : Int) (S : Src) (n : (List (Int × Int))) : Env × Src := ([some (.p (enc web_0)), some (.p (enc v_0)), some (.l (encs n)), none, none, none], S)
def m_tied_to_2 (found_369 : (List (Int × Int))) : (List (Int × Int)) := found_369
def g_tied_to_2 (found_369 : (List (Int × Int))) : Prop := True
def m_tied_to_3 (v_0 : Int) (n_360 : (List (Int × Int))) (q_361 : (T3 Int Int Int)) : (List (Int × Int)) := (m_tied_to_2 (n_360 ++ [((if decide (q_361.a = v_0) = true then q_361.b else q_361.a), q_361.c)]))
def g_tied_to_3 (v_0 : Int) (n_360 : (List (Int × Int))) (q_361 : (T3 Int Int Int)) : Prop := (List.length n_360 < 16777216) ∧ (g_tied_to_2 (n_360 ++ [((if decide (q_361.a = v_0) = true then q_361.b else q_361.a), q_361.c)]))
def m_tied_to_4 (n_360 : (List (Int × Int))) : (List (Int × Int)) := n_360
def g_tied_to_4 (n_360 : (List (Int × Int))) : Prop := True
def m_tied_to_5 (v_0 : Int) (n_360 : (List (Int × Int))) (q_361 : (T3 Int Int Int)) : (List (Int × Int)) := (if ((mem (v_0 : Int) ([(q_361.a, q_361.b).1, (q_361.a, q_361.b).2] : (List Int)))) = true then m_tied_to_3 v_0 n_360 q_361 else m_tied_to_4 n_360)
def g_tied_to_5 (v_0 : Int) (n_360 : (List (Int × Int))) (q_361 : (T3 Int Int Int)) : Prop := (((mem (v_0 : Int) ([(q_361.a, q_361.b).1, (q_361.a, q_361.b).2] : (List Int)))) = true → g_tied_to_3 v_0 n_360 q_361) ∧ (((mem (v_0 : Int) ([(q_361.a, q_361.b).1, (q_361.a, q_361.b).2] : (List Int)))) = false → g_tied_to_4 n_360)
def m_tied_to_6 (n_372 : (List (Int × Int))) : (List (Int × Int)) := (sortD n_372)
def g_tied_to_6 (n_372 : (List (Int × Int))) : Prop := (SortOk (encs n_372)) ∧ (∀ x ∈ n_372, (enc x).depth ≤ 60)
def m_tied_to_7 (web_0 : (T3 Int Int (List (T3 Int Int Int)))) (v_0 : Int) (found_355 : (List (Int × Int))) : (List (Int × Int)) := (m_tied_to_6 (List.foldl (fun (n_360 : (List (Int × Int))) (q_361 : (T3 Int Int Int)) => m_tied_to_5 v_0 n_360 q_361) (found_355 : (List (Int × Int))) web_0.c))
def g_tied_to_7 (web_0 : (T3 Int Int (List (T3 Int Int Int)))) (v_0 : Int) (found_355 : (List (Int × Int))) : Prop := (FG (fun (n_360 : (List (Int × Int))) (q_361 : (T3 Int Int Int)) => g_tied_to_5 v_0 n_360 q_361) (fun (n_360 : (List (Int × Int))) (q_361 : (T3 Int Int Int)) => m_tied_to_5 v_0 n_360 q_361) web_0.c (found_355 : (List (Int × Int)))) ∧ (g_tied_to_6 (List.foldl (fun (n_360 : (List (Int × Int))) (q_361 : (T3 Int Int Int)) => m_tied_to_5 v_0 n_360 q_361) (found_355 : (List (Int × Int))) web_0.c))
def m_tied_to (web_0 : (T3 Int Int (List (T3 Int Int Int)))) (v_0 : Int) : (List (Int × Int)) := (m_tied_to_7 web_0 v_0 ([] : List (Int × Int)))
def g_tied_to (web_0 : (T3 Int Int (List (T3 Int Int Int)))) (v_0 : Int) : Prop := (g_tied_to_7 web_0 v_0 ([] : List (Int × Int)))
@[reducible] def R_tied_to : DR := fun sls S r S' => ∃ (web_0 : (T3 Int Int (List (T3 Int Int Int)))), ∃ (v_0 : Int), sls = [.p (enc web_0), .p (enc v_0)] ∧ g_tied_to web_0 v_0 ∧ r = .l (encs (m_tied_to web_0 v_0)) ∧ S = S'
@[reducible] def rf__law_move (r : (T3 Str Int Int) × Src) : Sl × Src := (.p (enc r.1), r.2)
def m__law_move (p_0 : Int) (n_0 : Int) (S : Src) : ((T3 Str Int Int) × Src) := ((T3.mk (getI ([("turn" : Str), ("turn" : Str), ("scale" : Str)] : List Str) ((m__law_pick (3 : Int) S).1)) ((m__law_pick n_0 ((m__law_pick (3 : Int) S).2)).1) ((1 : Int) + (m__law_pick (p_0 - (1 : Int)) ((m__law_pick n_0 ((m__law_pick (3 : Int) S).2)).2)).1)), (m__law_pick (p_0 - (1 : Int)) ((m__law_pick n_0 ((m__law_pick (3 : Int) S).2)).2)).2)
def g__law_move (p_0 : Int) (n_0 : Int) (S : Src) : Prop := (g__law_pick (3 : Int) S) ∧ (InB ([("turn" : Str), ("turn" : Str), ("scale" : Str)] : List Str) ((m__law_pick (3 : Int) S).1)) ∧ (g__law_pick n_0 ((m__law_pick (3 : Int) S).2)) ∧ (g__law_pick (p_0 - (1 : Int)) ((m__law_pick n_0 ((m__law_pick (3 : Int) S).2)).2))
@[reducible] def R__law_move : DR := fun sls S r S' => ∃ (p_0 : Int), ∃ (n_0 : Int), sls = [.src, .p (enc p_0), .p (enc n_0)] ∧ g__law_move p_0 n_0 S ∧ r = .p (enc (m__law_move p_0 n_0 S).1) ∧ S' = (m__law_move p_0 n_0 S).2
@[reducible] def rf__law_web_of (S : Src) (r : (T3 Int Int (List (T3 Int Int Int)))) : Sl × Src := (.p (enc r), S)
@[reducible] def nf__law_web_of_1 (p_0 : Int) (rows_0 : (List (List Int))) (S : Src) (n : (List (T3 Int Int Int))) : Env × Src := ([some (.p (enc p_0)), some (.bb (encss rows_0)), some (.l (encs n)), none, none, none, none], S)
def m__law_web_of_2 (ties_538 : (List (T3 Int Int Int))) : (List (T3 Int Int Int)) := ties_538
def g__law_web_of_2 (ties_538 : (List (T3 Int Int Int))) : Prop := True
def m__law_web_of_3 (n_531 : (List (T3 Int Int Int))) (q_532 : (Int × (Row Int))) : (List (T3 Int Int Int)) := (m__law_web_of_2 (n_531 ++ (List.map (fun (q_533 : (Int × Int)) => (T3.mk q_532.1 q_533.1 q_533.2)) (List.filter (fun (q_533 : (Int × Int)) => (decide (q_532.1 < q_533.1) && decide (q_533.2 ≠ (0 : Int)))) (enumL q_532.2.l)))))
def g__law_web_of_3 (n_531 : (List (T3 Int Int Int))) (q_532 : (Int × (Row Int))) : Prop := ((List.length n_531 : Int) + (List.length (List.map (fun (q_533 : (Int × Int)) => (T3.mk q_532.1 q_533.1 q_533.2)) (List.filter (fun (q_533 : (Int × Int)) => (decide (q_532.1 < q_533.1) && decide (q_533.2 ≠ (0 : Int)))) (enumL q_532.2.l))) : Int) ≤ 16777216) ∧ (g__law_web_of_2 (n_531 ++ (List.map (fun (q_533 : (Int × Int)) => (T3.mk q_532.1 q_533.1 q_533.2)) (List.filter (fun (q_533 : (Int × Int)) => (decide (q_532.1 < q_533.1) && decide (q_533.2 ≠ (0 : Int)))) (enumL q_532.2.l)))))
def m__law_web_of_4 (p_0 : Int) (rows_0 : (List (List Int))) (n_541 : (List (T3 Int Int Int))) : (T3 Int Int (List (T3 Int Int Int))) := (T3.mk p_0 (List.length rows_0 : Int) n_541)
def g__law_web_of_4 (p_0 : Int) (rows_0 : (List (List Int))) (n_541 : (List (T3 Int Int Int))) : Prop := True
def m__law_web_of_5 (p_0 : Int) (rows_0 : (List (List Int))) (ties_526 : (List (T3 Int Int Int))) : (T3 Int Int (List (T3 Int Int Int))) := (m__law_web_of_4 p_0 rows_0 (List.foldl (fun (n_531 : (List (T3 Int Int Int))) (q_532 : (Int × (Row Int))) => m__law_web_of_3 n_531 q_532) (ties_526 : (List (T3 Int Int Int))) (enumL (List.map Row.mk rows_0))))
def g__law_web_of_5 (p_0 : Int) (rows_0 : (List (List Int))) (ties_526 : (List (T3 Int Int Int))) : Prop := (FG (fun (n_531 : (List (T3 Int Int Int))) (q_532 : (Int × (Row Int))) => g__law_web_of_3 n_531 q_532) (fun (n_531 : (List (T3 Int Int Int))) (q_532 : (Int × (Row Int))) => m__law_web_of_3 n_531 q_532) (enumL (List.map Row.mk rows_0)) (ties_526 : (List (T3 Int Int Int)))) ∧ (g__law_web_of_4 p_0 rows_0 (List.foldl (fun (n_531 : (List (T3 Int Int Int))) (q_532 : (Int × (Row Int))) => m__law_web_of_3 n_531 q_532) (ties_526 : (List (T3 Int Int Int))) (enumL (List.map Row.mk rows_0))))
def m__law_web_of (p_0 : Int) (rows_0 : (List (List Int))) : (T3 Int Int (List (T3 Int Int Int))) := (m__law_web_of_5 p_0 rows_0 ([] : List (T3 Int Int Int)))
def g__law_web_of (p_0 : Int) (rows_0 : (List (List Int))) : Prop := (g__law_web_of_5 p_0 rows_0 ([] : List (T3 Int Int Int)))
@[reducible] def R__law_web_of : DR := fun sls S r S' => ∃ (p_0 : Int), ∃ (rows_0 : (List (List Int))), sls = [.p (enc p_0), .bb (encss rows_0)] ∧ g__law_web_of p_0 rows_0 ∧ r = .p (enc (m__law_web_of p_0 rows_0)) ∧ S = S'
@[reducible] def rf__law_moved (S : Src) (r : (T3 Int Int (List (T3 Int Int Int)))) : Sl × Src := (.p (enc r), S)
@[reducible] def nf__law_moved_1 (web_0 : (T3 Int Int (List (T3 Int Int Int)))) (move_0 : (T3 Str Int Int)) (z_549 : (Int × (List (List Int)))) (S : Src) (n : (List (List Int))) : Env × Src := ([some (.p (enc web_0)), some (.p (enc move_0)), some (.p (enc move_0.a)), some (.p (enc move_0.b)), some (.p (enc move_0.c)), some (.p (enc z_549.1)), some (.bb (encss z_549.2)), none, some (.ll (encss n)), none, none], S)
@[reducible] def nf__law_moved_2 (web_0 : (T3 Int Int (List (T3 Int Int Int)))) (move_0 : (T3 Str Int Int)) (z_549 : (Int × (List (List Int)))) (q_562 : Int) (S : Src) (n : (List (List Int))) : Env × Src := ([some (.p (enc web_0)), some (.p (enc move_0)), some (.p (enc move_0.a)), some (.p (enc move_0.b)), some (.p (enc move_0.c)), some (.p (enc z_549.1)), some (.bb (encss z_549.2)), none, some (.ll (encss n)), some (.p (enc q_562)), none], S)
@[reducible] def nf__law_moved_3 (web_0 : (T3 Int Int (List (T3 Int Int Int)))) (move_0 : (T3 Str Int Int)) (z_549 : (Int × (List (List Int)))) (q_562 : Int) (q_567 : Int) (S : Src) (n : (List (List Int))) : Env × Src := ([some (.p (enc web_0)), some (.p (enc move_0)), some (.p (enc move_0.a)), some (.p (enc move_0.b)), some (.p (enc move_0.c)), some (.p (enc z_549.1)), some (.bb (encss z_549.2)), none, some (.ll (encss n)), some (.p (enc q_562)), some (.p (enc q_567))], S)
def m__law_moved_4 (late_599 : (List (List Int))) : (List (List Int)) := late_599
def g__law_moved_4 (late_599 : (List (List Int))) : Prop := True
def m__law_moved_5 (move_0 : (T3 Str Int Int)) (z_549 : (Int × (List (List Int)))) (q_562 : Int) (n_566 : (List (List Int))) (q_567 : Int) : (List (List Int)) := (m__law_moved_4 (setAt2 n_566 q_562 q_567 (((getI (getI z_549.2 q_562) q_567) + ((move_0.c * (getI (getI z_549.2 q_562) move_0.b)) * (getI (getI z_549.2 move_0.b) q_567))) % z_549.1)))
def g__law_moved_5 (move_0 : (T3 Str Int Int)) (z_549 : (Int × (List (List Int)))) (q_562 : Int) (n_566 : (List (List Int))) (q_567 : Int) : Prop := (InB z_549.2 q_562) ∧ (InB (getI z_549.2 q_562) q_567) ∧ (InB z_549.2 q_562) ∧ (InB (getI z_549.2 q_562) move_0.b) ∧ (CMul move_0.c (getI (getI z_549.2 q_562) move_0.b)) ∧ (InB z_549.2 move_0.b) ∧ (InB (getI z_549.2 move_0.b) q_567) ∧ (CMul (move_0.c * (getI (getI z_549.2 q_562) move_0.b)) (getI (getI z_549.2 move_0.b) q_567)) ∧ (0 < z_549.1) ∧ (InB2 n_566 q_562 q_567) ∧ (g__law_moved_4 (setAt2 n_566 q_562 q_567 (((getI (getI z_549.2 q_562) q_567) + ((move_0.c * (getI (getI z_549.2 q_562) move_0.b)) * (getI (getI z_549.2 move_0.b) q_567))) % z_549.1)))
def m__law_moved_6 (n_566 : (List (List Int))) : (List (List Int)) := n_566
def g__law_moved_6 (n_566 : (List (List Int))) : Prop := True
def m__law_moved_7 (late_613 : (List (List Int))) : (List (List Int)) := late_613
def g__law_moved_7 (late_613 : (List (List Int))) : Prop := True
def m__law_moved_8 (move_0 : (T3 Str Int Int)) (z_549 : (Int × (List (List Int)))) (q_562 : Int) (q_567 : Int) (n_602 : (List (List Int))) : (List (List Int)) := (m__law_moved_7 (setAt2 n_602 q_562 q_567 (((getI (getI z_549.2 q_562) q_567) * move_0.c) % z_549.1)))
def g__law_moved_8 (move_0 : (T3 Str Int Int)) (z_549 : (Int × (List (List Int)))) (q_562 : Int) (q_567 : Int) (n_602 : (List (List Int))) : Prop := (InB z_549.2 q_562) ∧ (InB (getI z_549.2 q_562) q_567) ∧ (CMul (getI (getI z_549.2 q_562) q_567) move_0.c) ∧ (0 < z_549.1) ∧ (InB2 n_602 q_562 q_567) ∧ (g__law_moved_7 (setAt2 n_602 q_562 q_567 (((getI (getI z_549.2 q_562) q_567) * move_0.c) % z_549.1)))
def m__law_moved_9 (n_602 : (List (List Int))) : (List (List Int)) := n_602
def g__law_moved_9 (n_602 : (List (List Int))) : Prop := True
def m__law_moved_10 (move_0 : (T3 Str Int Int)) (z_549 : (Int × (List (List Int)))) (q_562 : Int) (q_567 : Int) (n_602 : (List (List Int))) : (List (List Int)) := (if ((decide (move_0.a = ("scale" : Str)) && (mem (move_0.b : Int) ([(q_562, q_567).1, (q_562, q_567).2] : (List Int))))) = true then m__law_moved_8 move_0 z_549 q_562 q_567 n_602 else m__law_moved_9 n_602)
def g__law_moved_10 (move_0 : (T3 Str Int Int)) (z_549 : (Int × (List (List Int)))) (q_562 : Int) (q_567 : Int) (n_602 : (List (List Int))) : Prop := (((decide (move_0.a = ("scale" : Str)) && (mem (move_0.b : Int) ([(q_562, q_567).1, (q_562, q_567).2] : (List Int))))) = true → g__law_moved_8 move_0 z_549 q_562 q_567 n_602) ∧ (((decide (move_0.a = ("scale" : Str)) && (mem (move_0.b : Int) ([(q_562, q_567).1, (q_562, q_567).2] : (List Int))))) = false → g__law_moved_9 n_602)
def m__law_moved_11 (move_0 : (T3 Str Int Int)) (z_549 : (Int × (List (List Int)))) (q_562 : Int) (n_566 : (List (List Int))) (q_567 : Int) : (List (List Int)) := (m__law_moved_10 move_0 z_549 q_562 q_567 (if ((decide (move_0.a = ("turn" : Str)) && (decide (q_562 ≠ q_567) && (!(mem (move_0.b : Int) ([(q_562, q_567).1, (q_562, q_567).2] : (List Int))))))) = true then m__law_moved_5 move_0 z_549 q_562 n_566 q_567 else m__law_moved_6 n_566))
def g__law_moved_11 (move_0 : (T3 Str Int Int)) (z_549 : (Int × (List (List Int)))) (q_562 : Int) (n_566 : (List (List Int))) (q_567 : Int) : Prop := (((decide (move_0.a = ("turn" : Str)) && (decide (q_562 ≠ q_567) && (!(mem (move_0.b : Int) ([(q_562, q_567).1, (q_562, q_567).2] : (List Int))))))) = true → g__law_moved_5 move_0 z_549 q_562 n_566 q_567) ∧ (((decide (move_0.a = ("turn" : Str)) && (decide (q_562 ≠ q_567) && (!(mem (move_0.b : Int) ([(q_562, q_567).1, (q_562, q_567).2] : (List Int))))))) = false → g__law_moved_6 n_566) ∧ (g__law_moved_10 move_0 z_549 q_562 q_567 (if ((decide (move_0.a = ("turn" : Str)) && (decide (q_562 ≠ q_567) && (!(mem (move_0.b : Int) ([(q_562, q_567).1, (q_562, q_567).2] : (List Int))))))) = true then m__law_moved_5 move_0 z_549 q_562 n_566 q_567 else m__law_moved_6 n_566))
def m__law_moved_12 (n_616 : (List (List Int))) : (List (List Int)) := n_616
def g__law_moved_12 (n_616 : (List (List Int))) : Prop := True
def m__law_moved_13 (web_0 : (T3 Int Int (List (T3 Int Int Int)))) (move_0 : (T3 Str Int Int)) (z_549 : (Int × (List (List Int)))) (n_561 : (List (List Int))) (q_562 : Int) : (List (List Int)) := (m__law_moved_12 (List.foldl (fun (n_566 : (List (List Int))) (q_567 : Int) => m__law_moved_11 move_0 z_549 q_562 n_566 q_567) (n_561 : (List (List Int))) (rngI 0 (Int.toNat web_0.b))))
def g__law_moved_13 (web_0 : (T3 Int Int (List (T3 Int Int Int)))) (move_0 : (T3 Str Int Int)) (z_549 : (Int × (List (List Int)))) (n_561 : (List (List Int))) (q_562 : Int) : Prop := (RngOk web_0.b) ∧ (FG (fun (n_566 : (List (List Int))) (q_567 : Int) => g__law_moved_11 move_0 z_549 q_562 n_566 q_567) (fun (n_566 : (List (List Int))) (q_567 : Int) => m__law_moved_11 move_0 z_549 q_562 n_566 q_567) (rngI 0 (Int.toNat web_0.b)) (n_561 : (List (List Int)))) ∧ (g__law_moved_12 (List.foldl (fun (n_566 : (List (List Int))) (q_567 : Int) => m__law_moved_11 move_0 z_549 q_562 n_566 q_567) (n_561 : (List (List Int))) (rngI 0 (Int.toNat web_0.b))))
def m__law_moved_14 (z_549 : (Int × (List (List Int)))) (n_618 : (List (List Int))) : (T3 Int Int (List (T3 Int Int Int))) := (m__law_web_of z_549.1 n_618)
def g__law_moved_14 (z_549 : (Int × (List (List Int)))) (n_618 : (List (List Int))) : Prop := (g__law_web_of z_549.1 n_618)
def m__law_moved_15 (web_0 : (T3 Int Int (List (T3 Int Int Int)))) (move_0 : (T3 Str Int Int)) (z_549 : (Int × (List (List Int)))) (late_555 : (List (List Int))) : (T3 Int Int (List (T3 Int Int Int))) := (m__law_moved_14 z_549 (List.foldl (fun (n_561 : (List (List Int))) (q_562 : Int) => m__law_moved_13 web_0 move_0 z_549 n_561 q_562) (late_555 : (List (List Int))) (rngI 0 (Int.toNat web_0.b))))
def g__law_moved_15 (web_0 : (T3 Int Int (List (T3 Int Int Int)))) (move_0 : (T3 Str Int Int)) (z_549 : (Int × (List (List Int)))) (late_555 : (List (List Int))) : Prop := (RngOk web_0.b) ∧ (FG (fun (n_561 : (List (List Int))) (q_562 : Int) => g__law_moved_13 web_0 move_0 z_549 n_561 q_562) (fun (n_561 : (List (List Int))) (q_562 : Int) => m__law_moved_13 web_0 move_0 z_549 n_561 q_562) (rngI 0 (Int.toNat web_0.b)) (late_555 : (List (List Int)))) ∧ (g__law_moved_14 z_549 (List.foldl (fun (n_561 : (List (List Int))) (q_562 : Int) => m__law_moved_13 web_0 move_0 z_549 n_561 q_562) (late_555 : (List (List Int))) (rngI 0 (Int.toNat web_0.b))))
def m__law_moved_16 (web_0 : (T3 Int Int (List (T3 Int Int Int)))) (move_0 : (T3 Str Int Int)) (z_549 : (Int × (List (List Int)))) : (T3 Int Int (List (T3 Int Int Int))) := (m__law_moved_15 web_0 move_0 z_549 (List.map (fun (q_552 : (List Int)) => q_552) z_549.2))
def g__law_moved_16 (web_0 : (T3 Int Int (List (T3 Int Int Int)))) (move_0 : (T3 Str Int Int)) (z_549 : (Int × (List (List Int)))) : Prop := (g__law_moved_15 web_0 move_0 z_549 (List.map (fun (q_552 : (List Int)) => q_552) z_549.2))
def m__law_moved (web_0 : (T3 Int Int (List (T3 Int Int Int)))) (move_0 : (T3 Str Int Int)) : (T3 Int Int (List (T3 Int Int Int))) := (m__law_moved_16 web_0 move_0 (web_0.a, (m__law_table web_0)))
def g__law_moved (web_0 : (T3 Int Int (List (T3 Int Int Int)))) (move_0 : (T3 Str Int Int)) : Prop := ((g__law_table web_0) ∧ (g__law_moved_16 web_0 move_0 (web_0.a, (m__law_table web_0))))
@[reducible] def R__law_moved : DR := fun sls S r S' => ∃ (web_0 : (T3 Int Int (List (T3 Int Int Int)))), ∃ (move_0 : (T3 Str Int Int)), sls = [.p (enc web_0), .p (enc move_0)] ∧ g__law_moved web_0 move_0 ∧ r = .p (enc (m__law_moved web_0 move_0)) ∧ S = S'
@[reducible] def rf_web_of_1 (S : Src) (r : (T3 Int Int (List (T3 Int Int Int)))) : Sl × Src := (.p (enc r), S)
@[reducible] def nf_web_of_1_1 (p_0 : Int) (table_0 : (List (List Int))) (z_703 : (Int × (List (T3 Int Int Int)))) (S : Src) (n : (List (T3 Int Int Int))) : Env × Src := ([some (.p (enc p_0)), some (.bb (encss table_0)), some (.p (enc z_703.1)), some (.l (encs n)), none, none], S)
def m_web_of_1_2 (ties_724 : (List (T3 Int Int Int))) : (List (T3 Int Int Int)) := ties_724
def g_web_of_1_2 (ties_724 : (List (T3 Int Int Int))) : Prop := True
def m_web_of_1_3 (table_0 : (List (List Int))) (z_703 : (Int × (List (T3 Int Int Int)))) (n_709 : (List (T3 Int Int Int))) (q_710 : Int) : (List (T3 Int Int Int)) := (m_web_of_1_2 (n_709 ++ (List.map (fun (q_714 : Int) => (T3.mk q_710 q_714 (getI (getI table_0 q_710) q_714))) (List.filter (fun (q_714 : Int) => decide ((getI (getI table_0 q_710) q_714) ≠ (0 : Int))) (rngI (q_710 + (1 : Int)) (Int.toNat (z_703.1 - (q_710 + (1 : Int)))))))))
def g_web_of_1_3 (table_0 : (List (List Int))) (z_703 : (Int × (List (T3 Int Int Int)))) (n_709 : (List (T3 Int Int Int))) (q_710 : Int) : Prop := (RngOk (q_710 + (1 : Int))) ∧ (RngOk z_703.1) ∧ (z_703.1 - (q_710 + (1 : Int)) ≤ 16777216) ∧ (∀ q_714 ∈ (rngI (q_710 + (1 : Int)) (Int.toNat (z_703.1 - (q_710 + (1 : Int))))), (InB table_0 q_710) ∧ (InB (getI table_0 q_710) q_714) ∧ (decide ((getI (getI table_0 q_710) q_714) ≠ (0 : Int)) = true → (InB table_0 q_710) ∧ (InB (getI table_0 q_710) q_714))) ∧ (List.length n_709 + List.length (List.map (fun (q_714 : Int) => (T3.mk q_710 q_714 (getI (getI table_0 q_710) q_714))) (List.filter (fun (q_714 : Int) => decide ((getI (getI table_0 q_710) q_714) ≠ (0 : Int))) (rngI (q_710 + (1 : Int)) (Int.toNat (z_703.1 - (q_710 + (1 : Int))))))) ≤ 16777216) ∧ (g_web_of_1_2 (n_709 ++ (List.map (fun (q_714 : Int) => (T3.mk q_710 q_714 (getI (getI table_0 q_710) q_714))) (List.filter (fun (q_714 : Int) => decide ((getI (getI table_0 q_710) q_714) ≠ (0 : Int))) (rngI (q_710 + (1 : Int)) (Int.toNat (z_703.1 - (q_710 + (1 : Int)))))))))
def m_web_of_1_4 (p_0 : Int) (z_703 : (Int × (List (T3 Int Int Int)))) (n_727 : (List (T3 Int Int Int))) : (T3 Int Int (List (T3 Int Int Int))) := (T3.mk p_0 z_703.1 n_727)
def g_web_of_1_4 (p_0 : Int) (z_703 : (Int × (List (T3 Int Int Int)))) (n_727 : (List (T3 Int Int Int))) : Prop := True
def m_web_of_1_5 (p_0 : Int) (table_0 : (List (List Int))) (z_703 : (Int × (List (T3 Int Int Int)))) : (T3 Int Int (List (T3 Int Int Int))) := (m_web_of_1_4 p_0 z_703 (List.foldl (fun (n_709 : (List (T3 Int Int Int))) (q_710 : Int) => m_web_of_1_3 table_0 z_703 n_709 q_710) (z_703.2 : (List (T3 Int Int Int))) (rngI 0 (Int.toNat z_703.1))))
def g_web_of_1_5 (p_0 : Int) (table_0 : (List (List Int))) (z_703 : (Int × (List (T3 Int Int Int)))) : Prop := (RngOk z_703.1) ∧ (FG (fun (n_709 : (List (T3 Int Int Int))) (q_710 : Int) => g_web_of_1_3 table_0 z_703 n_709 q_710) (fun (n_709 : (List (T3 Int Int Int))) (q_710 : Int) => m_web_of_1_3 table_0 z_703 n_709 q_710) (rngI 0 (Int.toNat z_703.1)) (z_703.2 : (List (T3 Int Int Int)))) ∧ (g_web_of_1_4 p_0 z_703 (List.foldl (fun (n_709 : (List (T3 Int Int Int))) (q_710 : Int) => m_web_of_1_3 table_0 z_703 n_709 q_710) (z_703.2 : (List (T3 Int Int Int))) (rngI 0 (Int.toNat z_703.1))))
def m_web_of_1 (p_0 : Int) (table_0 : (List (List Int))) : (T3 Int Int (List (T3 Int Int Int))) := (m_web_of_1_5 p_0 table_0 ((List.length table_0 : Int), ([] : List (T3 Int Int Int))))
def g_web_of_1 (p_0 : Int) (table_0 : (List (List Int))) : Prop := (g_web_of_1_5 p_0 table_0 ((List.length table_0 : Int), ([] : List (T3 Int Int Int))))
@[reducible] def R_web_of_1 : DR := fun sls S r S' => ∃ (p_0 : Int), ∃ (table_0 : (List (List Int))), sls = [.p (enc p_0), .bb (encss table_0)] ∧ g_web_of_1 p_0 table_0 ∧ r = .p (enc (m_web_of_1 p_0 table_0)) ∧ S = S'
@[reducible] def rf_turned (S : Src) (r : (T3 Int Int (List (T3 Int Int Int)))) : Sl × Src := (.p (enc r), S)
@[reducible] def nf_turned_1 (web_0 : (T3 Int Int (List (T3 Int Int Int)))) (v_0 : Int) (c_0 : Int) (z_739 : ((List (List Int)) × (List (Int × Int)))) (S : Src) (n : (List (List Int))) : Env × Src := ([some (.p (enc web_0)), some (.p (enc v_0)), some (.p (enc c_0)), none, some (.ll (encss n)), some (.b (encs z_739.2)), none, none, none, none], S)
@[reducible] def nf_turned_2 (web_0 : (T3 Int Int (List (T3 Int Int Int)))) (v_0 : Int) (c_0 : Int) (z_739 : ((List (List Int)) × (List (Int × Int)))) (q_745 : (Int × Int)) (S : Src) (n : (List (List Int))) : Env × Src := ([some (.p (enc web_0)), some (.p (enc v_0)), some (.p (enc c_0)), none, some (.ll (encss n)), some (.b (encs z_739.2)), some (.p (enc q_745.1)), some (.p (enc q_745.2)), none, none], S)
def m_turned_3 (rows_760 : (List (List Int))) : (List (List Int)) := rows_760
def g_turned_3 (rows_760 : (List (List Int))) : Prop := True
def m_turned_4 (web_0 : (T3 Int Int (List (T3 Int Int Int)))) (c_0 : Int) (q_745 : (Int × Int)) (n_748 : (List (List Int))) (q_749 : (Int × Int)) : (List (List Int)) := (m_turned_3 (setAt2 n_748 q_745.1 q_749.1 (((getI (getI n_748 q_745.1) q_749.1) + ((c_0 * q_745.2) * q_749.2)) % web_0.a)))
def g_turned_4 (web_0 : (T3 Int Int (List (T3 Int Int Int)))) (c_0 : Int) (q_745 : (Int × Int)) (n_748 : (List (List Int))) (q_749 : (Int × Int)) : Prop := (InB n_748 q_745.1) ∧ (InB (getI n_748 q_745.1) q_749.1) ∧ (CMul c_0 q_745.2) ∧ (CMul (c_0 * q_745.2) q_749.2) ∧ (0 < web_0.a) ∧ (InB2 n_748 q_745.1 q_749.1) ∧ (g_turned_3 (setAt2 n_748 q_745.1 q_749.1 (((getI (getI n_748 q_745.1) q_749.1) + ((c_0 * q_745.2) * q_749.2)) % web_0.a)))
def m_turned_5 (n_748 : (List (List Int))) : (List (List Int)) := n_748
def g_turned_5 (n_748 : (List (List Int))) : Prop := True
def m_turned_6 (web_0 : (T3 Int Int (List (T3 Int Int Int)))) (c_0 : Int) (q_745 : (Int × Int)) (n_748 : (List (List Int))) (q_749 : (Int × Int)) : (List (List Int)) := (if (decide (q_745.1 ≠ q_749.1)) = true then m_turned_4 web_0 c_0 q_745 n_748 q_749 else m_turned_5 n_748)
def g_turned_6 (web_0 : (T3 Int Int (List (T3 Int Int Int)))) (c_0 : Int) (q_745 : (Int × Int)) (n_748 : (List (List Int))) (q_749 : (Int × Int)) : Prop := ((decide (q_745.1 ≠ q_749.1)) = true → g_turned_4 web_0 c_0 q_745 n_748 q_749) ∧ ((decide (q_745.1 ≠ q_749.1)) = false → g_turned_5 n_748)
def m_turned_7 (n_763 : (List (List Int))) : (List (List Int)) := n_763
def g_turned_7 (n_763 : (List (List Int))) : Prop := True
def m_turned_8 (web_0 : (T3 Int Int (List (T3 Int Int Int)))) (c_0 : Int) (z_739 : ((List (List Int)) × (List (Int × Int)))) (n_744 : (List (List Int))) (q_745 : (Int × Int)) : (List (List Int)) := (m_turned_7 (List.foldl (fun (n_748 : (List (List Int))) (q_749 : (Int × Int)) => m_turned_6 web_0 c_0 q_745 n_748 q_749) (n_744 : (List (List Int))) z_739.2))
def g_turned_8 (web_0 : (T3 Int Int (List (T3 Int Int Int)))) (c_0 : Int) (z_739 : ((List (List Int)) × (List (Int × Int)))) (n_744 : (List (List Int))) (q_745 : (Int × Int)) : Prop := (FG (fun (n_748 : (List (List Int))) (q_749 : (Int × Int)) => g_turned_6 web_0 c_0 q_745 n_748 q_749) (fun (n_748 : (List (List Int))) (q_749 : (Int × Int)) => m_turned_6 web_0 c_0 q_745 n_748 q_749) z_739.2 (n_744 : (List (List Int)))) ∧ (g_turned_7 (List.foldl (fun (n_748 : (List (List Int))) (q_749 : (Int × Int)) => m_turned_6 web_0 c_0 q_745 n_748 q_749) (n_744 : (List (List Int))) z_739.2))
def m_turned_9 (web_0 : (T3 Int Int (List (T3 Int Int Int)))) (n_765 : (List (List Int))) : (T3 Int Int (List (T3 Int Int Int))) := (m_web_of_1 web_0.a n_765)
def g_turned_9 (web_0 : (T3 Int Int (List (T3 Int Int Int)))) (n_765 : (List (List Int))) : Prop := (g_web_of_1 web_0.a n_765)
def m_turned_10 (web_0 : (T3 Int Int (List (T3 Int Int Int)))) (c_0 : Int) (z_739 : ((List (List Int)) × (List (Int × Int)))) : (T3 Int Int (List (T3 Int Int Int))) := (m_turned_9 web_0 (List.foldl (fun (n_744 : (List (List Int))) (q_745 : (Int × Int)) => m_turned_8 web_0 c_0 z_739 n_744 q_745) (z_739.1 : (List (List Int))) z_739.2))
def g_turned_10 (web_0 : (T3 Int Int (List (T3 Int Int Int)))) (c_0 : Int) (z_739 : ((List (List Int)) × (List (Int × Int)))) : Prop := (FG (fun (n_744 : (List (List Int))) (q_745 : (Int × Int)) => g_turned_8 web_0 c_0 z_739 n_744 q_745) (fun (n_744 : (List (List Int))) (q_745 : (Int × Int)) => m_turned_8 web_0 c_0 z_739 n_744 q_745) z_739.2 (z_739.1 : (List (List Int)))) ∧ (g_turned_9 web_0 (List.foldl (fun (n_744 : (List (List Int))) (q_745 : (Int × Int)) => m_turned_8 web_0 c_0 z_739 n_744 q_745) (z_739.1 : (List (List Int))) z_739.2))
def m_turned (web_0 : (T3 Int Int (List (T3 Int Int Int)))) (v_0 : Int) (c_0 : Int) : (T3 Int Int (List (T3 Int Int Int))) := (m_turned_10 web_0 c_0 ((List.map (fun (q_735 : (List Int)) => q_735) (m_table_of web_0)), (m_tied_to web_0 v_0)))
def g_turned (web_0 : (T3 Int Int (List (T3 Int Int Int)))) (v_0 : Int) (c_0 : Int) : Prop := (g_table_of web_0) ∧ (g_tied_to web_0 v_0) ∧ (g_turned_10 web_0 c_0 ((List.map (fun (q_735 : (List Int)) => q_735) (m_table_of web_0)), (m_tied_to web_0 v_0)))
@[reducible] def R_turned : DR := fun sls S r S' => ∃ (web_0 : (T3 Int Int (List (T3 Int Int Int)))), ∃ (v_0 : Int), ∃ (c_0 : Int), sls = [.p (enc web_0), .p (enc v_0), .p (enc c_0)] ∧ g_turned web_0 v_0 c_0 ∧ r = .p (enc (m_turned web_0 v_0 c_0)) ∧ S = S'
@[reducible] def rf_scaled (S : Src) (r : (T3 Int Int (List (T3 Int Int Int)))) : Sl × Src := (.p (enc r), S)
def m_scaled (web_0 : (T3 Int Int (List (T3 Int Int Int)))) (v_0 : Int) (s_0 : Int) : (T3 Int Int (List (T3 Int Int Int))) := (T3.mk web_0.a web_0.b (List.map (fun (q_789 : (T3 Int Int Int)) => (T3.mk q_789.a q_789.b (if (mem (v_0 : Int) ([(q_789.a, q_789.b).1, (q_789.a, q_789.b).2] : (List Int))) = true then ((q_789.c * s_0) % web_0.a) else q_789.c))) web_0.c))
def g_scaled (web_0 : (T3 Int Int (List (T3 Int Int Int)))) (v_0 : Int) (s_0 : Int) : Prop := ((∀ q_789 ∈ web_0.c, ((mem (v_0 : Int) ([(q_789.a, q_789.b).1, (q_789.a, q_789.b).2] : (List Int))) = true → (CMul q_789.c s_0) ∧ (0 < web_0.a))))
@[reducible] def R_scaled : DR := fun sls S r S' => ∃ (web_0 : (T3 Int Int (List (T3 Int Int Int)))), ∃ (v_0 : Int), ∃ (s_0 : Int), sls = [.p (enc web_0), .p (enc v_0), .p (enc s_0)] ∧ g_scaled web_0 v_0 s_0 ∧ r = .p (enc (m_scaled web_0 v_0 s_0)) ∧ S = S'
@[reducible] def rf_moved (S : Src) (r : (T3 Int Int (List (T3 Int Int Int)))) : Sl × Src := (.p (enc r), S)
def m_moved (web_0 : (T3 Int Int (List (T3 Int Int Int)))) (move_0 : (T3 Str Int Int)) : (T3 Int Int (List (T3 Int Int Int))) := (if decide (move_0.a = ("turn" : Str)) = true then (m_turned web_0 move_0.b move_0.c) else (m_scaled web_0 move_0.b move_0.c))
def g_moved (web_0 : (T3 Int Int (List (T3 Int Int Int)))) (move_0 : (T3 Str Int Int)) : Prop := ((decide (move_0.a = ("turn" : Str)) = true → (g_turned web_0 move_0.b move_0.c)) ∧ (decide (move_0.a = ("turn" : Str)) = false → (g_scaled web_0 move_0.b move_0.c)))
@[reducible] def R_moved : DR := fun sls S r S' => ∃ (web_0 : (T3 Int Int (List (T3 Int Int Int)))), ∃ (move_0 : (T3 Str Int Int)), sls = [.p (enc web_0), .p (enc move_0)] ∧ g_moved web_0 move_0 ∧ r = .p (enc (m_moved web_0 move_0)) ∧ S = S'
@[reducible] def rf_inverse (S : Src) (r : Int) : Sl × Src := (.p (enc r), S)
def m_inverse (p_0 : Int) (a_0 : Int) : Int := (getI (List.map (fun (q_863 : Int) => q_863) (List.filter (fun (q_863 : Int) => decide (((a_0 * q_863) % p_0) = (1 : Int))) (rngI (1 : Int) (Int.toNat (p_0 - (1 : Int)))))) (0 : Int))
def g_inverse (p_0 : Int) (a_0 : Int) : Prop := (RngOk (1 : Int)) ∧ (RngOk p_0) ∧ (p_0 - (1 : Int) ≤ 16777216) ∧ (∀ q_863 ∈ (rngI (1 : Int) (Int.toNat (p_0 - (1 : Int)))), (CMul a_0 q_863) ∧ (0 < p_0)) ∧ (InB (List.map (fun (q_863 : Int) => q_863) (List.filter (fun (q_863 : Int) => decide (((a_0 * q_863) % p_0) = (1 : Int))) (rngI (1 : Int) (Int.toNat (p_0 - (1 : Int)))))) (0 : Int))
@[reducible] def R_inverse : DR := fun sls S r S' => ∃ (p_0 : Int), ∃ (a_0 : Int), sls = [.p (enc p_0), .p (enc a_0)] ∧ g_inverse p_0 a_0 ∧ r = .p (enc (m_inverse p_0 a_0)) ∧ S = S'
@[reducible] def rf_move_back (S : Src) (r : (T3 Str Int Int)) : Sl × Src := (.p (enc r), S)
def m_move_back (p_0 : Int) (move_0 : (T3 Str Int Int)) : (T3 Str Int Int) := (T3.mk move_0.a move_0.b (if decide (move_0.a = ("turn" : Str)) = true then ((-move_0.c) % p_0) else (m_inverse p_0 move_0.c)))
def g_move_back (p_0 : Int) (move_0 : (T3 Str Int Int)) : Prop := ((decide (move_0.a = ("turn" : Str)) = true → (0 < p_0)) ∧ (decide (move_0.a = ("turn" : Str)) = false → (g_inverse p_0 move_0.c)))
@[reducible] def R_move_back : DR := fun sls S r S' => ∃ (p_0 : Int), ∃ (move_0 : (T3 Str Int Int)), sls = [.p (enc p_0), .p (enc move_0)] ∧ g_move_back p_0 move_0 ∧ r = .p (enc (m_move_back p_0 move_0)) ∧ S = S'
@[reducible] def rf_webs_along (S : Src) (r : (List (T3 Int Int (List (T3 Int Int Int))))) : Sl × Src := (.p (enc r), S)
@[reducible] def nf_webs_along_1 (web_0 : (T3 Int Int (List (T3 Int Int Int)))) (moves_0 : (List (T3 Str Int Int))) (S : Src) (n : (List (T3 Int Int (List (T3 Int Int Int))))) : Env × Src := ([some (.p (enc web_0)), some (.p (enc moves_0)), some (.l (encs n)), none], S)
def m_webs_along_2 (found_922 : (List (T3 Int Int (List (T3 Int Int Int))))) : (List (T3 Int Int (List (T3 Int Int Int)))) := found_922
def g_webs_along_2 (found_922 : (List (T3 Int Int (List (T3 Int Int Int))))) : Prop := True
def m_webs_along_3 (n_917 : (List (T3 Int Int (List (T3 Int Int Int))))) (q_918 : (T3 Str Int Int)) : (List (T3 Int Int (List (T3 Int Int Int)))) := (m_webs_along_2 (n_917 ++ [(m_moved (getI n_917 (-(1 : Int))) q_918)]))
def g_webs_along_3 (n_917 : (List (T3 Int Int (List (T3 Int Int Int))))) (q_918 : (T3 Str Int Int)) : Prop := (InB n_917 (-(1 : Int))) ∧ (g_moved (getI n_917 (-(1 : Int))) q_918) ∧ (List.length n_917 < 16777216) ∧ (g_webs_along_2 (n_917 ++ [(m_moved (getI n_917 (-(1 : Int))) q_918)]))
def m_webs_along_4 (n_925 : (List (T3 Int Int (List (T3 Int Int Int))))) : (List (T3 Int Int (List (T3 Int Int Int)))) := n_925
def g_webs_along_4 (n_925 : (List (T3 Int Int (List (T3 Int Int Int))))) : Prop := True
def m_webs_along_5 (moves_0 : (List (T3 Str Int Int))) (found_912 : (List (T3 Int Int (List (T3 Int Int Int))))) : (List (T3 Int Int (List (T3 Int Int Int)))) := (m_webs_along_4 (List.foldl (fun (n_917 : (List (T3 Int Int (List (T3 Int Int Int))))) (q_918 : (T3 Str Int Int)) => m_webs_along_3 n_917 q_918) (found_912 : (List (T3 Int Int (List (T3 Int Int Int))))) moves_0))
def g_webs_along_5 (moves_0 : (List (T3 Str Int Int))) (found_912 : (List (T3 Int Int (List (T3 Int Int Int))))) : Prop := (FG (fun (n_917 : (List (T3 Int Int (List (T3 Int Int Int))))) (q_918 : (T3 Str Int Int)) => g_webs_along_3 n_917 q_918) (fun (n_917 : (List (T3 Int Int (List (T3 Int Int Int))))) (q_918 : (T3 Str Int Int)) => m_webs_along_3 n_917 q_918) moves_0 (found_912 : (List (T3 Int Int (List (T3 Int Int Int)))))) ∧ (g_webs_along_4 (List.foldl (fun (n_917 : (List (T3 Int Int (List (T3 Int Int Int))))) (q_918 : (T3 Str Int Int)) => m_webs_along_3 n_917 q_918) (found_912 : (List (T3 Int Int (List (T3 Int Int Int))))) moves_0))
def m_webs_along (web_0 : (T3 Int Int (List (T3 Int Int Int)))) (moves_0 : (List (T3 Str Int Int))) : (List (T3 Int Int (List (T3 Int Int Int)))) := (m_webs_along_5 moves_0 ([web_0] : List (T3 Int Int (List (T3 Int Int Int)))))
def g_webs_along (web_0 : (T3 Int Int (List (T3 Int Int Int)))) (moves_0 : (List (T3 Str Int Int))) : Prop := (g_webs_along_5 moves_0 ([web_0] : List (T3 Int Int (List (T3 Int Int Int)))))
@[reducible] def R_webs_along : DR := fun sls S r S' => ∃ (web_0 : (T3 Int Int (List (T3 Int Int Int)))), ∃ (moves_0 : (List (T3 Str Int Int))), sls = [.p (enc web_0), .p (enc moves_0)] ∧ g_webs_along web_0 moves_0 ∧ r = .p (enc (m_webs_along web_0 moves_0)) ∧ S = S'
@[reducible] def rf_made_moves (S : Src) (r : (T3 Int Int (List (T3 Int Int Int)))) : Sl × Src := (.p (enc r), S)
@[reducible] def nf_made_moves_1 (moves_0 : (List (T3 Str Int Int))) (S : Src) (n : (T3 Int Int (List (T3 Int Int Int)))) : Env × Src := ([some (.p (enc n)), some (.p (enc moves_0)), none], S)
def m_made_moves_2 (web_949 : (T3 Int Int (List (T3 Int Int Int)))) : (T3 Int Int (List (T3 Int Int Int))) := web_949
def g_made_moves_2 (web_949 : (T3 Int Int (List (T3 Int Int Int)))) : Prop := True
def m_made_moves_3 (n_946 : (T3 Int Int (List (T3 Int Int Int)))) (q_947 : (T3 Str Int Int)) : (T3 Int Int (List (T3 Int Int Int))) := (m_made_moves_2 (m_moved n_946 q_947))
def g_made_moves_3 (n_946 : (T3 Int Int (List (T3 Int Int Int)))) (q_947 : (T3 Str Int Int)) : Prop := (g_moved n_946 q_947) ∧ (g_made_moves_2 (m_moved n_946 q_947))
def m_made_moves_4 (n_952 : (T3 Int Int (List (T3 Int Int Int)))) : (T3 Int Int (List (T3 Int Int Int))) := n_952
def g_made_moves_4 (n_952 : (T3 Int Int (List (T3 Int Int Int)))) : Prop := True
def m_made_moves (web_0 : (T3 Int Int (List (T3 Int Int Int)))) (moves_0 : (List (T3 Str Int Int))) : (T3 Int Int (List (T3 Int Int Int))) := (m_made_moves_4 (List.foldl (fun (n_946 : (T3 Int Int (List (T3 Int Int Int)))) (q_947 : (T3 Str Int Int)) => m_made_moves_3 n_946 q_947) (web_0 : (T3 Int Int (List (T3 Int Int Int)))) moves_0))
def g_made_moves (web_0 : (T3 Int Int (List (T3 Int Int Int)))) (moves_0 : (List (T3 Str Int Int))) : Prop := (FG (fun (n_946 : (T3 Int Int (List (T3 Int Int Int)))) (q_947 : (T3 Str Int Int)) => g_made_moves_3 n_946 q_947) (fun (n_946 : (T3 Int Int (List (T3 Int Int Int)))) (q_947 : (T3 Str Int Int)) => m_made_moves_3 n_946 q_947) moves_0 (web_0 : (T3 Int Int (List (T3 Int Int Int))))) ∧ (g_made_moves_4 (List.foldl (fun (n_946 : (T3 Int Int (List (T3 Int Int Int)))) (q_947 : (T3 Str Int Int)) => m_made_moves_3 n_946 q_947) (web_0 : (T3 Int Int (List (T3 Int Int Int)))) moves_0))
@[reducible] def R_made_moves : DR := fun sls S r S' => ∃ (web_0 : (T3 Int Int (List (T3 Int Int Int)))), ∃ (moves_0 : (List (T3 Str Int Int))), sls = [.p (enc web_0), .p (enc moves_0)] ∧ g_made_moves web_0 moves_0 ∧ r = .p (enc (m_made_moves web_0 moves_0)) ∧ S = S'
@[reducible] def rf_moves_back (S : Src) (r : (List (T3 Str Int Int))) : Sl × Src := (.p (enc r), S)
def m_moves_back (p_0 : Int) (moves_0 : (List (T3 Str Int Int))) : (List (T3 Str Int Int)) := (List.map (fun (q_976 : (T3 Str Int Int)) => (m_move_back p_0 q_976)) (List.reverse moves_0))
def g_moves_back (p_0 : Int) (moves_0 : (List (T3 Str Int Int))) : Prop := (∀ q_976 ∈ (List.reverse moves_0), (g_move_back p_0 q_976))
@[reducible] def R_moves_back : DR := fun sls S r S' => ∃ (p_0 : Int), ∃ (moves_0 : (List (T3 Str Int Int))), sls = [.p (enc p_0), .p (enc moves_0)] ∧ g_moves_back p_0 moves_0 ∧ r = .p (enc (m_moves_back p_0 moves_0)) ∧ S = S'
@[reducible] def rf__law_along_right (r : Bool × Src) : Sl × Src := (.p (enc r.1), r.2)
def m__law_along_right_1 (web_0 : (T3 Int Int (List (T3 Int Int Int)))) (z_1088 : (Int × Int)) (S_1102 : Src) (both_1153 : Bool) : (Bool × Src) := ((both_1153 || (decide (z_1088.1 ≠ z_1088.2) && decide ((m_weight_at web_0 z_1088.1 z_1088.2) ≠ (0 : Int)))), S_1102)
def g__law_along_right_1 (web_0 : (T3 Int Int (List (T3 Int Int Int)))) (z_1088 : (Int × Int)) (S_1102 : Src) (both_1153 : Bool) : Prop := (both_1153 = false → (decide (z_1088.1 ≠ z_1088.2) = true → (g_weight_at web_0 z_1088.1 z_1088.2)))
def m__law_along_right_2 (S_1102 : Src) : (Bool × Src) := (false, S_1102)
def g__law_along_right_2 (S_1102 : Src) : Prop := True
def m__law_along_right_3 (web_0 : (T3 Int Int (List (T3 Int Int Int)))) (z_1088 : (Int × Int)) (w_1099 : (T4 Int Int Int Int)) (S_1102 : Src) : (Bool × Src) := (m__law_along_right_1 web_0 z_1088 S_1102 (decide ((m_turned (m_turned web_0 z_1088.1 ((w_1099).a)) z_1088.2 ((w_1099).b)) = (m_turned (m_turned web_0 z_1088.2 ((w_1099).b)) z_1088.1 ((w_1099).a)))))
def g__law_along_right_3 (web_0 : (T3 Int Int (List (T3 Int Int Int)))) (z_1088 : (Int × Int)) (w_1099 : (T4 Int Int Int Int)) (S_1102 : Src) : Prop := (g_turned web_0 z_1088.1 ((w_1099).a)) ∧ (g_turned (m_turned web_0 z_1088.1 ((w_1099).a)) z_1088.2 ((w_1099).b)) ∧ (g_turned web_0 z_1088.2 ((w_1099).b)) ∧ (g_turned (m_turned web_0 z_1088.2 ((w_1099).b)) z_1088.1 ((w_1099).a)) ∧ (g__law_along_right_1 web_0 z_1088 S_1102 (decide ((m_turned (m_turned web_0 z_1088.1 ((w_1099).a)) z_1088.2 ((w_1099).b)) = (m_turned (m_turned web_0 z_1088.2 ((w_1099).b)) z_1088.1 ((w_1099).a)))))
def m__law_along_right_4 (S_1102 : Src) : (Bool × Src) := (false, S_1102)
def g__law_along_right_4 (S_1102 : Src) : Prop := True
def m__law_along_right_5 (web_0 : (T3 Int Int (List (T3 Int Int Int)))) (z_1088 : (Int × Int)) (w_1099 : (T4 Int Int Int Int)) (S_1102 : Src) : (Bool × Src) := (if ((decide (z_1088.1 ≠ z_1088.2) && decide ((m_scaled (m_turned web_0 z_1088.2 ((w_1099).a)) z_1088.1 ((w_1099).c)) ≠ (m_turned (m_scaled web_0 z_1088.1 ((w_1099).c)) z_1088.2 ((w_1099).a))))) = true then m__law_along_right_2 S_1102 else m__law_along_right_3 web_0 z_1088 w_1099 S_1102)
def g__law_along_right_5 (web_0 : (T3 Int Int (List (T3 Int Int Int)))) (z_1088 : (Int × Int)) (w_1099 : (T4 Int Int Int Int)) (S_1102 : Src) : Prop := (decide (z_1088.1 ≠ z_1088.2) = true → (g_turned web_0 z_1088.2 ((w_1099).a)) ∧ (g_scaled (m_turned web_0 z_1088.2 ((w_1099).a)) z_1088.1 ((w_1099).c)) ∧ (g_scaled web_0 z_1088.1 ((w_1099).c)) ∧ (g_turned (m_scaled web_0 z_1088.1 ((w_1099).c)) z_1088.2 ((w_1099).a))) ∧ (((decide (z_1088.1 ≠ z_1088.2) && decide ((m_scaled (m_turned web_0 z_1088.2 ((w_1099).a)) z_1088.1 ((w_1099).c)) ≠ (m_turned (m_scaled web_0 z_1088.1 ((w_1099).c)) z_1088.2 ((w_1099).a))))) = true → g__law_along_right_2 S_1102) ∧ (((decide (z_1088.1 ≠ z_1088.2) && decide ((m_scaled (m_turned web_0 z_1088.2 ((w_1099).a)) z_1088.1 ((w_1099).c)) ≠ (m_turned (m_scaled web_0 z_1088.1 ((w_1099).c)) z_1088.2 ((w_1099).a))))) = false → g__law_along_right_3 web_0 z_1088 w_1099 S_1102)
def m__law_along_right_6 (S_1102 : Src) : (Bool × Src) := (false, S_1102)
def g__law_along_right_6 (S_1102 : Src) : Prop := True
def m__law_along_right_7 (web_0 : (T3 Int Int (List (T3 Int Int Int)))) (w_1083 : (Int × Int)) (z_1088 : (Int × Int)) (w_1099 : (T4 Int Int Int Int)) (S_1102 : Src) : (Bool × Src) := (if (decide ((m_turned (m_scaled web_0 z_1088.2 ((w_1099).c)) z_1088.2 ((w_1099).a)) ≠ (m_scaled (m_turned web_0 z_1088.2 ((((w_1099).a * (w_1099).c) * (w_1099).c) % (w_1083).1)) z_1088.2 ((w_1099).c)))) = true then m__law_along_right_4 S_1102 else m__law_along_right_5 web_0 z_1088 w_1099 S_1102)
def g__law_along_right_7 (web_0 : (T3 Int Int (List (T3 Int Int Int)))) (w_1083 : (Int × Int)) (z_1088 : (Int × Int)) (w_1099 : (T4 Int Int Int Int)) (S_1102 : Src) : Prop := (g_scaled web_0 z_1088.2 ((w_1099).c)) ∧ (g_turned (m_scaled web_0 z_1088.2 ((w_1099).c)) z_1088.2 ((w_1099).a)) ∧ (CMul ((w_1099).a) ((w_1099).c)) ∧ (CMul ((w_1099).a * (w_1099).c) ((w_1099).c)) ∧ (0 < (w_1083).1) ∧ (g_turned web_0 z_1088.2 ((((w_1099).a * (w_1099).c) * (w_1099).c) % (w_1083).1)) ∧ (g_scaled (m_turned web_0 z_1088.2 ((((w_1099).a * (w_1099).c) * (w_1099).c) % (w_1083).1)) z_1088.2 ((w_1099).c)) ∧ ((decide ((m_turned (m_scaled web_0 z_1088.2 ((w_1099).c)) z_1088.2 ((w_1099).a)) ≠ (m_scaled (m_turned web_0 z_1088.2 ((((w_1099).a * (w_1099).c) * (w_1099).c) % (w_1083).1)) z_1088.2 ((w_1099).c)))) = true → g__law_along_right_4 S_1102) ∧ ((decide ((m_turned (m_scaled web_0 z_1088.2 ((w_1099).c)) z_1088.2 ((w_1099).a)) ≠ (m_scaled (m_turned web_0 z_1088.2 ((((w_1099).a * (w_1099).c) * (w_1099).c) % (w_1083).1)) z_1088.2 ((w_1099).c)))) = false → g__law_along_right_5 web_0 z_1088 w_1099 S_1102)
def m__law_along_right_8 (S_1102 : Src) : (Bool × Src) := (false, S_1102)
def g__law_along_right_8 (S_1102 : Src) : Prop := True
def m__law_along_right_9 (web_0 : (T3 Int Int (List (T3 Int Int Int)))) (w_1083 : (Int × Int)) (z_1088 : (Int × Int)) (w_1099 : (T4 Int Int Int Int)) (S_1102 : Src) : (Bool × Src) := (if (decide ((m_scaled (m_scaled web_0 z_1088.2 ((w_1099).c)) z_1088.2 ((w_1099).d)) ≠ (m_scaled web_0 z_1088.2 (((w_1099).c * (w_1099).d) % (w_1083).1)))) = true then m__law_along_right_6 S_1102 else m__law_along_right_7 web_0 w_1083 z_1088 w_1099 S_1102)
def g__law_along_right_9 (web_0 : (T3 Int Int (List (T3 Int Int Int)))) (w_1083 : (Int × Int)) (z_1088 : (Int × Int)) (w_1099 : (T4 Int Int Int Int)) (S_1102 : Src) : Prop := (g_scaled web_0 z_1088.2 ((w_1099).c)) ∧ (g_scaled (m_scaled web_0 z_1088.2 ((w_1099).c)) z_1088.2 ((w_1099).d)) ∧ (CMul ((w_1099).c) ((w_1099).d)) ∧ (0 < (w_1083).1) ∧ (g_scaled web_0 z_1088.2 (((w_1099).c * (w_1099).d) % (w_1083).1)) ∧ ((decide ((m_scaled (m_scaled web_0 z_1088.2 ((w_1099).c)) z_1088.2 ((w_1099).d)) ≠ (m_scaled web_0 z_1088.2 (((w_1099).c * (w_1099).d) % (w_1083).1)))) = true → g__law_along_right_6 S_1102) ∧ ((decide ((m_scaled (m_scaled web_0 z_1088.2 ((w_1099).c)) z_1088.2 ((w_1099).d)) ≠ (m_scaled web_0 z_1088.2 (((w_1099).c * (w_1099).d) % (w_1083).1)))) = false → g__law_along_right_7 web_0 w_1083 z_1088 w_1099 S_1102)
def m__law_along_right_10 (web_0 : (T3 Int Int (List (T3 Int Int Int)))) (w_1083 : (Int × Int)) (z_1088 : (Int × Int)) (w_1099 : (T4 Int Int Int Int)) (S_1102 : Src) (twice_1106 : (T3 Int Int (List (T3 Int Int Int)))) : (Bool × Src) := (if (decide (twice_1106 ≠ (if decide ((0 : Int) < (((w_1099).a + (w_1099).b) % (w_1083).1)) = true then (m_turned web_0 z_1088.2 (((w_1099).a + (w_1099).b) % (w_1083).1)) else web_0))) = true then m__law_along_right_8 S_1102 else m__law_along_right_9 web_0 w_1083 z_1088 w_1099 S_1102)
def g__law_along_right_10 (web_0 : (T3 Int Int (List (T3 Int Int Int)))) (w_1083 : (Int × Int)) (z_1088 : (Int × Int)) (w_1099 : (T4 Int Int Int Int)) (S_1102 : Src) (twice_1106 : (T3 Int Int (List (T3 Int Int Int)))) : Prop := (0 < (w_1083).1) ∧ (decide ((0 : Int) < (((w_1099).a + (w_1099).b) % (w_1083).1)) = true → (0 < (w_1083).1) ∧ (g_turned web_0 z_1088.2 (((w_1099).a + (w_1099).b) % (w_1083).1))) ∧ ((decide (twice_1106 ≠ (if decide ((0 : Int) < (((w_1099).a + (w_1099).b) % (w_1083).1)) = true then (m_turned web_0 z_1088.2 (((w_1099).a + (w_1099).b) % (w_1083).1)) else web_0))) = true → g__law_along_right_8 S_1102) ∧ ((decide (twice_1106 ≠ (if decide ((0 : Int) < (((w_1099).a + (w_1099).b) % (w_1083).1)) = true then (m_turned web_0 z_1088.2 (((w_1099).a + (w_1099).b) % (w_1083).1)) else web_0))) = false → g__law_along_right_9 web_0 w_1083 z_1088 w_1099 S_1102)
def m__law_along_right_11 (web_0 : (T3 Int Int (List (T3 Int Int Int)))) (w_1083 : (Int × Int)) (z_1088 : (Int × Int)) (w_1099 : (T4 Int Int Int Int)) (S_1102 : Src) : (Bool × Src) := (m__law_along_right_10 web_0 w_1083 z_1088 w_1099 S_1102 (m_turned (m_turned web_0 z_1088.2 ((w_1099).a)) z_1088.2 ((w_1099).b)))
def g__law_along_right_11 (web_0 : (T3 Int Int (List (T3 Int Int Int)))) (w_1083 : (Int × Int)) (z_1088 : (Int × Int)) (w_1099 : (T4 Int Int Int Int)) (S_1102 : Src) : Prop := (g_turned web_0 z_1088.2 ((w_1099).a)) ∧ (g_turned (m_turned web_0 z_1088.2 ((w_1099).a)) z_1088.2 ((w_1099).b)) ∧ (g__law_along_right_10 web_0 w_1083 z_1088 w_1099 S_1102 (m_turned (m_turned web_0 z_1088.2 ((w_1099).a)) z_1088.2 ((w_1099).b)))
def m__law_along_right_12 (web_0 : (T3 Int Int (List (T3 Int Int Int)))) (w_1083 : (Int × Int)) (z_1088 : (Int × Int)) (S_1090 : Src) : (Bool × Src) := (m__law_along_right_11 web_0 w_1083 z_1088 (T4.mk (getI ((mapS (fun (S_1097 : Src) (q_1093 : Int) => (((1 : Int) + (m__law_pick ((w_1083).1 - (1 : Int)) (S_1097)).1), (m__law_pick ((w_1083).1 - (1 : Int)) (S_1097)).2)) S_1090 (rngI 0 (Int.toNat (4 : Int)))).1) 0) (getI ((mapS (fun (S_1097 : Src) (q_1093 : Int) => (((1 : Int) + (m__law_pick ((w_1083).1 - (1 : Int)) (S_1097)).1), (m__law_pick ((w_1083).1 - (1 : Int)) (S_1097)).2)) S_1090 (rngI 0 (Int.toNat (4 : Int)))).1) 1) (getI ((mapS (fun (S_1097 : Src) (q_1093 : Int) => (((1 : Int) + (m__law_pick ((w_1083).1 - (1 : Int)) (S_1097)).1), (m__law_pick ((w_1083).1 - (1 : Int)) (S_1097)).2)) S_1090 (rngI 0 (Int.toNat (4 : Int)))).1) 2) (getI ((mapS (fun (S_1097 : Src) (q_1093 : Int) => (((1 : Int) + (m__law_pick ((w_1083).1 - (1 : Int)) (S_1097)).1), (m__law_pick ((w_1083).1 - (1 : Int)) (S_1097)).2)) S_1090 (rngI 0 (Int.toNat (4 : Int)))).1) 3)) ((mapS (fun (S_1097 : Src) (q_1093 : Int) => (((1 : Int) + (m__law_pick ((w_1083).1 - (1 : Int)) (S_1097)).1), (m__law_pick ((w_1083).1 - (1 : Int)) (S_1097)).2)) S_1090 (rngI 0 (Int.toNat (4 : Int)))).2))
def g__law_along_right_12 (web_0 : (T3 Int Int (List (T3 Int Int Int)))) (w_1083 : (Int × Int)) (z_1088 : (Int × Int)) (S_1090 : Src) : Prop := (RngOk (4 : Int)) ∧ (GS (fun (S_1097 : Src) (q_1093 : Int) => (((1 : Int) + (m__law_pick ((w_1083).1 - (1 : Int)) (S_1097)).1), (m__law_pick ((w_1083).1 - (1 : Int)) (S_1097)).2)) (fun (S_1097 : Src) (q_1093 : Int) => (g__law_pick ((w_1083).1 - (1 : Int)) (S_1097))) S_1090 (rngI 0 (Int.toNat (4 : Int)))) ∧ (List.length ((mapS (fun (S_1097 : Src) (q_1093 : Int) => (((1 : Int) + (m__law_pick ((w_1083).1 - (1 : Int)) (S_1097)).1), (m__law_pick ((w_1083).1 - (1 : Int)) (S_1097)).2)) S_1090 (rngI 0 (Int.toNat (4 : Int)))).1) = 4) ∧ (g__law_along_right_11 web_0 w_1083 z_1088 (T4.mk (getI ((mapS (fun (S_1097 : Src) (q_1093 : Int) => (((1 : Int) + (m__law_pick ((w_1083).1 - (1 : Int)) (S_1097)).1), (m__law_pick ((w_1083).1 - (1 : Int)) (S_1097)).2)) S_1090 (rngI 0 (Int.toNat (4 : Int)))).1) 0) (getI ((mapS (fun (S_1097 : Src) (q_1093 : Int) => (((1 : Int) + (m__law_pick ((w_1083).1 - (1 : Int)) (S_1097)).1), (m__law_pick ((w_1083).1 - (1 : Int)) (S_1097)).2)) S_1090 (rngI 0 (Int.toNat (4 : Int)))).1) 1) (getI ((mapS (fun (S_1097 : Src) (q_1093 : Int) => (((1 : Int) + (m__law_pick ((w_1083).1 - (1 : Int)) (S_1097)).1), (m__law_pick ((w_1083).1 - (1 : Int)) (S_1097)).2)) S_1090 (rngI 0 (Int.toNat (4 : Int)))).1) 2) (getI ((mapS (fun (S_1097 : Src) (q_1093 : Int) => (((1 : Int) + (m__law_pick ((w_1083).1 - (1 : Int)) (S_1097)).1), (m__law_pick ((w_1083).1 - (1 : Int)) (S_1097)).2)) S_1090 (rngI 0 (Int.toNat (4 : Int)))).1) 3)) ((mapS (fun (S_1097 : Src) (q_1093 : Int) => (((1 : Int) + (m__law_pick ((w_1083).1 - (1 : Int)) (S_1097)).1), (m__law_pick ((w_1083).1 - (1 : Int)) (S_1097)).2)) S_1090 (rngI 0 (Int.toNat (4 : Int)))).2))
def m__law_along_right_13 (web_0 : (T3 Int Int (List (T3 Int Int Int)))) (S : Src) (w_1083 : (Int × Int)) : (Bool × Src) := (m__law_along_right_12 web_0 w_1083 ((m__law_pick ((w_1083).2) S).1, (m__law_pick ((w_1083).2) ((m__law_pick ((w_1083).2) S).2)).1) ((m__law_pick ((w_1083).2) ((m__law_pick ((w_1083).2) S).2)).2))
def g__law_along_right_13 (web_0 : (T3 Int Int (List (T3 Int Int Int)))) (S : Src) (w_1083 : (Int × Int)) : Prop := (g__law_pick ((w_1083).2) S) ∧ (g__law_pick ((w_1083).2) ((m__law_pick ((w_1083).2) S).2)) ∧ (g__law_along_right_12 web_0 w_1083 ((m__law_pick ((w_1083).2) S).1, (m__law_pick ((w_1083).2) ((m__law_pick ((w_1083).2) S).2)).1) ((m__law_pick ((w_1083).2) ((m__law_pick ((w_1083).2) S).2)).2))
def m__law_along_right (web_0 : (T3 Int Int (List (T3 Int Int Int)))) (S : Src) : (Bool × Src) := (m__law_along_right_13 web_0 S (web_0.a, web_0.b))
def g__law_along_right (web_0 : (T3 Int Int (List (T3 Int Int Int)))) (S : Src) : Prop := (g__law_along_right_13 web_0 S (web_0.a, web_0.b))
@[reducible] def R__law_along_right : DR := fun sls S r S' => ∃ (web_0 : (T3 Int Int (List (T3 Int Int Int)))), sls = [.src, .p (enc web_0)] ∧ g__law_along_right web_0 S ∧ r = .p (enc (m__law_along_right web_0 S).1) ∧ S' = (m__law_along_right web_0 S).2
@[reducible] def rf__law_of (r : (T3 Int Int Int) × Src) : Sl × Src := (.p (enc r.1), r.2)
def m__law_of (some_0 : (List (T3 Int Int Int))) (S : Src) : ((T3 Int Int Int) × Src) := ((getI some_0 ((m__law_pick (List.length some_0 : Int) S).1)), (m__law_pick (List.length some_0 : Int) S).2)
def g__law_of (some_0 : (List (T3 Int Int Int))) (S : Src) : Prop := (g__law_pick (List.length some_0 : Int) S) ∧ (InB some_0 ((m__law_pick (List.length some_0 : Int) S).1))
@[reducible] def R__law_of : DR := fun sls S r S' => ∃ (some_0 : (List (T3 Int Int Int))), sls = [.src, .p (enc some_0)] ∧ g__law_of some_0 S ∧ r = .p (enc (m__law_of some_0 S).1) ∧ S' = (m__law_of some_0 S).2
@[reducible] def rf_exchange_moves (S : Src) (r : (T3 (T3 Str Int Int) (T3 Str Int Int) (T3 Str Int Int))) : Sl × Src := (.p (enc r), S)
def m_exchange_moves_1 (v_0 : Int) (w_0 : Int) (a_0 : Int) (back_1239 : Int) : (T3 (T3 Str Int Int) (T3 Str Int Int) (T3 Str Int Int)) := (T3.mk (T3.mk ("turn" : Str) v_0 a_0) (T3.mk ("turn" : Str) w_0 back_1239) (T3.mk ("turn" : Str) v_0 a_0))
def g_exchange_moves_1 (v_0 : Int) (w_0 : Int) (a_0 : Int) (back_1239 : Int) : Prop := True
def m_exchange_moves_2 (v_0 : Int) (w_0 : Int) (a_0 : Int) (z_1231 : (Int × Int)) : (T3 (T3 Str Int Int) (T3 Str Int Int) (T3 Str Int Int)) := (m_exchange_moves_1 v_0 w_0 a_0 ((-(m_inverse z_1231.1 (((a_0 * z_1231.2) * z_1231.2) % z_1231.1))) % z_1231.1))
def g_exchange_moves_2 (v_0 : Int) (w_0 : Int) (a_0 : Int) (z_1231 : (Int × Int)) : Prop := (CMul a_0 z_1231.2) ∧ (CMul (a_0 * z_1231.2) z_1231.2) ∧ (0 < z_1231.1) ∧ (g_inverse z_1231.1 (((a_0 * z_1231.2) * z_1231.2) % z_1231.1)) ∧ (0 < z_1231.1) ∧ (g_exchange_moves_1 v_0 w_0 a_0 ((-(m_inverse z_1231.1 (((a_0 * z_1231.2) * z_1231.2) % z_1231.1))) % z_1231.1))
def m_exchange_moves (web_0 : (T3 Int Int (List (T3 Int Int Int)))) (v_0 : Int) (w_0 : Int) (a_0 : Int) : (T3 (T3 Str Int Int) (T3 Str Int Int) (T3 Str Int Int)) := (m_exchange_moves_2 v_0 w_0 a_0 (web_0.a, (m_weight_at web_0 v_0 w_0)))
def g_exchange_moves (web_0 : (T3 Int Int (List (T3 Int Int Int)))) (v_0 : Int) (w_0 : Int) (a_0 : Int) : Prop := (g_weight_at web_0 v_0 w_0) ∧ (g_exchange_moves_2 v_0 w_0 a_0 (web_0.a, (m_weight_at web_0 v_0 w_0)))
@[reducible] def R_exchange_moves : DR := fun sls S r S' => ∃ (web_0 : (T3 Int Int (List (T3 Int Int Int)))), ∃ (v_0 : Int), ∃ (w_0 : Int), ∃ (a_0 : Int), sls = [.p (enc web_0), .p (enc v_0), .p (enc w_0), .p (enc a_0)] ∧ g_exchange_moves web_0 v_0 w_0 a_0 ∧ r = .p (enc (m_exchange_moves web_0 v_0 w_0 a_0)) ∧ S = S'
@[reducible] def rf_exchanged (S : Src) (r : (T3 Int Int (List (T3 Int Int Int)))) : Sl × Src := (.p (enc r), S)
@[reducible] def nf_exchanged_1 (web_0 : (T3 Int Int (List (T3 Int Int Int)))) (v_0 : Int) (w_0 : Int) (a_0 : Int) (z_1360 : (Int × (List (List Int)))) (z_1368 : (Int × Int)) (S : Src) (n : (List (List Int))) : Env × Src := ([some (.p (enc web_0)), some (.p (enc v_0)), some (.p (enc w_0)), some (.p (enc a_0)), some (.p (enc z_1360.1)), some (.p (enc z_1360.2)), some (.p (enc z_1368.1)), some (.p (enc z_1368.2)), none, some (.ll (encss n)), none, none], S)
@[reducible] def nf_exchanged_2 (web_0 : (T3 Int Int (List (T3 Int Int Int)))) (v_0 : Int) (w_0 : Int) (a_0 : Int) (z_1360 : (Int × (List (List Int)))) (z_1368 : (Int × Int)) (q_1381 : Int) (S : Src) (n : (List (List Int))) : Env × Src := ([some (.p (enc web_0)), some (.p (enc v_0)), some (.p (enc w_0)), some (.p (enc a_0)), some (.p (enc z_1360.1)), some (.p (enc z_1360.2)), some (.p (enc z_1368.1)), some (.p (enc z_1368.2)), none, some (.ll (encss n)), some (.p (enc q_1381)), none], S)
def m_exchanged_3 (rows_1432 : (List (List Int))) : (List (List Int)) := rows_1432
def g_exchanged_3 (rows_1432 : (List (List Int))) : Prop := True
def m_exchanged_4 (v_0 : Int) (w_0 : Int) (z_1360 : (Int × (List (List Int)))) (z_1368 : (Int × Int)) (q_1381 : Int) (n_1411 : (List (List Int))) (q_1412 : Int) : (List (List Int)) := (m_exchanged_3 (setAt2 n_1411 q_1381 q_1412 (((getI (getI z_1360.2 q_1381) q_1412) - ((((getI (getI z_1360.2 q_1381) v_0) * (getI (getI z_1360.2 q_1412) w_0)) + ((getI (getI z_1360.2 q_1381) w_0) * (getI (getI z_1360.2 q_1412) v_0))) * z_1368.1)) % z_1360.1)))
def g_exchanged_4 (v_0 : Int) (w_0 : Int) (z_1360 : (Int × (List (List Int)))) (z_1368 : (Int × Int)) (q_1381 : Int) (n_1411 : (List (List Int))) (q_1412 : Int) : Prop := (InB z_1360.2 q_1381) ∧ (InB (getI z_1360.2 q_1381) q_1412) ∧ (InB z_1360.2 q_1381) ∧ (InB (getI z_1360.2 q_1381) v_0) ∧ (InB z_1360.2 q_1412) ∧ (InB (getI z_1360.2 q_1412) w_0) ∧ (CMul (getI (getI z_1360.2 q_1381) v_0) (getI (getI z_1360.2 q_1412) w_0)) ∧ (InB z_1360.2 q_1381) ∧ (InB (getI z_1360.2 q_1381) w_0) ∧ (InB z_1360.2 q_1412) ∧ (InB (getI z_1360.2 q_1412) v_0) ∧ (CMul (getI (getI z_1360.2 q_1381) w_0) (getI (getI z_1360.2 q_1412) v_0)) ∧ (CMul (((getI (getI z_1360.2 q_1381) v_0) * (getI (getI z_1360.2 q_1412) w_0)) + ((getI (getI z_1360.2 q_1381) w_0) * (getI (getI z_1360.2 q_1412) v_0))) z_1368.1) ∧ (0 < z_1360.1) ∧ (InB2 n_1411 q_1381 q_1412) ∧ (g_exchanged_3 (setAt2 n_1411 q_1381 q_1412 (((getI (getI z_1360.2 q_1381) q_1412) - ((((getI (getI z_1360.2 q_1381) v_0) * (getI (getI z_1360.2 q_1412) w_0)) + ((getI (getI z_1360.2 q_1381) w_0) * (getI (getI z_1360.2 q_1412) v_0))) * z_1368.1)) % z_1360.1)))
def m_exchanged_5 (n_1411 : (List (List Int))) : (List (List Int)) := n_1411
def g_exchanged_5 (n_1411 : (List (List Int))) : Prop := True
def m_exchanged_6 (v_0 : Int) (w_0 : Int) (z_1360 : (Int × (List (List Int)))) (z_1368 : (Int × Int)) (q_1381 : Int) (n_1411 : (List (List Int))) (q_1412 : Int) : (List (List Int)) := (if ((!(mem (q_1412 : Int) ([(T3.mk q_1381 v_0 w_0).a, (T3.mk q_1381 v_0 w_0).b, (T3.mk q_1381 v_0 w_0).c] : (List Int))))) = true then m_exchanged_4 v_0 w_0 z_1360 z_1368 q_1381 n_1411 q_1412 else m_exchanged_5 n_1411)
def g_exchanged_6 (v_0 : Int) (w_0 : Int) (z_1360 : (Int × (List (List Int)))) (z_1368 : (Int × Int)) (q_1381 : Int) (n_1411 : (List (List Int))) (q_1412 : Int) : Prop := (((!(mem (q_1412 : Int) ([(T3.mk q_1381 v_0 w_0).a, (T3.mk q_1381 v_0 w_0).b, (T3.mk q_1381 v_0 w_0).c] : (List Int))))) = true → g_exchanged_4 v_0 w_0 z_1360 z_1368 q_1381 n_1411 q_1412) ∧ (((!(mem (q_1412 : Int) ([(T3.mk q_1381 v_0 w_0).a, (T3.mk q_1381 v_0 w_0).b, (T3.mk q_1381 v_0 w_0).c] : (List Int))))) = false → g_exchanged_5 n_1411)
def m_exchanged_7 (n_1435 : (List (List Int))) : (List (List Int)) := n_1435
def g_exchanged_7 (n_1435 : (List (List Int))) : Prop := True
def m_exchanged_8 (web_0 : (T3 Int Int (List (T3 Int Int Int)))) (v_0 : Int) (w_0 : Int) (z_1360 : (Int × (List (List Int)))) (z_1368 : (Int × Int)) (q_1381 : Int) (rows_1405 : (List (List Int))) : (List (List Int)) := (m_exchanged_7 (List.foldl (fun (n_1411 : (List (List Int))) (q_1412 : Int) => m_exchanged_6 v_0 w_0 z_1360 z_1368 q_1381 n_1411 q_1412) (rows_1405 : (List (List Int))) (rngI 0 (Int.toNat web_0.b))))
def g_exchanged_8 (web_0 : (T3 Int Int (List (T3 Int Int Int)))) (v_0 : Int) (w_0 : Int) (z_1360 : (Int × (List (List Int)))) (z_1368 : (Int × Int)) (q_1381 : Int) (rows_1405 : (List (List Int))) : Prop := (RngOk web_0.b) ∧ (FG (fun (n_1411 : (List (List Int))) (q_1412 : Int) => g_exchanged_6 v_0 w_0 z_1360 z_1368 q_1381 n_1411 q_1412) (fun (n_1411 : (List (List Int))) (q_1412 : Int) => m_exchanged_6 v_0 w_0 z_1360 z_1368 q_1381 n_1411 q_1412) (rngI 0 (Int.toNat web_0.b)) (rows_1405 : (List (List Int)))) ∧ (g_exchanged_7 (List.foldl (fun (n_1411 : (List (List Int))) (q_1412 : Int) => m_exchanged_6 v_0 w_0 z_1360 z_1368 q_1381 n_1411 q_1412) (rows_1405 : (List (List Int))) (rngI 0 (Int.toNat web_0.b))))
def m_exchanged_9 (web_0 : (T3 Int Int (List (T3 Int Int Int)))) (v_0 : Int) (w_0 : Int) (a_0 : Int) (z_1360 : (Int × (List (List Int)))) (z_1368 : (Int × Int)) (q_1381 : Int) (rows_1395 : (List (List Int))) : (List (List Int)) := (m_exchanged_8 web_0 v_0 w_0 z_1360 z_1368 q_1381 (setAt2 (setAt2 rows_1395 w_0 q_1381 (((a_0 * z_1368.2) * (getI (getI z_1360.2 v_0) q_1381)) % z_1360.1)) q_1381 w_0 (((a_0 * z_1368.2) * (getI (getI z_1360.2 v_0) q_1381)) % z_1360.1)))
def g_exchanged_9 (web_0 : (T3 Int Int (List (T3 Int Int Int)))) (v_0 : Int) (w_0 : Int) (a_0 : Int) (z_1360 : (Int × (List (List Int)))) (z_1368 : (Int × Int)) (q_1381 : Int) (rows_1395 : (List (List Int))) : Prop := (CMul a_0 z_1368.2) ∧ (InB z_1360.2 v_0) ∧ (InB (getI z_1360.2 v_0) q_1381) ∧ (CMul (a_0 * z_1368.2) (getI (getI z_1360.2 v_0) q_1381)) ∧ (0 < z_1360.1) ∧ (InB2 rows_1395 w_0 q_1381) ∧ (InB2 (setAt2 rows_1395 w_0 q_1381 (((a_0 * z_1368.2) * (getI (getI z_1360.2 v_0) q_1381)) % z_1360.1)) q_1381 w_0) ∧ (g_exchanged_8 web_0 v_0 w_0 z_1360 z_1368 q_1381 (setAt2 (setAt2 rows_1395 w_0 q_1381 (((a_0 * z_1368.2) * (getI (getI z_1360.2 v_0) q_1381)) % z_1360.1)) q_1381 w_0 (((a_0 * z_1368.2) * (getI (getI z_1360.2 v_0) q_1381)) % z_1360.1)))
def m_exchanged_10 (web_0 : (T3 Int Int (List (T3 Int Int Int)))) (v_0 : Int) (w_0 : Int) (a_0 : Int) (z_1360 : (Int × (List (List Int)))) (z_1368 : (Int × Int)) (n_1380 : (List (List Int))) (q_1381 : Int) : (List (List Int)) := (m_exchanged_9 web_0 v_0 w_0 a_0 z_1360 z_1368 q_1381 (setAt2 (setAt2 n_1380 v_0 q_1381 (((-(getI (getI z_1360.2 w_0) q_1381)) * (m_inverse z_1360.1 ((a_0 * z_1368.2) % z_1360.1))) % z_1360.1)) q_1381 v_0 (((-(getI (getI z_1360.2 w_0) q_1381)) * (m_inverse z_1360.1 ((a_0 * z_1368.2) % z_1360.1))) % z_1360.1)))
def g_exchanged_10 (web_0 : (T3 Int Int (List (T3 Int Int Int)))) (v_0 : Int) (w_0 : Int) (a_0 : Int) (z_1360 : (Int × (List (List Int)))) (z_1368 : (Int × Int)) (n_1380 : (List (List Int))) (q_1381 : Int) : Prop := (InB z_1360.2 w_0) ∧ (InB (getI z_1360.2 w_0) q_1381) ∧ (CMul a_0 z_1368.2) ∧ (0 < z_1360.1) ∧ (g_inverse z_1360.1 ((a_0 * z_1368.2) % z_1360.1)) ∧ (CMul (-(getI (getI z_1360.2 w_0) q_1381)) (m_inverse z_1360.1 ((a_0 * z_1368.2) % z_1360.1))) ∧ (0 < z_1360.1) ∧ (InB2 n_1380 v_0 q_1381) ∧ (InB2 (setAt2 n_1380 v_0 q_1381 (((-(getI (getI z_1360.2 w_0) q_1381)) * (m_inverse z_1360.1 ((a_0 * z_1368.2) % z_1360.1))) % z_1360.1)) q_1381 v_0) ∧ (g_exchanged_9 web_0 v_0 w_0 a_0 z_1360 z_1368 q_1381 (setAt2 (setAt2 n_1380 v_0 q_1381 (((-(getI (getI z_1360.2 w_0) q_1381)) * (m_inverse z_1360.1 ((a_0 * z_1368.2) % z_1360.1))) % z_1360.1)) q_1381 v_0 (((-(getI (getI z_1360.2 w_0) q_1381)) * (m_inverse z_1360.1 ((a_0 * z_1368.2) % z_1360.1))) % z_1360.1)))
def m_exchanged_11 (n_1380 : (List (List Int))) : (List (List Int)) := n_1380
def g_exchanged_11 (n_1380 : (List (List Int))) : Prop := True
def m_exchanged_12 (web_0 : (T3 Int Int (List (T3 Int Int Int)))) (v_0 : Int) (w_0 : Int) (a_0 : Int) (z_1360 : (Int × (List (List Int)))) (z_1368 : (Int × Int)) (n_1380 : (List (List Int))) (q_1381 : Int) : (List (List Int)) := (if ((!(mem (q_1381 : Int) ([(v_0, w_0).1, (v_0, w_0).2] : (List Int))))) = true then m_exchanged_10 web_0 v_0 w_0 a_0 z_1360 z_1368 n_1380 q_1381 else m_exchanged_11 n_1380)
def g_exchanged_12 (web_0 : (T3 Int Int (List (T3 Int Int Int)))) (v_0 : Int) (w_0 : Int) (a_0 : Int) (z_1360 : (Int × (List (List Int)))) (z_1368 : (Int × Int)) (n_1380 : (List (List Int))) (q_1381 : Int) : Prop := (((!(mem (q_1381 : Int) ([(v_0, w_0).1, (v_0, w_0).2] : (List Int))))) = true → g_exchanged_10 web_0 v_0 w_0 a_0 z_1360 z_1368 n_1380 q_1381) ∧ (((!(mem (q_1381 : Int) ([(v_0, w_0).1, (v_0, w_0).2] : (List Int))))) = false → g_exchanged_11 n_1380)
def m_exchanged_13 (z_1360 : (Int × (List (List Int)))) (n_1437 : (List (List Int))) : (T3 Int Int (List (T3 Int Int Int))) := (m_web_of_1 z_1360.1 n_1437)
def g_exchanged_13 (z_1360 : (Int × (List (List Int)))) (n_1437 : (List (List Int))) : Prop := (g_web_of_1 z_1360.1 n_1437)
def m_exchanged_14 (web_0 : (T3 Int Int (List (T3 Int Int Int)))) (v_0 : Int) (w_0 : Int) (a_0 : Int) (z_1360 : (Int × (List (List Int)))) (z_1368 : (Int × Int)) (rows_1374 : (List (List Int))) : (T3 Int Int (List (T3 Int Int Int))) := (m_exchanged_13 z_1360 (List.foldl (fun (n_1380 : (List (List Int))) (q_1381 : Int) => m_exchanged_12 web_0 v_0 w_0 a_0 z_1360 z_1368 n_1380 q_1381) (rows_1374 : (List (List Int))) (rngI 0 (Int.toNat web_0.b))))
def g_exchanged_14 (web_0 : (T3 Int Int (List (T3 Int Int Int)))) (v_0 : Int) (w_0 : Int) (a_0 : Int) (z_1360 : (Int × (List (List Int)))) (z_1368 : (Int × Int)) (rows_1374 : (List (List Int))) : Prop := (RngOk web_0.b) ∧ (FG (fun (n_1380 : (List (List Int))) (q_1381 : Int) => g_exchanged_12 web_0 v_0 w_0 a_0 z_1360 z_1368 n_1380 q_1381) (fun (n_1380 : (List (List Int))) (q_1381 : Int) => m_exchanged_12 web_0 v_0 w_0 a_0 z_1360 z_1368 n_1380 q_1381) (rngI 0 (Int.toNat web_0.b)) (rows_1374 : (List (List Int)))) ∧ (g_exchanged_13 z_1360 (List.foldl (fun (n_1380 : (List (List Int))) (q_1381 : Int) => m_exchanged_12 web_0 v_0 w_0 a_0 z_1360 z_1368 n_1380 q_1381) (rows_1374 : (List (List Int))) (rngI 0 (Int.toNat web_0.b))))
def m_exchanged_15 (web_0 : (T3 Int Int (List (T3 Int Int Int)))) (v_0 : Int) (w_0 : Int) (a_0 : Int) (z_1360 : (Int × (List (List Int)))) (z_1368 : (Int × Int)) : (T3 Int Int (List (T3 Int Int Int))) := (m_exchanged_14 web_0 v_0 w_0 a_0 z_1360 z_1368 (List.map (fun (q_1371 : (List Int)) => q_1371) z_1360.2))
def g_exchanged_15 (web_0 : (T3 Int Int (List (T3 Int Int Int)))) (v_0 : Int) (w_0 : Int) (a_0 : Int) (z_1360 : (Int × (List (List Int)))) (z_1368 : (Int × Int)) : Prop := (g_exchanged_14 web_0 v_0 w_0 a_0 z_1360 z_1368 (List.map (fun (q_1371 : (List Int)) => q_1371) z_1360.2))
def m_exchanged_16 (web_0 : (T3 Int Int (List (T3 Int Int Int)))) (v_0 : Int) (w_0 : Int) (a_0 : Int) (z_1360 : (Int × (List (List Int)))) : (T3 Int Int (List (T3 Int Int Int))) := (m_exchanged_15 web_0 v_0 w_0 a_0 z_1360 ((m_inverse z_1360.1 (getI (getI z_1360.2 v_0) w_0)), (getI (getI z_1360.2 v_0) w_0)))
def g_exchanged_16 (web_0 : (T3 Int Int (List (T3 Int Int Int)))) (v_0 : Int) (w_0 : Int) (a_0 : Int) (z_1360 : (Int × (List (List Int)))) : Prop := (InB z_1360.2 v_0) ∧ (InB (getI z_1360.2 v_0) w_0) ∧ (g_inverse z_1360.1 (getI (getI z_1360.2 v_0) w_0)) ∧ (InB z_1360.2 v_0) ∧ (InB (getI z_1360.2 v_0) w_0) ∧ (g_exchanged_15 web_0 v_0 w_0 a_0 z_1360 ((m_inverse z_1360.1 (getI (getI z_1360.2 v_0) w_0)), (getI (getI z_1360.2 v_0) w_0)))
def m_exchanged (web_0 : (T3 Int Int (List (T3 Int Int Int)))) (v_0 : Int) (w_0 : Int) (a_0 : Int) : (T3 Int Int (List (T3 Int Int Int))) := (m_exchanged_16 web_0 v_0 w_0 a_0 (web_0.a, (m_table_of web_0)))
def g_exchanged (web_0 : (T3 Int Int (List (T3 Int Int Int)))) (v_0 : Int) (w_0 : Int) (a_0 : Int) : Prop := (g_table_of web_0) ∧ (g_exchanged_16 web_0 v_0 w_0 a_0 (web_0.a, (m_table_of web_0)))
@[reducible] def R_exchanged : DR := fun sls S r S' => ∃ (web_0 : (T3 Int Int (List (T3 Int Int Int)))), ∃ (v_0 : Int), ∃ (w_0 : Int), ∃ (a_0 : Int), sls = [.p (enc web_0), .p (enc v_0), .p (enc w_0), .p (enc a_0)] ∧ g_exchanged web_0 v_0 w_0 a_0 ∧ r = .p (enc (m_exchanged web_0 v_0 w_0 a_0)) ∧ S = S'
@[reducible] def rf__law_made (S : Src) (r : (T3 Int Int (List (T3 Int Int Int)))) : Sl × Src := (.p (enc r), S)
@[reducible] def nf__law_made_1 (moves_0 : (List (T3 Str Int Int))) (S : Src) (n : (T3 Int Int (List (T3 Int Int Int)))) : Env × Src := ([some (.p (enc n)), some (.p (enc moves_0)), none], S)
def m__law_made_2 (web_1466 : (T3 Int Int (List (T3 Int Int Int)))) : (T3 Int Int (List (T3 Int Int Int))) := web_1466
def g__law_made_2 (web_1466 : (T3 Int Int (List (T3 Int Int Int)))) : Prop := True
def m__law_made_3 (n_1463 : (T3 Int Int (List (T3 Int Int Int)))) (q_1464 : (T3 Str Int Int)) : (T3 Int Int (List (T3 Int Int Int))) := (m__law_made_2 (m__law_moved n_1463 q_1464))
def g__law_made_3 (n_1463 : (T3 Int Int (List (T3 Int Int Int)))) (q_1464 : (T3 Str Int Int)) : Prop := (g__law_moved n_1463 q_1464) ∧ (g__law_made_2 (m__law_moved n_1463 q_1464))
def m__law_made_4 (n_1469 : (T3 Int Int (List (T3 Int Int Int)))) : (T3 Int Int (List (T3 Int Int Int))) := n_1469
def g__law_made_4 (n_1469 : (T3 Int Int (List (T3 Int Int Int)))) : Prop := True
def m__law_made (web_0 : (T3 Int Int (List (T3 Int Int Int)))) (moves_0 : (List (T3 Str Int Int))) : (T3 Int Int (List (T3 Int Int Int))) := (m__law_made_4 (List.foldl (fun (n_1463 : (T3 Int Int (List (T3 Int Int Int)))) (q_1464 : (T3 Str Int Int)) => m__law_made_3 n_1463 q_1464) (web_0 : (T3 Int Int (List (T3 Int Int Int)))) moves_0))
def g__law_made (web_0 : (T3 Int Int (List (T3 Int Int Int)))) (moves_0 : (List (T3 Str Int Int))) : Prop := (FG (fun (n_1463 : (T3 Int Int (List (T3 Int Int Int)))) (q_1464 : (T3 Str Int Int)) => g__law_made_3 n_1463 q_1464) (fun (n_1463 : (T3 Int Int (List (T3 Int Int Int)))) (q_1464 : (T3 Str Int Int)) => m__law_made_3 n_1463 q_1464) moves_0 (web_0 : (T3 Int Int (List (T3 Int Int Int))))) ∧ (g__law_made_4 (List.foldl (fun (n_1463 : (T3 Int Int (List (T3 Int Int Int)))) (q_1464 : (T3 Str Int Int)) => m__law_made_3 n_1463 q_1464) (web_0 : (T3 Int Int (List (T3 Int Int Int)))) moves_0))
@[reducible] def R__law_made : DR := fun sls S r S' => ∃ (web_0 : (T3 Int Int (List (T3 Int Int Int)))), ∃ (moves_0 : (List (T3 Str Int Int))), sls = [.p (enc web_0), .p (enc moves_0)] ∧ g__law_made web_0 moves_0 ∧ r = .p (enc (m__law_made web_0 moves_0)) ∧ S = S'
@[reducible] def rf__law_exchange_right (r : Bool × Src) : Sl × Src := (.p (enc r.1), r.2)
@[reducible] def nf__law_exchange_right_1 (web_0 : (T3 Int Int (List (T3 Int Int Int)))) (u_0 : Int) (v_0 : Int) (w_1552 : (Int × Int)) (z_1557 : (Int × (List (List Int)))) (S_1559 : Src) (h_1563 : Int) (moves_1567 : (T3 (T3 Str Int Int) (T3 Str Int Int) (T3 Str Int Int))) (back_1581 : (List Int)) (late_1593 : (T3 Int Int (List (T3 Int Int Int)))) (told_1604 : (List (List Int))) (n : Unit) : Env × Src := ([some (.src), some (.p (enc web_0)), some (.p (enc u_0)), some (.p (enc v_0)), some (.p (enc ((w_1552).1))), some (.p (enc ((w_1552).2))), some (.p (enc z_1557.1)), some (.bb (encss z_1557.2)), some (.p (enc h_1563)), some (.p (enc moves_1567)), none, some (.b (encs back_1581)), some (.p (enc late_1593)), some (.bb (encss told_1604)), none, none], S_1559)
@[reducible] def nf__law_exchange_right_2 (web_0 : (T3 Int Int (List (T3 Int Int Int)))) (u_0 : Int) (v_0 : Int) (w_1552 : (Int × Int)) (z_1557 : (Int × (List (List Int)))) (S_1559 : Src) (h_1563 : Int) (moves_1567 : (T3 (T3 Str Int Int) (T3 Str Int Int) (T3 Str Int Int))) (back_1581 : (List Int)) (late_1593 : (T3 Int Int (List (T3 Int Int Int)))) (told_1604 : (List (List Int))) (q_1614 : Int) (n : Unit) : Env × Src := ([some (.src), some (.p (enc web_0)), some (.p (enc u_0)), some (.p (enc v_0)), some (.p (enc ((w_1552).1))), some (.p (enc ((w_1552).2))), some (.p (enc z_1557.1)), some (.bb (encss z_1557.2)), some (.p (enc h_1563)), some (.p (enc moves_1567)), none, some (.b (encs back_1581)), some (.p (enc late_1593)), some (.bb (encss told_1604)), some (.p (enc q_1614)), none], S_1559)
def m__law_exchange_right_3 (S_1559 : Src) : Except (Bool × Src) Unit := (Except.error (false, S_1559))
def g__law_exchange_right_3 (S_1559 : Src) : Prop := True
def m__law_exchange_right_4  : Except (Bool × Src) Unit := (Except.ok ())
def g__law_exchange_right_4  : Prop := True
def m__law_exchange_right_5 (w_1552 : (Int × Int)) (z_1557 : (Int × (List (List Int)))) (S_1559 : Src) (h_1563 : Int) (told_1604 : (List (List Int))) (q_1614 : Int) (q_1643 : Int) (cross_1655 : Int) : Except (Bool × Src) Unit := (if (decide ((((((getI (getI z_1557.2 q_1614) q_1643) - (getI (getI told_1604 q_1614) q_1643)) * h_1563) - cross_1655) % (w_1552).1) ≠ (0 : Int))) = true then m__law_exchange_right_3 S_1559 else m__law_exchange_right_4)
def g__law_exchange_right_5 (w_1552 : (Int × Int)) (z_1557 : (Int × (List (List Int)))) (S_1559 : Src) (h_1563 : Int) (told_1604 : (List (List Int))) (q_1614 : Int) (q_1643 : Int) (cross_1655 : Int) : Prop := (InB z_1557.2 q_1614) ∧ (InB (getI z_1557.2 q_1614) q_1643) ∧ (InB told_1604 q_1614) ∧ (InB (getI told_1604 q_1614) q_1643) ∧ (CMul ((getI (getI z_1557.2 q_1614) q_1643) - (getI (getI told_1604 q_1614) q_1643)) h_1563) ∧ (0 < (w_1552).1) ∧ ((decide ((((((getI (getI z_1557.2 q_1614) q_1643) - (getI (getI told_1604 q_1614) q_1643)) * h_1563) - cross_1655) % (w_1552).1) ≠ (0 : Int))) = true → g__law_exchange_right_3 S_1559) ∧ ((decide ((((((getI (getI z_1557.2 q_1614) q_1643) - (getI (getI told_1604 q_1614) q_1643)) * h_1563) - cross_1655) % (w_1552).1) ≠ (0 : Int))) = false → g__law_exchange_right_4)
def m__law_exchange_right_6 (u_0 : Int) (v_0 : Int) (w_1552 : (Int × Int)) (z_1557 : (Int × (List (List Int)))) (S_1559 : Src) (h_1563 : Int) (told_1604 : (List (List Int))) (q_1614 : Int) (n_1642 : Unit) (q_1643 : Int) : Except (Bool × Src) Unit := (m__law_exchange_right_5 w_1552 z_1557 S_1559 h_1563 told_1604 q_1614 q_1643 (((getI (getI z_1557.2 q_1614) u_0) * (getI (getI z_1557.2 q_1643) v_0)) + ((getI (getI z_1557.2 q_1614) v_0) * (getI (getI z_1557.2 q_1643) u_0))))
def g__law_exchange_right_6 (u_0 : Int) (v_0 : Int) (w_1552 : (Int × Int)) (z_1557 : (Int × (List (List Int)))) (S_1559 : Src) (h_1563 : Int) (told_1604 : (List (List Int))) (q_1614 : Int) (n_1642 : Unit) (q_1643 : Int) : Prop := (InB z_1557.2 q_1614) ∧ (InB (getI z_1557.2 q_1614) u_0) ∧ (InB z_1557.2 q_1643) ∧ (InB (getI z_1557.2 q_1643) v_0) ∧ (CMul (getI (getI z_1557.2 q_1614) u_0) (getI (getI z_1557.2 q_1643) v_0)) ∧ (InB z_1557.2 q_1614) ∧ (InB (getI z_1557.2 q_1614) v_0) ∧ (InB z_1557.2 q_1643) ∧ (InB (getI z_1557.2 q_1643) u_0) ∧ (CMul (getI (getI z_1557.2 q_1614) v_0) (getI (getI z_1557.2 q_1643) u_0)) ∧ (g__law_exchange_right_5 w_1552 z_1557 S_1559 h_1563 told_1604 q_1614 q_1643 (((getI (getI z_1557.2 q_1614) u_0) * (getI (getI z_1557.2 q_1643) v_0)) + ((getI (getI z_1557.2 q_1614) v_0) * (getI (getI z_1557.2 q_1643) u_0))))
def m__law_exchange_right_7 (n_1668 : Unit) : Except (Bool × Src) Unit := (Except.ok ())
def g__law_exchange_right_7 (n_1668 : Unit) : Prop := True
def m__law_exchange_right_8 (S_1559 : Src) : Except (Bool × Src) Unit := (Except.error (false, S_1559))
def g__law_exchange_right_8 (S_1559 : Src) : Prop := True
def m__law_exchange_right_9 (u_0 : Int) (v_0 : Int) (w_1552 : (Int × Int)) (z_1557 : (Int × (List (List Int)))) (S_1559 : Src) (h_1563 : Int) (told_1604 : (List (List Int))) (q_1614 : Int) : Except (Bool × Src) Unit := (bindXX (foldX (fun (n_1642 : Unit) (q_1643 : Int) => m__law_exchange_right_6 u_0 v_0 w_1552 z_1557 S_1559 h_1563 told_1604 q_1614 n_1642 q_1643) (List.map (fun (q_1637 : Int) => q_1637) (List.filter (fun (q_1637 : Int) => (!(mem (q_1637 : Int) ([(T3.mk u_0 v_0 q_1614).a, (T3.mk u_0 v_0 q_1614).b, (T3.mk u_0 v_0 q_1614).c] : (List Int))))) (rngI 0 (Int.toNat ((w_1552).2))))) (() : Unit)) (fun (n_1668 : Unit) => m__law_exchange_right_7 n_1668))
def g__law_exchange_right_9 (u_0 : Int) (v_0 : Int) (w_1552 : (Int × Int)) (z_1557 : (Int × (List (List Int)))) (S_1559 : Src) (h_1563 : Int) (told_1604 : (List (List Int))) (q_1614 : Int) : Prop := (RngOk ((w_1552).2)) ∧ (FX (fun (n_1642 : Unit) (q_1643 : Int) => g__law_exchange_right_6 u_0 v_0 w_1552 z_1557 S_1559 h_1563 told_1604 q_1614 n_1642 q_1643) (fun (n_1642 : Unit) (q_1643 : Int) => m__law_exchange_right_6 u_0 v_0 w_1552 z_1557 S_1559 h_1563 told_1604 q_1614 n_1642 q_1643) (List.map (fun (q_1637 : Int) => q_1637) (List.filter (fun (q_1637 : Int) => (!(mem (q_1637 : Int) ([(T3.mk u_0 v_0 q_1614).a, (T3.mk u_0 v_0 q_1614).b, (T3.mk u_0 v_0 q_1614).c] : (List Int))))) (rngI 0 (Int.toNat ((w_1552).2))))) (() : Unit)) ∧ (okX (foldX (fun (n_1642 : Unit) (q_1643 : Int) => m__law_exchange_right_6 u_0 v_0 w_1552 z_1557 S_1559 h_1563 told_1604 q_1614 n_1642 q_1643) (List.map (fun (q_1637 : Int) => q_1637) (List.filter (fun (q_1637 : Int) => (!(mem (q_1637 : Int) ([(T3.mk u_0 v_0 q_1614).a, (T3.mk u_0 v_0 q_1614).b, (T3.mk u_0 v_0 q_1614).c] : (List Int))))) (rngI 0 (Int.toNat ((w_1552).2))))) (() : Unit)) (fun (n_1668 : Unit) => g__law_exchange_right_7 n_1668))
def m__law_exchange_right_10 (u_0 : Int) (v_0 : Int) (w_1552 : (Int × Int)) (z_1557 : (Int × (List (List Int)))) (S_1559 : Src) (h_1563 : Int) (told_1604 : (List (List Int))) (n_1613 : Unit) (q_1614 : Int) : Except (Bool × Src) Unit := (if ((decide ((((((getI (getI told_1604 u_0) q_1614) * z_1557.1) * h_1563) + (getI (getI z_1557.2 v_0) q_1614)) % (w_1552).1) ≠ (0 : Int)) || decide ((getI (getI told_1604 v_0) q_1614) ≠ (((z_1557.1 * h_1563) * (getI (getI z_1557.2 u_0) q_1614)) % (w_1552).1)))) = true then m__law_exchange_right_8 S_1559 else m__law_exchange_right_9 u_0 v_0 w_1552 z_1557 S_1559 h_1563 told_1604 q_1614)
def g__law_exchange_right_10 (u_0 : Int) (v_0 : Int) (w_1552 : (Int × Int)) (z_1557 : (Int × (List (List Int)))) (S_1559 : Src) (h_1563 : Int) (told_1604 : (List (List Int))) (n_1613 : Unit) (q_1614 : Int) : Prop := (InB told_1604 u_0) ∧ (InB (getI told_1604 u_0) q_1614) ∧ (CMul (getI (getI told_1604 u_0) q_1614) z_1557.1) ∧ (CMul ((getI (getI told_1604 u_0) q_1614) * z_1557.1) h_1563) ∧ (InB z_1557.2 v_0) ∧ (InB (getI z_1557.2 v_0) q_1614) ∧ (0 < (w_1552).1) ∧ (decide ((((((getI (getI told_1604 u_0) q_1614) * z_1557.1) * h_1563) + (getI (getI z_1557.2 v_0) q_1614)) % (w_1552).1) ≠ (0 : Int)) = false → (InB told_1604 v_0) ∧ (InB (getI told_1604 v_0) q_1614) ∧ (CMul z_1557.1 h_1563) ∧ (InB z_1557.2 u_0) ∧ (InB (getI z_1557.2 u_0) q_1614) ∧ (CMul (z_1557.1 * h_1563) (getI (getI z_1557.2 u_0) q_1614)) ∧ (0 < (w_1552).1)) ∧ (((decide ((((((getI (getI told_1604 u_0) q_1614) * z_1557.1) * h_1563) + (getI (getI z_1557.2 v_0) q_1614)) % (w_1552).1) ≠ (0 : Int)) || decide ((getI (getI told_1604 v_0) q_1614) ≠ (((z_1557.1 * h_1563) * (getI (getI z_1557.2 u_0) q_1614)) % (w_1552).1)))) = true → g__law_exchange_right_8 S_1559) ∧ (((decide ((((((getI (getI told_1604 u_0) q_1614) * z_1557.1) * h_1563) + (getI (getI z_1557.2 v_0) q_1614)) % (w_1552).1) ≠ (0 : Int)) || decide ((getI (getI told_1604 v_0) q_1614) ≠ (((z_1557.1 * h_1563) * (getI (getI z_1557.2 u_0) q_1614)) % (w_1552).1)))) = false → g__law_exchange_right_9 u_0 v_0 w_1552 z_1557 S_1559 h_1563 told_1604 q_1614)
def m__law_exchange_right_11 (u_0 : Int) (v_0 : Int) (S_1559 : Src) (h_1563 : Int) (told_1604 : (List (List Int))) (n_1670 : Unit) : (Bool × Src) := (decide ((getI (getI told_1604 u_0) v_0) = h_1563), S_1559)
def g__law_exchange_right_11 (u_0 : Int) (v_0 : Int) (S_1559 : Src) (h_1563 : Int) (told_1604 : (List (List Int))) (n_1670 : Unit) : Prop := (InB told_1604 u_0) ∧ (InB (getI told_1604 u_0) v_0)
def m__law_exchange_right_12 (u_0 : Int) (v_0 : Int) (w_1552 : (Int × Int)) (z_1557 : (Int × (List (List Int)))) (S_1559 : Src) (h_1563 : Int) (told_1604 : (List (List Int))) : (Bool × Src) := (bindX (foldX (fun (n_1613 : Unit) (q_1614 : Int) => m__law_exchange_right_10 u_0 v_0 w_1552 z_1557 S_1559 h_1563 told_1604 n_1613 q_1614) (List.map (fun (q_1608 : Int) => q_1608) (List.filter (fun (q_1608 : Int) => (!(mem (q_1608 : Int) ([(u_0, v_0).1, (u_0, v_0).2] : (List Int))))) (rngI 0 (Int.toNat ((w_1552).2))))) (() : Unit)) (fun (n_1670 : Unit) => m__law_exchange_right_11 u_0 v_0 S_1559 h_1563 told_1604 n_1670))
def g__law_exchange_right_12 (u_0 : Int) (v_0 : Int) (w_1552 : (Int × Int)) (z_1557 : (Int × (List (List Int)))) (S_1559 : Src) (h_1563 : Int) (told_1604 : (List (List Int))) : Prop := (RngOk ((w_1552).2)) ∧ (FX (fun (n_1613 : Unit) (q_1614 : Int) => g__law_exchange_right_10 u_0 v_0 w_1552 z_1557 S_1559 h_1563 told_1604 n_1613 q_1614) (fun (n_1613 : Unit) (q_1614 : Int) => m__law_exchange_right_10 u_0 v_0 w_1552 z_1557 S_1559 h_1563 told_1604 n_1613 q_1614) (List.map (fun (q_1608 : Int) => q_1608) (List.filter (fun (q_1608 : Int) => (!(mem (q_1608 : Int) ([(u_0, v_0).1, (u_0, v_0).2] : (List Int))))) (rngI 0 (Int.toNat ((w_1552).2))))) (() : Unit)) ∧ (okX (foldX (fun (n_1613 : Unit) (q_1614 : Int) => m__law_exchange_right_10 u_0 v_0 w_1552 z_1557 S_1559 h_1563 told_1604 n_1613 q_1614) (List.map (fun (q_1608 : Int) => q_1608) (List.filter (fun (q_1608 : Int) => (!(mem (q_1608 : Int) ([(u_0, v_0).1, (u_0, v_0).2] : (List Int))))) (rngI 0 (Int.toNat ((w_1552).2))))) (() : Unit)) (fun (n_1670 : Unit) => g__law_exchange_right_11 u_0 v_0 S_1559 h_1563 told_1604 n_1670))
def m__law_exchange_right_13 (S_1559 : Src) : (Bool × Src) := (false, S_1559)
def g__law_exchange_right_13 (S_1559 : Src) : Prop := True
def m__law_exchange_right_14 (u_0 : Int) (v_0 : Int) (w_1552 : (Int × Int)) (z_1557 : (Int × (List (List Int)))) (S_1559 : Src) (h_1563 : Int) (late_1593 : (T3 Int Int (List (T3 Int Int Int)))) : (Bool × Src) := (m__law_exchange_right_12 u_0 v_0 w_1552 z_1557 S_1559 h_1563 (m__law_table late_1593))
def g__law_exchange_right_14 (u_0 : Int) (v_0 : Int) (w_1552 : (Int × Int)) (z_1557 : (Int × (List (List Int)))) (S_1559 : Src) (h_1563 : Int) (late_1593 : (T3 Int Int (List (T3 Int Int Int)))) : Prop := (g__law_table late_1593) ∧ (g__law_exchange_right_12 u_0 v_0 w_1552 z_1557 S_1559 h_1563 (m__law_table late_1593))
def m__law_exchange_right_15 (web_0 : (T3 Int Int (List (T3 Int Int Int)))) (u_0 : Int) (v_0 : Int) (w_1552 : (Int × Int)) (z_1557 : (Int × (List (List Int)))) (S_1559 : Src) (h_1563 : Int) (moves_1567 : (T3 (T3 Str Int Int) (T3 Str Int Int) (T3 Str Int Int))) (late_1593 : (T3 Int Int (List (T3 Int Int Int)))) : (Bool × Src) := (if (decide ((rp (enc late_1593)) ≠ (rp (enc (m__law_made web_0 [moves_1567.a, moves_1567.b, moves_1567.c]))))) = true then m__law_exchange_right_13 S_1559 else m__law_exchange_right_14 u_0 v_0 w_1552 z_1557 S_1559 h_1563 late_1593)
def g__law_exchange_right_15 (web_0 : (T3 Int Int (List (T3 Int Int Int)))) (u_0 : Int) (v_0 : Int) (w_1552 : (Int × Int)) (z_1557 : (Int × (List (List Int)))) (S_1559 : Src) (h_1563 : Int) (moves_1567 : (T3 (T3 Str Int Int) (T3 Str Int Int) (T3 Str Int Int))) (late_1593 : (T3 Int Int (List (T3 Int Int Int)))) : Prop := (RpOk (enc late_1593)) ∧ (g__law_made web_0 [moves_1567.a, moves_1567.b, moves_1567.c]) ∧ (RpOk (enc (m__law_made web_0 [moves_1567.a, moves_1567.b, moves_1567.c]))) ∧ ((decide ((rp (enc late_1593)) ≠ (rp (enc (m__law_made web_0 [moves_1567.a, moves_1567.b, moves_1567.c]))))) = true → g__law_exchange_right_13 S_1559) ∧ ((decide ((rp (enc late_1593)) ≠ (rp (enc (m__law_made web_0 [moves_1567.a, moves_1567.b, moves_1567.c]))))) = false → g__law_exchange_right_14 u_0 v_0 w_1552 z_1557 S_1559 h_1563 late_1593)
def m__law_exchange_right_16 (S_1559 : Src) : (Bool × Src) := (false, S_1559)
def g__law_exchange_right_16 (S_1559 : Src) : Prop := True
def m__law_exchange_right_17 (web_0 : (T3 Int Int (List (T3 Int Int Int)))) (u_0 : Int) (v_0 : Int) (w_1552 : (Int × Int)) (z_1557 : (Int × (List (List Int)))) (S_1559 : Src) (h_1563 : Int) (moves_1567 : (T3 (T3 Str Int Int) (T3 Str Int Int) (T3 Str Int Int))) : (Bool × Src) := (m__law_exchange_right_15 web_0 u_0 v_0 w_1552 z_1557 S_1559 h_1563 moves_1567 (m_exchanged web_0 u_0 v_0 z_1557.1))
def g__law_exchange_right_17 (web_0 : (T3 Int Int (List (T3 Int Int Int)))) (u_0 : Int) (v_0 : Int) (w_1552 : (Int × Int)) (z_1557 : (Int × (List (List Int)))) (S_1559 : Src) (h_1563 : Int) (moves_1567 : (T3 (T3 Str Int Int) (T3 Str Int Int) (T3 Str Int Int))) : Prop := (g_exchanged web_0 u_0 v_0 z_1557.1) ∧ (g__law_exchange_right_15 web_0 u_0 v_0 w_1552 z_1557 S_1559 h_1563 moves_1567 (m_exchanged web_0 u_0 v_0 z_1557.1))
def m__law_exchange_right_18 (web_0 : (T3 Int Int (List (T3 Int Int Int)))) (u_0 : Int) (v_0 : Int) (w_1552 : (Int × Int)) (z_1557 : (Int × (List (List Int)))) (S_1559 : Src) (h_1563 : Int) (moves_1567 : (T3 (T3 Str Int Int) (T3 Str Int Int) (T3 Str Int Int))) (back_1581 : (List Int)) : (Bool × Src) := (if (decide ((rp (enc moves_1567)) ≠ (rp (enc (T3.mk (T3.mk ("turn" : Str) u_0 z_1557.1) (T3.mk ("turn" : Str) v_0 (getI back_1581 (0 : Int))) (T3.mk ("turn" : Str) u_0 z_1557.1)))))) = true then m__law_exchange_right_16 S_1559 else m__law_exchange_right_17 web_0 u_0 v_0 w_1552 z_1557 S_1559 h_1563 moves_1567)
def g__law_exchange_right_18 (web_0 : (T3 Int Int (List (T3 Int Int Int)))) (u_0 : Int) (v_0 : Int) (w_1552 : (Int × Int)) (z_1557 : (Int × (List (List Int)))) (S_1559 : Src) (h_1563 : Int) (moves_1567 : (T3 (T3 Str Int Int) (T3 Str Int Int) (T3 Str Int Int))) (back_1581 : (List Int)) : Prop := (RpOk (enc moves_1567)) ∧ (InB back_1581 (0 : Int)) ∧ (RpOk (enc (T3.mk (T3.mk ("turn" : Str) u_0 z_1557.1) (T3.mk ("turn" : Str) v_0 (getI back_1581 (0 : Int))) (T3.mk ("turn" : Str) u_0 z_1557.1)))) ∧ ((decide ((rp (enc moves_1567)) ≠ (rp (enc (T3.mk (T3.mk ("turn" : Str) u_0 z_1557.1) (T3.mk ("turn" : Str) v_0 (getI back_1581 (0 : Int))) (T3.mk ("turn" : Str) u_0 z_1557.1)))))) = true → g__law_exchange_right_16 S_1559) ∧ ((decide ((rp (enc moves_1567)) ≠ (rp (enc (T3.mk (T3.mk ("turn" : Str) u_0 z_1557.1) (T3.mk ("turn" : Str) v_0 (getI back_1581 (0 : Int))) (T3.mk ("turn" : Str) u_0 z_1557.1)))))) = false → g__law_exchange_right_17 web_0 u_0 v_0 w_1552 z_1557 S_1559 h_1563 moves_1567)
def m__law_exchange_right_19 (web_0 : (T3 Int Int (List (T3 Int Int Int)))) (u_0 : Int) (v_0 : Int) (w_1552 : (Int × Int)) (z_1557 : (Int × (List (List Int)))) (S_1559 : Src) (h_1563 : Int) (moves_1567 : (T3 (T3 Str Int Int) (T3 Str Int Int) (T3 Str Int Int))) : (Bool × Src) := (m__law_exchange_right_18 web_0 u_0 v_0 w_1552 z_1557 S_1559 h_1563 moves_1567 (List.map (fun (q_1573 : Int) => q_1573) (List.filter (fun (q_1573 : Int) => decide ((((((q_1573 * z_1557.1) * h_1563) * h_1563) + (1 : Int)) % (w_1552).1) = (0 : Int))) (rngI (1 : Int) (Int.toNat ((w_1552).1 - (1 : Int)))))))
def g__law_exchange_right_19 (web_0 : (T3 Int Int (List (T3 Int Int Int)))) (u_0 : Int) (v_0 : Int) (w_1552 : (Int × Int)) (z_1557 : (Int × (List (List Int)))) (S_1559 : Src) (h_1563 : Int) (moves_1567 : (T3 (T3 Str Int Int) (T3 Str Int Int) (T3 Str Int Int))) : Prop := (RngOk (1 : Int)) ∧ (RngOk ((w_1552).1)) ∧ ((w_1552).1 - (1 : Int) ≤ 16777216) ∧ (∀ q_1573 ∈ (rngI (1 : Int) (Int.toNat ((w_1552).1 - (1 : Int)))), (CMul q_1573 z_1557.1) ∧ (CMul (q_1573 * z_1557.1) h_1563) ∧ (CMul ((q_1573 * z_1557.1) * h_1563) h_1563) ∧ (0 < (w_1552).1)) ∧ (g__law_exchange_right_18 web_0 u_0 v_0 w_1552 z_1557 S_1559 h_1563 moves_1567 (List.map (fun (q_1573 : Int) => q_1573) (List.filter (fun (q_1573 : Int) => decide ((((((q_1573 * z_1557.1) * h_1563) * h_1563) + (1 : Int)) % (w_1552).1) = (0 : Int))) (rngI (1 : Int) (Int.toNat ((w_1552).1 - (1 : Int)))))))
def m__law_exchange_right_20 (web_0 : (T3 Int Int (List (T3 Int Int Int)))) (u_0 : Int) (v_0 : Int) (w_1552 : (Int × Int)) (z_1557 : (Int × (List (List Int)))) (S_1559 : Src) (h_1563 : Int) : (Bool × Src) := (m__law_exchange_right_19 web_0 u_0 v_0 w_1552 z_1557 S_1559 h_1563 (m_exchange_moves web_0 u_0 v_0 z_1557.1))
def g__law_exchange_right_20 (web_0 : (T3 Int Int (List (T3 Int Int Int)))) (u_0 : Int) (v_0 : Int) (w_1552 : (Int × Int)) (z_1557 : (Int × (List (List Int)))) (S_1559 : Src) (h_1563 : Int) : Prop := (g_exchange_moves web_0 u_0 v_0 z_1557.1) ∧ (g__law_exchange_right_19 web_0 u_0 v_0 w_1552 z_1557 S_1559 h_1563 (m_exchange_moves web_0 u_0 v_0 z_1557.1))
def m__law_exchange_right_21 (web_0 : (T3 Int Int (List (T3 Int Int Int)))) (u_0 : Int) (v_0 : Int) (w_1552 : (Int × Int)) (z_1557 : (Int × (List (List Int)))) (S_1559 : Src) : (Bool × Src) := (m__law_exchange_right_20 web_0 u_0 v_0 w_1552 z_1557 S_1559 (getI (getI z_1557.2 u_0) v_0))
def g__law_exchange_right_21 (web_0 : (T3 Int Int (List (T3 Int Int Int)))) (u_0 : Int) (v_0 : Int) (w_1552 : (Int × Int)) (z_1557 : (Int × (List (List Int)))) (S_1559 : Src) : Prop := (InB z_1557.2 u_0) ∧ (InB (getI z_1557.2 u_0) v_0) ∧ (g__law_exchange_right_20 web_0 u_0 v_0 w_1552 z_1557 S_1559 (getI (getI z_1557.2 u_0) v_0))
def m__law_exchange_right_22 (web_0 : (T3 Int Int (List (T3 Int Int Int)))) (u_0 : Int) (v_0 : Int) (S : Src) (w_1552 : (Int × Int)) : (Bool × Src) := (m__law_exchange_right_21 web_0 u_0 v_0 w_1552 (((1 : Int) + (m__law_pick ((w_1552).1 - (1 : Int)) S).1), (m__law_table web_0)) ((m__law_pick ((w_1552).1 - (1 : Int)) S).2))
def g__law_exchange_right_22 (web_0 : (T3 Int Int (List (T3 Int Int Int)))) (u_0 : Int) (v_0 : Int) (S : Src) (w_1552 : (Int × Int)) : Prop := (g__law_pick ((w_1552).1 - (1 : Int)) S) ∧ (g__law_table web_0) ∧ (g__law_exchange_right_21 web_0 u_0 v_0 w_1552 (((1 : Int) + (m__law_pick ((w_1552).1 - (1 : Int)) S).1), (m__law_table web_0)) ((m__law_pick ((w_1552).1 - (1 : Int)) S).2))
def m__law_exchange_right (web_0 : (T3 Int Int (List (T3 Int Int Int)))) (u_0 : Int) (v_0 : Int) (S : Src) : (Bool × Src) := (m__law_exchange_right_22 web_0 u_0 v_0 S (web_0.a, web_0.b))
def g__law_exchange_right (web_0 : (T3 Int Int (List (T3 Int Int Int)))) (u_0 : Int) (v_0 : Int) (S : Src) : Prop := (g__law_exchange_right_22 web_0 u_0 v_0 S (web_0.a, web_0.b))
@[reducible] def R__law_exchange_right : DR := fun sls S r S' => ∃ (web_0 : (T3 Int Int (List (T3 Int Int Int)))), ∃ (u_0 : Int), ∃ (v_0 : Int), sls = [.src, .p (enc web_0), .p (enc u_0), .p (enc v_0)] ∧ g__law_exchange_right web_0 u_0 v_0 S ∧ r = .p (enc (m__law_exchange_right web_0 u_0 v_0 S).1) ∧ S' = (m__law_exchange_right web_0 u_0 v_0 S).2
@[reducible] def rf_law (r : Bool × Src) : Sl × Src := (.p (enc r.1), r.2)
@[reducible] def nf_law_1  (n : Src) : Env × Src := ([none, some (.src), none, none, none, none, none, none, none, none, none, none, none, none, none, none, none, none, none, none, none, none, none], n)
@[reducible] def nf_law_2 (q_1717 : Int) (z_1723 : (Int × Int)) (web_1729 : (T3 Int Int (List (T3 Int Int Int)))) (z_1735 : (Str × (List (List Int)))) (z_1755 : (Int × Int)) (near_1769 : (List (Int × Int))) (moves_1795 : (List (T3 Str Int Int))) (S_1797 : Src) (n : (List (T3 Int Int (List (T3 Int Int Int))))) : Env × Src := ([none, some (.src), some (.p (enc q_1717)), some (.p (enc z_1723.1)), some (.p (enc z_1723.2)), some (.p (enc web_1729)), some (.p (enc z_1735.1)), some (.bb (encss z_1735.2)), none, some (.p (enc z_1755.1)), some (.p (enc z_1755.2)), none, some (.b (encs near_1769)), none, some (.p (enc moves_1795)), some (.l (encs n)), none, none, none, none, none, none, none], S_1797)
def m_law_3 (S_1797 : Src) : Except (Bool × Src) (List (T3 Int Int (List (T3 Int Int Int)))) := (Except.error (false, S_1797))
def g_law_3 (S_1797 : Src) : Prop := True
def m_law_4 (found_1810 : (List (T3 Int Int (List (T3 Int Int Int))))) : Except (Bool × Src) (List (T3 Int Int (List (T3 Int Int Int)))) := (Except.ok found_1810)
def g_law_4 (found_1810 : (List (T3 Int Int (List (T3 Int Int Int))))) : Prop := True
def m_law_5 (S_1797 : Src) : Except (Bool × Src) (List (T3 Int Int (List (T3 Int Int Int)))) := (Except.error (false, S_1797))
def g_law_5 (S_1797 : Src) : Prop := True
def m_law_6 (z_1723 : (Int × Int)) (S_1797 : Src) (q_1805 : (T3 Str Int Int)) (found_1810 : (List (T3 Int Int (List (T3 Int Int Int))))) : Except (Bool × Src) (List (T3 Int Int (List (T3 Int Int Int)))) := (if (decide ((m_moved (getI found_1810 (-(1 : Int))) (m_move_back z_1723.1 q_1805)) ≠ (getI found_1810 (-(2 : Int))))) = true then m_law_3 S_1797 else m_law_4 found_1810)
def g_law_6 (z_1723 : (Int × Int)) (S_1797 : Src) (q_1805 : (T3 Str Int Int)) (found_1810 : (List (T3 Int Int (List (T3 Int Int Int))))) : Prop := (InB found_1810 (-(1 : Int))) ∧ (g_move_back z_1723.1 q_1805) ∧ (g_moved (getI found_1810 (-(1 : Int))) (m_move_back z_1723.1 q_1805)) ∧ (InB found_1810 (-(2 : Int))) ∧ ((decide ((m_moved (getI found_1810 (-(1 : Int))) (m_move_back z_1723.1 q_1805)) ≠ (getI found_1810 (-(2 : Int))))) = true → g_law_3 S_1797) ∧ ((decide ((m_moved (getI found_1810 (-(1 : Int))) (m_move_back z_1723.1 q_1805)) ≠ (getI found_1810 (-(2 : Int))))) = false → g_law_4 found_1810)
def m_law_7 (z_1723 : (Int × Int)) (S_1797 : Src) (q_1805 : (T3 Str Int Int)) (found_1810 : (List (T3 Int Int (List (T3 Int Int Int))))) (late_1814 : (T3 Int Int (List (T3 Int Int Int)))) (due_1823 : (T3 Int Int (List (T3 Int Int Int)))) : Except (Bool × Src) (List (T3 Int Int (List (T3 Int Int Int)))) := (if (decide ((rp (PyData.list [(enc (m_moved late_1814 q_1805)), (enc due_1823)])) ≠ (rp (PyData.list [(enc (getI found_1810 (-(1 : Int)))), (enc (getI found_1810 (-(1 : Int))))])))) = true then m_law_5 S_1797 else m_law_6 z_1723 S_1797 q_1805 found_1810)
def g_law_7 (z_1723 : (Int × Int)) (S_1797 : Src) (q_1805 : (T3 Str Int Int)) (found_1810 : (List (T3 Int Int (List (T3 Int Int Int))))) (late_1814 : (T3 Int Int (List (T3 Int Int Int)))) (due_1823 : (T3 Int Int (List (T3 Int Int Int)))) : Prop := (g_moved late_1814 q_1805) ∧ (RpOk (PyData.list [(enc (m_moved late_1814 q_1805)), (enc due_1823)])) ∧ (InB found_1810 (-(1 : Int))) ∧ (InB found_1810 (-(1 : Int))) ∧ (RpOk (PyData.list [(enc (getI found_1810 (-(1 : Int)))), (enc (getI found_1810 (-(1 : Int))))])) ∧ ((decide ((rp (PyData.list [(enc (m_moved late_1814 q_1805)), (enc due_1823)])) ≠ (rp (PyData.list [(enc (getI found_1810 (-(1 : Int)))), (enc (getI found_1810 (-(1 : Int))))])))) = true → g_law_5 S_1797) ∧ ((decide ((rp (PyData.list [(enc (m_moved late_1814 q_1805)), (enc due_1823)])) ≠ (rp (PyData.list [(enc (getI found_1810 (-(1 : Int)))), (enc (getI found_1810 (-(1 : Int))))])))) = false → g_law_6 z_1723 S_1797 q_1805 found_1810)
def m_law_8 (z_1723 : (Int × Int)) (S_1797 : Src) (q_1805 : (T3 Str Int Int)) (found_1810 : (List (T3 Int Int (List (T3 Int Int Int))))) (late_1814 : (T3 Int Int (List (T3 Int Int Int)))) : Except (Bool × Src) (List (T3 Int Int (List (T3 Int Int Int)))) := (m_law_7 z_1723 S_1797 q_1805 found_1810 late_1814 (if decide (q_1805.a = ("turn" : Str)) = true then (m_turned late_1814 q_1805.b q_1805.c) else (m_scaled late_1814 q_1805.b q_1805.c)))
def g_law_8 (z_1723 : (Int × Int)) (S_1797 : Src) (q_1805 : (T3 Str Int Int)) (found_1810 : (List (T3 Int Int (List (T3 Int Int Int))))) (late_1814 : (T3 Int Int (List (T3 Int Int Int)))) : Prop := (decide (q_1805.a = ("turn" : Str)) = true → (g_turned late_1814 q_1805.b q_1805.c)) ∧ (decide (q_1805.a = ("turn" : Str)) = false → (g_scaled late_1814 q_1805.b q_1805.c)) ∧ (g_law_7 z_1723 S_1797 q_1805 found_1810 late_1814 (if decide (q_1805.a = ("turn" : Str)) = true then (m_turned late_1814 q_1805.b q_1805.c) else (m_scaled late_1814 q_1805.b q_1805.c)))
def m_law_9 (z_1723 : (Int × Int)) (S_1797 : Src) (q_1805 : (T3 Str Int Int)) (found_1810 : (List (T3 Int Int (List (T3 Int Int Int))))) : Except (Bool × Src) (List (T3 Int Int (List (T3 Int Int Int)))) := (m_law_8 z_1723 S_1797 q_1805 found_1810 (getI found_1810 (-(2 : Int))))
def g_law_9 (z_1723 : (Int × Int)) (S_1797 : Src) (q_1805 : (T3 Str Int Int)) (found_1810 : (List (T3 Int Int (List (T3 Int Int Int))))) : Prop := (InB found_1810 (-(2 : Int))) ∧ (g_law_8 z_1723 S_1797 q_1805 found_1810 (getI found_1810 (-(2 : Int))))
def m_law_10 (z_1723 : (Int × Int)) (S_1797 : Src) (n_1804 : (List (T3 Int Int (List (T3 Int Int Int))))) (q_1805 : (T3 Str Int Int)) : Except (Bool × Src) (List (T3 Int Int (List (T3 Int Int Int)))) := (m_law_9 z_1723 S_1797 q_1805 (n_1804 ++ [(m__law_moved (getI n_1804 (-(1 : Int))) q_1805)]))
def g_law_10 (z_1723 : (Int × Int)) (S_1797 : Src) (n_1804 : (List (T3 Int Int (List (T3 Int Int Int))))) (q_1805 : (T3 Str Int Int)) : Prop := (InB n_1804 (-(1 : Int))) ∧ (g__law_moved (getI n_1804 (-(1 : Int))) q_1805) ∧ (List.length n_1804 < 16777216) ∧ (g_law_9 z_1723 S_1797 q_1805 (n_1804 ++ [(m__law_moved (getI n_1804 (-(1 : Int))) q_1805)]))
@[reducible] def nf_law_11 (q_1717 : Int) (z_1723 : (Int × Int)) (web_1729 : (T3 Int Int (List (T3 Int Int Int)))) (z_1735 : (Str × (List (List Int)))) (z_1755 : (Int × Int)) (near_1769 : (List (Int × Int))) (moves_1795 : (List (T3 Str Int Int))) (n_1846 : (List (T3 Int Int (List (T3 Int Int Int))))) (back_1861 : (List (T3 Str Int Int))) (n : Src) : Env × Src := ([none, some (.src), some (.p (enc q_1717)), some (.p (enc z_1723.1)), some (.p (enc z_1723.2)), some (.p (enc web_1729)), some (.p (enc z_1735.1)), some (.bb (encss z_1735.2)), none, some (.p (enc z_1755.1)), some (.p (enc z_1755.2)), none, some (.b (encs near_1769)), none, some (.p (enc moves_1795)), some (.l (encs n_1846)), none, none, none, some (.p (enc back_1861)), none, none, none], n)
def m_law_12 (S_1927 : Src) : Except (Bool × Src) Src := (Except.error (false, S_1927))
def g_law_12 (S_1927 : Src) : Prop := True
def m_law_13 (S_1927 : Src) : Except (Bool × Src) Src := (Except.ok S_1927)
def g_law_13 (S_1927 : Src) : Prop := True
def m_law_14 (web_1729 : (T3 Int Int (List (T3 Int Int Int)))) (w_1920 : (Int × Int)) (S_1922 : Src) : Except (Bool × Src) Src := (if ((!((m__law_exchange_right web_1729 ((w_1920).1) ((w_1920).2) S_1922).1))) = true then m_law_12 ((m__law_exchange_right web_1729 ((w_1920).1) ((w_1920).2) S_1922).2) else m_law_13 ((m__law_exchange_right web_1729 ((w_1920).1) ((w_1920).2) S_1922).2))
def g_law_14 (web_1729 : (T3 Int Int (List (T3 Int Int Int)))) (w_1920 : (Int × Int)) (S_1922 : Src) : Prop := (g__law_exchange_right web_1729 ((w_1920).1) ((w_1920).2) S_1922) ∧ (((!((m__law_exchange_right web_1729 ((w_1920).1) ((w_1920).2) S_1922).1))) = true → g_law_12 ((m__law_exchange_right web_1729 ((w_1920).1) ((w_1920).2) S_1922).2)) ∧ (((!((m__law_exchange_right web_1729 ((w_1920).1) ((w_1920).2) S_1922).1))) = false → g_law_13 ((m__law_exchange_right web_1729 ((w_1920).1) ((w_1920).2) S_1922).2))
def m_law_15 (web_1729 : (T3 Int Int (List (T3 Int Int Int)))) (tie_1913 : (T3 Int Int Int)) (S_1915 : Src) : Except (Bool × Src) Src := (m_law_14 web_1729 (if decide ((m__law_pick (2 : Int) S_1915).1 = (0 : Int)) = true then (tie_1913.a, tie_1913.b) else (tie_1913.b, tie_1913.a)) ((m__law_pick (2 : Int) S_1915).2))
def g_law_15 (web_1729 : (T3 Int Int (List (T3 Int Int Int)))) (tie_1913 : (T3 Int Int Int)) (S_1915 : Src) : Prop := (g__law_pick (2 : Int) S_1915) ∧ (g_law_14 web_1729 (if decide ((m__law_pick (2 : Int) S_1915).1 = (0 : Int)) = true then (tie_1913.a, tie_1913.b) else (tie_1913.b, tie_1913.a)) ((m__law_pick (2 : Int) S_1915).2))
def m_law_16 (web_1729 : (T3 Int Int (List (T3 Int Int Int)))) (S_1884 : Src) : Except (Bool × Src) Src := (m_law_15 web_1729 ((m__law_of web_1729.c S_1884).1) ((m__law_of web_1729.c S_1884).2))
def g_law_16 (web_1729 : (T3 Int Int (List (T3 Int Int Int)))) (S_1884 : Src) : Prop := (g__law_of web_1729.c S_1884) ∧ (g_law_15 web_1729 ((m__law_of web_1729.c S_1884).1) ((m__law_of web_1729.c S_1884).2))
def m_law_17 (S_1884 : Src) : Except (Bool × Src) Src := (Except.ok S_1884)
def g_law_17 (S_1884 : Src) : Prop := True
def m_law_18 (n_1930 : Src) : Except (Bool × Src) Src := (Except.error (false, n_1930))
def g_law_18 (n_1930 : Src) : Prop := True
def m_law_19 (n_1930 : Src) : Except (Bool × Src) Src := (Except.ok n_1930)
def g_law_19 (n_1930 : Src) : Prop := True
def m_law_20 (web_1729 : (T3 Int Int (List (T3 Int Int Int)))) (z_1735 : (Str × (List (List Int)))) (n_1930 : Src) : Except (Bool × Src) Src := (if (decide ((rp (enc web_1729)) ≠ z_1735.1)) = true then m_law_18 n_1930 else m_law_19 n_1930)
def g_law_20 (web_1729 : (T3 Int Int (List (T3 Int Int Int)))) (z_1735 : (Str × (List (List Int)))) (n_1930 : Src) : Prop := (RpOk (enc web_1729)) ∧ ((decide ((rp (enc web_1729)) ≠ z_1735.1)) = true → g_law_18 n_1930) ∧ ((decide ((rp (enc web_1729)) ≠ z_1735.1)) = false → g_law_19 n_1930)
def m_law_21 (S_1884 : Src) : Except (Bool × Src) Src := (Except.error (false, S_1884))
def g_law_21 (S_1884 : Src) : Prop := True
def m_law_22 (web_1729 : (T3 Int Int (List (T3 Int Int Int)))) (z_1735 : (Str × (List (List Int)))) (S_1884 : Src) : Except (Bool × Src) Src := (bindXX (if (decide (web_1729.c ≠ [])) = true then m_law_16 web_1729 S_1884 else m_law_17 S_1884) (fun (n_1930 : Src) => m_law_20 web_1729 z_1735 n_1930))
def g_law_22 (web_1729 : (T3 Int Int (List (T3 Int Int Int)))) (z_1735 : (Str × (List (List Int)))) (S_1884 : Src) : Prop := ((decide (web_1729.c ≠ [])) = true → g_law_16 web_1729 S_1884) ∧ ((decide (web_1729.c ≠ [])) = false → g_law_17 S_1884) ∧ (okX (if (decide (web_1729.c ≠ [])) = true then m_law_16 web_1729 S_1884 else m_law_17 S_1884) (fun (n_1930 : Src) => g_law_20 web_1729 z_1735 n_1930))
def m_law_23 (S_1797 : Src) : Except (Bool × Src) Src := (Except.error (false, S_1797))
def g_law_23 (S_1797 : Src) : Prop := True
def m_law_24 (web_1729 : (T3 Int Int (List (T3 Int Int Int)))) (z_1735 : (Str × (List (List Int)))) (S_1797 : Src) (n_1846 : (List (T3 Int Int (List (T3 Int Int Int))))) (back_1861 : (List (T3 Str Int Int))) : Except (Bool × Src) Src := (if ((decide ((rp (enc (m_made_moves (getI n_1846 (-(1 : Int))) back_1861))) ≠ z_1735.1) || (!((m__law_along_right (getI n_1846 (-(1 : Int))) S_1797).1)))) = true then m_law_21 (if decide ((rp (enc (m_made_moves (getI n_1846 (-(1 : Int))) back_1861))) ≠ z_1735.1) = true then S_1797 else (m__law_along_right (getI n_1846 (-(1 : Int))) S_1797).2) else m_law_22 web_1729 z_1735 (if decide ((rp (enc (m_made_moves (getI n_1846 (-(1 : Int))) back_1861))) ≠ z_1735.1) = true then S_1797 else (m__law_along_right (getI n_1846 (-(1 : Int))) S_1797).2))
def g_law_24 (web_1729 : (T3 Int Int (List (T3 Int Int Int)))) (z_1735 : (Str × (List (List Int)))) (S_1797 : Src) (n_1846 : (List (T3 Int Int (List (T3 Int Int Int))))) (back_1861 : (List (T3 Str Int Int))) : Prop := (InB n_1846 (-(1 : Int))) ∧ (g_made_moves (getI n_1846 (-(1 : Int))) back_1861) ∧ (RpOk (enc (m_made_moves (getI n_1846 (-(1 : Int))) back_1861))) ∧ (decide ((rp (enc (m_made_moves (getI n_1846 (-(1 : Int))) back_1861))) ≠ z_1735.1) = false → (InB n_1846 (-(1 : Int))) ∧ (g__law_along_right (getI n_1846 (-(1 : Int))) S_1797)) ∧ (((decide ((rp (enc (m_made_moves (getI n_1846 (-(1 : Int))) back_1861))) ≠ z_1735.1) || (!((m__law_along_right (getI n_1846 (-(1 : Int))) S_1797).1)))) = true → g_law_21 (if decide ((rp (enc (m_made_moves (getI n_1846 (-(1 : Int))) back_1861))) ≠ z_1735.1) = true then S_1797 else (m__law_along_right (getI n_1846 (-(1 : Int))) S_1797).2)) ∧ (((decide ((rp (enc (m_made_moves (getI n_1846 (-(1 : Int))) back_1861))) ≠ z_1735.1) || (!((m__law_along_right (getI n_1846 (-(1 : Int))) S_1797).1)))) = false → g_law_22 web_1729 z_1735 (if decide ((rp (enc (m_made_moves (getI n_1846 (-(1 : Int))) back_1861))) ≠ z_1735.1) = true then S_1797 else (m__law_along_right (getI n_1846 (-(1 : Int))) S_1797).2))
def m_law_25 (z_1723 : (Int × Int)) (web_1729 : (T3 Int Int (List (T3 Int Int Int)))) (z_1735 : (Str × (List (List Int)))) (moves_1795 : (List (T3 Str Int Int))) (S_1797 : Src) (n_1846 : (List (T3 Int Int (List (T3 Int Int Int))))) (back_1861 : (List (T3 Str Int Int))) : Except (Bool × Src) Src := (if (decide ((rp (enc back_1861)) ≠ (rp (enc (List.map (fun (q_1865 : (T3 Str Int Int)) => (m_move_back z_1723.1 q_1865)) (List.reverse moves_1795)))))) = true then m_law_23 S_1797 else m_law_24 web_1729 z_1735 S_1797 n_1846 back_1861)
def g_law_25 (z_1723 : (Int × Int)) (web_1729 : (T3 Int Int (List (T3 Int Int Int)))) (z_1735 : (Str × (List (List Int)))) (moves_1795 : (List (T3 Str Int Int))) (S_1797 : Src) (n_1846 : (List (T3 Int Int (List (T3 Int Int Int))))) (back_1861 : (List (T3 Str Int Int))) : Prop := (RpOk (enc back_1861)) ∧ (∀ q_1865 ∈ (List.reverse moves_1795), (g_move_back z_1723.1 q_1865)) ∧ (RpOk (enc (List.map (fun (q_1865 : (T3 Str Int Int)) => (m_move_back z_1723.1 q_1865)) (List.reverse moves_1795)))) ∧ ((decide ((rp (enc back_1861)) ≠ (rp (enc (List.map (fun (q_1865 : (T3 Str Int Int)) => (m_move_back z_1723.1 q_1865)) (List.reverse moves_1795)))))) = true → g_law_23 S_1797) ∧ ((decide ((rp (enc back_1861)) ≠ (rp (enc (List.map (fun (q_1865 : (T3 Str Int Int)) => (m_move_back z_1723.1 q_1865)) (List.reverse moves_1795)))))) = false → g_law_24 web_1729 z_1735 S_1797 n_1846 back_1861)
def m_law_26 (S_1797 : Src) : Except (Bool × Src) Src := (Except.error (false, S_1797))
def g_law_26 (S_1797 : Src) : Prop := True
def m_law_27 (z_1723 : (Int × Int)) (web_1729 : (T3 Int Int (List (T3 Int Int Int)))) (z_1735 : (Str × (List (List Int)))) (moves_1795 : (List (T3 Str Int Int))) (S_1797 : Src) (n_1846 : (List (T3 Int Int (List (T3 Int Int Int))))) : Except (Bool × Src) Src := (m_law_25 z_1723 web_1729 z_1735 moves_1795 S_1797 n_1846 (m_moves_back z_1723.1 moves_1795))
def g_law_27 (z_1723 : (Int × Int)) (web_1729 : (T3 Int Int (List (T3 Int Int Int)))) (z_1735 : (Str × (List (List Int)))) (moves_1795 : (List (T3 Str Int Int))) (S_1797 : Src) (n_1846 : (List (T3 Int Int (List (T3 Int Int Int))))) : Prop := (g_moves_back z_1723.1 moves_1795) ∧ (g_law_25 z_1723 web_1729 z_1735 moves_1795 S_1797 n_1846 (m_moves_back z_1723.1 moves_1795))
def m_law_28 (z_1723 : (Int × Int)) (web_1729 : (T3 Int Int (List (T3 Int Int Int)))) (z_1735 : (Str × (List (List Int)))) (moves_1795 : (List (T3 Str Int Int))) (S_1797 : Src) (n_1846 : (List (T3 Int Int (List (T3 Int Int Int))))) : Except (Bool × Src) Src := (if (decide ((rp (PyData.list [(enc (m_webs_along web_1729 moves_1795)), (enc (m_made_moves web_1729 moves_1795))])) ≠ (rp (PyData.list [(enc n_1846), (enc (getI n_1846 (-(1 : Int))))])))) = true then m_law_26 S_1797 else m_law_27 z_1723 web_1729 z_1735 moves_1795 S_1797 n_1846)
def g_law_28 (z_1723 : (Int × Int)) (web_1729 : (T3 Int Int (List (T3 Int Int Int)))) (z_1735 : (Str × (List (List Int)))) (moves_1795 : (List (T3 Str Int Int))) (S_1797 : Src) (n_1846 : (List (T3 Int Int (List (T3 Int Int Int))))) : Prop := (g_webs_along web_1729 moves_1795) ∧ (g_made_moves web_1729 moves_1795) ∧ (RpOk (PyData.list [(enc (m_webs_along web_1729 moves_1795)), (enc (m_made_moves web_1729 moves_1795))])) ∧ (InB n_1846 (-(1 : Int))) ∧ (RpOk (PyData.list [(enc n_1846), (enc (getI n_1846 (-(1 : Int))))])) ∧ ((decide ((rp (PyData.list [(enc (m_webs_along web_1729 moves_1795)), (enc (m_made_moves web_1729 moves_1795))])) ≠ (rp (PyData.list [(enc n_1846), (enc (getI n_1846 (-(1 : Int))))])))) = true → g_law_26 S_1797) ∧ ((decide ((rp (PyData.list [(enc (m_webs_along web_1729 moves_1795)), (enc (m_made_moves web_1729 moves_1795))])) ≠ (rp (PyData.list [(enc n_1846), (enc (getI n_1846 (-(1 : Int))))])))) = false → g_law_27 z_1723 web_1729 z_1735 moves_1795 S_1797 n_1846)
def m_law_29 (z_1723 : (Int × Int)) (web_1729 : (T3 Int Int (List (T3 Int Int Int)))) (z_1735 : (Str × (List (List Int)))) (moves_1795 : (List (T3 Str Int Int))) (S_1797 : Src) (found_1799 : (List (T3 Int Int (List (T3 Int Int Int))))) : Except (Bool × Src) Src := (bindXX (foldX (fun (n_1804 : (List (T3 Int Int (List (T3 Int Int Int))))) (q_1805 : (T3 Str Int Int)) => m_law_10 z_1723 S_1797 n_1804 q_1805) moves_1795 (found_1799 : (List (T3 Int Int (List (T3 Int Int Int)))))) (fun (n_1846 : (List (T3 Int Int (List (T3 Int Int Int))))) => m_law_28 z_1723 web_1729 z_1735 moves_1795 S_1797 n_1846))
def g_law_29 (z_1723 : (Int × Int)) (web_1729 : (T3 Int Int (List (T3 Int Int Int)))) (z_1735 : (Str × (List (List Int)))) (moves_1795 : (List (T3 Str Int Int))) (S_1797 : Src) (found_1799 : (List (T3 Int Int (List (T3 Int Int Int))))) : Prop := (FX (fun (n_1804 : (List (T3 Int Int (List (T3 Int Int Int))))) (q_1805 : (T3 Str Int Int)) => g_law_10 z_1723 S_1797 n_1804 q_1805) (fun (n_1804 : (List (T3 Int Int (List (T3 Int Int Int))))) (q_1805 : (T3 Str Int Int)) => m_law_10 z_1723 S_1797 n_1804 q_1805) moves_1795 (found_1799 : (List (T3 Int Int (List (T3 Int Int Int)))))) ∧ (okX (foldX (fun (n_1804 : (List (T3 Int Int (List (T3 Int Int Int))))) (q_1805 : (T3 Str Int Int)) => m_law_10 z_1723 S_1797 n_1804 q_1805) moves_1795 (found_1799 : (List (T3 Int Int (List (T3 Int Int Int)))))) (fun (n_1846 : (List (T3 Int Int (List (T3 Int Int Int))))) => g_law_28 z_1723 web_1729 z_1735 moves_1795 S_1797 n_1846))
def m_law_30 (z_1723 : (Int × Int)) (web_1729 : (T3 Int Int (List (T3 Int Int Int)))) (z_1735 : (Str × (List (List Int)))) (moves_1795 : (List (T3 Str Int Int))) (S_1797 : Src) : Except (Bool × Src) Src := (m_law_29 z_1723 web_1729 z_1735 moves_1795 S_1797 ([web_1729] : List (T3 Int Int (List (T3 Int Int Int)))))
def g_law_30 (z_1723 : (Int × Int)) (web_1729 : (T3 Int Int (List (T3 Int Int Int)))) (z_1735 : (Str × (List (List Int)))) (moves_1795 : (List (T3 Str Int Int))) (S_1797 : Src) : Prop := (g_law_29 z_1723 web_1729 z_1735 moves_1795 S_1797 ([web_1729] : List (T3 Int Int (List (T3 Int Int Int)))))
def m_law_31 (S_1757 : Src) : Except (Bool × Src) Src := (Except.error (false, S_1757))
def g_law_31 (S_1757 : Src) : Prop := True
def m_law_32 (q_1717 : Int) (z_1723 : (Int × Int)) (web_1729 : (T3 Int Int (List (T3 Int Int Int)))) (z_1735 : (Str × (List (List Int)))) (S_1757 : Src) : Except (Bool × Src) Src := (m_law_30 z_1723 web_1729 z_1735 ((mapS (fun (S_1793 : Src) (q_1789 : Int) => ((m__law_move z_1723.1 z_1723.2 (S_1793)).1, (m__law_move z_1723.1 z_1723.2 (S_1793)).2)) ((m__law_pick (getI ([(5 : Int), (25 : Int), (40 : Int), (200 : Int)] : List Int) q_1717) S_1757).2) (rngI 0 (Int.toNat ((m__law_pick (getI ([(5 : Int), (25 : Int), (40 : Int), (200 : Int)] : List Int) q_1717) S_1757).1)))).1) ((mapS (fun (S_1793 : Src) (q_1789 : Int) => ((m__law_move z_1723.1 z_1723.2 (S_1793)).1, (m__law_move z_1723.1 z_1723.2 (S_1793)).2)) ((m__law_pick (getI ([(5 : Int), (25 : Int), (40 : Int), (200 : Int)] : List Int) q_1717) S_1757).2) (rngI 0 (Int.toNat ((m__law_pick (getI ([(5 : Int), (25 : Int), (40 : Int), (200 : Int)] : List Int) q_1717) S_1757).1)))).2))
def g_law_32 (q_1717 : Int) (z_1723 : (Int × Int)) (web_1729 : (T3 Int Int (List (T3 Int Int Int)))) (z_1735 : (Str × (List (List Int)))) (S_1757 : Src) : Prop := (InB ([(5 : Int), (25 : Int), (40 : Int), (200 : Int)] : List Int) q_1717) ∧ (g__law_pick (getI ([(5 : Int), (25 : Int), (40 : Int), (200 : Int)] : List Int) q_1717) S_1757) ∧ (RngOk ((m__law_pick (getI ([(5 : Int), (25 : Int), (40 : Int), (200 : Int)] : List Int) q_1717) S_1757).1)) ∧ (GS (fun (S_1793 : Src) (q_1789 : Int) => ((m__law_move z_1723.1 z_1723.2 (S_1793)).1, (m__law_move z_1723.1 z_1723.2 (S_1793)).2)) (fun (S_1793 : Src) (q_1789 : Int) => (g__law_move z_1723.1 z_1723.2 (S_1793))) ((m__law_pick (getI ([(5 : Int), (25 : Int), (40 : Int), (200 : Int)] : List Int) q_1717) S_1757).2) (rngI 0 (Int.toNat ((m__law_pick (getI ([(5 : Int), (25 : Int), (40 : Int), (200 : Int)] : List Int) q_1717) S_1757).1)))) ∧ (g_law_30 z_1723 web_1729 z_1735 ((mapS (fun (S_1793 : Src) (q_1789 : Int) => ((m__law_move z_1723.1 z_1723.2 (S_1793)).1, (m__law_move z_1723.1 z_1723.2 (S_1793)).2)) ((m__law_pick (getI ([(5 : Int), (25 : Int), (40 : Int), (200 : Int)] : List Int) q_1717) S_1757).2) (rngI 0 (Int.toNat ((m__law_pick (getI ([(5 : Int), (25 : Int), (40 : Int), (200 : Int)] : List Int) q_1717) S_1757).1)))).1) ((mapS (fun (S_1793 : Src) (q_1789 : Int) => ((m__law_move z_1723.1 z_1723.2 (S_1793)).1, (m__law_move z_1723.1 z_1723.2 (S_1793)).2)) ((m__law_pick (getI ([(5 : Int), (25 : Int), (40 : Int), (200 : Int)] : List Int) q_1717) S_1757).2) (rngI 0 (Int.toNat ((m__law_pick (getI ([(5 : Int), (25 : Int), (40 : Int), (200 : Int)] : List Int) q_1717) S_1757).1)))).2))
def m_law_33 (q_1717 : Int) (z_1723 : (Int × Int)) (web_1729 : (T3 Int Int (List (T3 Int Int Int)))) (z_1735 : (Str × (List (List Int)))) (z_1755 : (Int × Int)) (S_1757 : Src) (near_1769 : (List (Int × Int))) : Except (Bool × Src) Src := (if (decide ((rp (PyData.list [(enc (m_weight_at web_1729 z_1755.1 z_1755.2)), (PyData.list (encs (m_tied_to web_1729 z_1755.2)))])) ≠ (rp (PyData.list [(enc (getI (getI z_1735.2 z_1755.1) z_1755.2)), (PyData.list (encs near_1769))])))) = true then m_law_31 S_1757 else m_law_32 q_1717 z_1723 web_1729 z_1735 S_1757)
def g_law_33 (q_1717 : Int) (z_1723 : (Int × Int)) (web_1729 : (T3 Int Int (List (T3 Int Int Int)))) (z_1735 : (Str × (List (List Int)))) (z_1755 : (Int × Int)) (S_1757 : Src) (near_1769 : (List (Int × Int))) : Prop := (g_weight_at web_1729 z_1755.1 z_1755.2) ∧ (g_tied_to web_1729 z_1755.2) ∧ (RpOk (PyData.list [(enc (m_weight_at web_1729 z_1755.1 z_1755.2)), (PyData.list (encs (m_tied_to web_1729 z_1755.2)))])) ∧ (InB z_1735.2 z_1755.1) ∧ (InB (getI z_1735.2 z_1755.1) z_1755.2) ∧ (RpOk (PyData.list [(enc (getI (getI z_1735.2 z_1755.1) z_1755.2)), (PyData.list (encs near_1769))])) ∧ ((decide ((rp (PyData.list [(enc (m_weight_at web_1729 z_1755.1 z_1755.2)), (PyData.list (encs (m_tied_to web_1729 z_1755.2)))])) ≠ (rp (PyData.list [(enc (getI (getI z_1735.2 z_1755.1) z_1755.2)), (PyData.list (encs near_1769))])))) = true → g_law_31 S_1757) ∧ ((decide ((rp (PyData.list [(enc (m_weight_at web_1729 z_1755.1 z_1755.2)), (PyData.list (encs (m_tied_to web_1729 z_1755.2)))])) ≠ (rp (PyData.list [(enc (getI (getI z_1735.2 z_1755.1) z_1755.2)), (PyData.list (encs near_1769))])))) = false → g_law_32 q_1717 z_1723 web_1729 z_1735 S_1757)
def m_law_34 (q_1717 : Int) (z_1723 : (Int × Int)) (web_1729 : (T3 Int Int (List (T3 Int Int Int)))) (z_1735 : (Str × (List (List Int)))) (z_1755 : (Int × Int)) (S_1757 : Src) : Except (Bool × Src) Src := (m_law_33 q_1717 z_1723 web_1729 z_1735 z_1755 S_1757 (List.map (fun (q_1760 : Int) => (q_1760, (getI (getI z_1735.2 z_1755.2) q_1760))) (List.filter (fun (q_1760 : Int) => decide ((getI (getI z_1735.2 z_1755.2) q_1760) ≠ (0 : Int))) (rngI 0 (Int.toNat z_1723.2)))))
def g_law_34 (q_1717 : Int) (z_1723 : (Int × Int)) (web_1729 : (T3 Int Int (List (T3 Int Int Int)))) (z_1735 : (Str × (List (List Int)))) (z_1755 : (Int × Int)) (S_1757 : Src) : Prop := (RngOk z_1723.2) ∧ (∀ q_1760 ∈ (rngI 0 (Int.toNat z_1723.2)), (InB z_1735.2 z_1755.2) ∧ (InB (getI z_1735.2 z_1755.2) q_1760) ∧ (decide ((getI (getI z_1735.2 z_1755.2) q_1760) ≠ (0 : Int)) = true → (InB z_1735.2 z_1755.2) ∧ (InB (getI z_1735.2 z_1755.2) q_1760))) ∧ (g_law_33 q_1717 z_1723 web_1729 z_1735 z_1755 S_1757 (List.map (fun (q_1760 : Int) => (q_1760, (getI (getI z_1735.2 z_1755.2) q_1760))) (List.filter (fun (q_1760 : Int) => decide ((getI (getI z_1735.2 z_1755.2) q_1760) ≠ (0 : Int))) (rngI 0 (Int.toNat z_1723.2)))))
def m_law_35 (S_1731 : Src) : Except (Bool × Src) Src := (Except.error (false, S_1731))
def g_law_35 (S_1731 : Src) : Prop := True
def m_law_36 (q_1717 : Int) (z_1723 : (Int × Int)) (web_1729 : (T3 Int Int (List (T3 Int Int Int)))) (S_1731 : Src) (z_1735 : (Str × (List (List Int)))) : Except (Bool × Src) Src := (m_law_34 q_1717 z_1723 web_1729 z_1735 ((m__law_pick z_1723.2 S_1731).1, (m__law_pick z_1723.2 ((m__law_pick z_1723.2 S_1731).2)).1) ((m__law_pick z_1723.2 ((m__law_pick z_1723.2 S_1731).2)).2))
def g_law_36 (q_1717 : Int) (z_1723 : (Int × Int)) (web_1729 : (T3 Int Int (List (T3 Int Int Int)))) (S_1731 : Src) (z_1735 : (Str × (List (List Int)))) : Prop := (g__law_pick z_1723.2 S_1731) ∧ (g__law_pick z_1723.2 ((m__law_pick z_1723.2 S_1731).2)) ∧ (g_law_34 q_1717 z_1723 web_1729 z_1735 ((m__law_pick z_1723.2 S_1731).1, (m__law_pick z_1723.2 ((m__law_pick z_1723.2 S_1731).2)).1) ((m__law_pick z_1723.2 ((m__law_pick z_1723.2 S_1731).2)).2))
def m_law_37 (q_1717 : Int) (z_1723 : (Int × Int)) (web_1729 : (T3 Int Int (List (T3 Int Int Int)))) (S_1731 : Src) (z_1735 : (Str × (List (List Int)))) : Except (Bool × Src) Src := (if ((decide ((rp (enc (m_table_of web_1729))) ≠ (rp (enc (List.map (fun (q_1740 : (List Int)) => q_1740) z_1735.2)))) || decide ((rp (enc (m_web_of z_1723.1 (m_table_of web_1729)))) ≠ z_1735.1))) = true then m_law_35 S_1731 else m_law_36 q_1717 z_1723 web_1729 S_1731 z_1735)
def g_law_37 (q_1717 : Int) (z_1723 : (Int × Int)) (web_1729 : (T3 Int Int (List (T3 Int Int Int)))) (S_1731 : Src) (z_1735 : (Str × (List (List Int)))) : Prop := (g_table_of web_1729) ∧ (RpOk (enc (m_table_of web_1729))) ∧ (RpOk (enc (List.map (fun (q_1740 : (List Int)) => q_1740) z_1735.2))) ∧ (decide ((rp (enc (m_table_of web_1729))) ≠ (rp (enc (List.map (fun (q_1740 : (List Int)) => q_1740) z_1735.2)))) = false → (g_table_of web_1729) ∧ (g_web_of z_1723.1 (m_table_of web_1729)) ∧ (RpOk (enc (m_web_of z_1723.1 (m_table_of web_1729))))) ∧ (((decide ((rp (enc (m_table_of web_1729))) ≠ (rp (enc (List.map (fun (q_1740 : (List Int)) => q_1740) z_1735.2)))) || decide ((rp (enc (m_web_of z_1723.1 (m_table_of web_1729)))) ≠ z_1735.1))) = true → g_law_35 S_1731) ∧ (((decide ((rp (enc (m_table_of web_1729))) ≠ (rp (enc (List.map (fun (q_1740 : (List Int)) => q_1740) z_1735.2)))) || decide ((rp (enc (m_web_of z_1723.1 (m_table_of web_1729)))) ≠ z_1735.1))) = false → g_law_36 q_1717 z_1723 web_1729 S_1731 z_1735)
def m_law_38 (q_1717 : Int) (z_1723 : (Int × Int)) (web_1729 : (T3 Int Int (List (T3 Int Int Int)))) (S_1731 : Src) : Except (Bool × Src) Src := (m_law_37 q_1717 z_1723 web_1729 S_1731 ((rp (enc web_1729)), (m__law_table web_1729)))
def g_law_38 (q_1717 : Int) (z_1723 : (Int × Int)) (web_1729 : (T3 Int Int (List (T3 Int Int Int)))) (S_1731 : Src) : Prop := (RpOk (enc web_1729)) ∧ (g__law_table web_1729) ∧ (g_law_37 q_1717 z_1723 web_1729 S_1731 ((rp (enc web_1729)), (m__law_table web_1729)))
def m_law_39 (q_1717 : Int) (z_1723 : (Int × Int)) (S_1725 : Src) : Except (Bool × Src) Src := (m_law_38 q_1717 z_1723 ((m__law_web z_1723.1 z_1723.2 ((2 : Int) + (m__law_pick (2 : Int) S_1725).1) ((m__law_pick (2 : Int) S_1725).2)).1) ((m__law_web z_1723.1 z_1723.2 ((2 : Int) + (m__law_pick (2 : Int) S_1725).1) ((m__law_pick (2 : Int) S_1725).2)).2))
def g_law_39 (q_1717 : Int) (z_1723 : (Int × Int)) (S_1725 : Src) : Prop := (g__law_pick (2 : Int) S_1725) ∧ (g__law_web z_1723.1 z_1723.2 ((2 : Int) + (m__law_pick (2 : Int) S_1725).1) ((m__law_pick (2 : Int) S_1725).2)) ∧ (g_law_38 q_1717 z_1723 ((m__law_web z_1723.1 z_1723.2 ((2 : Int) + (m__law_pick (2 : Int) S_1725).1) ((m__law_pick (2 : Int) S_1725).2)).1) ((m__law_web z_1723.1 z_1723.2 ((2 : Int) + (m__law_pick (2 : Int) S_1725).1) ((m__law_pick (2 : Int) S_1725).2)).2))
def m_law_40 (n_1716 : Src) (q_1717 : Int) : Except (Bool × Src) Src := (m_law_39 q_1717 ((getI ([(2 : Int), (3 : Int), (5 : Int), (7 : Int)] : List Int) ((m__law_pick (4 : Int) n_1716).1)), ((1 : Int) + (m__law_pick (getI ([(4 : Int), (6 : Int), (8 : Int), (8 : Int)] : List Int) q_1717) ((m__law_pick (4 : Int) n_1716).2)).1)) ((m__law_pick (getI ([(4 : Int), (6 : Int), (8 : Int), (8 : Int)] : List Int) q_1717) ((m__law_pick (4 : Int) n_1716).2)).2))
def g_law_40 (n_1716 : Src) (q_1717 : Int) : Prop := (g__law_pick (4 : Int) n_1716) ∧ (InB ([(2 : Int), (3 : Int), (5 : Int), (7 : Int)] : List Int) ((m__law_pick (4 : Int) n_1716).1)) ∧ (InB ([(4 : Int), (6 : Int), (8 : Int), (8 : Int)] : List Int) q_1717) ∧ (g__law_pick (getI ([(4 : Int), (6 : Int), (8 : Int), (8 : Int)] : List Int) q_1717) ((m__law_pick (4 : Int) n_1716).2)) ∧ (g_law_39 q_1717 ((getI ([(2 : Int), (3 : Int), (5 : Int), (7 : Int)] : List Int) ((m__law_pick (4 : Int) n_1716).1)), ((1 : Int) + (m__law_pick (getI ([(4 : Int), (6 : Int), (8 : Int), (8 : Int)] : List Int) q_1717) ((m__law_pick (4 : Int) n_1716).2)).1)) ((m__law_pick (getI ([(4 : Int), (6 : Int), (8 : Int), (8 : Int)] : List Int) q_1717) ((m__law_pick (4 : Int) n_1716).2)).2))
def m_law_41 (n_1936 : Src) : (Bool × Src) := (decide ((m_turned (T3.mk ((T3.mk (3 : Int) (3 : Int) ((T3.mk (0 : Int) (1 : Int) (1 : Int)), (T3.mk (1 : Int) (2 : Int) (1 : Int)))).a) ((T3.mk (3 : Int) (3 : Int) ((T3.mk (0 : Int) (1 : Int) (1 : Int)), (T3.mk (1 : Int) (2 : Int) (1 : Int)))).b) [((T3.mk (3 : Int) (3 : Int) ((T3.mk (0 : Int) (1 : Int) (1 : Int)), (T3.mk (1 : Int) (2 : Int) (1 : Int)))).c).1, ((T3.mk (3 : Int) (3 : Int) ((T3.mk (0 : Int) (1 : Int) (1 : Int)), (T3.mk (1 : Int) (2 : Int) (1 : Int)))).c).2]) (1 : Int) (1 : Int)) = (T3.mk ((T3.mk (3 : Int) (3 : Int) (T3.mk (T3.mk (0 : Int) (1 : Int) (1 : Int)) (T3.mk (0 : Int) (2 : Int) (1 : Int)) (T3.mk (1 : Int) (2 : Int) (1 : Int)))).a) ((T3.mk (3 : Int) (3 : Int) (T3.mk (T3.mk (0 : Int) (1 : Int) (1 : Int)) (T3.mk (0 : Int) (2 : Int) (1 : Int)) (T3.mk (1 : Int) (2 : Int) (1 : Int)))).b) [((T3.mk (3 : Int) (3 : Int) (T3.mk (T3.mk (0 : Int) (1 : Int) (1 : Int)) (T3.mk (0 : Int) (2 : Int) (1 : Int)) (T3.mk (1 : Int) (2 : Int) (1 : Int)))).c).a, ((T3.mk (3 : Int) (3 : Int) (T3.mk (T3.mk (0 : Int) (1 : Int) (1 : Int)) (T3.mk (0 : Int) (2 : Int) (1 : Int)) (T3.mk (1 : Int) (2 : Int) (1 : Int)))).c).b, ((T3.mk (3 : Int) (3 : Int) (T3.mk (T3.mk (0 : Int) (1 : Int) (1 : Int)) (T3.mk (0 : Int) (2 : Int) (1 : Int)) (T3.mk (1 : Int) (2 : Int) (1 : Int)))).c).c])), n_1936)
def g_law_41 (n_1936 : Src) : Prop := (g_turned (T3.mk ((T3.mk (3 : Int) (3 : Int) ((T3.mk (0 : Int) (1 : Int) (1 : Int)), (T3.mk (1 : Int) (2 : Int) (1 : Int)))).a) ((T3.mk (3 : Int) (3 : Int) ((T3.mk (0 : Int) (1 : Int) (1 : Int)), (T3.mk (1 : Int) (2 : Int) (1 : Int)))).b) [((T3.mk (3 : Int) (3 : Int) ((T3.mk (0 : Int) (1 : Int) (1 : Int)), (T3.mk (1 : Int) (2 : Int) (1 : Int)))).c).1, ((T3.mk (3 : Int) (3 : Int) ((T3.mk (0 : Int) (1 : Int) (1 : Int)), (T3.mk (1 : Int) (2 : Int) (1 : Int)))).c).2]) (1 : Int) (1 : Int))
def m_law (S : Src) : Bool × Src := (bindX (foldX (fun (n_1716 : Src) (q_1717 : Int) => m_law_40 n_1716 q_1717) (rngI 0 (Int.toNat (4 : Int))) (S : Src)) (fun (n_1936 : Src) => m_law_41 n_1936))
def g_law (S : Src) : Prop := (RngOk (4 : Int)) ∧ (FX (fun (n_1716 : Src) (q_1717 : Int) => g_law_40 n_1716 q_1717) (fun (n_1716 : Src) (q_1717 : Int) => m_law_40 n_1716 q_1717) (rngI 0 (Int.toNat (4 : Int))) (S : Src)) ∧ (okX (foldX (fun (n_1716 : Src) (q_1717 : Int) => m_law_40 n_1716 q_1717) (rngI 0 (Int.toNat (4 : Int))) (S : Src)) (fun (n_1936 : Src) => g_law_41 n_1936))
end L2.Ev

set_option Elab.async false
set_option linter.all false
set_option maxRecDepth 100000
namespace L2.Ev
open PySem PySem.Spec PyProof.Rows
def topS (i : Nat) : Stmt := PySem.Challenge.pw_turnedweights_k09_whole_moves_and_ways_b.main.body.getD i (.Pass ⟨0, 0, 0, 0⟩)
abbrev s__law_open_cells : Stmt := topS 18
theorem sc__law_open_cells : FnScope ["script", "stirred", "cell", "cells"] ["script"] (defScope s__law_open_cells) := ⟨rfl, rfl, rfl, by decide +kernel, rfl, by decide +kernel, by decide +kernel⟩
abbrev s__law_pick : Stmt := topS 19
theorem sc__law_pick : FnScope ["source", "most", "cells", "others", "lap", "stirred"] ["source", "most"] (defScope s__law_pick) := ⟨rfl, rfl, rfl, by decide +kernel, rfl, by decide +kernel, by decide +kernel⟩
abbrev s__law_web : Stmt := topS 21
theorem sc__law_web : FnScope ["source", "p", "n", "share", "ties", "u", "v"] ["source", "p", "n", "share"] (defScope s__law_web) := ⟨rfl, rfl, rfl, by decide +kernel, rfl, by decide +kernel, by decide +kernel⟩
abbrev s__law_table : Stmt := topS 22
theorem sc__law_table : FnScope ["web", "u", "rows", "v", "w"] ["web"] (defScope s__law_table) := ⟨rfl, rfl, rfl, by decide +kernel, rfl, by decide +kernel, by decide +kernel⟩
abbrev s_table_of : Stmt := topS 3
theorem sc_table_of : FnScope ["web", "p", "n", "ties", "u", "rows", "v", "w", "row"] ["web"] (defScope s_table_of) := ⟨rfl, rfl, rfl, by decide +kernel, rfl, by decide +kernel, by decide +kernel⟩
abbrev s_web_of : Stmt := topS 4
theorem sc_web_of : FnScope ["p", "table", "n", "ties", "u", "v"] ["p", "table"] (defScope s_web_of) := ⟨rfl, rfl, rfl, by decide +kernel, rfl, by decide +kernel, by decide +kernel⟩
abbrev s_weight_at : Stmt := topS 5
theorem sc_weight_at : FnScope ["web", "u", "v", "one", "other", "w", "some"] ["web", "u", "v"] (defScope s_weight_at) := ⟨rfl, rfl, rfl, by decide +kernel, rfl, by decide +kernel, by decide +kernel⟩
abbrev s_tied_to : Stmt := topS 6
theorem sc_tied_to : FnScope ["web", "v", "found", "one", "other", "w"] ["web", "v"] (defScope s_tied_to) := ⟨rfl, rfl, rfl, by decide +kernel, rfl, by decide +kernel, by decide +kernel⟩
abbrev s__law_move : Stmt := topS 26
theorem sc__law_move : FnScope ["source", "p", "n"] ["source", "p", "n"] (defScope s__law_move) := ⟨rfl, rfl, rfl, by decide +kernel, rfl, by decide +kernel, by decide +kernel⟩
abbrev s__law_web_of : Stmt := topS 23
theorem sc__law_web_of : FnScope ["p", "rows", "ties", "u", "row", "v", "w"] ["p", "rows"] (defScope s__law_web_of) := ⟨rfl, rfl, rfl, by decide +kernel, rfl, by decide +kernel, by decide +kernel⟩
abbrev s__law_moved : Stmt := topS 24
theorem sc__law_moved : FnScope ["web", "move", "word", "v", "c", "p", "rows", "row", "late", "u", "x"] ["web", "move"] (defScope s__law_moved) := ⟨rfl, rfl, rfl, by decide +kernel, rfl, by decide +kernel, by decide +kernel⟩
abbrev s_turned : Stmt := topS 8
theorem sc_turned : FnScope ["web", "v", "c", "row", "rows", "near", "u", "one", "x", "other"] ["web", "v", "c"] (defScope s_turned) := ⟨rfl, rfl, rfl, by decide +kernel, rfl, by decide +kernel, by decide +kernel⟩
abbrev s_scaled : Stmt := topS 9
theorem sc_scaled : FnScope ["web", "v", "s", "p", "n", "ties", "one", "other", "w"] ["web", "v", "s"] (defScope s_scaled) := ⟨rfl, rfl, rfl, by decide +kernel, rfl, by decide +kernel, by decide +kernel⟩
abbrev s_moved : Stmt := topS 10
theorem sc_moved : FnScope ["web", "move", "word", "v", "c"] ["web", "move"] (defScope s_moved) := ⟨rfl, rfl, rfl, by decide +kernel, rfl, by decide +kernel, by decide +kernel⟩
abbrev s_inverse : Stmt := topS 1
theorem sc_inverse : FnScope ["p", "a", "b"] ["p", "a"] (defScope s_inverse) := ⟨rfl, rfl, rfl, by decide +kernel, rfl, by decide +kernel, by decide +kernel⟩
abbrev s_move_back : Stmt := topS 13
theorem sc_move_back : FnScope ["p", "move", "word", "v", "number"] ["p", "move"] (defScope s_move_back) := ⟨rfl, rfl, rfl, by decide +kernel, rfl, by decide +kernel, by decide +kernel⟩
abbrev s_webs_along : Stmt := topS 12
theorem sc_webs_along : FnScope ["web", "moves", "found", "move"] ["web", "moves"] (defScope s_webs_along) := ⟨rfl, rfl, rfl, by decide +kernel, rfl, by decide +kernel, by decide +kernel⟩
abbrev s_made_moves : Stmt := topS 11
theorem sc_made_moves : FnScope ["web", "moves", "move"] ["web", "moves"] (defScope s_made_moves) := ⟨rfl, rfl, rfl, by decide +kernel, rfl, by decide +kernel, by decide +kernel⟩
abbrev s_moves_back : Stmt := topS 14
theorem sc_moves_back : FnScope ["p", "moves", "move"] ["p", "moves"] (defScope s_moves_back) := ⟨rfl, rfl, rfl, by decide +kernel, rfl, by decide +kernel, by decide +kernel⟩
abbrev s__law_along_right : Stmt := topS 27
theorem sc__law_along_right : FnScope ["source", "web", "p", "n", "u", "v", "turn", "c", "d", "s", "t", "twice", "both"] ["source", "web"] (defScope s__law_along_right) := ⟨rfl, rfl, rfl, by decide +kernel, rfl, by decide +kernel, by decide +kernel⟩
abbrev s__law_of : Stmt := topS 20
theorem sc__law_of : FnScope ["source", "some"] ["source", "some"] (defScope s__law_of) := ⟨rfl, rfl, rfl, by decide +kernel, rfl, by decide +kernel, by decide +kernel⟩
abbrev s_exchange_moves : Stmt := topS 15
theorem sc_exchange_moves : FnScope ["web", "v", "w", "a", "p", "weight", "back"] ["web", "v", "w", "a"] (defScope s_exchange_moves) := ⟨rfl, rfl, rfl, by decide +kernel, rfl, by decide +kernel, by decide +kernel⟩
abbrev s_exchanged : Stmt := topS 16
theorem sc_exchanged : FnScope ["web", "v", "w", "a", "p", "table", "by", "weight", "row", "rows", "u", "x"] ["web", "v", "w", "a"] (defScope s_exchanged) := ⟨rfl, rfl, rfl, by decide +kernel, rfl, by decide +kernel, by decide +kernel⟩
abbrev s__law_made : Stmt := topS 25
theorem sc__law_made : FnScope ["web", "moves", "move"] ["web", "moves"] (defScope s__law_made) := ⟨rfl, rfl, rfl, by decide +kernel, rfl, by decide +kernel, by decide +kernel⟩
abbrev s__law_exchange_right : Stmt := topS 28
theorem sc__law_exchange_right : FnScope ["source", "web", "u", "v", "p", "n", "a", "rows", "h", "moves", "x", "back", "late", "told", "w", "cross"] ["source", "web", "u", "v"] (defScope s__law_exchange_right) := ⟨rfl, rfl, rfl, by decide +kernel, rfl, by decide +kernel, by decide +kernel⟩
abbrev s_law : Stmt := topS 29
theorem sc_law : FnScope ["script", "source", "lap", "p", "n", "web", "kept", "rows", "row", "u", "v", "w", "near", "turn", "moves", "found", "move", "late", "due", "back", "tie", "one", "other"] ["script"] (defScope s_law) := ⟨rfl, rfl, rfl, by decide +kernel, rfl, by decide +kernel, by decide +kernel⟩
structure Kit (K : PySem.W.Frag) (mg : Str → Option Value) where
  a__law_open_cells : Addr
  d__law_open_cells : FuncData
  F__law_open_cells : Fun K "_law_open_cells" "_law_open_cells" s__law_open_cells a__law_open_cells d__law_open_cells
  B__law_open_cells : Binds K d__law_open_cells ["script"] []
  G__law_open_cells : mg "_law_open_cells" = some (.ref a__law_open_cells)
  a__law_pick : Addr
  d__law_pick : FuncData
  F__law_pick : Fun K "_law_pick" "_law_pick" s__law_pick a__law_pick d__law_pick
  B__law_pick : Binds K d__law_pick ["source", "most"] []
  G__law_pick : mg "_law_pick" = some (.ref a__law_pick)
  a__law_web : Addr
  d__law_web : FuncData
  F__law_web : Fun K "_law_web" "_law_web" s__law_web a__law_web d__law_web
  B__law_web : Binds K d__law_web ["source", "p", "n", "share"] []
  G__law_web : mg "_law_web" = some (.ref a__law_web)
  a__law_table : Addr
  d__law_table : FuncData
  F__law_table : Fun K "_law_table" "_law_table" s__law_table a__law_table d__law_table
  B__law_table : Binds K d__law_table ["web"] []
  G__law_table : mg "_law_table" = some (.ref a__law_table)
  a_table_of : Addr
  d_table_of : FuncData
  F_table_of : Fun K "table_of" "table_of" s_table_of a_table_of d_table_of
  B_table_of : Binds K d_table_of ["web"] []
  G_table_of : mg "table_of" = some (.ref a_table_of)
  a_web_of : Addr
  d_web_of : FuncData
  F_web_of : Fun K "web_of" "web_of" s_web_of a_web_of d_web_of
  B_web_of : Binds K d_web_of ["p", "table"] []
  G_web_of : mg "web_of" = some (.ref a_web_of)
  a_weight_at : Addr
  d_weight_at : FuncData
  F_weight_at : Fun K "weight_at" "weight_at" s_weight_at a_weight_at d_weight_at
  B_weight_at : Binds K d_weight_at ["web", "u", "v"] []
  G_weight_at : mg "weight_at" = some (.ref a_weight_at)
  a_tied_to : Addr
  d_tied_to : FuncData
  F_tied_to : Fun K "tied_to" "tied_to" s_tied_to a_tied_to d_tied_to
  B_tied_to : Binds K d_tied_to ["web", "v"] []
  G_tied_to : mg "tied_to" = some (.ref a_tied_to)
  a__law_move : Addr
  d__law_move : FuncData
  F__law_move : Fun K "_law_move" "_law_move" s__law_move a__law_move d__law_move
  B__law_move : Binds K d__law_move ["source", "p", "n"] []
  G__law_move : mg "_law_move" = some (.ref a__law_move)
  a__law_web_of : Addr
  d__law_web_of : FuncData
  F__law_web_of : Fun K "_law_web_of" "_law_web_of" s__law_web_of a__law_web_of d__law_web_of
  B__law_web_of : Binds K d__law_web_of ["p", "rows"] []
  G__law_web_of : mg "_law_web_of" = some (.ref a__law_web_of)
  a__law_moved : Addr
  d__law_moved : FuncData
  F__law_moved : Fun K "_law_moved" "_law_moved" s__law_moved a__law_moved d__law_moved
  B__law_moved : Binds K d__law_moved ["web", "move"] []
  G__law_moved : mg "_law_moved" = some (.ref a__law_moved)
  a_turned : Addr
  d_turned : FuncData
  F_turned : Fun K "turned" "turned" s_turned a_turned d_turned
  B_turned : Binds K d_turned ["web", "v", "c"] []
  G_turned : mg "turned" = some (.ref a_turned)
  a_scaled : Addr
  d_scaled : FuncData
  F_scaled : Fun K "scaled" "scaled" s_scaled a_scaled d_scaled
  B_scaled : Binds K d_scaled ["web", "v", "s"] []
  G_scaled : mg "scaled" = some (.ref a_scaled)
  a_moved : Addr
  d_moved : FuncData
  F_moved : Fun K "moved" "moved" s_moved a_moved d_moved
  B_moved : Binds K d_moved ["web", "move"] []
  G_moved : mg "moved" = some (.ref a_moved)
  a_inverse : Addr
  d_inverse : FuncData
  F_inverse : Fun K "inverse" "inverse" s_inverse a_inverse d_inverse
  B_inverse : Binds K d_inverse ["p", "a"] []
  G_inverse : mg "inverse" = some (.ref a_inverse)
  a_move_back : Addr
  d_move_back : FuncData
  F_move_back : Fun K "move_back" "move_back" s_move_back a_move_back d_move_back
  B_move_back : Binds K d_move_back ["p", "move"] []
  G_move_back : mg "move_back" = some (.ref a_move_back)
  a_webs_along : Addr
  d_webs_along : FuncData
  F_webs_along : Fun K "webs_along" "webs_along" s_webs_along a_webs_along d_webs_along
  B_webs_along : Binds K d_webs_along ["web", "moves"] []
  G_webs_along : mg "webs_along" = some (.ref a_webs_along)
  a_made_moves : Addr
  d_made_moves : FuncData
  F_made_moves : Fun K "made_moves" "made_moves" s_made_moves a_made_moves d_made_moves
  B_made_moves : Binds K d_made_moves ["web", "moves"] []
  G_made_moves : mg "made_moves" = some (.ref a_made_moves)
  a_moves_back : Addr
  d_moves_back : FuncData
  F_moves_back : Fun K "moves_back" "moves_back" s_moves_back a_moves_back d_moves_back
  B_moves_back : Binds K d_moves_back ["p", "moves"] []
  G_moves_back : mg "moves_back" = some (.ref a_moves_back)
  a__law_along_right : Addr
  d__law_along_right : FuncData
  F__law_along_right : Fun K "_law_along_right" "_law_along_right" s__law_along_right a__law_along_right d__law_along_right
  B__law_along_right : Binds K d__law_along_right ["source", "web"] []
  G__law_along_right : mg "_law_along_right" = some (.ref a__law_along_right)
  a__law_of : Addr
  d__law_of : FuncData
  F__law_of : Fun K "_law_of" "_law_of" s__law_of a__law_of d__law_of
  B__law_of : Binds K d__law_of ["source", "some"] []
  G__law_of : mg "_law_of" = some (.ref a__law_of)
  a_exchange_moves : Addr
  d_exchange_moves : FuncData
  F_exchange_moves : Fun K "exchange_moves" "exchange_moves" s_exchange_moves a_exchange_moves d_exchange_moves
  B_exchange_moves : Binds K d_exchange_moves ["web", "v", "w", "a"] []
  G_exchange_moves : mg "exchange_moves" = some (.ref a_exchange_moves)
  a_exchanged : Addr
  d_exchanged : FuncData
  F_exchanged : Fun K "exchanged" "exchanged" s_exchanged a_exchanged d_exchanged
  B_exchanged : Binds K d_exchanged ["web", "v", "w", "a"] []
  G_exchanged : mg "exchanged" = some (.ref a_exchanged)
  a__law_made : Addr
  d__law_made : FuncData
  F__law_made : Fun K "_law_made" "_law_made" s__law_made a__law_made d__law_made
  B__law_made : Binds K d__law_made ["web", "moves"] []
  G__law_made : mg "_law_made" = some (.ref a__law_made)
  a__law_exchange_right : Addr
  d__law_exchange_right : FuncData
  F__law_exchange_right : Fun K "_law_exchange_right" "_law_exchange_right" s__law_exchange_right a__law_exchange_right d__law_exchange_right
  B__law_exchange_right : Binds K d__law_exchange_right ["source", "web", "u", "v"] []
  G__law_exchange_right : mg "_law_exchange_right" = some (.ref a__law_exchange_right)
  a_law : Addr
  d_law : FuncData
  F_law : Fun K "law" "law" s_law a_law d_law
  B_law : Binds K d_law ["script"] []
  G_law : mg "law" = some (.ref a_law)
  z_abs : mg "abs" = none
  z_enumerate : mg "enumerate" = none
  z_int : mg "int" = none
  z_len : mg "len" = none
  z_list : mg "list" = none
  z_range : mg "range" = none
  z_repr : mg "repr" = none
  z_sorted : mg "sorted" = none
  z_tuple : mg "tuple" = none
set_option maxHeartbeats 0 in
theorem ok__law_open_cells {P : Program} {w : World} {K : PySem.W.Frag} {mg : Str → Option Value} {base : Heap} (T : Kit K mg) : FnG P w K mg base 1 T.a__law_open_cells T.d__law_open_cells ["script"] (spOpen K) := by
  refine fnG_of T.F__law_open_cells sc__law_open_cells (fun vs H Q E h => ?_) fun cd A outer s H vs Q E hr hg h => ?_
  · obtain ⟨a, ns, rfl, _⟩ := h; rfl
  obtain ⟨a, ns, rfl, hs, hz, q⟩ := h
  refine ⟨_, pss_cons (ps_set (i := 1) sc__law_open_cells.nd rfl (.inl rfl) pe_int)
   (pss_cons (ps_for PassesOwn.never rfl (pi_list (pv 0)) (pg_name (i := 2) sc__law_open_cells.nd rfl (.inl rfl)) (pss_one (ps_set (i := 1) sc__law_open_cells.nd rfl (.inl rfl)
      (pe_op op_mod (pe_callTy call_int1 (by rfl) T.z_int PyProof.Rows.boot_int (pa_cons (pe_op op_add (pe_op op_add (pe_op op_mul (pv 1) pe_int) (pe_op op_mul (pv 2) pe_int)) pe_int) pa_nil)) pe_int))))
   (pss_cons (plc (sa := Option.none) (S0 := openS ns) (i := 3) (fun (x : Int) => True) (fun (x : Int) => [some (.b (encs ns)), some (.p (enc (stir ns))), some (.p (enc x)), Option.none]) (fun (x : Int) => if x < 0 then -x else x) (ij_L (xs := ns) (δ := [some (.b (encs ns)), some (.p (enc (stir ns))), Option.none, Option.none]) (S := openS ns) (ev_varB 0 rfl (pv 0))) (fun _ _ => trivial)
      (fun x s H C cl fp => tg_name (pg_name (i := 2) sc__law_open_cells.nd rfl (.inl rfl))) (fun x _ s H C cl fp => ev_abs (by rfl) T.z_abs (ev_var 2 rfl (pv 2))) (by rfl) sc__law_open_cells.nd (blk_of (own := [("cell", 2)]) (by rfl)) (by decide) (by rfl) rfl (by rfl))
   (pss_one (ps_ret (pe_disp (pps_cons pe_str (pe_revL (pv 3)) (pps_cons pe_str pe_int (pps_cons pe_str (pv 1) (pps_cons pe_str pe_int pps_nil)))) rfl rfl (by intro h; cases h) (by decide)))))), ?_⟩
  refine ⟨.ref a, rfl, a, rfl, ⟨_, hs⟩, fun i k σ H' => ∃ x, σ = [some (.ref a), some (.int (stir (ns.take i))), x, none] ∧ H' = H ∧ i + k = ns.length, ⟨ns.length, none, rfl, rfl, by omega⟩, fun i k σ' H' => ?_⟩
  rintro ⟨x, rfl, rfl, hk⟩
  by_cases hi : i < ns.length
  · have hg : (ns.map V.int)[i]? = some (.int ns[i]) := by rw [List.getElem?_map, List.getElem?_eq_getElem hi]; rfl
    refine .inr ⟨⟨_, _, hs, hg⟩, fun σ H'' => ∃ x, σ = [some (.ref a), some (.int (stir (ns.take (i + 1)))), x, none] ∧ H'' = H', fun σ H'' ⟨x, e1, e2⟩ => ⟨k - 1, by omega, x, e1, e2, by omega⟩, fun v H'' hy => ?_⟩
    obtain ⟨rfl, fv⟩ := hy
    obtain rfl : v = .int ns[i] := Option.some.inj ((fv _ hs).symm.trans hg)
    refine ⟨.int (stir (ns.take i)), rfl, stir (ns.take i), 69069, rfl, rfl, .inr ⟨by decide, by decide⟩, .int ns[i], rfl, ns[i], 31, rfl, rfl, .inr ⟨by decide, by decide⟩, _, _, rfl, rfl, _, 5, rfl, rfl, .inl ⟨_, rfl, _, 2147483629, rfl, rfl, (show (0 : Int) < 2147483629 by decide), some (.int ns[i]), ?_, rfl⟩⟩
    have : stir (ns.take (i + 1)) = (stir (ns.take i) * 69069 + ns[i] * 31 + 5) % 2147483629 := by
      unfold stir
      rw [List.take_add_one, List.getElem?_eq_getElem hi, List.foldl_append]; rfl
    rw [this]; rfl
  · obtain rfl : i = ns.length := by omega
    refine .inl ⟨⟨_, hs, by rw [List.length_map]; omega⟩, ?_⟩
    rw [List.take_length]
    refine ⟨H', ok_script hs hz, fun p H1 hp ok1 e1 hl => ?_⟩
    obtain ⟨vs, g1, g2, g3, g4⟩ := hl
    have hv := dp_ints g2
    subst hv
    refine fun D hD => ?_
    have s1 : Same H1 (upd H1 D (.dK [])) := same_new hD
    refine ⟨.ref p, rfl, p, _, rfl, .inl (.of (s1 _ _ g1)), fun L hL => ⟨.int (stir ns), rfl, ?_⟩⟩
    have hpL : p ≠ L := fun z => by subst z; rw [s1 _ _ g1] at hL; cases hL
    have hDL : D ≠ L := fun z => by subst z; rw [upd_same] at hL; cases hL
    refine ⟨by rw [upd_ne hDL]; exact upd_same, [(.inr "cells", .ref L), (.inr "left", .int 1), (.inr "mixed", .int (stir ns)), (.inr "turn", .int 0)], rfl, by show (4 : Nat) ≤ 15; decide, ?_⟩
    refine q D L _ (fun b o e => ?_) ⟨?_, ?_, hDL, ?_⟩
    · have h1 := e1.cell b o e .empty
      have nD : b ≠ D := fun z => by subst z; rw [hD] at h1; cases h1
      have nL : b ≠ L := fun z => by subst z; rw [s1 _ _ h1] at hL; cases hL
      rw [upd_ne nD, upd_ne nL, upd_ne nD]; exact h1
    · show upd _ D _ D = _
      rw [upd_same]; rfl
    · show upd _ D _ L = _
      rw [upd_ne hDL.symm, upd_same]
      show some (HO.lst _) = some (HO.lst ((openS ns).cells.map V.int))
      unfold openS
      rw [List.map_reverse]
    · show ((ns.map _).reverse).length ≤ sizeLine
      rw [List.length_reverse, List.length_map]
      exact ble_line (Nat.ble_eq.mpr hz)

set_option maxHeartbeats 0 in
theorem ok__law_pick {P : Program} {w : World} {K : PySem.W.Frag} {mg : Str → Option Value} {base : Heap} (T : Kit K mg) : FnG P w K mg base 1 T.a__law_pick T.d__law_pick ["source", "most"] (spD K 2 R__law_pick) := by
  refine fnG_of T.F__law_pick sc__law_pick (fun vs H Q E h => ?_) fun cd A outer s H vs Q E hr hg h => ?_
  · obtain ⟨sa, sls, S, r, S', hl, _, _, hs, _⟩ := h
    rw [hs.length, hl]; rfl
  obtain ⟨sa, sls, S, r, S', hl, ⟨m, rfl, hm, rfl, rfl⟩, hS, hs, q⟩ := h
  obtain ⟨v1, v2, rfl, ⟨_, ⟨D, L⟩, rfl, rfl⟩, h2⟩ := sls2 hs
  obtain rfl := dpi h2
  have hS := hS _ rfl
  obtain ⟨hD, hL, hne, hz⟩ := id hS
  have hu := hr.un64 (Nat.zero_le _)
  have hu1 : (A.deeper (envOfC "_law_pick" (defScope s__law_pick) s.heap.objs.size T.a__law_pick cd)).units + 1 < cLine := by have := hr.un; omega
  have fin : ∀ (S' : Src) (i : Int), (pickA S m) = (i, S') → S'.cells.length ≤ S.cells.length → Q (.int i) (srcH H D L S') := fun S' i e hc => by
    refine q (.int i) _ [] (srcH_ext hS S') ?_ ?_ .nil fun _ z => nomatch z
    · rw [show m__law_pick m S = (i, S') from e]; exact srcH_rep hne (Nat.le_trans hc hz)
    · rw [show m__law_pick m S = (i, S') from e]; exact ⟨rfl, .int _, trivial⟩
  refine ⟨_, pss_cons (ps_if (pt_cmpR op_lt (pv 1) pe_int (nomark _)) (pss_one (ps_ret pe_int)) pss_nil)
   (pss_cons (ps_set (i := 2) sc__law_pick.nd rfl (.inl rfl) (pe_dget hu1 (pv 0) pe_str (fun _ _ => rfl)))
   (pss_cons (ps_while PassesOwn.never (PW.pt (pw_and (pt_cmpR op_lt (pe_dget hu1 (pv 0) pe_str (fun _ _ => rfl)) pe_int (nomark _)) (pw_and1 (pt_cmpR op_gt (pe_callB call_len_seq (by rfl) T.z_len PySem.boot_len (pa_cons (pv 2) pa_nil)) pe_int (nomark _)))))
      (pss_one (ps_dput hu1 (pv 0) pe_str (pe_bm0 PySem.F.plainAttrs_list PySem.F.slot_list_pop PySem.F.type_list_pop mt_pop (pv 2)) (by rfl))))
   (pss_cons (ps_set (i := 3) sc__law_pick.nd rfl (.inl rfl) (pe_dget hu1 (pv 0) pe_str (fun _ _ => rfl)))
   (pss_cons (ps_if (pt_cmpR op_gt (pv 3) pe_int (nomark _)) (pss_cons (ps_dput hu1 (pv 0) pe_str (pe_op op_fdiv (pv 3) (pv 1)) (by rfl)) (pss_one (ps_ret (pe_op op_mod (pe_callTy call_int1 (by rfl) T.z_int PyProof.Rows.boot_int (pa_cons (pv 3) pa_nil)) (pv 1))))) pss_nil)
   (pss_cons (ps_dput hu1 (pv 0) pe_str (pe_op op_add (pe_dget hu1 (pv 0) pe_str (fun _ _ => rfl)) pe_int) (by rfl))
   (pss_cons (ps_set (i := 4) sc__law_pick.nd rfl (.inl rfl) (pe_dget hu1 (pv 0) pe_str (fun _ _ => rfl)))
   (pss_cons (ps_set (i := 5) sc__law_pick.nd rfl (.inl rfl) (pe_op op_mod (pe_callTy call_int1 (by rfl) T.z_int PyProof.Rows.boot_int (pa_cons (pe_op op_add (pe_dget hu1 (pv 0) pe_str (fun _ _ => rfl)) (pe_op op_mul (pv 4) pe_int)) pa_nil)) pe_int))
   (pss_cons (ps_set (i := 5) sc__law_pick.nd rfl (.inl rfl) (pe_op op_mod (pe_callTy call_int1 (by rfl) T.z_int PyProof.Rows.boot_int (pa_cons (pe_op op_add (pe_op op_mul (pv 5) (pv 5)) (pe_op op_mul (pv 4) pe_int)) pa_nil)) pe_int))
   (pss_one (ps_ret (pe_op op_mod (pe_callTy call_int1 (by rfl) T.z_int PyProof.Rows.boot_int (pa_cons (pe_op op_fdiv (pv 5) pe_int) pa_nil)) (pv 1)))))))))))), ?_⟩
  rw [← srcH_at hS]
  have zz : (4 : Nat) < sizeLine := by rw [sizeLine_eq]; decide
  refine ⟨.int m, rfl, m, 2, rfl, rfl, _, rfl, ite2 (fun e => ?_) (fun e => ?_)⟩
  · exact fin S 0 (by unfold pickA; rw [if_pos (of_decide_eq_true e)]) (Nat.le_refl _)
  have e0 : ¬ m < 2 := fun z => e (decide_eq_true z)
  refine ⟨.ref D, rfl, D, .ref L, rfl, get_src (.inr "cells") _ S srcH_d rfl, ?_⟩
  refine ⟨fun k σ H' => ∃ cs l, σ = [some (.ref D), some (.int m), some (.ref L), none, none, none] ∧ H' = srcH H D L ⟨cs, l, S.mixed, S.turn⟩ ∧ k = cs.length ∧ pull k cs l = pulled S ∧ cs.length ≤ S.cells.length, ⟨_, S.cells, S.left, rfl, rfl, rfl, rfl, Nat.le_refl _⟩, ?_⟩
  rintro k σ' H' ⟨cs, l, rfl, rfl, rfl, hp, hle⟩
  refine ⟨.ref D, rfl, D, .int l, rfl, get_src (.inr "left") _ _ srcH_d rfl, l, 2, rfl, rfl, _, rfl, ite2 (fun e1 => ⟨.ref L, rfl, L, cs.map .int, rfl, .inl (.of (srcH_l hne)), (cs.map V.int).length, 0, rfl, rfl, _, rfl, ite2 (fun e2 => ?body) (fun e2 => ?r1)⟩) (fun e1 => ?r2)⟩
  case body =>
    have e1 : l < 2 := of_decide_eq_true e1
    have e2 : cs ≠ [] := fun z => by subst z; cases e2
    obtain ⟨c, x, rfl⟩ : ∃ c x, cs = c ++ [x] := ⟨cs.dropLast, cs.getLast e2, (List.dropLast_concat_getLast e2).symm⟩
    refine ⟨fun σ H' => ∃ k, k < (c ++ [x]).length ∧ ∃ cs l, σ = [some (.ref D), some (.int m), some (.ref L), none, none, none] ∧ H' = srcH H D L ⟨cs, l, S.mixed, S.turn⟩ ∧ k = cs.length ∧ pull k cs l = pulled S ∧ cs.length ≤ S.cells.length, fun _ _ z => z, ?_⟩
    have hx : ((c ++ [x]).map V.int)[((c ++ [x]).map V.int).length - 1]? = some (.int x) := by simp
    refine ⟨.ref L, rfl, .inl ⟨rfl, _, .of (srcH_l hne)⟩, L, _, .int x, rfl, rfl, srcH_l hne, hx, .ref D, rfl, D, _, rfl, .inl ⟨[(.inr "cells", .ref L), (.inr "left", .int l), (.inr "mixed", .int S.mixed), (.inr "turn", .int S.turn)], .inr "left", by rw [upd_ne hne]; exact srcH_d, rfl, zz, rfl⟩, ?_⟩
    rw [put_left]
    refine ⟨c.length, by simp, c, x, rfl, ?_, rfl, ?_, by simp at hle; omega⟩
    · exact srcH_pop (S' := ⟨c, x, S.mixed, S.turn⟩) hne (by simp)
    · rw [← hp]
      show _ = pull ((c ++ [x]).length) (c ++ [x]) l
      rw [List.length_append]
      show _ = (if l < 2 ∧ c ++ [x] ≠ [] then pull c.length (c ++ [x]).dropLast ((c ++ [x]).getLast?.getD 0) else _)
      rw [if_pos ⟨e1, by simp⟩]
      simp
  case' r1 =>
    have hpe : pull cs.length cs l = (cs, l) := by
      cases cs with
      | nil => rfl
      | cons a b => exact absurd (decide_eq_true (by simp)) e2
    clear e1 e2
  case' r2 =>
    have hpe : pull cs.length cs l = (cs, l) := by
      cases cs with
      | nil => rfl
      | cons a b =>
        show (if l < 2 ∧ _ then _ else _) = _
        rw [if_neg (fun z => e1 (decide_eq_true z.1))]
    clear e1
  all_goals
    have hpl : pulled S = (cs, l) := hp.symm.trans hpe
    refine ⟨.ref D, rfl, D, .int l, rfl, get_src (.inr "left") _ _ srcH_d rfl, ?_⟩
    refine ⟨.int l, rfl, l, 1, rfl, rfl, _, rfl, ite2 (fun e1 => ?_) (fun e1 => ?_)⟩
    · have e1 : 1 < l := of_decide_eq_true e1
      refine ⟨.int l, rfl, .int m, rfl, l, m, rfl, rfl, ⟨by omega, hm⟩, .ref D, rfl, D, _, rfl, .inl ⟨_, .inr "left", srcH_d, rfl, zz, rfl⟩, ?_⟩
      rw [put_left]
      have hh := srcH_d2 (H := H) (S := ⟨cs, l, S.mixed, S.turn⟩) (S' := ⟨cs, l / m, S.mixed, S.turn⟩) hne rfl
      refine ⟨.int l, rfl, .inl ⟨l, rfl, .int m, rfl, l, m, rfl, rfl, by show 0 < m; omega, ?_⟩⟩
      have := fin ⟨cs, l / m, S.mixed, S.turn⟩ (l % m) (by unfold pickA; rw [if_neg e0, hpl, if_pos e1]) hle
      rw [← hh] at this
      exact this
    · have e1 : ¬ 1 < l := fun z => e1 (decide_eq_true z)
      refine ⟨.ref D, rfl, D, .int S.turn, rfl, get_src (.inr "turn") _ _ srcH_d rfl, S.turn, 1, rfl, rfl, .ref D, rfl, D, _, rfl, .inl ⟨_, .inr "turn", srcH_d, rfl, zz, rfl⟩, ?_⟩
      rw [put_turn]
      have hh := srcH_d2 (H := H) (S := ⟨cs, l, S.mixed, S.turn⟩) (S' := ⟨cs, l, S.mixed, S.turn + 1⟩) hne rfl
      have hx : upd (srcH H D L ⟨cs, l, S.mixed, S.turn⟩) D (.dK [(.inr "cells", .ref L), (.inr "left", .int l), (.inr "mixed", .int S.mixed), (.inr "turn", .int (S.turn + 1))]) = srcH H D L ⟨cs, l, S.mixed, S.turn + 1⟩ := hh
      rw [hx]
      refine ⟨.ref D, rfl, D, .int (S.turn + 1), rfl, get_src (.inr "turn") _ _ srcH_d rfl, ?_⟩
      refine ⟨.ref D, rfl, D, .int S.mixed, rfl, get_src (.inr "mixed") _ _ srcH_d rfl, .int (S.turn + 1), rfl, S.turn + 1, 104729, rfl, rfl, .inr ⟨by decide, by decide⟩, S.mixed, (S.turn + 1) * 104729, rfl, rfl, .inl ⟨_, rfl, _, 998244353, rfl, rfl, (show (0 : Int) < 998244353 by decide), ?_⟩⟩
      have hb : ∀ x : Int, 0 ≤ x % 998244353 ∧ x % 998244353 < 998244353 := fun x => ⟨Int.emod_nonneg _ (by decide), Int.emod_lt_of_pos _ (by decide)⟩
      have hb1 := hb (S.mixed + (S.turn + 1) * 104729)
      refine ⟨.int ((S.mixed + (S.turn + 1) * 104729) % 998244353), rfl, .int ((S.mixed + (S.turn + 1) * 104729) % 998244353), rfl, _, _, rfl, rfl, .inl ⟨by omega, by omega⟩, .int (S.turn + 1), rfl, S.turn + 1, 17, rfl, rfl, .inr ⟨by decide, by decide⟩, _, _, rfl, rfl, .inl ⟨_, rfl, _, 2147483647, rfl, rfl, (show (0 : Int) < 2147483647 by decide), ?_⟩⟩
      refine ⟨.int _, rfl, _, 16, rfl, rfl, ⟨by decide, by decide⟩, .inl ⟨_, rfl, .int m, rfl, _, m, rfl, rfl, by show 0 < m; omega, ?_⟩⟩
      exact fin ⟨cs, l, S.mixed, S.turn + 1⟩ _ (by unfold pickA; rw [if_neg e0, hpl, if_neg e1]) hle

set_option maxHeartbeats 0 in
theorem ok__law_web {P : Program} {w : World} {K : PySem.W.Frag} {mg : Str → Option Value} {base : Heap} (T : Kit K mg) : FnG P w K mg base 2 T.a__law_web T.d__law_web ["source", "p", "n", "share"] (spD K 4 R__law_web) := fnD T.F__law_web sc__law_web rfl (by decide) (by
  intro sa sls S r S' hR cd A outer s H E hr hgd
  obtain ⟨p_0, n_0, share_0, rfl, hg, rfl, rfl⟩ := hR
  refine SB.start (δ' := [some (.src), some (.p (enc p_0)), some (.p (enc n_0)), some (.p (enc share_0)), none, none, none]) (rf := rf__law_web) (m := m__law_web p_0 n_0 share_0 S) rfl rfl ?_
  refine stepV (Wf := (WR rf__law_web)) (δf := fun (ties_58 : (List (T3 Int Int Int))) => [some (.src), some (.p (enc p_0)), some (.p (enc n_0)), some (.p (enc share_0)), some (.l (encs ties_58)), none, none]) ([] : List (T3 Int Int Int)) (fun (ties_58 : (List (T3 Int Int Int))) => m__law_web_10 p_0 n_0 share_0 S ties_58) (fun (ties_58 : (List (T3 Int Int Int))) => g__law_web_10 p_0 n_0 share_0 S ties_58) (st_l (i := 4) (ps_set (i := 4) sc__law_web.nd rfl (by first | exact .inl rfl | exact .inr rfl) (el_lst (ds := encs ([] : List (T3 Int Int Int))) ea_nil))) hg (fun ties_58 hg_60 => ?_)
  refine forV (Wf := (WR rf__law_web)) (itm := itP1) (fun (n_87 : ((List (T3 Int Int Int)) × Src)) => m__law_web_9 p_0 n_0 n_87) (fun (n_87 : ((List (T3 Int Int Int)) × Src)) => g__law_web_9 p_0 n_0 n_87) (nf__law_web_1 p_0 n_0 share_0) ((ties_58, S) : ((List (T3 Int Int Int)) × Src)) (fun (n_64 : ((List (T3 Int Int Int)) × Src)) (q_65 : Int) => g__law_web_8 p_0 n_0 share_0 n_64 q_65) (fun n_64 q_65 => [some (.src), some (.p (enc p_0)), some (.p (enc n_0)), some (.p (enc share_0)), some (.l (encs n_64.1)), some (.p (enc q_65)), none]) (fun (n_64 : ((List (T3 Int Int Int)) × Src)) (q_65 : Int) => m__law_web_8 p_0 n_0 share_0 n_64 q_65) (ij_range1 hg_60.1 (by rfl) T.z_range (ea_cons (ev_var 2 rfl (pv 2)) ea_nil)) (And.intro rfl (And.intro rfl (And.intro rfl (And.intro rfl (And.intro rfl trivial))))) (fun n_64 q_65 => (tg_name (pg_name (i := 5) sc__law_web.nd rfl (by first | exact .inl rfl | exact .inr rfl)))) (fun n_64 q_65 hb_62 => ?_) hg_60.2.1 hg_60.2.2 (fun n_87 hg_88 => ?_)
  · refine forV (Wf := (WN (nf__law_web_1 p_0 n_0 share_0))) (itm := itP1) (fun (n_85 : ((List (T3 Int Int Int)) × Src)) => m__law_web_7 n_85) (fun (n_85 : ((List (T3 Int Int Int)) × Src)) => g__law_web_7 n_85) (nf__law_web_2 p_0 n_0 share_0 q_65) ((n_64.1, n_64.2) : ((List (T3 Int Int Int)) × Src)) (fun (n_71 : ((List (T3 Int Int Int)) × Src)) (q_72 : Int) => g__law_web_6 p_0 share_0 q_65 n_71 q_72) (fun n_71 q_72 => [some (.src), some (.p (enc p_0)), some (.p (enc n_0)), some (.p (enc share_0)), some (.l (encs n_71.1)), some (.p (enc q_65)), some (.p (enc q_72))]) (fun (n_71 : ((List (T3 Int Int Int)) × Src)) (q_72 : Int) => m__law_web_6 p_0 share_0 q_65 n_71 q_72) (ij_range2 hb_62.1 hb_62.2.1 hb_62.2.2.1 (by rfl) T.z_range (ea_cons (ev_add (ev_var 5 rfl (pv 5)) ev_int) (ea_cons (ev_var 2 rfl (pv 2)) ea_nil))) (And.intro rfl (And.intro rfl (And.intro rfl (And.intro rfl (And.intro rfl (And.intro rfl trivial)))))) (fun n_71 q_72 => (tg_name (pg_name (i := 6) sc__law_web.nd rfl (by first | exact .inl rfl | exact .inr rfl)))) (fun n_71 q_72 hb_69 => ?_) hb_62.2.2.2.1 hb_62.2.2.2.2 (fun n_85 hg_86 => ?_)
    · refine sb_ifE (Wf := (WN (nf__law_web_2 p_0 n_0 share_0 q_65))) (x := m__law_web_4 p_0 q_65 n_71 q_72 ((m__law_pick share_0 n_71.2).2)) (y := m__law_web_5 n_71 ((m__law_pick share_0 n_71.2).2)) (et_cmp op_gt rc_gt (ev_call ⟨ok__law_pick T, T.G__law_pick, T.F__law_pick.kp, T.B__law_pick⟩ (hr.mono (by decide)) hgd (by rfl) (ea_cons (ev_varS 0 rfl (pv 0)) (ea_cons (ev_var 3 rfl (pv 3)) ea_nil)) rfl ⟨_, rfl, hb_69.1, rfl, rfl⟩) ev_int (nomark _)) (fun hc_74 => ?_) (fun hc_75 => ?_)
      · have hg_77 := hb_69.2.1 hc_74
        generalize (m__law_pick share_0 n_71.2).2 = S_76 at hg_77 ⊢
        refine stepVS (Wf := (WN (nf__law_web_2 p_0 n_0 share_0 q_65))) (δf := fun (ties_81 : (List (T3 Int Int Int))) => [some (.src), some (.p (enc p_0)), some (.p (enc n_0)), some (.p (enc share_0)), some (.l (encs ties_81)), some (.p (enc q_65)), some (.p (enc q_72))]) (n_71.1 ++ [(T3.mk q_65 q_72 ((1 : Int) + (m__law_pick (p_0 - (1 : Int)) S_76).1))]) (fun (ties_81 : (List (T3 Int Int Int))) (S_83 : Src) => m__law_web_3 ties_81 S_83) (fun (ties_81 : (List (T3 Int Int Int))) (S_83 : Src) => g__law_web_3 ties_81 S_83) (st_app (i := 4) rfl (pv 4) (ev_tup (ds := [enc q_65, enc q_72, enc ((1 : Int) + (m__law_pick (p_0 - (1 : Int)) S_76).1)]) (ea_cons (ev_var 5 rfl (pv 5)) (ea_cons (ev_var 6 rfl (pv 6)) (ea_cons (ev_add ev_int (ev_call ⟨ok__law_pick T, T.G__law_pick, T.F__law_pick.kp, T.B__law_pick⟩ (hr.mono (by decide)) hgd (by rfl) (ea_cons (ev_varS 0 rfl (pv 0)) (ea_cons (ev_sub (ev_var 1 rfl (pv 1)) ev_int) ea_nil)) rfl ⟨_, rfl, hg_77.1, rfl, rfl⟩)) ea_nil)))) hg_77.2.1 (fun h1 h2 => pe_bm PySem.F.plainAttrs_list PySem.F.slot_list_append PySem.F.type_list_append mt_append h1 h2)) hg_77.2.2 (fun ties_81 S_83 hg_84 => ?_)
        exact sb_nil rfl (And.intro rfl (And.intro rfl (And.intro rfl (And.intro rfl (And.intro rfl (And.intro rfl trivial))))))
      · have hg_78 := hb_69.2.2 hc_75
        generalize (m__law_pick share_0 n_71.2).2 = S_76 at hg_78 ⊢
        exact sb_nil rfl (And.intro rfl (And.intro rfl (And.intro rfl (And.intro rfl (And.intro rfl (And.intro rfl trivial))))))
    · exact sb_nil rfl (And.intro rfl (And.intro rfl (And.intro rfl (And.intro rfl (And.intro rfl trivial)))))
  · exact sb_ret (ev_tup (ds := [enc p_0, enc n_0, enc n_87.1]) (ea_cons (ev_var 1 rfl (pv 1)) (ea_cons (ev_var 2 rfl (pv 2)) (ea_cons (ev_tuple (by rfl) T.z_tuple (ev_varL 4 rfl (pv 4))) ea_nil)))) rfl)
set_option maxHeartbeats 0 in
theorem ok__law_table {P : Program} {w : World} {K : PySem.W.Frag} {mg : Str → Option Value} {base : Heap} (T : Kit K mg) : FnG P w K mg base 1 T.a__law_table T.d__law_table ["web"] (spD K 1 R__law_table) := fnD T.F__law_table sc__law_table rfl (by decide) (by
  intro sa sls S r S' hR cd A outer s H E hr hgd
  obtain ⟨web_0, rfl, hg, rfl, rfl⟩ := hR
  refine SB.start (δ' := [some (.p (enc web_0)), none, none, none, none]) (rf := (rf__law_table S)) (m := m__law_table web_0) rfl rfl ?_
  refine stepV (Wf := (WR (rf__law_table S))) (δf := fun (rows_128 : (List (List Int))) => [some (.p (enc web_0)), none, some (.ll (encss rows_128)), none, none]) (List.map (fun (q_123 : Int) => (repL web_0.b ([(0 : Int)] : List Int))) (rngI 0 (Int.toNat web_0.b))) (fun (rows_128 : (List (List Int))) => m__law_table_6 web_0 rows_128) (fun (rows_128 : (List (List Int))) => g__law_table_6 web_0 rows_128) (st_m (i := 2) (plcM (fun (q_123 : Int) => (RepOk (List.length ([(0 : Int)] : List Int)) web_0.b)) (fun (q_123 : Int) => [some (.p (enc web_0)), some (.p (enc q_123)), none, none, none]) (fun (q_123 : Int) => (repL web_0.b ([(0 : Int)] : List Int))) (ij_range1 hg.1 (by rfl) T.z_range (ea_cons (ev_ixT rfl (ev_var 0 rfl (pv 0)) ev_int) ea_nil)) hg.2.1 (fun q_123 s H C cl fp => (tg_name (pg_name (i := 1) sc__law_table.nd rfl (by first | exact .inl rfl | exact .inr rfl)))) (fun q_123 hq_124 s H C cl fp => (el_repT hq_124 (el_lst (ds := encs ([(0 : Int)] : List Int)) (ea_cons ev_int ea_nil)) (ev_ixT rfl (ev_var 0 rfl (pv 0)) ev_int))) (by rfl) sc__law_table.nd (blk_of (own := [("u", 1)]) (by rfl)) (by decide) (by rfl) rfl (by rfl))) hg.2.2 (fun rows_128 hg_130 => ?_)
  refine forV (Wf := (WR (rf__law_table S))) (itm := itP1) (fun (n_143 : (List (List Int))) => m__law_table_5 n_143) (fun (n_143 : (List (List Int))) => g__law_table_5 n_143) (nf__law_table_1 web_0 S) (rows_128 : (List (List Int))) (fun (n_133 : (List (List Int))) (q_134 : (T3 Int Int Int)) => g__law_table_4 n_133 q_134) (fun n_133 q_134 => [some (.p (enc web_0)), some (.p (enc q_134.a)), some (.ll (encss n_133)), some (.p (enc q_134.b)), some (.p (enc q_134.c))]) (fun (n_133 : (List (List Int))) (q_134 : (T3 Int Int Int)) => m__law_table_4 n_133 q_134) (ij_T (ev_ixT rfl (ev_var 0 rfl (pv 0)) ev_int)) (And.intro rfl (And.intro rfl trivial)) (fun n_133 q_134 => (tg_tup (ds := [enc q_134.a, enc q_134.b, enc q_134.c]) (by rfl) (tgs_cons (tg_name (pg_name (i := 1) sc__law_table.nd rfl (by first | exact .inl rfl | exact .inr rfl))) (tgs_cons (tg_name (pg_name (i := 3) sc__law_table.nd rfl (by first | exact .inl rfl | exact .inr rfl))) (tgs_cons (tg_name (pg_name (i := 4) sc__law_table.nd rfl (by first | exact .inl rfl | exact .inr rfl))) tgs_nil))))) (fun n_133 q_134 hb_131 => ?_) hg_130.1 hg_130.2 (fun n_143 hg_144 => ?_)
  · refine stepV (Wf := (WN (nf__law_table_1 web_0 S))) (δf := fun (rows_136 : (List (List Int))) => [some (.p (enc web_0)), some (.p (enc q_134.a)), some (.ll (encss rows_136)), some (.p (enc q_134.b)), some (.p (enc q_134.c))]) (setAt2 n_133 q_134.a q_134.b q_134.c) (fun (rows_136 : (List (List Int))) => m__law_table_3 q_134 rows_136) (fun (rows_136 : (List (List Int))) => g__law_table_3 q_134 rows_136) (st_sto2 (i := 2) (tg_rowT (i := 2) rfl (pv 2) (ev_var 1 rfl (pv 1)) (ev_var 3 rfl (pv 3)) hb_131.1 (hpg := fun h1 h2 h3 => pg_sub h1 h2 h3)) (ev_var 4 rfl (pv 4)) (fun h1 h2 => ps_asg h1 h2)) hb_131.2 (fun rows_136 hg_138 => ?_)
    refine stepV (Wf := (WN (nf__law_table_1 web_0 S))) (δf := fun (rows_140 : (List (List Int))) => [some (.p (enc web_0)), some (.p (enc q_134.a)), some (.ll (encss rows_140)), some (.p (enc q_134.b)), some (.p (enc q_134.c))]) (setAt2 rows_136 q_134.b q_134.a q_134.c) (fun (rows_140 : (List (List Int))) => m__law_table_2 rows_140) (fun (rows_140 : (List (List Int))) => g__law_table_2 rows_140) (st_sto2 (i := 2) (tg_rowT (i := 2) rfl (pv 2) (ev_var 3 rfl (pv 3)) (ev_var 1 rfl (pv 1)) hg_138.1 (hpg := fun h1 h2 h3 => pg_sub h1 h2 h3)) (ev_var 4 rfl (pv 4)) (fun h1 h2 => ps_asg h1 h2)) hg_138.2 (fun rows_140 hg_142 => ?_)
    exact sb_nil rfl (And.intro rfl (And.intro rfl trivial))
  · exact sb_retOwn (i := 2) rfl trivial (pv 2) rfl)
set_option maxHeartbeats 0 in
theorem ok_table_of {P : Program} {w : World} {K : PySem.W.Frag} {mg : Str → Option Value} {base : Heap} (T : Kit K mg) : FnG P w K mg base 1 T.a_table_of T.d_table_of ["web"] (spD K 1 R_table_of) := fnD T.F_table_of sc_table_of rfl (by decide) (by
  intro sa sls S r S' hR cd A outer s H E hr hgd
  obtain ⟨web_0, rfl, hg, rfl, rfl⟩ := hR
  refine SB.start (δ' := [some (.p (enc web_0)), none, none, none, none, none, none, none, none]) (rf := (rf_table_of S)) (m := m_table_of web_0) rfl rfl ?_
  refine step0 (Wf := (WR (rf_table_of S))) (st_asg (ev_var 0 rfl (pv 0)) (tg_tup (ds := [enc web_0.a, enc web_0.b, enc web_0.c]) (by rfl) (tgs_cons (tg_name (pg_name (i := 1) sc_table_of.nd rfl (by first | exact .inl rfl | exact .inr rfl))) (tgs_cons (tg_name (pg_name (i := 2) sc_table_of.nd rfl (by first | exact .inl rfl | exact .inr rfl))) (tgs_cons (tg_name (pg_name (i := 3) sc_table_of.nd rfl (by first | exact .inl rfl | exact .inr rfl))) tgs_nil))))) ?_
  have hg_177 := hg
  refine stepV (Wf := (WR (rf_table_of S))) (δf := fun (rows_184 : (List (List Int))) => [some (.p (enc web_0)), some (.p (enc web_0.a)), some (.p (enc web_0.b)), some (.p (enc web_0.c)), none, some (.ll (encss rows_184)), none, none, none]) (List.map (fun (q_179 : Int) => (repL web_0.b ([(0 : Int)] : List Int))) (rngI 0 (Int.toNat web_0.b))) (fun (rows_184 : (List (List Int))) => m_table_of_5 web_0 rows_184) (fun (rows_184 : (List (List Int))) => g_table_of_5 web_0 rows_184) (st_m (i := 5) (plcM (fun (q_179 : Int) => (RepOk (List.length ([(0 : Int)] : List Int)) web_0.b)) (fun (q_179 : Int) => [some (.p (enc web_0)), some (.p (enc web_0.a)), some (.p (enc web_0.b)), some (.p (enc web_0.c)), some (.p (enc q_179)), none, none, none, none]) (fun (q_179 : Int) => (repL web_0.b ([(0 : Int)] : List Int))) (ij_range1 hg_177.1 (by rfl) T.z_range (ea_cons (ev_var 2 rfl (pv 2)) ea_nil)) hg_177.2.1 (fun q_179 s H C cl fp => (tg_name (pg_name (i := 4) sc_table_of.nd rfl (by first | exact .inl rfl | exact .inr rfl)))) (fun q_179 hq_180 s H C cl fp => (el_repT hq_180 (el_lst (ds := encs ([(0 : Int)] : List Int)) (ea_cons ev_int ea_nil)) (ev_var 2 rfl (pv 2)))) (by rfl) sc_table_of.nd (blk_of (own := [("u", 4)]) (by rfl)) (by decide) (by rfl) rfl (by rfl))) hg_177.2.2 (fun rows_184 hg_186 => ?_)
  refine forV (Wf := (WR (rf_table_of S))) (itm := itP1) (fun (n_196 : (List (List Int))) => m_table_of_4 n_196) (fun (n_196 : (List (List Int))) => g_table_of_4 n_196) (nf_table_of_1 web_0 S) (rows_184 : (List (List Int))) (fun (n_189 : (List (List Int))) (q_190 : (T3 Int Int Int)) => g_table_of_3 n_189 q_190) (fun n_189 q_190 => [some (.p (enc web_0)), some (.p (enc web_0.a)), some (.p (enc web_0.b)), some (.p (enc web_0.c)), some (.p (enc q_190.a)), some (.ll (encss n_189)), some (.p (enc q_190.b)), some (.p (enc q_190.c)), none]) (fun (n_189 : (List (List Int))) (q_190 : (T3 Int Int Int)) => m_table_of_3 n_189 q_190) (ij_T (ev_var 3 rfl (pv 3))) (And.intro rfl (And.intro rfl (And.intro rfl (And.intro rfl (And.intro rfl trivial))))) (fun n_189 q_190 => (tg_tup (ds := [enc q_190.a, enc q_190.b, enc q_190.c]) (by rfl) (tgs_cons (tg_name (pg_name (i := 4) sc_table_of.nd rfl (by first | exact .inl rfl | exact .inr rfl))) (tgs_cons (tg_name (pg_name (i := 6) sc_table_of.nd rfl (by first | exact .inl rfl | exact .inr rfl))) (tgs_cons (tg_name (pg_name (i := 7) sc_table_of.nd rfl (by first | exact .inl rfl | exact .inr rfl))) tgs_nil))))) (fun n_189 q_190 hb_187 => ?_) hg_186.1 hg_186.2 (fun n_196 hg_197 => ?_)
  · refine stepV (Wf := (WN (nf_table_of_1 web_0 S))) (δf := fun (rows_193 : (List (List Int))) => [some (.p (enc web_0)), some (.p (enc web_0.a)), some (.p (enc web_0.b)), some (.p (enc web_0.c)), some (.p (enc q_190.a)), some (.ll (encss rows_193)), some (.p (enc q_190.b)), some (.p (enc q_190.c)), none]) (setAt2 (setAt2 n_189 q_190.a q_190.b q_190.c) q_190.b q_190.a q_190.c) (fun (rows_193 : (List (List Int))) => m_table_of_2 rows_193) (fun (rows_193 : (List (List Int))) => g_table_of_2 rows_193) (st_sto22 (i := 5) (by rfl) (ev_tup (ds := [enc q_190.c, enc q_190.c]) (ea_cons (ev_var 7 rfl (pv 7)) (ea_cons (ev_var 7 rfl (pv 7)) ea_nil))) (tg_rowT (i := 5) rfl (pv 5) (ev_var 4 rfl (pv 4)) (ev_var 6 rfl (pv 6)) hb_187.1 (hpg := fun h1 h2 h3 => pg_sub h1 h2 h3)) (tg_rowT (i := 5) rfl (pv 5) (ev_var 6 rfl (pv 6)) (ev_var 4 rfl (pv 4)) hb_187.2.1 (hpg := fun h1 h2 h3 => pg_sub h1 h2 h3))) hb_187.2.2 (fun rows_193 hg_195 => ?_)
    exact sb_nil rfl (And.intro rfl (And.intro rfl (And.intro rfl (And.intro rfl (And.intro rfl trivial)))))
  · exact sb_ret (ev_tuple (by rfl) T.z_tuple (ev_of_new (elc (fun (q_198 : (List Int)) => True) (fun (q_198 : (List Int)) => [some (.p (enc web_0)), some (.p (enc web_0.a)), some (.p (enc web_0.b)), some (.p (enc web_0.c)), none, some (.bb (encss n_196)), none, none, some (.b (encs q_198))]) (fun (q_198 : (List Int)) => q_198) (ij_LL (ev_varLL 5 rfl (pv 5))) (fun _ _ => trivial) (fun q_198 s H C cl fp => (tg_name (pg_name (i := 8) sc_table_of.nd rfl (by first | exact .inl rfl | exact .inr rfl)))) (fun q_198 hq_199 s H C cl fp => (ev_tuple (by rfl) T.z_tuple (ev_varB 8 rfl (pv 8)))) (by rfl) sc_table_of.nd (blk_of (own := [("row", 8)]) (by rfl)) (by decide)))) rfl)
set_option maxHeartbeats 0 in
theorem ok_web_of {P : Program} {w : World} {K : PySem.W.Frag} {mg : Str → Option Value} {base : Heap} (T : Kit K mg) : FnG P w K mg base 1 T.a_web_of T.d_web_of ["p", "table"] (spD K 2 R_web_of) := fnD T.F_web_of sc_web_of rfl (by decide) (by
  intro sa sls S r S' hR cd A outer s H E hr hgd
  obtain ⟨p_0, table_0, rfl, hg, rfl, rfl⟩ := hR
  refine SB.start (δ' := [some (.p (enc p_0)), some (.p (enc table_0)), none, none, none, none]) (rf := (rf_web_of S)) (m := m_web_of p_0 table_0) rfl rfl ?_
  refine stepV (Wf := (WR (rf_web_of S))) (δf := fun (z_243 : (Int × (List (T3 Int Int Int)))) => [some (.p (enc p_0)), some (.p (enc table_0)), some (.p (enc z_243.1)), some (.l (encs z_243.2)), none, none]) ((List.length table_0 : Int), ([] : List (T3 Int Int Int))) (fun (z_243 : (Int × (List (T3 Int Int Int)))) => m_web_of_5 p_0 table_0 z_243) (fun (z_243 : (Int × (List (T3 Int Int Int)))) => g_web_of_5 p_0 table_0 z_243) (st_par (i := 2) (j := 3) (eo_p (ev_len (wlk_t _) (by rfl) T.z_len (ev_var 1 rfl (pv 1)))) (eo_l (el_lst (ds := encs ([] : List (T3 Int Int Int))) ea_nil)) (by rfl) sc_web_of.nd rfl rfl (by decide) (by rfl) (by rfl) (by rfl)) hg (fun z_243 hg_245 => ?_)
  refine forV (Wf := (WR (rf_web_of S))) (itm := itP1) (fun (n_267 : (List (T3 Int Int Int))) => m_web_of_4 p_0 z_243 n_267) (fun (n_267 : (List (T3 Int Int Int))) => g_web_of_4 p_0 z_243 n_267) (nf_web_of_1 p_0 table_0 z_243 S) (z_243.2 : (List (T3 Int Int Int))) (fun (n_249 : (List (T3 Int Int Int))) (q_250 : Int) => g_web_of_3 table_0 z_243 n_249 q_250) (fun n_249 q_250 => [some (.p (enc p_0)), some (.p (enc table_0)), some (.p (enc z_243.1)), some (.l (encs n_249)), some (.p (enc q_250)), none]) (fun (n_249 : (List (T3 Int Int Int))) (q_250 : Int) => m_web_of_3 table_0 z_243 n_249 q_250) (ij_range1 hg_245.1 (by rfl) T.z_range (ea_cons (ev_var 2 rfl (pv 2)) ea_nil)) (And.intro rfl (And.intro rfl (And.intro rfl (And.intro rfl trivial)))) (fun n_249 q_250 => (tg_name (pg_name (i := 4) sc_web_of.nd rfl (by first | exact .inl rfl | exact .inr rfl)))) (fun n_249 q_250 hb_247 => ?_) hg_245.2.1 hg_245.2.2 (fun n_267 hg_268 => ?_)
  · refine stepV (Wf := (WN (nf_web_of_1 p_0 table_0 z_243 S))) (δf := fun (ties_264 : (List (T3 Int Int Int))) => [some (.p (enc p_0)), some (.p (enc table_0)), some (.p (enc z_243.1)), some (.l (encs ties_264)), some (.p (enc q_250)), none]) (n_249 ++ (List.map (fun (q_254 : Int) => (T3.mk q_250 q_254 (getI (getI table_0 q_250) q_254))) (List.filter (fun (q_254 : Int) => decide ((getI (getI table_0 q_250) q_254) ≠ (0 : Int))) (rngI (q_250 + (1 : Int)) (Int.toNat (z_243.1 - (q_250 + (1 : Int)))))))) (fun (ties_264 : (List (T3 Int Int Int))) => m_web_of_2 ties_264) (fun (ties_264 : (List (T3 Int Int Int))) => g_web_of_2 ties_264) (st_ext (i := 3) rfl (pv 3) (elcf (fun (q_254 : Int) => (InB table_0 q_250) ∧ (InB (getI table_0 q_250) q_254) ∧ (decide ((getI (getI table_0 q_250) q_254) ≠ (0 : Int)) = true → (InB table_0 q_250) ∧ (InB (getI table_0 q_250) q_254))) (fun (q_254 : Int) => [some (.p (enc p_0)), some (.p (enc table_0)), some (.p (enc z_243.1)), some (.b (encs n_249)), some (.p (enc q_250)), some (.p (enc q_254))]) (fun (q_254 : Int) => decide ((getI (getI table_0 q_250) q_254) ≠ (0 : Int))) (fun (q_254 : Int) => (T3.mk q_250 q_254 (getI (getI table_0 q_250) q_254))) (ij_range2 hb_247.1 hb_247.2.1 hb_247.2.2.1 (by rfl) T.z_range (ea_cons (ev_add (ev_var 4 rfl (pv 4)) ev_int) (ea_cons (ev_var 2 rfl (pv 2)) ea_nil))) hb_247.2.2.2.1 (fun q_254 s H C cl fp => (tg_name (pg_name (i := 5) sc_web_of.nd rfl (by first | exact .inl rfl | exact .inr rfl)))) (fun q_254 hq_255 s H C cl fp => (et_cmp op_ne rc_neI (ev_ixL hq_255.2.1 (ev_ixL hq_255.1 (ev_var 1 rfl (pv 1)) (ev_var 4 rfl (pv 4))) (ev_var 5 rfl (pv 5))) ev_int (nomark _))) (fun q_254 hq_255 hc_258 s H C cl fp => (ev_tup (ds := [enc q_250, enc q_254, enc (getI (getI table_0 q_250) q_254)]) (ea_cons (ev_var 4 rfl (pv 4)) (ea_cons (ev_var 5 rfl (pv 5)) (ea_cons (ev_ixL (hq_255.2.2 hc_258).2 (ev_ixL (hq_255.2.2 hc_258).1 (ev_var 1 rfl (pv 1)) (ev_var 4 rfl (pv 4))) (ev_var 5 rfl (pv 5))) ea_nil))))) (by rfl) sc_web_of.nd (blk_of (own := [("v", 5)]) (by rfl)) (by decide)) hb_247.2.2.2.2.1 (fun h1 h2 => pe_bm PySem.F.plainAttrs_list PySem.F.slot_list_extend PySem.F.type_list_extend mt_extend h1 h2)) hb_247.2.2.2.2.2 (fun ties_264 hg_266 => ?_)
    exact sb_nil rfl (And.intro rfl (And.intro rfl (And.intro rfl (And.intro rfl trivial))))
  · exact sb_ret (ev_tup (ds := [enc p_0, enc z_243.1, enc n_267]) (ea_cons (ev_var 0 rfl (pv 0)) (ea_cons (ev_var 2 rfl (pv 2)) (ea_cons (ev_tuple (by rfl) T.z_tuple (ev_varL 3 rfl (pv 3))) ea_nil)))) rfl)
set_option maxHeartbeats 0 in
theorem ok_weight_at {P : Program} {w : World} {K : PySem.W.Frag} {mg : Str → Option Value} {base : Heap} (T : Kit K mg) : FnG P w K mg base 1 T.a_weight_at T.d_weight_at ["web", "u", "v"] (spD K 3 R_weight_at) := fnD T.F_weight_at sc_weight_at rfl (by decide) (by
  intro sa sls S r S' hR cd A outer s H E hr hgd
  obtain ⟨web_0, u_0, v_0, rfl, hg, rfl, rfl⟩ := hR
  refine SB.start (δ' := [some (.p (enc web_0)), some (.p (enc u_0)), some (.p (enc v_0)), none, none, none, none]) (rf := (rf_weight_at S)) (m := m_weight_at web_0 u_0 v_0) rfl rfl ?_
  refine stepV (Wf := (WR (rf_weight_at S))) (δf := fun (some_317 : (List Int)) => [some (.p (enc web_0)), some (.p (enc u_0)), some (.p (enc v_0)), none, none, none, some (.b (encs some_317))]) (List.map (fun (q_314 : (T3 Int Int Int)) => q_314.c) (List.filter (fun (q_314 : (T3 Int Int Int)) => (mem ((q_314.a, q_314.b) : (Int × Int)) ([((u_0, v_0), (v_0, u_0)).1, ((u_0, v_0), (v_0, u_0)).2] : (List (Int × Int))))) web_0.c)) (fun (some_317 : (List Int)) => m_weight_at_1 some_317) (fun (some_317 : (List Int)) => g_weight_at_1 some_317) (st_lB (i := 6) (plcf (fun (q_314 : (T3 Int Int Int)) => True) (fun (q_314 : (T3 Int Int Int)) => [some (.p (enc web_0)), some (.p (enc u_0)), some (.p (enc v_0)), some (.p (enc q_314.a)), some (.p (enc q_314.b)), some (.p (enc q_314.c)), none]) (fun (q_314 : (T3 Int Int Int)) => (mem ((q_314.a, q_314.b) : (Int × Int)) ([((u_0, v_0), (v_0, u_0)).1, ((u_0, v_0), (v_0, u_0)).2] : (List (Int × Int))))) (fun (q_314 : (T3 Int Int Int)) => q_314.c) (ij_T (ev_ixT rfl (ev_var 0 rfl (pv 0)) ev_int)) (fun _ _ => trivial) (fun q_314 s H C cl fp => (tg_tup (ds := [enc q_314.a, enc q_314.b, enc q_314.c]) (by rfl) (tgs_cons (tg_name (pg_name (i := 3) sc_weight_at.nd rfl (by first | exact .inl rfl | exact .inr rfl))) (tgs_cons (tg_name (pg_name (i := 4) sc_weight_at.nd rfl (by first | exact .inl rfl | exact .inr rfl))) (tgs_cons (tg_name (pg_name (i := 5) sc_weight_at.nd rfl (by first | exact .inl rfl | exact .inr rfl))) tgs_nil))))) (fun q_314 hq_315 s H C cl fp => (et_cmp (op_inT (hr.un65 (Nat.zero_le _))) (rc_inT ((q_314.a, q_314.b) : (Int × Int)) ([((u_0, v_0), (v_0, u_0)).1, ((u_0, v_0), (v_0, u_0)).2] : (List (Int × Int)))) (ev_tup (ds := [enc q_314.a, enc q_314.b]) (ea_cons (ev_var 3 rfl (pv 3)) (ea_cons (ev_var 4 rfl (pv 4)) ea_nil))) (ev_cast (x := (((u_0, v_0), (v_0, u_0)) : ((Int × Int) × (Int × Int)))) (y := ([((u_0, v_0), (v_0, u_0)).1, ((u_0, v_0), (v_0, u_0)).2] : (List (Int × Int)))) (rfl) (ev_tup (ds := [enc (u_0, v_0), enc (v_0, u_0)]) (ea_cons (ev_tup (ds := [enc u_0, enc v_0]) (ea_cons (ev_var 1 rfl (pv 1)) (ea_cons (ev_var 2 rfl (pv 2)) ea_nil))) (ea_cons (ev_tup (ds := [enc v_0, enc u_0]) (ea_cons (ev_var 2 rfl (pv 2)) (ea_cons (ev_var 1 rfl (pv 1)) ea_nil))) ea_nil)))) (by with_unfolding_all rfl))) (fun q_314 hq_315 hc_316 s H C cl fp => (ev_var 5 rfl (pv 5))) (by rfl) sc_weight_at.nd (blk_of (own := [("one", 3), ("other", 4), ("w", 5)]) (by rfl)) (by decide) (by rfl) rfl (by rfl))) hg (fun some_317 hg_319 => ?_)
  exact sb_ret (ev_ifp (x := ((getI some_317 (0 : Int)) : Int)) (y := ((0 : Int) : Int)) (et_cmp (op_neD (hr.un64 (Nat.zero_le _))) (rc_neL (some_317 : (List Int)) (([] : List Int) : (List Int))) (ev_varB 6 rfl (pv 6)) (ev_of_new (el_lst (ds := encs ([] : List Int)) ea_nil)) (nomark _)) (fun hc_321 => (ev_ixLB (hg_319 hc_321) (ev_varB 6 rfl (pv 6)) ev_int)) (fun hc_322 => ev_int)) rfl)
set_option maxHeartbeats 0 in
theorem ok_tied_to {P : Program} {w : World} {K : PySem.W.Frag} {mg : Str → Option Value} {base : Heap} (T : Kit K mg) : FnG P w K mg base 1 T.a_tied_to T.d_tied_to ["web", "v"] (spD K 2 R_tied_to) := fnD T.F_tied_to sc_tied_to rfl (by decide) (by
  intro sa sls S r S' hR cd A outer s H E hr hgd
  obtain ⟨web_0, v_0, rfl, hg, rfl, rfl⟩ := hR
  refine SB.start (δ' := [some (.p (enc web_0)), some (.p (enc v_0)), none, none, none, none]) (rf := (rf_tied_to S)) (m := m_tied_to web_0 v_0) rfl rfl ?_
  refine stepV (Wf := (WR (rf_tied_to S))) (δf := fun (found_355 : (List (Int × Int))) => [some (.p (enc web_0)), some (.p (enc v_0)), some (.l (encs found_355)), none, none, none]) ([] : List (Int × Int)) (fun (found_355 : (List (Int × Int))) => m_tied_to_7 web_0 v_0 found_355) (fun (found_355 : (List (Int × Int))) => g_tied_to_7 web_0 v_0 found_355) (st_l (i := 2) (ps_set (i := 2) sc_tied_to.nd rfl (by first | exact .inl rfl | exact .inr rfl) (el_lst (ds := encs ([] : List (Int × Int))) ea_nil))) hg (fun found_355 hg_357 => ?_)
  refine forV (Wf := (WR (rf_tied_to S))) (itm := itP1) (fun (n_372 : (List (Int × Int))) => m_tied_to_6 n_372) (fun (n_372 : (List (Int × Int))) => g_tied_to_6 n_372) (nf_tied_to_1 web_0 v_0 S) (found_355 : (List (Int × Int))) (fun (n_360 : (List (Int × Int))) (q_361 : (T3 Int Int Int)) => g_tied_to_5 v_0 n_360 q_361) (fun n_360 q_361 => [some (.p (enc web_0)), some (.p (enc v_0)), some (.l (encs n_360)), some (.p (enc q_361.a)), some (.p (enc q_361.b)), some (.p (enc q_361.c))]) (fun (n_360 : (List (Int × Int))) (q_361 : (T3 Int Int Int)) => m_tied_to_5 v_0 n_360 q_361) (ij_T (ev_ixT rfl (ev_var 0 rfl (pv 0)) ev_int)) (And.intro rfl (And.intro rfl (And.intro rfl trivial))) (fun n_360 q_361 => (tg_tup (ds := [enc q_361.a, enc q_361.b, enc q_361.c]) (by rfl) (tgs_cons (tg_name (pg_name (i := 3) sc_tied_to.nd rfl (by first | exact .inl rfl | exact .inr rfl))) (tgs_cons (tg_name (pg_name (i := 4) sc_tied_to.nd rfl (by first | exact .inl rfl | exact .inr rfl))) (tgs_cons (tg_name (pg_name (i := 5) sc_tied_to.nd rfl (by first | exact .inl rfl | exact .inr rfl))) tgs_nil))))) (fun n_360 q_361 hb_358 => ?_) hg_357.1 hg_357.2 (fun n_372 hg_373 => ?_)
  · refine sb_ifE (Wf := (WN (nf_tied_to_1 web_0 v_0 S))) (x := m_tied_to_3 v_0 n_360 q_361) (y := m_tied_to_4 n_360) (et_cmp (op_inT (hr.un65 (Nat.zero_le _))) (rc_inT (v_0 : Int) ([(q_361.a, q_361.b).1, (q_361.a, q_361.b).2] : (List Int))) (ev_var 1 rfl (pv 1)) (ev_cast (x := ((q_361.a, q_361.b) : (Int × Int))) (y := ([(q_361.a, q_361.b).1, (q_361.a, q_361.b).2] : (List Int))) (rfl) (ev_tup (ds := [enc q_361.a, enc q_361.b]) (ea_cons (ev_var 3 rfl (pv 3)) (ea_cons (ev_var 4 rfl (pv 4)) ea_nil)))) (by with_unfolding_all rfl)) (fun hc_362 => ?_) (fun hc_363 => ?_)
    · have hg_364 := hb_358.1 hc_362
      refine stepV (Wf := (WN (nf_tied_to_1 web_0 v_0 S))) (δf := fun (found_369 : (List (Int × Int))) => [some (.p (enc web_0)), some (.p (enc v_0)), some (.l (encs found_369)), some (.p (enc q_361.a)), some (.p (enc q_361.b)), some (.p (enc q_361.c))]) (n_360 ++ [((if decide (q_361.a = v_0) = true then q_361.b else q_361.a), q_361.c)]) (fun (found_369 : (List (Int × Int))) => m_tied_to_2 found_369) (fun (found_369 : (List (Int × Int))) => g_tied_to_2 found_369) (st_app (i := 2) rfl (pv 2) (ev_tup (ds := [enc ((if decide (q_361.a = v_0) = true then q_361.b else q_361.a) : Int), enc q_361.c]) (ea_cons (ev_ifp (x := (q_361.b : Int)) (y := (q_361.a : Int)) (et_cmp op_eq rc_eqI (ev_var 3 rfl (pv 3)) (ev_var 1 rfl (pv 1)) (nomark _)) (fun hc_366 => (ev_var 4 rfl (pv 4))) (fun hc_367 => (ev_var 3 rfl (pv 3)))) (ea_cons (ev_var 5 rfl (pv 5)) ea_nil))) hg_364.1 (fun h1 h2 => pe_bm PySem.F.plainAttrs_list PySem.F.slot_list_append PySem.F.type_list_append mt_append h1 h2)) hg_364.2 (fun found_369 hg_371 => ?_)
      exact sb_nil rfl (And.intro rfl (And.intro rfl (And.intro rfl trivial)))
    · have hg_365 := hb_358.2 hc_363
      exact sb_nil rfl (And.intro rfl (And.intro rfl (And.intro rfl trivial)))
  · exact sb_retL (el_sorted hr hg_373.1 hg_373.2 (by rfl) T.z_sorted (ev_varL 2 rfl (pv 2))) rfl)
set_option maxHeartbeats 0 in
theorem ok__law_move {P : Program} {w : World} {K : PySem.W.Frag} {mg : Str → Option Value} {base : Heap} (T : Kit K mg) : FnG P w K mg base 2 T.a__law_move T.d__law_move ["source", "p", "n"] (spD K 3 R__law_move) := fnD T.F__law_move sc__law_move rfl (by decide) (by
  intro sa sls S r S' hR cd A outer s H E hr hgd
  obtain ⟨p_0, n_0, rfl, hg, rfl, rfl⟩ := hR
  refine SB.start (δ' := [some (.src), some (.p (enc p_0)), some (.p (enc n_0))]) (rf := rf__law_move) (m := m__law_move p_0 n_0 S) rfl rfl ?_
  exact sb_ret (ev_tup (ds := [enc (getI ([("turn" : Str), ("turn" : Str), ("scale" : Str)] : List Str) ((m__law_pick (3 : Int) S).1)), enc ((m__law_pick n_0 ((m__law_pick (3 : Int) S).2)).1), enc ((1 : Int) + (m__law_pick (p_0 - (1 : Int)) ((m__law_pick n_0 ((m__law_pick (3 : Int) S).2)).2)).1)]) (ea_cons (ev_ixLB hg.2.1 (ev_of_new (el_lst (ds := encs ([("turn" : Str), ("turn" : Str), ("scale" : Str)] : List Str)) (ea_cons ev_str (ea_cons ev_str (ea_cons ev_str ea_nil))))) (ev_call ⟨ok__law_pick T, T.G__law_pick, T.F__law_pick.kp, T.B__law_pick⟩ (hr.mono (by decide)) hgd (by rfl) (ea_cons (ev_varS 0 rfl (pv 0)) (ea_cons ev_int ea_nil)) rfl ⟨_, rfl, hg.1, rfl, rfl⟩)) (ea_cons (ev_call ⟨ok__law_pick T, T.G__law_pick, T.F__law_pick.kp, T.B__law_pick⟩ (hr.mono (by decide)) hgd (by rfl) (ea_cons (ev_varS 0 rfl (pv 0)) (ea_cons (ev_var 2 rfl (pv 2)) ea_nil)) rfl ⟨_, rfl, hg.2.2.1, rfl, rfl⟩) (ea_cons (ev_add ev_int (ev_call ⟨ok__law_pick T, T.G__law_pick, T.F__law_pick.kp, T.B__law_pick⟩ (hr.mono (by decide)) hgd (by rfl) (ea_cons (ev_varS 0 rfl (pv 0)) (ea_cons (ev_sub (ev_var 1 rfl (pv 1)) ev_int) ea_nil)) rfl ⟨_, rfl, hg.2.2.2, rfl, rfl⟩)) ea_nil)))) rfl)
set_option maxHeartbeats 0 in
theorem ok__law_web_of {P : Program} {w : World} {K : PySem.W.Frag} {mg : Str → Option Value} {base : Heap} (T : Kit K mg) : FnG P w K mg base 1 T.a__law_web_of T.d__law_web_of ["p", "rows"] (spD K 2 R__law_web_of) := fnD T.F__law_web_of sc__law_web_of rfl (by decide) (by
  intro sa sls S r S' hR cd A outer s H E hr hgd
  obtain ⟨p_0, rows_0, rfl, hg, rfl, rfl⟩ := hR
  refine SB.start (δ' := [some (.p (enc p_0)), some (.bb (encss rows_0)), none, none, none, none, none]) (rf := (rf__law_web_of S)) (m := m__law_web_of p_0 rows_0) rfl rfl ?_
  refine stepV (Wf := (WR (rf__law_web_of S))) (δf := fun (ties_526 : (List (T3 Int Int Int))) => [some (.p (enc p_0)), some (.bb (encss rows_0)), some (.l (encs ties_526)), none, none, none, none]) ([] : List (T3 Int Int Int)) (fun (ties_526 : (List (T3 Int Int Int))) => m__law_web_of_5 p_0 rows_0 ties_526) (fun (ties_526 : (List (T3 Int Int Int))) => g__law_web_of_5 p_0 rows_0 ties_526) (st_l (i := 2) (ps_set (i := 2) sc__law_web_of.nd rfl (by first | exact .inl rfl | exact .inr rfl) (el_lst (ds := encs ([] : List (T3 Int Int Int))) ea_nil))) hg (fun ties_526 hg_528 => ?_)
  refine forV (Wf := (WR (rf__law_web_of S))) (itm := itP2) (fun (n_541 : (List (T3 Int Int Int))) => m__law_web_of_4 p_0 rows_0 n_541) (fun (n_541 : (List (T3 Int Int Int))) => g__law_web_of_4 p_0 rows_0 n_541) (nf__law_web_of_1 p_0 rows_0 S) (ties_526 : (List (T3 Int Int Int))) (fun (n_531 : (List (T3 Int Int Int))) (q_532 : (Int × (Row Int))) => g__law_web_of_3 n_531 q_532) (fun n_531 q_532 => [some (.p (enc p_0)), some (.bb (encss rows_0)), some (.l (encs n_531)), some (.p (enc q_532.1)), some (.b (encs q_532.2.l)), none, none]) (fun (n_531 : (List (T3 Int Int Int))) (q_532 : (Int × (Row Int))) => m__law_web_of_3 n_531 q_532) (ij_enum (wlk_r _) (by rfl) T.z_enumerate (ea_cons (ev_varBB 1 rfl (pv 1)) ea_nil)) (And.intro rfl (And.intro rfl (And.intro rfl trivial))) (fun n_531 q_532 => (tg_tupN (by rfl) (tgs_cons (tg_name (pg_name (i := 3) sc__law_web_of.nd rfl (by first | exact .inl rfl | exact .inr rfl))) (tgs_cons (tg_name (pg_name (i := 4) sc__law_web_of.nd rfl (by first | exact .inl rfl | exact .inr rfl))) tgs_nil)))) (fun n_531 q_532 hb_529 => ?_) hg_528.1 hg_528.2 (fun n_541 hg_542 => ?_)
  · refine stepV (Wf := (WN (nf__law_web_of_1 p_0 rows_0 S))) (δf := fun (ties_538 : (List (T3 Int Int Int))) => [some (.p (enc p_0)), some (.bb (encss rows_0)), some (.l (encs ties_538)), some (.p (enc q_532.1)), some (.b (encs q_532.2.l)), none, none]) (n_531 ++ (List.map (fun (q_533 : (Int × Int)) => (T3.mk q_532.1 q_533.1 q_533.2)) (List.filter (fun (q_533 : (Int × Int)) => (decide (q_532.1 < q_533.1) && decide (q_533.2 ≠ (0 : Int)))) (enumL q_532.2.l)))) (fun (ties_538 : (List (T3 Int Int Int))) => m__law_web_of_2 ties_538) (fun (ties_538 : (List (T3 Int Int Int))) => g__law_web_of_2 ties_538) (st_l (i := 2) (ps_set (i := 2) sc__law_web_of.nd rfl (by first | exact .inl rfl | exact .inr rfl) (el_catB hb_529.1 (ec_var 2 rfl (pv 2)) (ec_new (elcf (fun (q_533 : (Int × Int)) => True) (fun (q_533 : (Int × Int)) => [some (.p (enc p_0)), some (.bb (encss rows_0)), some (.b (encs n_531)), some (.p (enc q_532.1)), some (.b (encs q_532.2.l)), some (.p (enc q_533.1)), some (.p (enc q_533.2))]) (fun (q_533 : (Int × Int)) => (decide (q_532.1 < q_533.1) && decide (q_533.2 ≠ (0 : Int)))) (fun (q_533 : (Int × Int)) => (T3.mk q_532.1 q_533.1 q_533.2)) (ij_enum (wlk_l _) (by rfl) T.z_enumerate (ea_cons (ev_varB 4 rfl (pv 4)) ea_nil)) (fun _ _ => trivial) (fun q_533 s H C cl fp => (tg_tupN (by rfl) (tgs_cons (tg_name (pg_name (i := 5) sc__law_web_of.nd rfl (by first | exact .inl rfl | exact .inr rfl))) (tgs_cons (tg_name (pg_name (i := 6) sc__law_web_of.nd rfl (by first | exact .inl rfl | exact .inr rfl))) tgs_nil)))) (fun q_533 hq_534 s H C cl fp => (et_pw (ew_andP (et_cmp op_lt rc_lt (ev_var 3 rfl (pv 3)) (ev_var 5 rfl (pv 5)) (nomark _)) fun hc_535 => (ew_and1 (et_cmp op_ne rc_neI (ev_var 6 rfl (pv 6)) ev_int (nomark _)))))) (fun q_533 hq_534 hc_536 s H C cl fp => (ev_tup (ds := [enc q_532.1, enc q_533.1, enc q_533.2]) (ea_cons (ev_var 3 rfl (pv 3)) (ea_cons (ev_var 5 rfl (pv 5)) (ea_cons (ev_var 6 rfl (pv 6)) ea_nil))))) (by rfl) sc__law_web_of.nd (blk_of (own := [("v", 5), ("w", 6)]) (by rfl)) (by decide)))))) hb_529.2 (fun ties_538 hg_540 => ?_)
    exact sb_nil rfl (And.intro rfl (And.intro rfl (And.intro rfl trivial)))
  · exact sb_ret (ev_tup (ds := [enc p_0, enc (List.length rows_0 : Int), enc n_541]) (ea_cons (ev_var 0 rfl (pv 0)) (ea_cons (ev_lenR (by rfl) T.z_len (ev_varBB 1 rfl (pv 1))) (ea_cons (ev_tuple (by rfl) T.z_tuple (ev_varL 2 rfl (pv 2))) ea_nil)))) rfl)
set_option maxHeartbeats 0 in
theorem ok__law_moved {P : Program} {w : World} {K : PySem.W.Frag} {mg : Str → Option Value} {base : Heap} (T : Kit K mg) : FnG P w K mg base 2 T.a__law_moved T.d__law_moved ["web", "move"] (spD K 2 R__law_moved) := fnD T.F__law_moved sc__law_moved rfl (by decide) (by
  intro sa sls S r S' hR cd A outer s H E hr hgd
  obtain ⟨web_0, move_0, rfl, hg, rfl, rfl⟩ := hR
  refine SB.start (δ' := [some (.p (enc web_0)), some (.p (enc move_0)), none, none, none, none, none, none, none, none, none]) (rf := (rf__law_moved S)) (m := m__law_moved web_0 move_0) rfl rfl ?_
  refine step0 (Wf := (WR (rf__law_moved S))) (st_asg (ev_var 1 rfl (pv 1)) (tg_tup (ds := [enc move_0.a, enc move_0.b, enc move_0.c]) (by rfl) (tgs_cons (tg_name (pg_name (i := 2) sc__law_moved.nd rfl (by first | exact .inl rfl | exact .inr rfl))) (tgs_cons (tg_name (pg_name (i := 3) sc__law_moved.nd rfl (by first | exact .inl rfl | exact .inr rfl))) (tgs_cons (tg_name (pg_name (i := 4) sc__law_moved.nd rfl (by first | exact .inl rfl | exact .inr rfl))) tgs_nil))))) ?_
  have hg_547 := hg
  refine stepV (Wf := (WR (rf__law_moved S))) (δf := fun (z_549 : (Int × (List (List Int)))) => [some (.p (enc web_0)), some (.p (enc move_0)), some (.p (enc move_0.a)), some (.p (enc move_0.b)), some (.p (enc move_0.c)), some (.p (enc z_549.1)), some (.bb (encss z_549.2)), none, none, none, none]) (web_0.a, (m__law_table web_0)) (fun (z_549 : (Int × (List (List Int)))) => m__law_moved_16 web_0 move_0 z_549) (fun (z_549 : (Int × (List (List Int)))) => g__law_moved_16 web_0 move_0 z_549) (Step.frz' 6 (st_par (i := 5) (j := 6) (eo_p (ev_ixT rfl (ev_var 0 rfl (pv 0)) ev_int)) (eo_m (em_call ⟨ok__law_table T, T.G__law_table, T.F__law_table.kp, T.B__law_table⟩ (hr.mono (by decide)) hgd (by rfl) (ea_cons (ev_var 0 rfl (pv 0)) ea_nil) rfl ⟨_, rfl, hg_547.1, rfl, rfl⟩)) (by rfl) sc__law_moved.nd rfl rfl (by decide) (by rfl) (by rfl) (by rfl)) (by rfl) (by rfl)) hg_547.2 (fun z_549 hg_551 => ?_)
  refine stepV (Wf := (WR (rf__law_moved S))) (δf := fun (late_555 : (List (List Int))) => [some (.p (enc web_0)), some (.p (enc move_0)), some (.p (enc move_0.a)), some (.p (enc move_0.b)), some (.p (enc move_0.c)), some (.p (enc z_549.1)), some (.bb (encss z_549.2)), none, some (.ll (encss late_555)), none, none]) (List.map (fun (q_552 : (List Int)) => q_552) z_549.2) (fun (late_555 : (List (List Int))) => m__law_moved_15 web_0 move_0 z_549 late_555) (fun (late_555 : (List (List Int))) => g__law_moved_15 web_0 move_0 z_549 late_555) (st_m (i := 8) (plcM (fun (q_552 : (List Int)) => True) (fun (q_552 : (List Int)) => [some (.p (enc web_0)), some (.p (enc move_0)), some (.p (enc move_0.a)), some (.p (enc move_0.b)), some (.p (enc move_0.c)), some (.p (enc z_549.1)), some (.bb (encss z_549.2)), some (.b (encs q_552)), none, none, none]) (fun (q_552 : (List Int)) => q_552) (ij_LL (ev_varBB 6 rfl (pv 6))) (fun _ _ => trivial) (fun q_552 s H C cl fp => (tg_name (pg_name (i := 7) sc__law_moved.nd rfl (by first | exact .inl rfl | exact .inr rfl)))) (fun q_552 hq_553 s H C cl fp => (el_listB (by rfl) T.z_list (ev_varB 7 rfl (pv 7)))) (by rfl) sc__law_moved.nd (blk_of (own := [("row", 7)]) (by rfl)) (by decide) (by rfl) rfl (by rfl))) hg_551 (fun late_555 hg_557 => ?_)
  refine forV (Wf := (WR (rf__law_moved S))) (itm := itP1) (fun (n_618 : (List (List Int))) => m__law_moved_14 z_549 n_618) (fun (n_618 : (List (List Int))) => g__law_moved_14 z_549 n_618) (nf__law_moved_1 web_0 move_0 z_549 S) (late_555 : (List (List Int))) (fun (n_561 : (List (List Int))) (q_562 : Int) => g__law_moved_13 web_0 move_0 z_549 n_561 q_562) (fun n_561 q_562 => [some (.p (enc web_0)), some (.p (enc move_0)), some (.p (enc move_0.a)), some (.p (enc move_0.b)), some (.p (enc move_0.c)), some (.p (enc z_549.1)), some (.bb (encss z_549.2)), none, some (.ll (encss n_561)), some (.p (enc q_562)), none]) (fun (n_561 : (List (List Int))) (q_562 : Int) => m__law_moved_13 web_0 move_0 z_549 n_561 q_562) (ij_range1 hg_557.1 (by rfl) T.z_range (ea_cons (ev_ixT rfl (ev_var 0 rfl (pv 0)) ev_int) ea_nil)) (And.intro rfl (And.intro rfl (And.intro rfl (And.intro rfl (And.intro rfl (And.intro rfl (And.intro rfl (And.intro rfl trivial)))))))) (fun n_561 q_562 => (tg_name (pg_name (i := 9) sc__law_moved.nd rfl (by first | exact .inl rfl | exact .inr rfl)))) (fun n_561 q_562 hb_559 => ?_) hg_557.2.1 hg_557.2.2 (fun n_618 hg_619 => ?_)
  · refine forV (Wf := (WN (nf__law_moved_1 web_0 move_0 z_549 S))) (itm := itP1) (fun (n_616 : (List (List Int))) => m__law_moved_12 n_616) (fun (n_616 : (List (List Int))) => g__law_moved_12 n_616) (nf__law_moved_2 web_0 move_0 z_549 q_562 S) (n_561 : (List (List Int))) (fun (n_566 : (List (List Int))) (q_567 : Int) => g__law_moved_11 move_0 z_549 q_562 n_566 q_567) (fun n_566 q_567 => [some (.p (enc web_0)), some (.p (enc move_0)), some (.p (enc move_0.a)), some (.p (enc move_0.b)), some (.p (enc move_0.c)), some (.p (enc z_549.1)), some (.bb (encss z_549.2)), none, some (.ll (encss n_566)), some (.p (enc q_562)), some (.p (enc q_567))]) (fun (n_566 : (List (List Int))) (q_567 : Int) => m__law_moved_11 move_0 z_549 q_562 n_566 q_567) (ij_range1 hb_559.1 (by rfl) T.z_range (ea_cons (ev_ixT rfl (ev_var 0 rfl (pv 0)) ev_int) ea_nil)) (And.intro rfl (And.intro rfl (And.intro rfl (And.intro rfl (And.intro rfl (And.intro rfl (And.intro rfl (And.intro rfl (And.intro rfl trivial))))))))) (fun n_566 q_567 => (tg_name (pg_name (i := 10) sc__law_moved.nd rfl (by first | exact .inl rfl | exact .inr rfl)))) (fun n_566 q_567 hb_564 => ?_) hb_559.2.1 hb_559.2.2 (fun n_616 hg_617 => ?_)
    · refine ifJ (Wf := (WN (nf__law_moved_2 web_0 move_0 z_549 q_562 S))) (nf := (nf__law_moved_3 web_0 move_0 z_549 q_562 q_567 S)) (x := m__law_moved_5 move_0 z_549 q_562 n_566 q_567) (y := m__law_moved_6 n_566) (fun (n_602 : (List (List Int))) => m__law_moved_10 move_0 z_549 q_562 q_567 n_602) (fun (n_602 : (List (List Int))) => g__law_moved_10 move_0 z_549 q_562 q_567 n_602) (et_pw (ew_andP (et_cmp op_eq rc_eqS (ev_var 2 rfl (pv 2)) ev_str (nomark _)) fun hc_568 => (ew_andP (et_cmp op_ne rc_neI (ev_var 9 rfl (pv 9)) (ev_var 10 rfl (pv 10)) (nomark _)) fun hc_569 => (ew_and1 (et_cmp (op_notInT (hr.un65 (Nat.zero_le _))) (rc_niT (move_0.b : Int) ([(q_562, q_567).1, (q_562, q_567).2] : (List Int))) (ev_var 3 rfl (pv 3)) (ev_cast (x := ((q_562, q_567) : (Int × Int))) (y := ([(q_562, q_567).1, (q_562, q_567).2] : (List Int))) (rfl) (ev_tup (ds := [enc q_562, enc q_567]) (ea_cons (ev_var 9 rfl (pv 9)) (ea_cons (ev_var 10 rfl (pv 10)) ea_nil)))) (by with_unfolding_all rfl)))))) (fun hc_570 => ?_) (fun hc_571 => ?_) hb_564.2.2 (fun n_602 hg_588 => ?_)
      · have hg_586 := hb_564.1 hc_570
        refine stepV (Wf := (WN (nf__law_moved_3 web_0 move_0 z_549 q_562 q_567 S))) (δf := fun (late_599 : (List (List Int))) => [some (.p (enc web_0)), some (.p (enc move_0)), some (.p (enc move_0.a)), some (.p (enc move_0.b)), some (.p (enc move_0.c)), some (.p (enc z_549.1)), some (.bb (encss z_549.2)), none, some (.ll (encss late_599)), some (.p (enc q_562)), some (.p (enc q_567))]) (setAt2 n_566 q_562 q_567 (((getI (getI z_549.2 q_562) q_567) + ((move_0.c * (getI (getI z_549.2 q_562) move_0.b)) * (getI (getI z_549.2 move_0.b) q_567))) % z_549.1)) (fun (late_599 : (List (List Int))) => m__law_moved_4 late_599) (fun (late_599 : (List (List Int))) => g__law_moved_4 late_599) (st_sto2 (i := 8) (tg_rowT (i := 8) rfl (pv 8) (ev_var 9 rfl (pv 9)) (ev_var 10 rfl (pv 10)) hg_586.2.2.2.2.2.2.2.2.2.1 (hpg := fun h1 h2 h3 => pg_sub h1 h2 h3)) (ev_mod hg_586.2.2.2.2.2.2.2.2.1 (ev_intI (by rfl) T.z_int (ev_add (ev_ixLB hg_586.2.1 (ev_ixLBB hg_586.1 (ev_varBB 6 rfl (pv 6)) (ev_var 9 rfl (pv 9))) (ev_var 10 rfl (pv 10))) (ev_mul hg_586.2.2.2.2.2.2.2.1 (ev_mul hg_586.2.2.2.2.1 (ev_var 4 rfl (pv 4)) (ev_ixLB hg_586.2.2.2.1 (ev_ixLBB hg_586.2.2.1 (ev_varBB 6 rfl (pv 6)) (ev_var 9 rfl (pv 9))) (ev_var 3 rfl (pv 3)))) (ev_ixLB hg_586.2.2.2.2.2.2.1 (ev_ixLBB hg_586.2.2.2.2.2.1 (ev_varBB 6 rfl (pv 6)) (ev_var 3 rfl (pv 3))) (ev_var 10 rfl (pv 10)))))) (ev_var 5 rfl (pv 5))) (fun h1 h2 => ps_asg h1 h2)) hg_586.2.2.2.2.2.2.2.2.2.2 (fun late_599 hg_601 => ?_)
        exact sb_nil rfl (And.intro rfl (And.intro rfl (And.intro rfl (And.intro rfl (And.intro rfl (And.intro rfl (And.intro rfl (And.intro rfl (And.intro rfl (And.intro rfl trivial))))))))))
      · have hg_587 := hb_564.2.1 hc_571
        exact sb_nil rfl (And.intro rfl (And.intro rfl (And.intro rfl (And.intro rfl (And.intro rfl (And.intro rfl (And.intro rfl (And.intro rfl (And.intro rfl (And.intro rfl trivial))))))))))
      · refine sb_ifE (Wf := (WN (nf__law_moved_2 web_0 move_0 z_549 q_562 S))) (x := m__law_moved_8 move_0 z_549 q_562 q_567 n_602) (y := m__law_moved_9 n_602) (et_pw (ew_andP (et_cmp op_eq rc_eqS (ev_var 2 rfl (pv 2)) ev_str (nomark _)) fun hc_603 => (ew_and1 (et_cmp (op_inT (hr.un65 (Nat.zero_le _))) (rc_inT (move_0.b : Int) ([(q_562, q_567).1, (q_562, q_567).2] : (List Int))) (ev_var 3 rfl (pv 3)) (ev_cast (x := ((q_562, q_567) : (Int × Int))) (y := ([(q_562, q_567).1, (q_562, q_567).2] : (List Int))) (rfl) (ev_tup (ds := [enc q_562, enc q_567]) (ea_cons (ev_var 9 rfl (pv 9)) (ea_cons (ev_var 10 rfl (pv 10)) ea_nil)))) (by with_unfolding_all rfl))))) (fun hc_604 => ?_) (fun hc_605 => ?_)
        · have hg_606 := hg_588.1 hc_604
          refine stepV (Wf := (WN (nf__law_moved_2 web_0 move_0 z_549 q_562 S))) (δf := fun (late_613 : (List (List Int))) => [some (.p (enc web_0)), some (.p (enc move_0)), some (.p (enc move_0.a)), some (.p (enc move_0.b)), some (.p (enc move_0.c)), some (.p (enc z_549.1)), some (.bb (encss z_549.2)), none, some (.ll (encss late_613)), some (.p (enc q_562)), some (.p (enc q_567))]) (setAt2 n_602 q_562 q_567 (((getI (getI z_549.2 q_562) q_567) * move_0.c) % z_549.1)) (fun (late_613 : (List (List Int))) => m__law_moved_7 late_613) (fun (late_613 : (List (List Int))) => g__law_moved_7 late_613) (st_sto2 (i := 8) (tg_rowT (i := 8) rfl (pv 8) (ev_var 9 rfl (pv 9)) (ev_var 10 rfl (pv 10)) hg_606.2.2.2.2.1 (hpg := fun h1 h2 h3 => pg_sub h1 h2 h3)) (ev_mod hg_606.2.2.2.1 (ev_intI (by rfl) T.z_int (ev_mul hg_606.2.2.1 (ev_ixLB hg_606.2.1 (ev_ixLBB hg_606.1 (ev_varBB 6 rfl (pv 6)) (ev_var 9 rfl (pv 9))) (ev_var 10 rfl (pv 10))) (ev_var 4 rfl (pv 4)))) (ev_var 5 rfl (pv 5))) (fun h1 h2 => ps_asg h1 h2)) hg_606.2.2.2.2.2 (fun late_613 hg_615 => ?_)
          exact sb_nil rfl (And.intro rfl (And.intro rfl (And.intro rfl (And.intro rfl (And.intro rfl (And.intro rfl (And.intro rfl (And.intro rfl (And.intro rfl trivial)))))))))
        · have hg_607 := hg_588.2 hc_605
          exact sb_nil rfl (And.intro rfl (And.intro rfl (And.intro rfl (And.intro rfl (And.intro rfl (And.intro rfl (And.intro rfl (And.intro rfl (And.intro rfl trivial)))))))))
    · exact sb_nil rfl (And.intro rfl (And.intro rfl (And.intro rfl (And.intro rfl (And.intro rfl (And.intro rfl (And.intro rfl (And.intro rfl trivial))))))))
  · exact sb_ret (ev_call ⟨ok__law_web_of T, T.G__law_web_of, T.F__law_web_of.kp, T.B__law_web_of⟩ (hr.mono (by decide)) hgd (by rfl) (ea_cons (ev_var 5 rfl (pv 5)) (ea_cons (ev_varLL 8 rfl (pv 8)) ea_nil)) rfl ⟨_, _, rfl, hg_619, rfl, rfl⟩) rfl)
set_option maxHeartbeats 0 in
theorem ok_web_of_1 {P : Program} {w : World} {K : PySem.W.Frag} {mg : Str → Option Value} {base : Heap} (T : Kit K mg) : FnG P w K mg base 1 T.a_web_of T.d_web_of ["p", "table"] (spD K 2 R_web_of_1) := fnD T.F_web_of sc_web_of rfl (by decide) (by
  intro sa sls S r S' hR cd A outer s H E hr hgd
  obtain ⟨p_0, table_0, rfl, hg, rfl, rfl⟩ := hR
  refine SB.start (δ' := [some (.p (enc p_0)), some (.bb (encss table_0)), none, none, none, none]) (rf := (rf_web_of_1 S)) (m := m_web_of_1 p_0 table_0) rfl rfl ?_
  refine stepV (Wf := (WR (rf_web_of_1 S))) (δf := fun (z_703 : (Int × (List (T3 Int Int Int)))) => [some (.p (enc p_0)), some (.bb (encss table_0)), some (.p (enc z_703.1)), some (.l (encs z_703.2)), none, none]) ((List.length table_0 : Int), ([] : List (T3 Int Int Int))) (fun (z_703 : (Int × (List (T3 Int Int Int)))) => m_web_of_1_5 p_0 table_0 z_703) (fun (z_703 : (Int × (List (T3 Int Int Int)))) => g_web_of_1_5 p_0 table_0 z_703) (st_par (i := 2) (j := 3) (eo_p (ev_lenR (by rfl) T.z_len (ev_varBB 1 rfl (pv 1)))) (eo_l (el_lst (ds := encs ([] : List (T3 Int Int Int))) ea_nil)) (by rfl) sc_web_of.nd rfl rfl (by decide) (by rfl) (by rfl) (by rfl)) hg (fun z_703 hg_705 => ?_)
  refine forV (Wf := (WR (rf_web_of_1 S))) (itm := itP1) (fun (n_727 : (List (T3 Int Int Int))) => m_web_of_1_4 p_0 z_703 n_727) (fun (n_727 : (List (T3 Int Int Int))) => g_web_of_1_4 p_0 z_703 n_727) (nf_web_of_1_1 p_0 table_0 z_703 S) (z_703.2 : (List (T3 Int Int Int))) (fun (n_709 : (List (T3 Int Int Int))) (q_710 : Int) => g_web_of_1_3 table_0 z_703 n_709 q_710) (fun n_709 q_710 => [some (.p (enc p_0)), some (.bb (encss table_0)), some (.p (enc z_703.1)), some (.l (encs n_709)), some (.p (enc q_710)), none]) (fun (n_709 : (List (T3 Int Int Int))) (q_710 : Int) => m_web_of_1_3 table_0 z_703 n_709 q_710) (ij_range1 hg_705.1 (by rfl) T.z_range (ea_cons (ev_var 2 rfl (pv 2)) ea_nil)) (And.intro rfl (And.intro rfl (And.intro rfl (And.intro rfl trivial)))) (fun n_709 q_710 => (tg_name (pg_name (i := 4) sc_web_of.nd rfl (by first | exact .inl rfl | exact .inr rfl)))) (fun n_709 q_710 hb_707 => ?_) hg_705.2.1 hg_705.2.2 (fun n_727 hg_728 => ?_)
  · refine stepV (Wf := (WN (nf_web_of_1_1 p_0 table_0 z_703 S))) (δf := fun (ties_724 : (List (T3 Int Int Int))) => [some (.p (enc p_0)), some (.bb (encss table_0)), some (.p (enc z_703.1)), some (.l (encs ties_724)), some (.p (enc q_710)), none]) (n_709 ++ (List.map (fun (q_714 : Int) => (T3.mk q_710 q_714 (getI (getI table_0 q_710) q_714))) (List.filter (fun (q_714 : Int) => decide ((getI (getI table_0 q_710) q_714) ≠ (0 : Int))) (rngI (q_710 + (1 : Int)) (Int.toNat (z_703.1 - (q_710 + (1 : Int)))))))) (fun (ties_724 : (List (T3 Int Int Int))) => m_web_of_1_2 ties_724) (fun (ties_724 : (List (T3 Int Int Int))) => g_web_of_1_2 ties_724) (st_ext (i := 3) rfl (pv 3) (elcf (fun (q_714 : Int) => (InB table_0 q_710) ∧ (InB (getI table_0 q_710) q_714) ∧ (decide ((getI (getI table_0 q_710) q_714) ≠ (0 : Int)) = true → (InB table_0 q_710) ∧ (InB (getI table_0 q_710) q_714))) (fun (q_714 : Int) => [some (.p (enc p_0)), some (.bb (encss table_0)), some (.p (enc z_703.1)), some (.b (encs n_709)), some (.p (enc q_710)), some (.p (enc q_714))]) (fun (q_714 : Int) => decide ((getI (getI table_0 q_710) q_714) ≠ (0 : Int))) (fun (q_714 : Int) => (T3.mk q_710 q_714 (getI (getI table_0 q_710) q_714))) (ij_range2 hb_707.1 hb_707.2.1 hb_707.2.2.1 (by rfl) T.z_range (ea_cons (ev_add (ev_var 4 rfl (pv 4)) ev_int) (ea_cons (ev_var 2 rfl (pv 2)) ea_nil))) hb_707.2.2.2.1 (fun q_714 s H C cl fp => (tg_name (pg_name (i := 5) sc_web_of.nd rfl (by first | exact .inl rfl | exact .inr rfl)))) (fun q_714 hq_715 s H C cl fp => (et_cmp op_ne rc_neI (ev_ixLB hq_715.2.1 (ev_ixLBB hq_715.1 (ev_varBB 1 rfl (pv 1)) (ev_var 4 rfl (pv 4))) (ev_var 5 rfl (pv 5))) ev_int (nomark _))) (fun q_714 hq_715 hc_718 s H C cl fp => (ev_tup (ds := [enc q_710, enc q_714, enc (getI (getI table_0 q_710) q_714)]) (ea_cons (ev_var 4 rfl (pv 4)) (ea_cons (ev_var 5 rfl (pv 5)) (ea_cons (ev_ixLB (hq_715.2.2 hc_718).2 (ev_ixLBB (hq_715.2.2 hc_718).1 (ev_varBB 1 rfl (pv 1)) (ev_var 4 rfl (pv 4))) (ev_var 5 rfl (pv 5))) ea_nil))))) (by rfl) sc_web_of.nd (blk_of (own := [("v", 5)]) (by rfl)) (by decide)) hb_707.2.2.2.2.1 (fun h1 h2 => pe_bm PySem.F.plainAttrs_list PySem.F.slot_list_extend PySem.F.type_list_extend mt_extend h1 h2)) hb_707.2.2.2.2.2 (fun ties_724 hg_726 => ?_)
    exact sb_nil rfl (And.intro rfl (And.intro rfl (And.intro rfl (And.intro rfl trivial))))
  · exact sb_ret (ev_tup (ds := [enc p_0, enc z_703.1, enc n_727]) (ea_cons (ev_var 0 rfl (pv 0)) (ea_cons (ev_var 2 rfl (pv 2)) (ea_cons (ev_tuple (by rfl) T.z_tuple (ev_varL 3 rfl (pv 3))) ea_nil)))) rfl)
set_option maxHeartbeats 0 in
theorem ok_turned {P : Program} {w : World} {K : PySem.W.Frag} {mg : Str → Option Value} {base : Heap} (T : Kit K mg) : FnG P w K mg base 2 T.a_turned T.d_turned ["web", "v", "c"] (spD K 3 R_turned) := fnD T.F_turned sc_turned rfl (by decide) (by
  intro sa sls S r S' hR cd A outer s H E hr hgd
  obtain ⟨web_0, v_0, c_0, rfl, hg, rfl, rfl⟩ := hR
  refine SB.start (δ' := [some (.p (enc web_0)), some (.p (enc v_0)), some (.p (enc c_0)), none, none, none, none, none, none, none]) (rf := (rf_turned S)) (m := m_turned web_0 v_0 c_0) rfl rfl ?_
  refine stepV (Wf := (WR (rf_turned S))) (δf := fun (z_739 : ((List (List Int)) × (List (Int × Int)))) => [some (.p (enc web_0)), some (.p (enc v_0)), some (.p (enc c_0)), none, some (.ll (encss z_739.1)), some (.b (encs z_739.2)), none, none, none, none]) ((List.map (fun (q_735 : (List Int)) => q_735) (m_table_of web_0)), (m_tied_to web_0 v_0)) (fun (z_739 : ((List (List Int)) × (List (Int × Int)))) => m_turned_10 web_0 c_0 z_739) (fun (z_739 : ((List (List Int)) × (List (Int × Int)))) => g_turned_10 web_0 c_0 z_739) (Step.frz' 5 (st_par (i := 4) (j := 5) (eo_m (elcM (fun (q_735 : (List Int)) => True) (fun (q_735 : (List Int)) => [some (.p (enc web_0)), some (.p (enc v_0)), some (.p (enc c_0)), some (.p (enc q_735)), none, none, none, none, none, none]) (fun (q_735 : (List Int)) => q_735) (ij_T (ev_call ⟨ok_table_of T, T.G_table_of, T.F_table_of.kp, T.B_table_of⟩ (hr.mono (by decide)) hgd (by rfl) (ea_cons (ev_var 0 rfl (pv 0)) ea_nil) rfl ⟨_, rfl, hg.1, rfl, rfl⟩)) (fun _ _ => trivial) (fun q_735 s H C cl fp => (tg_name (pg_name (i := 3) sc_turned.nd rfl (by first | exact .inl rfl | exact .inr rfl)))) (fun q_735 hq_736 s H C cl fp => (el_listT (by rfl) T.z_list (ev_var 3 rfl (pv 3)))) (by rfl) sc_turned.nd (blk_of (own := [("row", 3)]) (by rfl)) (by decide))) (eo_l (el_call ⟨ok_tied_to T, T.G_tied_to, T.F_tied_to.kp, T.B_tied_to⟩ (hr.mono (by decide)) hgd (by rfl) (ea_cons (ev_var 0 rfl (pv 0)) (ea_cons (ev_var 1 rfl (pv 1)) ea_nil)) rfl ⟨_, _, rfl, hg.2.1, rfl, rfl⟩)) (by rfl) sc_turned.nd rfl rfl (by decide) (by rfl) (by rfl) (by rfl)) (by rfl) (by rfl)) hg.2.2 (fun z_739 hg_741 => ?_)
  refine forV (Wf := (WR (rf_turned S))) (itm := itP1) (fun (n_765 : (List (List Int))) => m_turned_9 web_0 n_765) (fun (n_765 : (List (List Int))) => g_turned_9 web_0 n_765) (nf_turned_1 web_0 v_0 c_0 z_739 S) (z_739.1 : (List (List Int))) (fun (n_744 : (List (List Int))) (q_745 : (Int × Int)) => g_turned_8 web_0 c_0 z_739 n_744 q_745) (fun n_744 q_745 => [some (.p (enc web_0)), some (.p (enc v_0)), some (.p (enc c_0)), none, some (.ll (encss n_744)), some (.b (encs z_739.2)), some (.p (enc q_745.1)), some (.p (enc q_745.2)), none, none]) (fun (n_744 : (List (List Int))) (q_745 : (Int × Int)) => m_turned_8 web_0 c_0 z_739 n_744 q_745) (ij_L (ev_varB 5 rfl (pv 5))) (And.intro rfl (And.intro rfl (And.intro rfl (And.intro rfl (And.intro rfl trivial))))) (fun n_744 q_745 => (tg_tup (ds := [enc q_745.1, enc q_745.2]) (by rfl) (tgs_cons (tg_name (pg_name (i := 6) sc_turned.nd rfl (by first | exact .inl rfl | exact .inr rfl))) (tgs_cons (tg_name (pg_name (i := 7) sc_turned.nd rfl (by first | exact .inl rfl | exact .inr rfl))) tgs_nil)))) (fun n_744 q_745 hb_742 => ?_) hg_741.1 hg_741.2 (fun n_765 hg_766 => ?_)
  · refine forV (Wf := (WN (nf_turned_1 web_0 v_0 c_0 z_739 S))) (itm := itP1) (fun (n_763 : (List (List Int))) => m_turned_7 n_763) (fun (n_763 : (List (List Int))) => g_turned_7 n_763) (nf_turned_2 web_0 v_0 c_0 z_739 q_745 S) (n_744 : (List (List Int))) (fun (n_748 : (List (List Int))) (q_749 : (Int × Int)) => g_turned_6 web_0 c_0 q_745 n_748 q_749) (fun n_748 q_749 => [some (.p (enc web_0)), some (.p (enc v_0)), some (.p (enc c_0)), none, some (.ll (encss n_748)), some (.b (encs z_739.2)), some (.p (enc q_745.1)), some (.p (enc q_745.2)), some (.p (enc q_749.1)), some (.p (enc q_749.2))]) (fun (n_748 : (List (List Int))) (q_749 : (Int × Int)) => m_turned_6 web_0 c_0 q_745 n_748 q_749) (ij_L (ev_varB 5 rfl (pv 5))) (And.intro rfl (And.intro rfl (And.intro rfl (And.intro rfl (And.intro rfl (And.intro rfl (And.intro rfl trivial))))))) (fun n_748 q_749 => (tg_tup (ds := [enc q_749.1, enc q_749.2]) (by rfl) (tgs_cons (tg_name (pg_name (i := 8) sc_turned.nd rfl (by first | exact .inl rfl | exact .inr rfl))) (tgs_cons (tg_name (pg_name (i := 9) sc_turned.nd rfl (by first | exact .inl rfl | exact .inr rfl))) tgs_nil)))) (fun n_748 q_749 hb_746 => ?_) hb_742.1 hb_742.2 (fun n_763 hg_764 => ?_)
    · refine sb_ifE (Wf := (WN (nf_turned_2 web_0 v_0 c_0 z_739 q_745 S))) (x := m_turned_4 web_0 c_0 q_745 n_748 q_749) (y := m_turned_5 n_748) (et_cmp op_ne rc_neI (ev_var 6 rfl (pv 6)) (ev_var 8 rfl (pv 8)) (nomark _)) (fun hc_750 => ?_) (fun hc_751 => ?_)
      · have hg_752 := hb_746.1 hc_750
        refine stepV (Wf := (WN (nf_turned_2 web_0 v_0 c_0 z_739 q_745 S))) (δf := fun (rows_760 : (List (List Int))) => [some (.p (enc web_0)), some (.p (enc v_0)), some (.p (enc c_0)), none, some (.ll (encss rows_760)), some (.b (encs z_739.2)), some (.p (enc q_745.1)), some (.p (enc q_745.2)), some (.p (enc q_749.1)), some (.p (enc q_749.2))]) (setAt2 n_748 q_745.1 q_749.1 (((getI (getI n_748 q_745.1) q_749.1) + ((c_0 * q_745.2) * q_749.2)) % web_0.a)) (fun (rows_760 : (List (List Int))) => m_turned_3 rows_760) (fun (rows_760 : (List (List Int))) => g_turned_3 rows_760) (st_sto2 (i := 4) (tg_rowT (i := 4) rfl (pv 4) (ev_var 6 rfl (pv 6)) (ev_var 8 rfl (pv 8)) hg_752.2.2.2.2.2.1 (hpg := fun h1 h2 h3 => pg_sub h1 h2 h3)) (ev_mod hg_752.2.2.2.2.1 (ev_add (ev_ixLB hg_752.2.1 (ev_ixLBB hg_752.1 (ev_varLL 4 rfl (pv 4)) (ev_var 6 rfl (pv 6))) (ev_var 8 rfl (pv 8))) (ev_mul hg_752.2.2.2.1 (ev_mul hg_752.2.2.1 (ev_var 2 rfl (pv 2)) (ev_var 7 rfl (pv 7))) (ev_var 9 rfl (pv 9)))) (ev_ixT rfl (ev_var 0 rfl (pv 0)) ev_int)) (fun h1 h2 => ps_asg h1 h2)) hg_752.2.2.2.2.2.2 (fun rows_760 hg_762 => ?_)
        exact sb_nil rfl (And.intro rfl (And.intro rfl (And.intro rfl (And.intro rfl (And.intro rfl (And.intro rfl (And.intro rfl trivial)))))))
      · have hg_753 := hb_746.2 hc_751
        exact sb_nil rfl (And.intro rfl (And.intro rfl (And.intro rfl (And.intro rfl (And.intro rfl (And.intro rfl (And.intro rfl trivial)))))))
    · exact sb_nil rfl (And.intro rfl (And.intro rfl (And.intro rfl (And.intro rfl (And.intro rfl trivial)))))
  · exact sb_ret (ev_call ⟨ok_web_of_1 T, T.G_web_of, T.F_web_of.kp, T.B_web_of⟩ (hr.mono (by decide)) hgd (by rfl) (ea_cons (ev_ixT rfl (ev_var 0 rfl (pv 0)) ev_int) (ea_cons (ev_varLL 4 rfl (pv 4)) ea_nil)) rfl ⟨_, _, rfl, hg_766, rfl, rfl⟩) rfl)
set_option maxHeartbeats 0 in
theorem ok_scaled {P : Program} {w : World} {K : PySem.W.Frag} {mg : Str → Option Value} {base : Heap} (T : Kit K mg) : FnG P w K mg base 1 T.a_scaled T.d_scaled ["web", "v", "s"] (spD K 3 R_scaled) := fnD T.F_scaled sc_scaled rfl (by decide) (by
  intro sa sls S r S' hR cd A outer s H E hr hgd
  obtain ⟨web_0, v_0, s_0, rfl, hg, rfl, rfl⟩ := hR
  refine SB.start (δ' := [some (.p (enc web_0)), some (.p (enc v_0)), some (.p (enc s_0)), none, none, none, none, none, none]) (rf := (rf_scaled S)) (m := m_scaled web_0 v_0 s_0) rfl rfl ?_
  refine step0 (Wf := (WR (rf_scaled S))) (st_asg (ev_var 0 rfl (pv 0)) (tg_tup (ds := [enc web_0.a, enc web_0.b, enc web_0.c]) (by rfl) (tgs_cons (tg_name (pg_name (i := 3) sc_scaled.nd rfl (by first | exact .inl rfl | exact .inr rfl))) (tgs_cons (tg_name (pg_name (i := 4) sc_scaled.nd rfl (by first | exact .inl rfl | exact .inr rfl))) (tgs_cons (tg_name (pg_name (i := 5) sc_scaled.nd rfl (by first | exact .inl rfl | exact .inr rfl))) tgs_nil))))) ?_
  have hg_788 := hg
  exact sb_ret (ev_tup (ds := [enc web_0.a, enc web_0.b, enc (List.map (fun (q_789 : (T3 Int Int Int)) => (T3.mk q_789.a q_789.b (if (mem (v_0 : Int) ([(q_789.a, q_789.b).1, (q_789.a, q_789.b).2] : (List Int))) = true then ((q_789.c * s_0) % web_0.a) else q_789.c))) web_0.c)]) (ea_cons (ev_var 3 rfl (pv 3)) (ea_cons (ev_var 4 rfl (pv 4)) (ea_cons (ev_tuple (by rfl) T.z_tuple (ev_of_new (elc (fun (q_789 : (T3 Int Int Int)) => ((mem (v_0 : Int) ([(q_789.a, q_789.b).1, (q_789.a, q_789.b).2] : (List Int))) = true → (CMul q_789.c s_0) ∧ (0 < web_0.a))) (fun (q_789 : (T3 Int Int Int)) => [some (.p (enc web_0)), some (.p (enc v_0)), some (.p (enc s_0)), some (.p (enc web_0.a)), some (.p (enc web_0.b)), some (.p (enc web_0.c)), some (.p (enc q_789.a)), some (.p (enc q_789.b)), some (.p (enc q_789.c))]) (fun (q_789 : (T3 Int Int Int)) => (T3.mk q_789.a q_789.b (if (mem (v_0 : Int) ([(q_789.a, q_789.b).1, (q_789.a, q_789.b).2] : (List Int))) = true then ((q_789.c * s_0) % web_0.a) else q_789.c))) (ij_T (ev_var 5 rfl (pv 5))) hg_788 (fun q_789 s H C cl fp => (tg_tup (ds := [enc q_789.a, enc q_789.b, enc q_789.c]) (by rfl) (tgs_cons (tg_name (pg_name (i := 6) sc_scaled.nd rfl (by first | exact .inl rfl | exact .inr rfl))) (tgs_cons (tg_name (pg_name (i := 7) sc_scaled.nd rfl (by first | exact .inl rfl | exact .inr rfl))) (tgs_cons (tg_name (pg_name (i := 8) sc_scaled.nd rfl (by first | exact .inl rfl | exact .inr rfl))) tgs_nil))))) (fun q_789 hq_790 s H C cl fp => (ev_tup (ds := [enc q_789.a, enc q_789.b, enc ((if (mem (v_0 : Int) ([(q_789.a, q_789.b).1, (q_789.a, q_789.b).2] : (List Int))) = true then ((q_789.c * s_0) % web_0.a) else q_789.c) : Int)]) (ea_cons (ev_var 6 rfl (pv 6)) (ea_cons (ev_var 7 rfl (pv 7)) (ea_cons (ev_ifp (x := (((q_789.c * s_0) % web_0.a) : Int)) (y := (q_789.c : Int)) (et_cmp (op_inT (hr.un65 (Nat.zero_le _))) (rc_inT (v_0 : Int) ([(q_789.a, q_789.b).1, (q_789.a, q_789.b).2] : (List Int))) (ev_var 1 rfl (pv 1)) (ev_cast (x := ((q_789.a, q_789.b) : (Int × Int))) (y := ([(q_789.a, q_789.b).1, (q_789.a, q_789.b).2] : (List Int))) (rfl) (ev_tup (ds := [enc q_789.a, enc q_789.b]) (ea_cons (ev_var 6 rfl (pv 6)) (ea_cons (ev_var 7 rfl (pv 7)) ea_nil)))) (by with_unfolding_all rfl)) (fun hc_792 => (ev_mod (hq_790 hc_792).2 (ev_mul (hq_790 hc_792).1 (ev_var 8 rfl (pv 8)) (ev_var 2 rfl (pv 2))) (ev_var 3 rfl (pv 3)))) (fun hc_793 => (ev_var 8 rfl (pv 8)))) ea_nil))))) (by rfl) sc_scaled.nd (blk_of (own := [("one", 6), ("other", 7), ("w", 8)]) (by rfl)) (by decide)))) ea_nil)))) rfl)
set_option maxHeartbeats 0 in
theorem ok_moved {P : Program} {w : World} {K : PySem.W.Frag} {mg : Str → Option Value} {base : Heap} (T : Kit K mg) : FnG P w K mg base 3 T.a_moved T.d_moved ["web", "move"] (spD K 2 R_moved) := fnD T.F_moved sc_moved rfl (by decide) (by
  intro sa sls S r S' hR cd A outer s H E hr hgd
  obtain ⟨web_0, move_0, rfl, hg, rfl, rfl⟩ := hR
  refine SB.start (δ' := [some (.p (enc web_0)), some (.p (enc move_0)), none, none, none]) (rf := (rf_moved S)) (m := m_moved web_0 move_0) rfl rfl ?_
  refine step0 (Wf := (WR (rf_moved S))) (st_asg (ev_var 1 rfl (pv 1)) (tg_tup (ds := [enc move_0.a, enc move_0.b, enc move_0.c]) (by rfl) (tgs_cons (tg_name (pg_name (i := 2) sc_moved.nd rfl (by first | exact .inl rfl | exact .inr rfl))) (tgs_cons (tg_name (pg_name (i := 3) sc_moved.nd rfl (by first | exact .inl rfl | exact .inr rfl))) (tgs_cons (tg_name (pg_name (i := 4) sc_moved.nd rfl (by first | exact .inl rfl | exact .inr rfl))) tgs_nil))))) ?_
  have hg_816 := hg
  exact sb_ret (ev_ifp (x := ((m_turned web_0 move_0.b move_0.c) : (T3 Int Int (List (T3 Int Int Int))))) (y := ((m_scaled web_0 move_0.b move_0.c) : (T3 Int Int (List (T3 Int Int Int))))) (et_cmp op_eq rc_eqS (ev_var 2 rfl (pv 2)) ev_str (nomark _)) (fun hc_817 => (ev_call ⟨ok_turned T, T.G_turned, T.F_turned.kp, T.B_turned⟩ (hr.mono (by decide)) hgd (by rfl) (ea_cons (ev_var 0 rfl (pv 0)) (ea_cons (ev_var 3 rfl (pv 3)) (ea_cons (ev_var 4 rfl (pv 4)) ea_nil))) rfl ⟨_, _, _, rfl, (hg_816.1 hc_817), rfl, rfl⟩)) (fun hc_818 => (ev_call ⟨ok_scaled T, T.G_scaled, T.F_scaled.kp, T.B_scaled⟩ (hr.mono (by decide)) hgd (by rfl) (ea_cons (ev_var 0 rfl (pv 0)) (ea_cons (ev_var 3 rfl (pv 3)) (ea_cons (ev_var 4 rfl (pv 4)) ea_nil))) rfl ⟨_, _, _, rfl, (hg_816.2 hc_818), rfl, rfl⟩))) rfl)
set_option maxHeartbeats 0 in
theorem ok_inverse {P : Program} {w : World} {K : PySem.W.Frag} {mg : Str → Option Value} {base : Heap} (T : Kit K mg) : FnG P w K mg base 1 T.a_inverse T.d_inverse ["p", "a"] (spD K 2 R_inverse) := fnD T.F_inverse sc_inverse rfl (by decide) (by
  intro sa sls S r S' hR cd A outer s H E hr hgd
  obtain ⟨p_0, a_0, rfl, hg, rfl, rfl⟩ := hR
  refine SB.start (δ' := [some (.p (enc p_0)), some (.p (enc a_0)), none]) (rf := (rf_inverse S)) (m := m_inverse p_0 a_0) rfl rfl ?_
  exact sb_ret (ev_ixLB hg.2.2.2.2 (ev_of_new (elcf (fun (q_863 : Int) => (CMul a_0 q_863) ∧ (0 < p_0)) (fun (q_863 : Int) => [some (.p (enc p_0)), some (.p (enc a_0)), some (.p (enc q_863))]) (fun (q_863 : Int) => decide (((a_0 * q_863) % p_0) = (1 : Int))) (fun (q_863 : Int) => q_863) (ij_range2 hg.1 hg.2.1 hg.2.2.1 (by rfl) T.z_range (ea_cons ev_int (ea_cons (ev_var 0 rfl (pv 0)) ea_nil))) hg.2.2.2.1 (fun q_863 s H C cl fp => (tg_name (pg_name (i := 2) sc_inverse.nd rfl (by first | exact .inl rfl | exact .inr rfl)))) (fun q_863 hq_864 s H C cl fp => (et_cmp op_eq rc_eqI (ev_mod hq_864.2 (ev_mul hq_864.1 (ev_var 1 rfl (pv 1)) (ev_var 2 rfl (pv 2))) (ev_var 0 rfl (pv 0))) ev_int (nomark _))) (fun q_863 hq_864 hc_867 s H C cl fp => (ev_var 2 rfl (pv 2))) (by rfl) sc_inverse.nd (blk_of (own := [("b", 2)]) (by rfl)) (by decide))) ev_int) rfl)
set_option maxHeartbeats 0 in
theorem ok_move_back {P : Program} {w : World} {K : PySem.W.Frag} {mg : Str → Option Value} {base : Heap} (T : Kit K mg) : FnG P w K mg base 2 T.a_move_back T.d_move_back ["p", "move"] (spD K 2 R_move_back) := fnD T.F_move_back sc_move_back rfl (by decide) (by
  intro sa sls S r S' hR cd A outer s H E hr hgd
  obtain ⟨p_0, move_0, rfl, hg, rfl, rfl⟩ := hR
  refine SB.start (δ' := [some (.p (enc p_0)), some (.p (enc move_0)), none, none, none]) (rf := (rf_move_back S)) (m := m_move_back p_0 move_0) rfl rfl ?_
  refine step0 (Wf := (WR (rf_move_back S))) (st_asg (ev_var 1 rfl (pv 1)) (tg_tup (ds := [enc move_0.a, enc move_0.b, enc move_0.c]) (by rfl) (tgs_cons (tg_name (pg_name (i := 2) sc_move_back.nd rfl (by first | exact .inl rfl | exact .inr rfl))) (tgs_cons (tg_name (pg_name (i := 3) sc_move_back.nd rfl (by first | exact .inl rfl | exact .inr rfl))) (tgs_cons (tg_name (pg_name (i := 4) sc_move_back.nd rfl (by first | exact .inl rfl | exact .inr rfl))) tgs_nil))))) ?_
  have hg_875 := hg
  exact sb_ret (ev_tup (ds := [enc move_0.a, enc move_0.b, enc ((if decide (move_0.a = ("turn" : Str)) = true then ((-move_0.c) % p_0) else (m_inverse p_0 move_0.c)) : Int)]) (ea_cons (ev_var 2 rfl (pv 2)) (ea_cons (ev_var 3 rfl (pv 3)) (ea_cons (ev_ifp (x := (((-move_0.c) % p_0) : Int)) (y := ((m_inverse p_0 move_0.c) : Int)) (et_cmp op_eq rc_eqS (ev_var 2 rfl (pv 2)) ev_str (nomark _)) (fun hc_876 => (ev_mod (hg_875.1 hc_876) (ev_neg (ev_var 4 rfl (pv 4))) (ev_var 0 rfl (pv 0)))) (fun hc_877 => (ev_call ⟨ok_inverse T, T.G_inverse, T.F_inverse.kp, T.B_inverse⟩ (hr.mono (by decide)) hgd (by rfl) (ea_cons (ev_var 0 rfl (pv 0)) (ea_cons (ev_var 4 rfl (pv 4)) ea_nil)) rfl ⟨_, _, rfl, (hg_875.2 hc_877), rfl, rfl⟩))) ea_nil)))) rfl)
set_option maxHeartbeats 0 in
theorem ok_webs_along {P : Program} {w : World} {K : PySem.W.Frag} {mg : Str → Option Value} {base : Heap} (T : Kit K mg) : FnG P w K mg base 4 T.a_webs_along T.d_webs_along ["web", "moves"] (spD K 2 R_webs_along) := fnD T.F_webs_along sc_webs_along rfl (by decide) (by
  intro sa sls S r S' hR cd A outer s H E hr hgd
  obtain ⟨web_0, moves_0, rfl, hg, rfl, rfl⟩ := hR
  refine SB.start (δ' := [some (.p (enc web_0)), some (.p (enc moves_0)), none, none]) (rf := (rf_webs_along S)) (m := m_webs_along web_0 moves_0) rfl rfl ?_
  refine stepV (Wf := (WR (rf_webs_along S))) (δf := fun (found_912 : (List (T3 Int Int (List (T3 Int Int Int))))) => [some (.p (enc web_0)), some (.p (enc moves_0)), some (.l (encs found_912)), none]) ([web_0] : List (T3 Int Int (List (T3 Int Int Int)))) (fun (found_912 : (List (T3 Int Int (List (T3 Int Int Int))))) => m_webs_along_5 moves_0 found_912) (fun (found_912 : (List (T3 Int Int (List (T3 Int Int Int))))) => g_webs_along_5 moves_0 found_912) (st_l (i := 2) (ps_set (i := 2) sc_webs_along.nd rfl (by first | exact .inl rfl | exact .inr rfl) (el_lst (ds := encs ([web_0] : List (T3 Int Int (List (T3 Int Int Int))))) (ea_cons (ev_var 0 rfl (pv 0)) ea_nil)))) hg (fun found_912 hg_914 => ?_)
  refine forV (Wf := (WR (rf_webs_along S))) (itm := itP1) (fun (n_925 : (List (T3 Int Int (List (T3 Int Int Int))))) => m_webs_along_4 n_925) (fun (n_925 : (List (T3 Int Int (List (T3 Int Int Int))))) => g_webs_along_4 n_925) (nf_webs_along_1 web_0 moves_0 S) (found_912 : (List (T3 Int Int (List (T3 Int Int Int))))) (fun (n_917 : (List (T3 Int Int (List (T3 Int Int Int))))) (q_918 : (T3 Str Int Int)) => g_webs_along_3 n_917 q_918) (fun n_917 q_918 => [some (.p (enc web_0)), some (.p (enc moves_0)), some (.l (encs n_917)), some (.p (enc q_918))]) (fun (n_917 : (List (T3 Int Int (List (T3 Int Int Int))))) (q_918 : (T3 Str Int Int)) => m_webs_along_3 n_917 q_918) (ij_T (ev_var 1 rfl (pv 1))) (And.intro rfl (And.intro rfl (And.intro rfl trivial))) (fun n_917 q_918 => (tg_name (pg_name (i := 3) sc_webs_along.nd rfl (by first | exact .inl rfl | exact .inr rfl)))) (fun n_917 q_918 hb_915 => ?_) hg_914.1 hg_914.2 (fun n_925 hg_926 => ?_)
  · refine stepV (Wf := (WN (nf_webs_along_1 web_0 moves_0 S))) (δf := fun (found_922 : (List (T3 Int Int (List (T3 Int Int Int))))) => [some (.p (enc web_0)), some (.p (enc moves_0)), some (.l (encs found_922)), some (.p (enc q_918))]) (n_917 ++ [(m_moved (getI n_917 (-(1 : Int))) q_918)]) (fun (found_922 : (List (T3 Int Int (List (T3 Int Int Int))))) => m_webs_along_2 found_922) (fun (found_922 : (List (T3 Int Int (List (T3 Int Int Int))))) => g_webs_along_2 found_922) (st_app (i := 2) rfl (pv 2) (ev_call ⟨ok_moved T, T.G_moved, T.F_moved.kp, T.B_moved⟩ (hr.mono (by decide)) hgd (by rfl) (ea_cons (ev_ixLB hb_915.1 (ev_varL 2 rfl (pv 2)) (ev_neg ev_int)) (ea_cons (ev_var 3 rfl (pv 3)) ea_nil)) rfl ⟨_, _, rfl, hb_915.2.1, rfl, rfl⟩) hb_915.2.2.1 (fun h1 h2 => pe_bm PySem.F.plainAttrs_list PySem.F.slot_list_append PySem.F.type_list_append mt_append h1 h2)) hb_915.2.2.2 (fun found_922 hg_924 => ?_)
    exact sb_nil rfl (And.intro rfl (And.intro rfl (And.intro rfl trivial)))
  · exact sb_ret (ev_tuple (by rfl) T.z_tuple (ev_varL 2 rfl (pv 2))) rfl)
set_option maxHeartbeats 0 in
theorem ok_made_moves {P : Program} {w : World} {K : PySem.W.Frag} {mg : Str → Option Value} {base : Heap} (T : Kit K mg) : FnG P w K mg base 4 T.a_made_moves T.d_made_moves ["web", "moves"] (spD K 2 R_made_moves) := fnD T.F_made_moves sc_made_moves rfl (by decide) (by
  intro sa sls S r S' hR cd A outer s H E hr hgd
  obtain ⟨web_0, moves_0, rfl, hg, rfl, rfl⟩ := hR
  refine SB.start (δ' := [some (.p (enc web_0)), some (.p (enc moves_0)), none]) (rf := (rf_made_moves S)) (m := m_made_moves web_0 moves_0) rfl rfl ?_
  refine forV (Wf := (WR (rf_made_moves S))) (itm := itP1) (fun (n_952 : (T3 Int Int (List (T3 Int Int Int)))) => m_made_moves_4 n_952) (fun (n_952 : (T3 Int Int (List (T3 Int Int Int)))) => g_made_moves_4 n_952) (nf_made_moves_1 moves_0 S) (web_0 : (T3 Int Int (List (T3 Int Int Int)))) (fun (n_946 : (T3 Int Int (List (T3 Int Int Int)))) (q_947 : (T3 Str Int Int)) => g_made_moves_3 n_946 q_947) (fun n_946 q_947 => [some (.p (enc n_946)), some (.p (enc moves_0)), some (.p (enc q_947))]) (fun (n_946 : (T3 Int Int (List (T3 Int Int Int)))) (q_947 : (T3 Str Int Int)) => m_made_moves_3 n_946 q_947) (ij_T (ev_var 1 rfl (pv 1))) (And.intro rfl (And.intro rfl trivial)) (fun n_946 q_947 => (tg_name (pg_name (i := 2) sc_made_moves.nd rfl (by first | exact .inl rfl | exact .inr rfl)))) (fun n_946 q_947 hb_944 => ?_) hg.1 hg.2 (fun n_952 hg_953 => ?_)
  · refine stepV (Wf := (WN (nf_made_moves_1 moves_0 S))) (δf := fun (web_949 : (T3 Int Int (List (T3 Int Int Int)))) => [some (.p (enc web_949)), some (.p (enc moves_0)), some (.p (enc q_947))]) (m_moved n_946 q_947) (fun (web_949 : (T3 Int Int (List (T3 Int Int Int)))) => m_made_moves_2 web_949) (fun (web_949 : (T3 Int Int (List (T3 Int Int Int)))) => g_made_moves_2 web_949) (st_p (i := 0) (ps_set (i := 0) sc_made_moves.nd rfl (by first | exact .inl rfl | exact .inr rfl) (ev_call ⟨ok_moved T, T.G_moved, T.F_moved.kp, T.B_moved⟩ (hr.mono (by decide)) hgd (by rfl) (ea_cons (ev_var 0 rfl (pv 0)) (ea_cons (ev_var 2 rfl (pv 2)) ea_nil)) rfl ⟨_, _, rfl, hb_944.1, rfl, rfl⟩))) hb_944.2 (fun web_949 hg_951 => ?_)
    exact sb_nil rfl (And.intro rfl (And.intro rfl trivial))
  · exact sb_ret (ev_var 0 rfl (pv 0)) rfl)
set_option maxHeartbeats 0 in
theorem ok_moves_back {P : Program} {w : World} {K : PySem.W.Frag} {mg : Str → Option Value} {base : Heap} (T : Kit K mg) : FnG P w K mg base 3 T.a_moves_back T.d_moves_back ["p", "moves"] (spD K 2 R_moves_back) := fnD T.F_moves_back sc_moves_back rfl (by decide) (by
  intro sa sls S r S' hR cd A outer s H E hr hgd
  obtain ⟨p_0, moves_0, rfl, hg, rfl, rfl⟩ := hR
  refine SB.start (δ' := [some (.p (enc p_0)), some (.p (enc moves_0)), none]) (rf := (rf_moves_back S)) (m := m_moves_back p_0 moves_0) rfl rfl ?_
  exact sb_ret (ev_tuple (by rfl) T.z_tuple (ev_of_new (elc (fun (q_976 : (T3 Str Int Int)) => (g_move_back p_0 q_976)) (fun (q_976 : (T3 Str Int Int)) => [some (.p (enc p_0)), some (.p (enc moves_0)), some (.p (enc q_976))]) (fun (q_976 : (T3 Str Int Int)) => (m_move_back p_0 q_976)) (ij_T (ev_revT (ev_var 1 rfl (pv 1)))) hg (fun q_976 s H C cl fp => (tg_name (pg_name (i := 2) sc_moves_back.nd rfl (by first | exact .inl rfl | exact .inr rfl)))) (fun q_976 hq_977 s H C cl fp => (ev_call ⟨ok_move_back T, T.G_move_back, T.F_move_back.kp, T.B_move_back⟩ (hr.mono (by decide)) hgd (by rfl) (ea_cons (ev_var 0 rfl (pv 0)) (ea_cons (ev_var 2 rfl (pv 2)) ea_nil)) rfl ⟨_, _, rfl, hq_977, rfl, rfl⟩)) (by rfl) sc_moves_back.nd (blk_of (own := [("move", 2)]) (by rfl)) (by decide)))) rfl)
set_option maxHeartbeats 0 in
theorem ok__law_along_right {P : Program} {w : World} {K : PySem.W.Frag} {mg : Str → Option Value} {base : Heap} (T : Kit K mg) : FnG P w K mg base 3 T.a__law_along_right T.d__law_along_right ["source", "web"] (spD K 2 R__law_along_right) := fnD T.F__law_along_right sc__law_along_right rfl (by decide) (by
  intro sa sls S r S' hR cd A outer s H E hr hgd
  obtain ⟨web_0, rfl, hg, rfl, rfl⟩ := hR
  refine SB.start (δ' := [some (.src), some (.p (enc web_0)), none, none, none, none, none, none, none, none, none, none, none]) (rf := rf__law_along_right) (m := m__law_along_right web_0 S) rfl rfl ?_
  refine stepV (Wf := (WR rf__law_along_right)) (δf := fun (w_1083 : (Int × Int)) => [some (.src), some (.p (enc web_0)), some (.p (enc ((w_1083).1))), some (.p (enc ((w_1083).2))), none, none, none, none, none, none, none, none, none]) (web_0.a, web_0.b) (fun (w_1083 : (Int × Int)) => m__law_along_right_13 web_0 S w_1083) (fun (w_1083 : (Int × Int)) => g__law_along_right_13 web_0 S w_1083) (st_asg (ev_slD (ds := [enc web_0.a, enc web_0.b, enc web_0.c]) (ds' := [enc web_0.a, enc web_0.b]) (l := Option.none) (h := (some (2 : Int))) rfl (ev_var 1 rfl (pv 1)) ep_none (ep_some ev_int)) (tg_tup (ds := [enc (((web_0.a, web_0.b)).1), enc (((web_0.a, web_0.b)).2)]) (by rfl) (tgs_cons (tg_name (pg_name (i := 2) sc__law_along_right.nd rfl (by first | exact .inl rfl | exact .inr rfl))) (tgs_cons (tg_name (pg_name (i := 3) sc__law_along_right.nd rfl (by first | exact .inl rfl | exact .inr rfl))) tgs_nil)))) hg (fun w_1083 hg_1085 => ?_)
  refine stepVS (Wf := (WR rf__law_along_right)) (δf := fun (z_1088 : (Int × Int)) => [some (.src), some (.p (enc web_0)), some (.p (enc ((w_1083).1))), some (.p (enc ((w_1083).2))), some (.p (enc z_1088.1)), some (.p (enc z_1088.2)), none, none, none, none, none, none, none]) ((m__law_pick ((w_1083).2) S).1, (m__law_pick ((w_1083).2) ((m__law_pick ((w_1083).2) S).2)).1) (fun (z_1088 : (Int × Int)) (S_1090 : Src) => m__law_along_right_12 web_0 w_1083 z_1088 S_1090) (fun (z_1088 : (Int × Int)) (S_1090 : Src) => g__law_along_right_12 web_0 w_1083 z_1088 S_1090) (st_par (i := 4) (j := 5) (eo_p (ev_call ⟨ok__law_pick T, T.G__law_pick, T.F__law_pick.kp, T.B__law_pick⟩ (hr.mono (by decide)) hgd (by rfl) (ea_cons (ev_varS 0 rfl (pv 0)) (ea_cons (ev_var 3 rfl (pv 3)) ea_nil)) rfl ⟨_, rfl, hg_1085.1, rfl, rfl⟩)) (eo_p (ev_call ⟨ok__law_pick T, T.G__law_pick, T.F__law_pick.kp, T.B__law_pick⟩ (hr.mono (by decide)) hgd (by rfl) (ea_cons (ev_varS 0 rfl (pv 0)) (ea_cons (ev_var 3 rfl (pv 3)) ea_nil)) rfl ⟨_, rfl, hg_1085.2.1, rfl, rfl⟩)) (by rfl) sc__law_along_right.nd rfl rfl (by decide) (by rfl) (by rfl) (by rfl)) hg_1085.2.2 (fun z_1088 S_1090 hg_1091 => ?_)
  refine stepVS (Wf := (WR rf__law_along_right)) (δf := fun (w_1099 : (T4 Int Int Int Int)) => [some (.src), some (.p (enc web_0)), some (.p (enc ((w_1083).1))), some (.p (enc ((w_1083).2))), some (.p (enc z_1088.1)), some (.p (enc z_1088.2)), none, some (.p (enc ((w_1099).a))), some (.p (enc ((w_1099).b))), some (.p (enc ((w_1099).c))), some (.p (enc ((w_1099).d))), none, none]) (T4.mk (getI ((mapS (fun (S_1097 : Src) (q_1093 : Int) => (((1 : Int) + (m__law_pick ((w_1083).1 - (1 : Int)) (S_1097)).1), (m__law_pick ((w_1083).1 - (1 : Int)) (S_1097)).2)) S_1090 (rngI 0 (Int.toNat (4 : Int)))).1) 0) (getI ((mapS (fun (S_1097 : Src) (q_1093 : Int) => (((1 : Int) + (m__law_pick ((w_1083).1 - (1 : Int)) (S_1097)).1), (m__law_pick ((w_1083).1 - (1 : Int)) (S_1097)).2)) S_1090 (rngI 0 (Int.toNat (4 : Int)))).1) 1) (getI ((mapS (fun (S_1097 : Src) (q_1093 : Int) => (((1 : Int) + (m__law_pick ((w_1083).1 - (1 : Int)) (S_1097)).1), (m__law_pick ((w_1083).1 - (1 : Int)) (S_1097)).2)) S_1090 (rngI 0 (Int.toNat (4 : Int)))).1) 2) (getI ((mapS (fun (S_1097 : Src) (q_1093 : Int) => (((1 : Int) + (m__law_pick ((w_1083).1 - (1 : Int)) (S_1097)).1), (m__law_pick ((w_1083).1 - (1 : Int)) (S_1097)).2)) S_1090 (rngI 0 (Int.toNat (4 : Int)))).1) 3)) (fun (w_1099 : (T4 Int Int Int Int)) (S_1102 : Src) => m__law_along_right_11 web_0 w_1083 z_1088 w_1099 S_1102) (fun (w_1099 : (T4 Int Int Int Int)) (S_1102 : Src) => g__law_along_right_11 web_0 w_1083 z_1088 w_1099 S_1102) (st_unl (encs_s4 hg_1091.2.2.1) (ev_of_new (elcS (fun (S_1097 : Src) (q_1093 : Int) => (g__law_pick ((w_1083).1 - (1 : Int)) (S_1097))) (fun (q_1093 : Int) => [some (.src), some (.p (enc web_0)), some (.p (enc ((w_1083).1))), some (.p (enc ((w_1083).2))), some (.p (enc z_1088.1)), some (.p (enc z_1088.2)), some (.p (enc q_1093)), none, none, none, none, none, none]) (fun (S_1097 : Src) (q_1093 : Int) => (((1 : Int) + (m__law_pick ((w_1083).1 - (1 : Int)) (S_1097)).1), (m__law_pick ((w_1083).1 - (1 : Int)) (S_1097)).2)) (ij_range1 hg_1091.1 (by rfl) T.z_range (ea_cons ev_int ea_nil)) hg_1091.2.1 (fun q_1093 s H C cl fp => (tg_name (pg_name (i := 6) sc__law_along_right.nd rfl (by first | exact .inl rfl | exact .inr rfl)))) (fun S_1097 q_1093 hq_1094 s H C cl fp => (ev_add ev_int (ev_call ⟨ok__law_pick T, T.G__law_pick, T.F__law_pick.kp, T.B__law_pick⟩ (hr.mono (by decide)) hgd (by rfl) (ea_cons (ev_varS 0 rfl (pv 0)) (ea_cons (ev_sub (ev_var 2 rfl (pv 2)) ev_int) ea_nil)) rfl ⟨_, rfl, hq_1094, rfl, rfl⟩))) (by rfl) sc__law_along_right.nd (blk_of (own := [("turn", 6)]) (by rfl)) (by decide))) (tgs_cons (tg_name (pg_name (i := 7) sc__law_along_right.nd rfl (by first | exact .inl rfl | exact .inr rfl))) (tgs_cons (tg_name (pg_name (i := 8) sc__law_along_right.nd rfl (by first | exact .inl rfl | exact .inr rfl))) (tgs_cons (tg_name (pg_name (i := 9) sc__law_along_right.nd rfl (by first | exact .inl rfl | exact .inr rfl))) (tgs_cons (tg_name (pg_name (i := 10) sc__law_along_right.nd rfl (by first | exact .inl rfl | exact .inr rfl))) tgs_nil)))) (by rfl)) hg_1091.2.2.2 (fun w_1099 S_1102 hg_1103 => ?_)
  refine stepV (Wf := (WR rf__law_along_right)) (δf := fun (twice_1106 : (T3 Int Int (List (T3 Int Int Int)))) => [some (.src), some (.p (enc web_0)), some (.p (enc ((w_1083).1))), some (.p (enc ((w_1083).2))), some (.p (enc z_1088.1)), some (.p (enc z_1088.2)), none, some (.p (enc ((w_1099).a))), some (.p (enc ((w_1099).b))), some (.p (enc ((w_1099).c))), some (.p (enc ((w_1099).d))), some (.p (enc twice_1106)), none]) (m_turned (m_turned web_0 z_1088.2 ((w_1099).a)) z_1088.2 ((w_1099).b)) (fun (twice_1106 : (T3 Int Int (List (T3 Int Int Int)))) => m__law_along_right_10 web_0 w_1083 z_1088 w_1099 S_1102 twice_1106) (fun (twice_1106 : (T3 Int Int (List (T3 Int Int Int)))) => g__law_along_right_10 web_0 w_1083 z_1088 w_1099 S_1102 twice_1106) (st_p (i := 11) (ps_set (i := 11) sc__law_along_right.nd rfl (by first | exact .inl rfl | exact .inr rfl) (ev_call ⟨ok_turned T, T.G_turned, T.F_turned.kp, T.B_turned⟩ (hr.mono (by decide)) hgd (by rfl) (ea_cons (ev_call ⟨ok_turned T, T.G_turned, T.F_turned.kp, T.B_turned⟩ (hr.mono (by decide)) hgd (by rfl) (ea_cons (ev_var 1 rfl (pv 1)) (ea_cons (ev_var 5 rfl (pv 5)) (ea_cons (ev_var 7 rfl (pv 7)) ea_nil))) rfl ⟨_, _, _, rfl, hg_1103.1, rfl, rfl⟩) (ea_cons (ev_var 5 rfl (pv 5)) (ea_cons (ev_var 8 rfl (pv 8)) ea_nil))) rfl ⟨_, _, _, rfl, hg_1103.2.1, rfl, rfl⟩))) hg_1103.2.2 (fun twice_1106 hg_1108 => ?_)
  refine sb_if (Wf := (WR rf__law_along_right)) (x := m__law_along_right_8 S_1102) (y := m__law_along_right_9 web_0 w_1083 z_1088 w_1099 S_1102) (et_cmp (op_neD (hr.un64 (Nat.zero_le _))) (rc_neT (twice_1106 : (T3 Int Int (List (T3 Int Int Int)))) ((if decide ((0 : Int) < (((w_1099).a + (w_1099).b) % (w_1083).1)) = true then (m_turned web_0 z_1088.2 (((w_1099).a + (w_1099).b) % (w_1083).1)) else web_0) : (T3 Int Int (List (T3 Int Int Int))))) (ev_var 11 rfl (pv 11)) (ev_ifp (x := ((m_turned web_0 z_1088.2 (((w_1099).a + (w_1099).b) % (w_1083).1)) : (T3 Int Int (List (T3 Int Int Int))))) (y := (web_0 : (T3 Int Int (List (T3 Int Int Int))))) (et_cmp op_gt rc_gt (ev_mod hg_1108.1 (ev_intI (by rfl) T.z_int (ev_add (ev_var 7 rfl (pv 7)) (ev_var 8 rfl (pv 8)))) (ev_var 2 rfl (pv 2))) ev_int (nomark _)) (fun hc_1110 => (ev_call ⟨ok_turned T, T.G_turned, T.F_turned.kp, T.B_turned⟩ (hr.mono (by decide)) hgd (by rfl) (ea_cons (ev_var 1 rfl (pv 1)) (ea_cons (ev_var 5 rfl (pv 5)) (ea_cons (ev_mod (hg_1108.2.1 hc_1110).1 (ev_intI (by rfl) T.z_int (ev_add (ev_var 7 rfl (pv 7)) (ev_var 8 rfl (pv 8)))) (ev_var 2 rfl (pv 2))) ea_nil))) rfl ⟨_, _, _, rfl, (hg_1108.2.1 hc_1110).2, rfl, rfl⟩)) (fun hc_1111 => (ev_var 1 rfl (pv 1)))) (nomark _)) (fun hc_1115 => ?_) (fun hc_1116 => ?_)
  · have hg_1117 := hg_1108.2.2.1 hc_1115
    exact sb_ret ev_bl rfl
  · have hg_1118 := hg_1108.2.2.2 hc_1116
    refine sb_if (Wf := (WR rf__law_along_right)) (x := m__law_along_right_6 S_1102) (y := m__law_along_right_7 web_0 w_1083 z_1088 w_1099 S_1102) (et_cmp (op_neD (hr.un64 (Nat.zero_le _))) (rc_neT ((m_scaled (m_scaled web_0 z_1088.2 ((w_1099).c)) z_1088.2 ((w_1099).d)) : (T3 Int Int (List (T3 Int Int Int)))) ((m_scaled web_0 z_1088.2 (((w_1099).c * (w_1099).d) % (w_1083).1)) : (T3 Int Int (List (T3 Int Int Int))))) (ev_call ⟨ok_scaled T, T.G_scaled, T.F_scaled.kp, T.B_scaled⟩ (hr.mono (by decide)) hgd (by rfl) (ea_cons (ev_call ⟨ok_scaled T, T.G_scaled, T.F_scaled.kp, T.B_scaled⟩ (hr.mono (by decide)) hgd (by rfl) (ea_cons (ev_var 1 rfl (pv 1)) (ea_cons (ev_var 5 rfl (pv 5)) (ea_cons (ev_var 9 rfl (pv 9)) ea_nil))) rfl ⟨_, _, _, rfl, hg_1118.1, rfl, rfl⟩) (ea_cons (ev_var 5 rfl (pv 5)) (ea_cons (ev_var 10 rfl (pv 10)) ea_nil))) rfl ⟨_, _, _, rfl, hg_1118.2.1, rfl, rfl⟩) (ev_call ⟨ok_scaled T, T.G_scaled, T.F_scaled.kp, T.B_scaled⟩ (hr.mono (by decide)) hgd (by rfl) (ea_cons (ev_var 1 rfl (pv 1)) (ea_cons (ev_var 5 rfl (pv 5)) (ea_cons (ev_mod hg_1118.2.2.2.1 (ev_intI (by rfl) T.z_int (ev_mul hg_1118.2.2.1 (ev_var 9 rfl (pv 9)) (ev_var 10 rfl (pv 10)))) (ev_var 2 rfl (pv 2))) ea_nil))) rfl ⟨_, _, _, rfl, hg_1118.2.2.2.2.1, rfl, rfl⟩) (nomark _)) (fun hc_1124 => ?_) (fun hc_1125 => ?_)
    · have hg_1126 := hg_1118.2.2.2.2.2.1 hc_1124
      exact sb_ret ev_bl rfl
    · have hg_1127 := hg_1118.2.2.2.2.2.2 hc_1125
      refine sb_if (Wf := (WR rf__law_along_right)) (x := m__law_along_right_4 S_1102) (y := m__law_along_right_5 web_0 z_1088 w_1099 S_1102) (et_cmp (op_neD (hr.un64 (Nat.zero_le _))) (rc_neT ((m_turned (m_scaled web_0 z_1088.2 ((w_1099).c)) z_1088.2 ((w_1099).a)) : (T3 Int Int (List (T3 Int Int Int)))) ((m_scaled (m_turned web_0 z_1088.2 ((((w_1099).a * (w_1099).c) * (w_1099).c) % (w_1083).1)) z_1088.2 ((w_1099).c)) : (T3 Int Int (List (T3 Int Int Int))))) (ev_call ⟨ok_turned T, T.G_turned, T.F_turned.kp, T.B_turned⟩ (hr.mono (by decide)) hgd (by rfl) (ea_cons (ev_call ⟨ok_scaled T, T.G_scaled, T.F_scaled.kp, T.B_scaled⟩ (hr.mono (by decide)) hgd (by rfl) (ea_cons (ev_var 1 rfl (pv 1)) (ea_cons (ev_var 5 rfl (pv 5)) (ea_cons (ev_var 9 rfl (pv 9)) ea_nil))) rfl ⟨_, _, _, rfl, hg_1127.1, rfl, rfl⟩) (ea_cons (ev_var 5 rfl (pv 5)) (ea_cons (ev_var 7 rfl (pv 7)) ea_nil))) rfl ⟨_, _, _, rfl, hg_1127.2.1, rfl, rfl⟩) (ev_call ⟨ok_scaled T, T.G_scaled, T.F_scaled.kp, T.B_scaled⟩ (hr.mono (by decide)) hgd (by rfl) (ea_cons (ev_call ⟨ok_turned T, T.G_turned, T.F_turned.kp, T.B_turned⟩ (hr.mono (by decide)) hgd (by rfl) (ea_cons (ev_var 1 rfl (pv 1)) (ea_cons (ev_var 5 rfl (pv 5)) (ea_cons (ev_mod hg_1127.2.2.2.2.1 (ev_intI (by rfl) T.z_int (ev_mul hg_1127.2.2.2.1 (ev_mul hg_1127.2.2.1 (ev_var 7 rfl (pv 7)) (ev_var 9 rfl (pv 9))) (ev_var 9 rfl (pv 9)))) (ev_var 2 rfl (pv 2))) ea_nil))) rfl ⟨_, _, _, rfl, hg_1127.2.2.2.2.2.1, rfl, rfl⟩) (ea_cons (ev_var 5 rfl (pv 5)) (ea_cons (ev_var 9 rfl (pv 9)) ea_nil))) rfl ⟨_, _, _, rfl, hg_1127.2.2.2.2.2.2.1, rfl, rfl⟩) (nomark _)) (fun hc_1135 => ?_) (fun hc_1136 => ?_)
      · have hg_1137 := hg_1127.2.2.2.2.2.2.2.1 hc_1135
        exact sb_ret ev_bl rfl
      · have hg_1138 := hg_1127.2.2.2.2.2.2.2.2 hc_1136
        refine sb_if (Wf := (WR rf__law_along_right)) (x := m__law_along_right_2 S_1102) (y := m__law_along_right_3 web_0 z_1088 w_1099 S_1102) (et_pw (ew_andP (et_cmp op_ne rc_neI (ev_var 4 rfl (pv 4)) (ev_var 5 rfl (pv 5)) (nomark _)) fun hc_1139 => (ew_and1 (et_cmp (op_neD (hr.un64 (Nat.zero_le _))) (rc_neT ((m_scaled (m_turned web_0 z_1088.2 ((w_1099).a)) z_1088.1 ((w_1099).c)) : (T3 Int Int (List (T3 Int Int Int)))) ((m_turned (m_scaled web_0 z_1088.1 ((w_1099).c)) z_1088.2 ((w_1099).a)) : (T3 Int Int (List (T3 Int Int Int))))) (ev_call ⟨ok_scaled T, T.G_scaled, T.F_scaled.kp, T.B_scaled⟩ (hr.mono (by decide)) hgd (by rfl) (ea_cons (ev_call ⟨ok_turned T, T.G_turned, T.F_turned.kp, T.B_turned⟩ (hr.mono (by decide)) hgd (by rfl) (ea_cons (ev_var 1 rfl (pv 1)) (ea_cons (ev_var 5 rfl (pv 5)) (ea_cons (ev_var 7 rfl (pv 7)) ea_nil))) rfl ⟨_, _, _, rfl, (hg_1138.1 hc_1139).1, rfl, rfl⟩) (ea_cons (ev_var 4 rfl (pv 4)) (ea_cons (ev_var 9 rfl (pv 9)) ea_nil))) rfl ⟨_, _, _, rfl, (hg_1138.1 hc_1139).2.1, rfl, rfl⟩) (ev_call ⟨ok_turned T, T.G_turned, T.F_turned.kp, T.B_turned⟩ (hr.mono (by decide)) hgd (by rfl) (ea_cons (ev_call ⟨ok_scaled T, T.G_scaled, T.F_scaled.kp, T.B_scaled⟩ (hr.mono (by decide)) hgd (by rfl) (ea_cons (ev_var 1 rfl (pv 1)) (ea_cons (ev_var 4 rfl (pv 4)) (ea_cons (ev_var 9 rfl (pv 9)) ea_nil))) rfl ⟨_, _, _, rfl, (hg_1138.1 hc_1139).2.2.1, rfl, rfl⟩) (ea_cons (ev_var 5 rfl (pv 5)) (ea_cons (ev_var 7 rfl (pv 7)) ea_nil))) rfl ⟨_, _, _, rfl, (hg_1138.1 hc_1139).2.2.2, rfl, rfl⟩) (nomark _))))) (fun hc_1145 => ?_) (fun hc_1146 => ?_)
        · have hg_1147 := hg_1138.2.1 hc_1145
          exact sb_ret ev_bl rfl
        · have hg_1148 := hg_1138.2.2 hc_1146
          refine stepV (Wf := (WR rf__law_along_right)) (δf := fun (both_1153 : Bool) => [some (.src), some (.p (enc web_0)), some (.p (enc ((w_1083).1))), some (.p (enc ((w_1083).2))), some (.p (enc z_1088.1)), some (.p (enc z_1088.2)), none, some (.p (enc ((w_1099).a))), some (.p (enc ((w_1099).b))), some (.p (enc ((w_1099).c))), some (.p (enc ((w_1099).d))), some (.p (enc twice_1106)), some (.p (enc both_1153))]) (decide ((m_turned (m_turned web_0 z_1088.1 ((w_1099).a)) z_1088.2 ((w_1099).b)) = (m_turned (m_turned web_0 z_1088.2 ((w_1099).b)) z_1088.1 ((w_1099).a)))) (fun (both_1153 : Bool) => m__law_along_right_1 web_0 z_1088 S_1102 both_1153) (fun (both_1153 : Bool) => g__law_along_right_1 web_0 z_1088 S_1102 both_1153) (st_p (i := 12) (ps_set (i := 12) sc__law_along_right.nd rfl (by first | exact .inl rfl | exact .inr rfl) (ev_cmp (op_eqD (hr.un64 (Nat.zero_le _))) (rc_eqT ((m_turned (m_turned web_0 z_1088.1 ((w_1099).a)) z_1088.2 ((w_1099).b)) : (T3 Int Int (List (T3 Int Int Int)))) ((m_turned (m_turned web_0 z_1088.2 ((w_1099).b)) z_1088.1 ((w_1099).a)) : (T3 Int Int (List (T3 Int Int Int))))) (ev_call ⟨ok_turned T, T.G_turned, T.F_turned.kp, T.B_turned⟩ (hr.mono (by decide)) hgd (by rfl) (ea_cons (ev_call ⟨ok_turned T, T.G_turned, T.F_turned.kp, T.B_turned⟩ (hr.mono (by decide)) hgd (by rfl) (ea_cons (ev_var 1 rfl (pv 1)) (ea_cons (ev_var 4 rfl (pv 4)) (ea_cons (ev_var 7 rfl (pv 7)) ea_nil))) rfl ⟨_, _, _, rfl, hg_1148.1, rfl, rfl⟩) (ea_cons (ev_var 5 rfl (pv 5)) (ea_cons (ev_var 8 rfl (pv 8)) ea_nil))) rfl ⟨_, _, _, rfl, hg_1148.2.1, rfl, rfl⟩) (ev_call ⟨ok_turned T, T.G_turned, T.F_turned.kp, T.B_turned⟩ (hr.mono (by decide)) hgd (by rfl) (ea_cons (ev_call ⟨ok_turned T, T.G_turned, T.F_turned.kp, T.B_turned⟩ (hr.mono (by decide)) hgd (by rfl) (ea_cons (ev_var 1 rfl (pv 1)) (ea_cons (ev_var 5 rfl (pv 5)) (ea_cons (ev_var 8 rfl (pv 8)) ea_nil))) rfl ⟨_, _, _, rfl, hg_1148.2.2.1, rfl, rfl⟩) (ea_cons (ev_var 4 rfl (pv 4)) (ea_cons (ev_var 7 rfl (pv 7)) ea_nil))) rfl ⟨_, _, _, rfl, hg_1148.2.2.2.1, rfl, rfl⟩) (nomark _)))) hg_1148.2.2.2.2 (fun both_1153 hg_1155 => ?_)
          exact sb_ret (ev_orP (ev_var 12 rfl (pv 12)) fun hc_1156 => (ev_one (ev_andP (ev_cmp op_ne rc_neI (ev_var 4 rfl (pv 4)) (ev_var 5 rfl (pv 5)) (nomark _)) fun hc_1157 => (ev_one (ev_cmp op_ne rc_neI (ev_call ⟨ok_weight_at T, T.G_weight_at, T.F_weight_at.kp, T.B_weight_at⟩ (hr.mono (by decide)) hgd (by rfl) (ea_cons (ev_var 1 rfl (pv 1)) (ea_cons (ev_var 4 rfl (pv 4)) (ea_cons (ev_var 5 rfl (pv 5)) ea_nil))) rfl ⟨_, _, _, rfl, ((hg_1155 hc_1156) hc_1157), rfl, rfl⟩) ev_int (nomark _)))))) rfl)
set_option maxHeartbeats 0 in
theorem ok__law_of {P : Program} {w : World} {K : PySem.W.Frag} {mg : Str → Option Value} {base : Heap} (T : Kit K mg) : FnG P w K mg base 2 T.a__law_of T.d__law_of ["source", "some"] (spD K 2 R__law_of) := fnD T.F__law_of sc__law_of rfl (by decide) (by
  intro sa sls S r S' hR cd A outer s H E hr hgd
  obtain ⟨some_0, rfl, hg, rfl, rfl⟩ := hR
  refine SB.start (δ' := [some (.src), some (.p (enc some_0))]) (rf := rf__law_of) (m := m__law_of some_0 S) rfl rfl ?_
  exact sb_ret (ev_ixL hg.2 (ev_var 1 rfl (pv 1)) (ev_call ⟨ok__law_pick T, T.G__law_pick, T.F__law_pick.kp, T.B__law_pick⟩ (hr.mono (by decide)) hgd (by rfl) (ea_cons (ev_varS 0 rfl (pv 0)) (ea_cons (ev_len (wlk_t _) (by rfl) T.z_len (ev_var 1 rfl (pv 1))) ea_nil)) rfl ⟨_, rfl, hg.1, rfl, rfl⟩)) rfl)
set_option maxHeartbeats 0 in
theorem ok_exchange_moves {P : Program} {w : World} {K : PySem.W.Frag} {mg : Str → Option Value} {base : Heap} (T : Kit K mg) : FnG P w K mg base 2 T.a_exchange_moves T.d_exchange_moves ["web", "v", "w", "a"] (spD K 4 R_exchange_moves) := fnD T.F_exchange_moves sc_exchange_moves rfl (by decide) (by
  intro sa sls S r S' hR cd A outer s H E hr hgd
  obtain ⟨web_0, v_0, w_0, a_0, rfl, hg, rfl, rfl⟩ := hR
  refine SB.start (δ' := [some (.p (enc web_0)), some (.p (enc v_0)), some (.p (enc w_0)), some (.p (enc a_0)), none, none, none]) (rf := (rf_exchange_moves S)) (m := m_exchange_moves web_0 v_0 w_0 a_0) rfl rfl ?_
  refine stepV (Wf := (WR (rf_exchange_moves S))) (δf := fun (z_1231 : (Int × Int)) => [some (.p (enc web_0)), some (.p (enc v_0)), some (.p (enc w_0)), some (.p (enc a_0)), some (.p (enc z_1231.1)), some (.p (enc z_1231.2)), none]) (web_0.a, (m_weight_at web_0 v_0 w_0)) (fun (z_1231 : (Int × Int)) => m_exchange_moves_2 v_0 w_0 a_0 z_1231) (fun (z_1231 : (Int × Int)) => g_exchange_moves_2 v_0 w_0 a_0 z_1231) (st_par (i := 4) (j := 5) (eo_p (ev_ixT rfl (ev_var 0 rfl (pv 0)) ev_int)) (eo_p (ev_call ⟨ok_weight_at T, T.G_weight_at, T.F_weight_at.kp, T.B_weight_at⟩ (hr.mono (by decide)) hgd (by rfl) (ea_cons (ev_var 0 rfl (pv 0)) (ea_cons (ev_var 1 rfl (pv 1)) (ea_cons (ev_var 2 rfl (pv 2)) ea_nil))) rfl ⟨_, _, _, rfl, hg.1, rfl, rfl⟩)) (by rfl) sc_exchange_moves.nd rfl rfl (by decide) (by rfl) (by rfl) (by rfl)) hg.2 (fun z_1231 hg_1233 => ?_)
  refine stepV (Wf := (WR (rf_exchange_moves S))) (δf := fun (back_1239 : Int) => [some (.p (enc web_0)), some (.p (enc v_0)), some (.p (enc w_0)), some (.p (enc a_0)), some (.p (enc z_1231.1)), some (.p (enc z_1231.2)), some (.p (enc back_1239))]) ((-(m_inverse z_1231.1 (((a_0 * z_1231.2) * z_1231.2) % z_1231.1))) % z_1231.1) (fun (back_1239 : Int) => m_exchange_moves_1 v_0 w_0 a_0 back_1239) (fun (back_1239 : Int) => g_exchange_moves_1 v_0 w_0 a_0 back_1239) (st_p (i := 6) (ps_set (i := 6) sc_exchange_moves.nd rfl (by first | exact .inl rfl | exact .inr rfl) (ev_mod hg_1233.2.2.2.2.1 (ev_neg (ev_call ⟨ok_inverse T, T.G_inverse, T.F_inverse.kp, T.B_inverse⟩ (hr.mono (by decide)) hgd (by rfl) (ea_cons (ev_var 4 rfl (pv 4)) (ea_cons (ev_mod hg_1233.2.2.1 (ev_mul hg_1233.2.1 (ev_mul hg_1233.1 (ev_var 3 rfl (pv 3)) (ev_var 5 rfl (pv 5))) (ev_var 5 rfl (pv 5))) (ev_var 4 rfl (pv 4))) ea_nil)) rfl ⟨_, _, rfl, hg_1233.2.2.2.1, rfl, rfl⟩)) (ev_var 4 rfl (pv 4))))) hg_1233.2.2.2.2.2 (fun back_1239 hg_1241 => ?_)
  exact sb_ret (ev_tup (ds := [enc (T3.mk ("turn" : Str) v_0 a_0), enc (T3.mk ("turn" : Str) w_0 back_1239), enc (T3.mk ("turn" : Str) v_0 a_0)]) (ea_cons (ev_tup (ds := [enc ("turn" : Str), enc v_0, enc a_0]) (ea_cons ev_str (ea_cons (ev_var 1 rfl (pv 1)) (ea_cons (ev_var 3 rfl (pv 3)) ea_nil)))) (ea_cons (ev_tup (ds := [enc ("turn" : Str), enc w_0, enc back_1239]) (ea_cons ev_str (ea_cons (ev_var 2 rfl (pv 2)) (ea_cons (ev_var 6 rfl (pv 6)) ea_nil)))) (ea_cons (ev_tup (ds := [enc ("turn" : Str), enc v_0, enc a_0]) (ea_cons ev_str (ea_cons (ev_var 1 rfl (pv 1)) (ea_cons (ev_var 3 rfl (pv 3)) ea_nil)))) ea_nil)))) rfl)
set_option maxHeartbeats 0 in
theorem ok_exchanged {P : Program} {w : World} {K : PySem.W.Frag} {mg : Str → Option Value} {base : Heap} (T : Kit K mg) : FnG P w K mg base 2 T.a_exchanged T.d_exchanged ["web", "v", "w", "a"] (spD K 4 R_exchanged) := fnD T.F_exchanged sc_exchanged rfl (by decide) (by
  intro sa sls S r S' hR cd A outer s H E hr hgd
  obtain ⟨web_0, v_0, w_0, a_0, rfl, hg, rfl, rfl⟩ := hR
  refine SB.start (δ' := [some (.p (enc web_0)), some (.p (enc v_0)), some (.p (enc w_0)), some (.p (enc a_0)), none, none, none, none, none, none, none, none]) (rf := (rf_exchanged S)) (m := m_exchanged web_0 v_0 w_0 a_0) rfl rfl ?_
  refine stepV (Wf := (WR (rf_exchanged S))) (δf := fun (z_1360 : (Int × (List (List Int)))) => [some (.p (enc web_0)), some (.p (enc v_0)), some (.p (enc w_0)), some (.p (enc a_0)), some (.p (enc z_1360.1)), some (.p (enc z_1360.2)), none, none, none, none, none, none]) (web_0.a, (m_table_of web_0)) (fun (z_1360 : (Int × (List (List Int)))) => m_exchanged_16 web_0 v_0 w_0 a_0 z_1360) (fun (z_1360 : (Int × (List (List Int)))) => g_exchanged_16 web_0 v_0 w_0 a_0 z_1360) (st_par (i := 4) (j := 5) (eo_p (ev_ixT rfl (ev_var 0 rfl (pv 0)) ev_int)) (eo_p (ev_call ⟨ok_table_of T, T.G_table_of, T.F_table_of.kp, T.B_table_of⟩ (hr.mono (by decide)) hgd (by rfl) (ea_cons (ev_var 0 rfl (pv 0)) ea_nil) rfl ⟨_, rfl, hg.1, rfl, rfl⟩)) (by rfl) sc_exchanged.nd rfl rfl (by decide) (by rfl) (by rfl) (by rfl)) hg.2 (fun z_1360 hg_1362 => ?_)
  refine stepV (Wf := (WR (rf_exchanged S))) (δf := fun (z_1368 : (Int × Int)) => [some (.p (enc web_0)), some (.p (enc v_0)), some (.p (enc w_0)), some (.p (enc a_0)), some (.p (enc z_1360.1)), some (.p (enc z_1360.2)), some (.p (enc z_1368.1)), some (.p (enc z_1368.2)), none, none, none, none]) ((m_inverse z_1360.1 (getI (getI z_1360.2 v_0) w_0)), (getI (getI z_1360.2 v_0) w_0)) (fun (z_1368 : (Int × Int)) => m_exchanged_15 web_0 v_0 w_0 a_0 z_1360 z_1368) (fun (z_1368 : (Int × Int)) => g_exchanged_15 web_0 v_0 w_0 a_0 z_1360 z_1368) (st_par (i := 6) (j := 7) (eo_p (ev_call ⟨ok_inverse T, T.G_inverse, T.F_inverse.kp, T.B_inverse⟩ (hr.mono (by decide)) hgd (by rfl) (ea_cons (ev_var 4 rfl (pv 4)) (ea_cons (ev_ixL hg_1362.2.1 (ev_ixL hg_1362.1 (ev_var 5 rfl (pv 5)) (ev_var 1 rfl (pv 1))) (ev_var 2 rfl (pv 2))) ea_nil)) rfl ⟨_, _, rfl, hg_1362.2.2.1, rfl, rfl⟩)) (eo_p (ev_ixL hg_1362.2.2.2.2.1 (ev_ixL hg_1362.2.2.2.1 (ev_var 5 rfl (pv 5)) (ev_var 1 rfl (pv 1))) (ev_var 2 rfl (pv 2)))) (by rfl) sc_exchanged.nd rfl rfl (by decide) (by rfl) (by rfl) (by rfl)) hg_1362.2.2.2.2.2 (fun z_1368 hg_1370 => ?_)
  refine stepV (Wf := (WR (rf_exchanged S))) (δf := fun (rows_1374 : (List (List Int))) => [some (.p (enc web_0)), some (.p (enc v_0)), some (.p (enc w_0)), some (.p (enc a_0)), some (.p (enc z_1360.1)), some (.p (enc z_1360.2)), some (.p (enc z_1368.1)), some (.p (enc z_1368.2)), none, some (.ll (encss rows_1374)), none, none]) (List.map (fun (q_1371 : (List Int)) => q_1371) z_1360.2) (fun (rows_1374 : (List (List Int))) => m_exchanged_14 web_0 v_0 w_0 a_0 z_1360 z_1368 rows_1374) (fun (rows_1374 : (List (List Int))) => g_exchanged_14 web_0 v_0 w_0 a_0 z_1360 z_1368 rows_1374) (st_m (i := 9) (plcM (fun (q_1371 : (List Int)) => True) (fun (q_1371 : (List Int)) => [some (.p (enc web_0)), some (.p (enc v_0)), some (.p (enc w_0)), some (.p (enc a_0)), some (.p (enc z_1360.1)), some (.p (enc z_1360.2)), some (.p (enc z_1368.1)), some (.p (enc z_1368.2)), some (.p (enc q_1371)), none, none, none]) (fun (q_1371 : (List Int)) => q_1371) (ij_T (ev_var 5 rfl (pv 5))) (fun _ _ => trivial) (fun q_1371 s H C cl fp => (tg_name (pg_name (i := 8) sc_exchanged.nd rfl (by first | exact .inl rfl | exact .inr rfl)))) (fun q_1371 hq_1372 s H C cl fp => (el_listT (by rfl) T.z_list (ev_var 8 rfl (pv 8)))) (by rfl) sc_exchanged.nd (blk_of (own := [("row", 8)]) (by rfl)) (by decide) (by rfl) rfl (by rfl))) hg_1370 (fun rows_1374 hg_1376 => ?_)
  refine forV (Wf := (WR (rf_exchanged S))) (itm := itP1) (fun (n_1437 : (List (List Int))) => m_exchanged_13 z_1360 n_1437) (fun (n_1437 : (List (List Int))) => g_exchanged_13 z_1360 n_1437) (nf_exchanged_1 web_0 v_0 w_0 a_0 z_1360 z_1368 S) (rows_1374 : (List (List Int))) (fun (n_1380 : (List (List Int))) (q_1381 : Int) => g_exchanged_12 web_0 v_0 w_0 a_0 z_1360 z_1368 n_1380 q_1381) (fun n_1380 q_1381 => [some (.p (enc web_0)), some (.p (enc v_0)), some (.p (enc w_0)), some (.p (enc a_0)), some (.p (enc z_1360.1)), some (.p (enc z_1360.2)), some (.p (enc z_1368.1)), some (.p (enc z_1368.2)), none, some (.ll (encss n_1380)), some (.p (enc q_1381)), none]) (fun (n_1380 : (List (List Int))) (q_1381 : Int) => m_exchanged_12 web_0 v_0 w_0 a_0 z_1360 z_1368 n_1380 q_1381) (ij_range1 hg_1376.1 (by rfl) T.z_range (ea_cons (ev_ixT rfl (ev_var 0 rfl (pv 0)) ev_int) ea_nil)) (And.intro rfl (And.intro rfl (And.intro rfl (And.intro rfl (And.intro rfl (And.intro rfl (And.intro rfl (And.intro rfl (And.intro rfl trivial))))))))) (fun n_1380 q_1381 => (tg_name (pg_name (i := 10) sc_exchanged.nd rfl (by first | exact .inl rfl | exact .inr rfl)))) (fun n_1380 q_1381 hb_1378 => ?_) hg_1376.2.1 hg_1376.2.2 (fun n_1437 hg_1438 => ?_)
  · refine sb_ifE (Wf := (WN (nf_exchanged_1 web_0 v_0 w_0 a_0 z_1360 z_1368 S))) (x := m_exchanged_10 web_0 v_0 w_0 a_0 z_1360 z_1368 n_1380 q_1381) (y := m_exchanged_11 n_1380) (et_cmp (op_notInT (hr.un65 (Nat.zero_le _))) (rc_niT (q_1381 : Int) ([(v_0, w_0).1, (v_0, w_0).2] : (List Int))) (ev_var 10 rfl (pv 10)) (ev_cast (x := ((v_0, w_0) : (Int × Int))) (y := ([(v_0, w_0).1, (v_0, w_0).2] : (List Int))) (rfl) (ev_tup (ds := [enc v_0, enc w_0]) (ea_cons (ev_var 1 rfl (pv 1)) (ea_cons (ev_var 2 rfl (pv 2)) ea_nil)))) (by with_unfolding_all rfl)) (fun hc_1382 => ?_) (fun hc_1383 => ?_)
    · have hg_1384 := hb_1378.1 hc_1382
      refine stepV (Wf := (WN (nf_exchanged_1 web_0 v_0 w_0 a_0 z_1360 z_1368 S))) (δf := fun (rows_1395 : (List (List Int))) => [some (.p (enc web_0)), some (.p (enc v_0)), some (.p (enc w_0)), some (.p (enc a_0)), some (.p (enc z_1360.1)), some (.p (enc z_1360.2)), some (.p (enc z_1368.1)), some (.p (enc z_1368.2)), none, some (.ll (encss rows_1395)), some (.p (enc q_1381)), none]) (setAt2 (setAt2 n_1380 v_0 q_1381 (((-(getI (getI z_1360.2 w_0) q_1381)) * (m_inverse z_1360.1 ((a_0 * z_1368.2) % z_1360.1))) % z_1360.1)) q_1381 v_0 (((-(getI (getI z_1360.2 w_0) q_1381)) * (m_inverse z_1360.1 ((a_0 * z_1368.2) % z_1360.1))) % z_1360.1)) (fun (rows_1395 : (List (List Int))) => m_exchanged_9 web_0 v_0 w_0 a_0 z_1360 z_1368 q_1381 rows_1395) (fun (rows_1395 : (List (List Int))) => g_exchanged_9 web_0 v_0 w_0 a_0 z_1360 z_1368 q_1381 rows_1395) (st_sto2t (i := 9) (ev_mod hg_1384.2.2.2.2.2.2.1 (ev_mul hg_1384.2.2.2.2.2.1 (ev_neg (ev_ixL hg_1384.2.1 (ev_ixL hg_1384.1 (ev_var 5 rfl (pv 5)) (ev_var 2 rfl (pv 2))) (ev_var 10 rfl (pv 10)))) (ev_call ⟨ok_inverse T, T.G_inverse, T.F_inverse.kp, T.B_inverse⟩ (hr.mono (by decide)) hgd (by rfl) (ea_cons (ev_var 4 rfl (pv 4)) (ea_cons (ev_mod hg_1384.2.2.2.1 (ev_mul hg_1384.2.2.1 (ev_var 3 rfl (pv 3)) (ev_var 7 rfl (pv 7))) (ev_var 4 rfl (pv 4))) ea_nil)) rfl ⟨_, _, rfl, hg_1384.2.2.2.2.1, rfl, rfl⟩)) (ev_var 4 rfl (pv 4))) (tg_rowT (i := 9) rfl (pv 9) (ev_var 1 rfl (pv 1)) (ev_var 10 rfl (pv 10)) hg_1384.2.2.2.2.2.2.2.1 (hpg := fun h1 h2 h3 => pg_sub h1 h2 h3)) (tg_rowT (i := 9) rfl (pv 9) (ev_var 10 rfl (pv 10)) (ev_var 1 rfl (pv 1)) hg_1384.2.2.2.2.2.2.2.2.1 (hpg := fun h1 h2 h3 => pg_sub h1 h2 h3))) hg_1384.2.2.2.2.2.2.2.2.2 (fun rows_1395 hg_1397 => ?_)
      refine stepV (Wf := (WN (nf_exchanged_1 web_0 v_0 w_0 a_0 z_1360 z_1368 S))) (δf := fun (rows_1405 : (List (List Int))) => [some (.p (enc web_0)), some (.p (enc v_0)), some (.p (enc w_0)), some (.p (enc a_0)), some (.p (enc z_1360.1)), some (.p (enc z_1360.2)), some (.p (enc z_1368.1)), some (.p (enc z_1368.2)), none, some (.ll (encss rows_1405)), some (.p (enc q_1381)), none]) (setAt2 (setAt2 rows_1395 w_0 q_1381 (((a_0 * z_1368.2) * (getI (getI z_1360.2 v_0) q_1381)) % z_1360.1)) q_1381 w_0 (((a_0 * z_1368.2) * (getI (getI z_1360.2 v_0) q_1381)) % z_1360.1)) (fun (rows_1405 : (List (List Int))) => m_exchanged_8 web_0 v_0 w_0 z_1360 z_1368 q_1381 rows_1405) (fun (rows_1405 : (List (List Int))) => g_exchanged_8 web_0 v_0 w_0 z_1360 z_1368 q_1381 rows_1405) (st_sto2t (i := 9) (ev_mod hg_1397.2.2.2.2.1 (ev_mul hg_1397.2.2.2.1 (ev_mul hg_1397.1 (ev_var 3 rfl (pv 3)) (ev_var 7 rfl (pv 7))) (ev_ixL hg_1397.2.2.1 (ev_ixL hg_1397.2.1 (ev_var 5 rfl (pv 5)) (ev_var 1 rfl (pv 1))) (ev_var 10 rfl (pv 10)))) (ev_var 4 rfl (pv 4))) (tg_rowT (i := 9) rfl (pv 9) (ev_var 2 rfl (pv 2)) (ev_var 10 rfl (pv 10)) hg_1397.2.2.2.2.2.1 (hpg := fun h1 h2 h3 => pg_sub h1 h2 h3)) (tg_rowT (i := 9) rfl (pv 9) (ev_var 10 rfl (pv 10)) (ev_var 2 rfl (pv 2)) hg_1397.2.2.2.2.2.2.1 (hpg := fun h1 h2 h3 => pg_sub h1 h2 h3))) hg_1397.2.2.2.2.2.2.2 (fun rows_1405 hg_1407 => ?_)
      refine forV (Wf := (WN (nf_exchanged_1 web_0 v_0 w_0 a_0 z_1360 z_1368 S))) (itm := itP1) (fun (n_1435 : (List (List Int))) => m_exchanged_7 n_1435) (fun (n_1435 : (List (List Int))) => g_exchanged_7 n_1435) (nf_exchanged_2 web_0 v_0 w_0 a_0 z_1360 z_1368 q_1381 S) (rows_1405 : (List (List Int))) (fun (n_1411 : (List (List Int))) (q_1412 : Int) => g_exchanged_6 v_0 w_0 z_1360 z_1368 q_1381 n_1411 q_1412) (fun n_1411 q_1412 => [some (.p (enc web_0)), some (.p (enc v_0)), some (.p (enc w_0)), some (.p (enc a_0)), some (.p (enc z_1360.1)), some (.p (enc z_1360.2)), some (.p (enc z_1368.1)), some (.p (enc z_1368.2)), none, some (.ll (encss n_1411)), some (.p (enc q_1381)), some (.p (enc q_1412))]) (fun (n_1411 : (List (List Int))) (q_1412 : Int) => m_exchanged_6 v_0 w_0 z_1360 z_1368 q_1381 n_1411 q_1412) (ij_range1 hg_1407.1 (by rfl) T.z_range (ea_cons (ev_ixT rfl (ev_var 0 rfl (pv 0)) ev_int) ea_nil)) (And.intro rfl (And.intro rfl (And.intro rfl (And.intro rfl (And.intro rfl (And.intro rfl (And.intro rfl (And.intro rfl (And.intro rfl (And.intro rfl trivial)))))))))) (fun n_1411 q_1412 => (tg_name (pg_name (i := 11) sc_exchanged.nd rfl (by first | exact .inl rfl | exact .inr rfl)))) (fun n_1411 q_1412 hb_1409 => ?_) hg_1407.2.1 hg_1407.2.2 (fun n_1435 hg_1436 => ?_)
      · refine sb_ifE (Wf := (WN (nf_exchanged_2 web_0 v_0 w_0 a_0 z_1360 z_1368 q_1381 S))) (x := m_exchanged_4 v_0 w_0 z_1360 z_1368 q_1381 n_1411 q_1412) (y := m_exchanged_5 n_1411) (et_cmp (op_notInT (hr.un65 (Nat.zero_le _))) (rc_niT (q_1412 : Int) ([(T3.mk q_1381 v_0 w_0).a, (T3.mk q_1381 v_0 w_0).b, (T3.mk q_1381 v_0 w_0).c] : (List Int))) (ev_var 11 rfl (pv 11)) (ev_cast (x := ((T3.mk q_1381 v_0 w_0) : (T3 Int Int Int))) (y := ([(T3.mk q_1381 v_0 w_0).a, (T3.mk q_1381 v_0 w_0).b, (T3.mk q_1381 v_0 w_0).c] : (List Int))) (rfl) (ev_tup (ds := [enc q_1381, enc v_0, enc w_0]) (ea_cons (ev_var 10 rfl (pv 10)) (ea_cons (ev_var 1 rfl (pv 1)) (ea_cons (ev_var 2 rfl (pv 2)) ea_nil))))) (by with_unfolding_all rfl)) (fun hc_1413 => ?_) (fun hc_1414 => ?_)
        · have hg_1415 := hb_1409.1 hc_1413
          refine stepV (Wf := (WN (nf_exchanged_2 web_0 v_0 w_0 a_0 z_1360 z_1368 q_1381 S))) (δf := fun (rows_1432 : (List (List Int))) => [some (.p (enc web_0)), some (.p (enc v_0)), some (.p (enc w_0)), some (.p (enc a_0)), some (.p (enc z_1360.1)), some (.p (enc z_1360.2)), some (.p (enc z_1368.1)), some (.p (enc z_1368.2)), none, some (.ll (encss rows_1432)), some (.p (enc q_1381)), some (.p (enc q_1412))]) (setAt2 n_1411 q_1381 q_1412 (((getI (getI z_1360.2 q_1381) q_1412) - ((((getI (getI z_1360.2 q_1381) v_0) * (getI (getI z_1360.2 q_1412) w_0)) + ((getI (getI z_1360.2 q_1381) w_0) * (getI (getI z_1360.2 q_1412) v_0))) * z_1368.1)) % z_1360.1)) (fun (rows_1432 : (List (List Int))) => m_exchanged_3 rows_1432) (fun (rows_1432 : (List (List Int))) => g_exchanged_3 rows_1432) (st_sto2 (i := 9) (tg_rowT (i := 9) rfl (pv 9) (ev_var 10 rfl (pv 10)) (ev_var 11 rfl (pv 11)) hg_1415.2.2.2.2.2.2.2.2.2.2.2.2.2.2.1 (hpg := fun h1 h2 h3 => pg_sub h1 h2 h3)) (ev_mod hg_1415.2.2.2.2.2.2.2.2.2.2.2.2.2.1 (ev_sub (ev_ixL hg_1415.2.1 (ev_ixL hg_1415.1 (ev_var 5 rfl (pv 5)) (ev_var 10 rfl (pv 10))) (ev_var 11 rfl (pv 11))) (ev_mul hg_1415.2.2.2.2.2.2.2.2.2.2.2.2.1 (ev_add (ev_mul hg_1415.2.2.2.2.2.2.1 (ev_ixL hg_1415.2.2.2.1 (ev_ixL hg_1415.2.2.1 (ev_var 5 rfl (pv 5)) (ev_var 10 rfl (pv 10))) (ev_var 1 rfl (pv 1))) (ev_ixL hg_1415.2.2.2.2.2.1 (ev_ixL hg_1415.2.2.2.2.1 (ev_var 5 rfl (pv 5)) (ev_var 11 rfl (pv 11))) (ev_var 2 rfl (pv 2)))) (ev_mul hg_1415.2.2.2.2.2.2.2.2.2.2.2.1 (ev_ixL hg_1415.2.2.2.2.2.2.2.2.1 (ev_ixL hg_1415.2.2.2.2.2.2.2.1 (ev_var 5 rfl (pv 5)) (ev_var 10 rfl (pv 10))) (ev_var 2 rfl (pv 2))) (ev_ixL hg_1415.2.2.2.2.2.2.2.2.2.2.1 (ev_ixL hg_1415.2.2.2.2.2.2.2.2.2.1 (ev_var 5 rfl (pv 5)) (ev_var 11 rfl (pv 11))) (ev_var 1 rfl (pv 1))))) (ev_var 6 rfl (pv 6)))) (ev_var 4 rfl (pv 4))) (fun h1 h2 => ps_asg h1 h2)) hg_1415.2.2.2.2.2.2.2.2.2.2.2.2.2.2.2 (fun rows_1432 hg_1434 => ?_)
          exact sb_nil rfl (And.intro rfl (And.intro rfl (And.intro rfl (And.intro rfl (And.intro rfl (And.intro rfl (And.intro rfl (And.intro rfl (And.intro rfl (And.intro rfl trivial))))))))))
        · have hg_1416 := hb_1409.2 hc_1414
          exact sb_nil rfl (And.intro rfl (And.intro rfl (And.intro rfl (And.intro rfl (And.intro rfl (And.intro rfl (And.intro rfl (And.intro rfl (And.intro rfl (And.intro rfl trivial))))))))))
      · exact sb_nil rfl (And.intro rfl (And.intro rfl (And.intro rfl (And.intro rfl (And.intro rfl (And.intro rfl (And.intro rfl (And.intro rfl (And.intro rfl trivial)))))))))
    · have hg_1385 := hb_1378.2 hc_1383
      exact sb_nil rfl (And.intro rfl (And.intro rfl (And.intro rfl (And.intro rfl (And.intro rfl (And.intro rfl (And.intro rfl (And.intro rfl (And.intro rfl trivial)))))))))
  · exact sb_ret (ev_call ⟨ok_web_of_1 T, T.G_web_of, T.F_web_of.kp, T.B_web_of⟩ (hr.mono (by decide)) hgd (by rfl) (ea_cons (ev_var 4 rfl (pv 4)) (ea_cons (ev_varLL 9 rfl (pv 9)) ea_nil)) rfl ⟨_, _, rfl, hg_1438, rfl, rfl⟩) rfl)
set_option maxHeartbeats 0 in
theorem ok__law_made {P : Program} {w : World} {K : PySem.W.Frag} {mg : Str → Option Value} {base : Heap} (T : Kit K mg) : FnG P w K mg base 3 T.a__law_made T.d__law_made ["web", "moves"] (spD K 2 R__law_made) := fnD T.F__law_made sc__law_made rfl (by decide) (by
  intro sa sls S r S' hR cd A outer s H E hr hgd
  obtain ⟨web_0, moves_0, rfl, hg, rfl, rfl⟩ := hR
  refine SB.start (δ' := [some (.p (enc web_0)), some (.p (enc moves_0)), none]) (rf := (rf__law_made S)) (m := m__law_made web_0 moves_0) rfl rfl ?_
  refine forV (Wf := (WR (rf__law_made S))) (itm := itP1) (fun (n_1469 : (T3 Int Int (List (T3 Int Int Int)))) => m__law_made_4 n_1469) (fun (n_1469 : (T3 Int Int (List (T3 Int Int Int)))) => g__law_made_4 n_1469) (nf__law_made_1 moves_0 S) (web_0 : (T3 Int Int (List (T3 Int Int Int)))) (fun (n_1463 : (T3 Int Int (List (T3 Int Int Int)))) (q_1464 : (T3 Str Int Int)) => g__law_made_3 n_1463 q_1464) (fun n_1463 q_1464 => [some (.p (enc n_1463)), some (.p (enc moves_0)), some (.p (enc q_1464))]) (fun (n_1463 : (T3 Int Int (List (T3 Int Int Int)))) (q_1464 : (T3 Str Int Int)) => m__law_made_3 n_1463 q_1464) (ij_T (ev_var 1 rfl (pv 1))) (And.intro rfl (And.intro rfl trivial)) (fun n_1463 q_1464 => (tg_name (pg_name (i := 2) sc__law_made.nd rfl (by first | exact .inl rfl | exact .inr rfl)))) (fun n_1463 q_1464 hb_1461 => ?_) hg.1 hg.2 (fun n_1469 hg_1470 => ?_)
  · refine stepV (Wf := (WN (nf__law_made_1 moves_0 S))) (δf := fun (web_1466 : (T3 Int Int (List (T3 Int Int Int)))) => [some (.p (enc web_1466)), some (.p (enc moves_0)), some (.p (enc q_1464))]) (m__law_moved n_1463 q_1464) (fun (web_1466 : (T3 Int Int (List (T3 Int Int Int)))) => m__law_made_2 web_1466) (fun (web_1466 : (T3 Int Int (List (T3 Int Int Int)))) => g__law_made_2 web_1466) (st_p (i := 0) (ps_set (i := 0) sc__law_made.nd rfl (by first | exact .inl rfl | exact .inr rfl) (ev_call ⟨ok__law_moved T, T.G__law_moved, T.F__law_moved.kp, T.B__law_moved⟩ (hr.mono (by decide)) hgd (by rfl) (ea_cons (ev_var 0 rfl (pv 0)) (ea_cons (ev_var 2 rfl (pv 2)) ea_nil)) rfl ⟨_, _, rfl, hb_1461.1, rfl, rfl⟩))) hb_1461.2 (fun web_1466 hg_1468 => ?_)
    exact sb_nil rfl (And.intro rfl (And.intro rfl trivial))
  · exact sb_ret (ev_var 0 rfl (pv 0)) rfl)
set_option maxHeartbeats 0 in
theorem ok__law_exchange_right {P : Program} {w : World} {K : PySem.W.Frag} {mg : Str → Option Value} {base : Heap} (T : Kit K mg) : FnG P w K mg base 4 T.a__law_exchange_right T.d__law_exchange_right ["source", "web", "u", "v"] (spD K 4 R__law_exchange_right) := fnD T.F__law_exchange_right sc__law_exchange_right rfl (by decide) (by
  intro sa sls S r S' hR cd A outer s H E hr hgd
  obtain ⟨web_0, u_0, v_0, rfl, hg, rfl, rfl⟩ := hR
  refine SB.start (δ' := [some (.src), some (.p (enc web_0)), some (.p (enc u_0)), some (.p (enc v_0)), none, none, none, none, none, none, none, none, none, none, none, none]) (rf := rf__law_exchange_right) (m := m__law_exchange_right web_0 u_0 v_0 S) rfl rfl ?_
  refine stepV (Wf := (WR rf__law_exchange_right)) (δf := fun (w_1552 : (Int × Int)) => [some (.src), some (.p (enc web_0)), some (.p (enc u_0)), some (.p (enc v_0)), some (.p (enc ((w_1552).1))), some (.p (enc ((w_1552).2))), none, none, none, none, none, none, none, none, none, none]) (web_0.a, web_0.b) (fun (w_1552 : (Int × Int)) => m__law_exchange_right_22 web_0 u_0 v_0 S w_1552) (fun (w_1552 : (Int × Int)) => g__law_exchange_right_22 web_0 u_0 v_0 S w_1552) (st_asg (ev_slD (ds := [enc web_0.a, enc web_0.b, enc web_0.c]) (ds' := [enc web_0.a, enc web_0.b]) (l := Option.none) (h := (some (2 : Int))) rfl (ev_var 1 rfl (pv 1)) ep_none (ep_some ev_int)) (tg_tup (ds := [enc (((web_0.a, web_0.b)).1), enc (((web_0.a, web_0.b)).2)]) (by rfl) (tgs_cons (tg_name (pg_name (i := 4) sc__law_exchange_right.nd rfl (by first | exact .inl rfl | exact .inr rfl))) (tgs_cons (tg_name (pg_name (i := 5) sc__law_exchange_right.nd rfl (by first | exact .inl rfl | exact .inr rfl))) tgs_nil)))) hg (fun w_1552 hg_1554 => ?_)
  refine stepVS (Wf := (WR rf__law_exchange_right)) (δf := fun (z_1557 : (Int × (List (List Int)))) => [some (.src), some (.p (enc web_0)), some (.p (enc u_0)), some (.p (enc v_0)), some (.p (enc ((w_1552).1))), some (.p (enc ((w_1552).2))), some (.p (enc z_1557.1)), some (.bb (encss z_1557.2)), none, none, none, none, none, none, none, none]) (((1 : Int) + (m__law_pick ((w_1552).1 - (1 : Int)) S).1), (m__law_table web_0)) (fun (z_1557 : (Int × (List (List Int)))) (S_1559 : Src) => m__law_exchange_right_21 web_0 u_0 v_0 w_1552 z_1557 S_1559) (fun (z_1557 : (Int × (List (List Int)))) (S_1559 : Src) => g__law_exchange_right_21 web_0 u_0 v_0 w_1552 z_1557 S_1559) (Step.frz' 7 (st_parG (i := 6) (j := 7) (eo_p (ev_add ev_int (ev_call ⟨ok__law_pick T, T.G__law_pick, T.F__law_pick.kp, T.B__law_pick⟩ (hr.mono (by decide)) hgd (by rfl) (ea_cons (ev_varS 0 rfl (pv 0)) (ea_cons (ev_sub (ev_var 4 rfl (pv 4)) ev_int) ea_nil)) rfl ⟨_, rfl, hg_1554.1, rfl, rfl⟩))) (eo_m (em_call ⟨ok__law_table T, T.G__law_table, T.F__law_table.kp, T.B__law_table⟩ (hr.mono (by decide)) hgd (by rfl) (ea_cons (ev_var 1 rfl (pv 1)) ea_nil) rfl ⟨_, rfl, hg_1554.2.1, rfl, rfl⟩)) (pg_name (i := 6) sc__law_exchange_right.nd rfl (by first | exact .inl rfl | exact .inr rfl)) (pg_name (i := 7) sc__law_exchange_right.nd rfl (by first | exact .inl rfl | exact .inr rfl)) (by rfl)) (by rfl) (by rfl)) hg_1554.2.2 (fun z_1557 S_1559 hg_1560 => ?_)
  refine stepV (Wf := (WR rf__law_exchange_right)) (δf := fun (h_1563 : Int) => [some (.src), some (.p (enc web_0)), some (.p (enc u_0)), some (.p (enc v_0)), some (.p (enc ((w_1552).1))), some (.p (enc ((w_1552).2))), some (.p (enc z_1557.1)), some (.bb (encss z_1557.2)), some (.p (enc h_1563)), none, none, none, none, none, none, none]) (getI (getI z_1557.2 u_0) v_0) (fun (h_1563 : Int) => m__law_exchange_right_20 web_0 u_0 v_0 w_1552 z_1557 S_1559 h_1563) (fun (h_1563 : Int) => g__law_exchange_right_20 web_0 u_0 v_0 w_1552 z_1557 S_1559 h_1563) (st_p (i := 8) (ps_set (i := 8) sc__law_exchange_right.nd rfl (by first | exact .inl rfl | exact .inr rfl) (ev_ixLB hg_1560.2.1 (ev_ixLBB hg_1560.1 (ev_varBB 7 rfl (pv 7)) (ev_var 2 rfl (pv 2))) (ev_var 3 rfl (pv 3))))) hg_1560.2.2 (fun h_1563 hg_1565 => ?_)
  refine stepV (Wf := (WR rf__law_exchange_right)) (δf := fun (moves_1567 : (T3 (T3 Str Int Int) (T3 Str Int Int) (T3 Str Int Int))) => [some (.src), some (.p (enc web_0)), some (.p (enc u_0)), some (.p (enc v_0)), some (.p (enc ((w_1552).1))), some (.p (enc ((w_1552).2))), some (.p (enc z_1557.1)), some (.bb (encss z_1557.2)), some (.p (enc h_1563)), some (.p (enc moves_1567)), none, none, none, none, none, none]) (m_exchange_moves web_0 u_0 v_0 z_1557.1) (fun (moves_1567 : (T3 (T3 Str Int Int) (T3 Str Int Int) (T3 Str Int Int))) => m__law_exchange_right_19 web_0 u_0 v_0 w_1552 z_1557 S_1559 h_1563 moves_1567) (fun (moves_1567 : (T3 (T3 Str Int Int) (T3 Str Int Int) (T3 Str Int Int))) => g__law_exchange_right_19 web_0 u_0 v_0 w_1552 z_1557 S_1559 h_1563 moves_1567) (st_p (i := 9) (ps_set (i := 9) sc__law_exchange_right.nd rfl (by first | exact .inl rfl | exact .inr rfl) (ev_call ⟨ok_exchange_moves T, T.G_exchange_moves, T.F_exchange_moves.kp, T.B_exchange_moves⟩ (hr.mono (by decide)) hgd (by rfl) (ea_cons (ev_var 1 rfl (pv 1)) (ea_cons (ev_var 2 rfl (pv 2)) (ea_cons (ev_var 3 rfl (pv 3)) (ea_cons (ev_var 6 rfl (pv 6)) ea_nil)))) rfl ⟨_, _, _, _, rfl, hg_1565.1, rfl, rfl⟩))) hg_1565.2 (fun moves_1567 hg_1569 => ?_)
  refine stepV (Wf := (WR rf__law_exchange_right)) (δf := fun (back_1581 : (List Int)) => [some (.src), some (.p (enc web_0)), some (.p (enc u_0)), some (.p (enc v_0)), some (.p (enc ((w_1552).1))), some (.p (enc ((w_1552).2))), some (.p (enc z_1557.1)), some (.bb (encss z_1557.2)), some (.p (enc h_1563)), some (.p (enc moves_1567)), none, some (.b (encs back_1581)), none, none, none, none]) (List.map (fun (q_1573 : Int) => q_1573) (List.filter (fun (q_1573 : Int) => decide ((((((q_1573 * z_1557.1) * h_1563) * h_1563) + (1 : Int)) % (w_1552).1) = (0 : Int))) (rngI (1 : Int) (Int.toNat ((w_1552).1 - (1 : Int)))))) (fun (back_1581 : (List Int)) => m__law_exchange_right_18 web_0 u_0 v_0 w_1552 z_1557 S_1559 h_1563 moves_1567 back_1581) (fun (back_1581 : (List Int)) => g__law_exchange_right_18 web_0 u_0 v_0 w_1552 z_1557 S_1559 h_1563 moves_1567 back_1581) (st_lB (i := 11) (plcf (fun (q_1573 : Int) => (CMul q_1573 z_1557.1) ∧ (CMul (q_1573 * z_1557.1) h_1563) ∧ (CMul ((q_1573 * z_1557.1) * h_1563) h_1563) ∧ (0 < (w_1552).1)) (fun (q_1573 : Int) => [some (.src), some (.p (enc web_0)), some (.p (enc u_0)), some (.p (enc v_0)), some (.p (enc ((w_1552).1))), some (.p (enc ((w_1552).2))), some (.p (enc z_1557.1)), some (.bb (encss z_1557.2)), some (.p (enc h_1563)), some (.p (enc moves_1567)), some (.p (enc q_1573)), none, none, none, none, none]) (fun (q_1573 : Int) => decide ((((((q_1573 * z_1557.1) * h_1563) * h_1563) + (1 : Int)) % (w_1552).1) = (0 : Int))) (fun (q_1573 : Int) => q_1573) (ij_range2 hg_1569.1 hg_1569.2.1 hg_1569.2.2.1 (by rfl) T.z_range (ea_cons ev_int (ea_cons (ev_var 4 rfl (pv 4)) ea_nil))) hg_1569.2.2.2.1 (fun q_1573 s H C cl fp => (tg_name (pg_name (i := 10) sc__law_exchange_right.nd rfl (by first | exact .inl rfl | exact .inr rfl)))) (fun q_1573 hq_1574 s H C cl fp => (et_cmp op_eq rc_eqI (ev_mod hq_1574.2.2.2 (ev_intI (by rfl) T.z_int (ev_add (ev_mul hq_1574.2.2.1 (ev_mul hq_1574.2.1 (ev_mul hq_1574.1 (ev_var 10 rfl (pv 10)) (ev_var 6 rfl (pv 6))) (ev_var 8 rfl (pv 8))) (ev_var 8 rfl (pv 8))) ev_int)) (ev_var 4 rfl (pv 4))) ev_int (nomark _))) (fun q_1573 hq_1574 hc_1579 s H C cl fp => (ev_var 10 rfl (pv 10))) (by rfl) sc__law_exchange_right.nd (blk_of (own := [("x", 10)]) (by rfl)) (by decide) (by rfl) rfl (by rfl))) hg_1569.2.2.2.2 (fun back_1581 hg_1583 => ?_)
  refine sb_if (Wf := (WR rf__law_exchange_right)) (x := m__law_exchange_right_16 S_1559) (y := m__law_exchange_right_17 web_0 u_0 v_0 w_1552 z_1557 S_1559 h_1563 moves_1567) (et_cmp op_ne rc_neS (ev_repr hr hgd hg_1583.1 (by rfl) T.z_repr (ed_p (ev_var 9 rfl (pv 9)))) (ev_repr hr hgd hg_1583.2.2.1 (by rfl) T.z_repr (ed_p (ev_tup (ds := [enc (T3.mk ("turn" : Str) u_0 z_1557.1), enc (T3.mk ("turn" : Str) v_0 (getI back_1581 (0 : Int))), enc (T3.mk ("turn" : Str) u_0 z_1557.1)]) (ea_cons (ev_tup (ds := [enc ("turn" : Str), enc u_0, enc z_1557.1]) (ea_cons ev_str (ea_cons (ev_var 2 rfl (pv 2)) (ea_cons (ev_var 6 rfl (pv 6)) ea_nil)))) (ea_cons (ev_tup (ds := [enc ("turn" : Str), enc v_0, enc (getI back_1581 (0 : Int))]) (ea_cons ev_str (ea_cons (ev_var 3 rfl (pv 3)) (ea_cons (ev_ixLB hg_1583.2.1 (ev_varB 11 rfl (pv 11)) ev_int) ea_nil)))) (ea_cons (ev_tup (ds := [enc ("turn" : Str), enc u_0, enc z_1557.1]) (ea_cons ev_str (ea_cons (ev_var 2 rfl (pv 2)) (ea_cons (ev_var 6 rfl (pv 6)) ea_nil)))) ea_nil)))))) (nomark _)) (fun hc_1588 => ?_) (fun hc_1589 => ?_)
  · have hg_1590 := hg_1583.2.2.2.1 hc_1588
    exact sb_ret ev_bl rfl
  · have hg_1591 := hg_1583.2.2.2.2 hc_1589
    refine stepV (Wf := (WR rf__law_exchange_right)) (δf := fun (late_1593 : (T3 Int Int (List (T3 Int Int Int)))) => [some (.src), some (.p (enc web_0)), some (.p (enc u_0)), some (.p (enc v_0)), some (.p (enc ((w_1552).1))), some (.p (enc ((w_1552).2))), some (.p (enc z_1557.1)), some (.bb (encss z_1557.2)), some (.p (enc h_1563)), some (.p (enc moves_1567)), none, some (.b (encs back_1581)), some (.p (enc late_1593)), none, none, none]) (m_exchanged web_0 u_0 v_0 z_1557.1) (fun (late_1593 : (T3 Int Int (List (T3 Int Int Int)))) => m__law_exchange_right_15 web_0 u_0 v_0 w_1552 z_1557 S_1559 h_1563 moves_1567 late_1593) (fun (late_1593 : (T3 Int Int (List (T3 Int Int Int)))) => g__law_exchange_right_15 web_0 u_0 v_0 w_1552 z_1557 S_1559 h_1563 moves_1567 late_1593) (st_p (i := 12) (ps_set (i := 12) sc__law_exchange_right.nd rfl (by first | exact .inl rfl | exact .inr rfl) (ev_call ⟨ok_exchanged T, T.G_exchanged, T.F_exchanged.kp, T.B_exchanged⟩ (hr.mono (by decide)) hgd (by rfl) (ea_cons (ev_var 1 rfl (pv 1)) (ea_cons (ev_var 2 rfl (pv 2)) (ea_cons (ev_var 3 rfl (pv 3)) (ea_cons (ev_var 6 rfl (pv 6)) ea_nil)))) rfl ⟨_, _, _, _, rfl, hg_1591.1, rfl, rfl⟩))) hg_1591.2 (fun late_1593 hg_1595 => ?_)
    refine sb_if (Wf := (WR rf__law_exchange_right)) (x := m__law_exchange_right_13 S_1559) (y := m__law_exchange_right_14 u_0 v_0 w_1552 z_1557 S_1559 h_1563 late_1593) (et_cmp op_ne rc_neS (ev_repr hr hgd hg_1595.1 (by rfl) T.z_repr (ed_p (ev_var 12 rfl (pv 12)))) (ev_repr hr hgd hg_1595.2.2.1 (by rfl) T.z_repr (ed_p (ev_call ⟨ok__law_made T, T.G__law_made, T.F__law_made.kp, T.B__law_made⟩ (hr.mono (by decide)) hgd (by rfl) (ea_cons (ev_var 1 rfl (pv 1)) (ea_cons (ev_cast (x := (moves_1567 : (T3 (T3 Str Int Int) (T3 Str Int Int) (T3 Str Int Int)))) (y := ([moves_1567.a, moves_1567.b, moves_1567.c] : (List (T3 Str Int Int)))) (rfl) (ev_var 9 rfl (pv 9))) ea_nil)) rfl ⟨_, _, rfl, hg_1595.2.1, rfl, rfl⟩))) (nomark _)) (fun hc_1599 => ?_) (fun hc_1600 => ?_)
    · have hg_1601 := hg_1595.2.2.2.1 hc_1599
      exact sb_ret ev_bl rfl
    · have hg_1602 := hg_1595.2.2.2.2 hc_1600
      refine stepV (Wf := (WR rf__law_exchange_right)) (δf := fun (told_1604 : (List (List Int))) => [some (.src), some (.p (enc web_0)), some (.p (enc u_0)), some (.p (enc v_0)), some (.p (enc ((w_1552).1))), some (.p (enc ((w_1552).2))), some (.p (enc z_1557.1)), some (.bb (encss z_1557.2)), some (.p (enc h_1563)), some (.p (enc moves_1567)), none, some (.b (encs back_1581)), some (.p (enc late_1593)), some (.bb (encss told_1604)), none, none]) (m__law_table late_1593) (fun (told_1604 : (List (List Int))) => m__law_exchange_right_12 u_0 v_0 w_1552 z_1557 S_1559 h_1563 told_1604) (fun (told_1604 : (List (List Int))) => g__law_exchange_right_12 u_0 v_0 w_1552 z_1557 S_1559 h_1563 told_1604) (st_mB (i := 13) (ps_set (i := 13) sc__law_exchange_right.nd rfl (by first | exact .inl rfl | exact .inr rfl) (em_call ⟨ok__law_table T, T.G__law_table, T.F__law_table.kp, T.B__law_table⟩ (hr.mono (by decide)) hgd (by rfl) (ea_cons (ev_var 12 rfl (pv 12)) ea_nil) rfl ⟨_, rfl, hg_1602.1, rfl, rfl⟩))) hg_1602.2 (fun told_1604 hg_1606 => ?_)
      refine forR (itm := itP1) (fun (n_1670 : Unit) => m__law_exchange_right_11 u_0 v_0 S_1559 h_1563 told_1604 n_1670) (fun (n_1670 : Unit) => g__law_exchange_right_11 u_0 v_0 S_1559 h_1563 told_1604 n_1670) (nf__law_exchange_right_1 web_0 u_0 v_0 w_1552 z_1557 S_1559 h_1563 moves_1567 back_1581 late_1593 told_1604) rf__law_exchange_right (() : Unit) (fun (n_1613 : Unit) (q_1614 : Int) => g__law_exchange_right_10 u_0 v_0 w_1552 z_1557 S_1559 h_1563 told_1604 n_1613 q_1614) (fun n_1613 q_1614 => [some (.src), some (.p (enc web_0)), some (.p (enc u_0)), some (.p (enc v_0)), some (.p (enc ((w_1552).1))), some (.p (enc ((w_1552).2))), some (.p (enc z_1557.1)), some (.bb (encss z_1557.2)), some (.p (enc h_1563)), some (.p (enc moves_1567)), none, some (.b (encs back_1581)), some (.p (enc late_1593)), some (.bb (encss told_1604)), some (.p (enc q_1614)), none]) (fun (n_1613 : Unit) (q_1614 : Int) => m__law_exchange_right_10 u_0 v_0 w_1552 z_1557 S_1559 h_1563 told_1604 n_1613 q_1614) (ij_L (ev_of_new (elcf (fun (q_1608 : Int) => True) (fun (q_1608 : Int) => [some (.src), some (.p (enc web_0)), some (.p (enc u_0)), some (.p (enc v_0)), some (.p (enc ((w_1552).1))), some (.p (enc ((w_1552).2))), some (.p (enc z_1557.1)), some (.bb (encss z_1557.2)), some (.p (enc h_1563)), some (.p (enc moves_1567)), none, some (.b (encs back_1581)), some (.p (enc late_1593)), some (.bb (encss told_1604)), some (.p (enc q_1608)), none]) (fun (q_1608 : Int) => (!(mem (q_1608 : Int) ([(u_0, v_0).1, (u_0, v_0).2] : (List Int))))) (fun (q_1608 : Int) => q_1608) (ij_range1 hg_1606.1 (by rfl) T.z_range (ea_cons (ev_var 5 rfl (pv 5)) ea_nil)) (fun _ _ => trivial) (fun q_1608 s H C cl fp => (tg_name (pg_name (i := 14) sc__law_exchange_right.nd rfl (by first | exact .inl rfl | exact .inr rfl)))) (fun q_1608 hq_1609 s H C cl fp => (et_cmp (op_notInT (hr.un65 (Nat.zero_le _))) (rc_niT (q_1608 : Int) ([(u_0, v_0).1, (u_0, v_0).2] : (List Int))) (ev_var 14 rfl (pv 14)) (ev_cast (x := ((u_0, v_0) : (Int × Int))) (y := ([(u_0, v_0).1, (u_0, v_0).2] : (List Int))) (rfl) (ev_tup (ds := [enc u_0, enc v_0]) (ea_cons (ev_var 2 rfl (pv 2)) (ea_cons (ev_var 3 rfl (pv 3)) ea_nil)))) (by with_unfolding_all rfl))) (fun q_1608 hq_1609 hc_1610 s H C cl fp => (ev_var 14 rfl (pv 14))) (by rfl) sc__law_exchange_right.nd (blk_of (own := [("w", 14)]) (by rfl)) (by decide)))) (And.intro rfl (And.intro rfl (And.intro rfl (And.intro rfl (And.intro rfl (And.intro rfl (And.intro rfl (And.intro rfl (And.intro rfl (And.intro rfl (And.intro rfl (And.intro rfl (And.intro rfl trivial))))))))))))) (fun n_1613 q_1614 => (tg_name (pg_name (i := 14) sc__law_exchange_right.nd rfl (by first | exact .inl rfl | exact .inr rfl)))) (fun n_1613 q_1614 hb_1611 => ?_) hg_1606.2.1 hg_1606.2.2 (fun n_1670 hg_1671 => ?_)
      · refine sb_if (Wf := (WX (nf__law_exchange_right_1 web_0 u_0 v_0 w_1552 z_1557 S_1559 h_1563 moves_1567 back_1581 late_1593 told_1604) rf__law_exchange_right)) (x := m__law_exchange_right_8 S_1559) (y := m__law_exchange_right_9 u_0 v_0 w_1552 z_1557 S_1559 h_1563 told_1604 q_1614) (et_pw (ew_orP (et_cmp op_ne rc_neI (ev_mod hb_1611.2.2.2.2.2.2.1 (ev_intI (by rfl) T.z_int (ev_add (ev_mul hb_1611.2.2.2.1 (ev_mul hb_1611.2.2.1 (ev_ixLB hb_1611.2.1 (ev_ixLBB hb_1611.1 (ev_varBB 13 rfl (pv 13)) (ev_var 2 rfl (pv 2))) (ev_var 14 rfl (pv 14))) (ev_var 6 rfl (pv 6))) (ev_var 8 rfl (pv 8))) (ev_ixLB hb_1611.2.2.2.2.2.1 (ev_ixLBB hb_1611.2.2.2.2.1 (ev_varBB 7 rfl (pv 7)) (ev_var 3 rfl (pv 3))) (ev_var 14 rfl (pv 14))))) (ev_var 4 rfl (pv 4))) ev_int (nomark _)) fun hc_1623 => (ew_or1 (et_cmp op_ne rc_neI (ev_ixLB (hb_1611.2.2.2.2.2.2.2.1 hc_1623).2.1 (ev_ixLBB (hb_1611.2.2.2.2.2.2.2.1 hc_1623).1 (ev_varBB 13 rfl (pv 13)) (ev_var 3 rfl (pv 3))) (ev_var 14 rfl (pv 14))) (ev_mod (hb_1611.2.2.2.2.2.2.2.1 hc_1623).2.2.2.2.2.2 (ev_intI (by rfl) T.z_int (ev_mul (hb_1611.2.2.2.2.2.2.2.1 hc_1623).2.2.2.2.2.1 (ev_mul (hb_1611.2.2.2.2.2.2.2.1 hc_1623).2.2.1 (ev_var 6 rfl (pv 6)) (ev_var 8 rfl (pv 8))) (ev_ixLB (hb_1611.2.2.2.2.2.2.2.1 hc_1623).2.2.2.2.1 (ev_ixLBB (hb_1611.2.2.2.2.2.2.2.1 hc_1623).2.2.2.1 (ev_varBB 7 rfl (pv 7)) (ev_var 2 rfl (pv 2))) (ev_var 14 rfl (pv 14))))) (ev_var 4 rfl (pv 4))) (nomark _))))) (fun hc_1632 => ?_) (fun hc_1633 => ?_)
        · have hg_1634 := hb_1611.2.2.2.2.2.2.2.2.1 hc_1632
          exact sb_ret ev_bl ⟨_, rfl, rfl⟩
        · have hg_1635 := hb_1611.2.2.2.2.2.2.2.2.2 hc_1633
          refine forX (itm := itP1) (fun (n_1668 : Unit) => m__law_exchange_right_7 n_1668) (fun (n_1668 : Unit) => g__law_exchange_right_7 n_1668) (nf__law_exchange_right_2 web_0 u_0 v_0 w_1552 z_1557 S_1559 h_1563 moves_1567 back_1581 late_1593 told_1604 q_1614) rf__law_exchange_right (() : Unit) (fun (n_1642 : Unit) (q_1643 : Int) => g__law_exchange_right_6 u_0 v_0 w_1552 z_1557 S_1559 h_1563 told_1604 q_1614 n_1642 q_1643) (fun n_1642 q_1643 => [some (.src), some (.p (enc web_0)), some (.p (enc u_0)), some (.p (enc v_0)), some (.p (enc ((w_1552).1))), some (.p (enc ((w_1552).2))), some (.p (enc z_1557.1)), some (.bb (encss z_1557.2)), some (.p (enc h_1563)), some (.p (enc moves_1567)), some (.p (enc q_1643)), some (.b (encs back_1581)), some (.p (enc late_1593)), some (.bb (encss told_1604)), some (.p (enc q_1614)), none]) (fun (n_1642 : Unit) (q_1643 : Int) => m__law_exchange_right_6 u_0 v_0 w_1552 z_1557 S_1559 h_1563 told_1604 q_1614 n_1642 q_1643) (ij_L (ev_of_new (elcf (fun (q_1637 : Int) => True) (fun (q_1637 : Int) => [some (.src), some (.p (enc web_0)), some (.p (enc u_0)), some (.p (enc v_0)), some (.p (enc ((w_1552).1))), some (.p (enc ((w_1552).2))), some (.p (enc z_1557.1)), some (.bb (encss z_1557.2)), some (.p (enc h_1563)), some (.p (enc moves_1567)), some (.p (enc q_1637)), some (.b (encs back_1581)), some (.p (enc late_1593)), some (.bb (encss told_1604)), some (.p (enc q_1614)), none]) (fun (q_1637 : Int) => (!(mem (q_1637 : Int) ([(T3.mk u_0 v_0 q_1614).a, (T3.mk u_0 v_0 q_1614).b, (T3.mk u_0 v_0 q_1614).c] : (List Int))))) (fun (q_1637 : Int) => q_1637) (ij_range1 hg_1635.1 (by rfl) T.z_range (ea_cons (ev_var 5 rfl (pv 5)) ea_nil)) (fun _ _ => trivial) (fun q_1637 s H C cl fp => (tg_name (pg_name (i := 10) sc__law_exchange_right.nd rfl (by first | exact .inl rfl | exact .inr rfl)))) (fun q_1637 hq_1638 s H C cl fp => (et_cmp (op_notInT (hr.un65 (Nat.zero_le _))) (rc_niT (q_1637 : Int) ([(T3.mk u_0 v_0 q_1614).a, (T3.mk u_0 v_0 q_1614).b, (T3.mk u_0 v_0 q_1614).c] : (List Int))) (ev_var 10 rfl (pv 10)) (ev_cast (x := ((T3.mk u_0 v_0 q_1614) : (T3 Int Int Int))) (y := ([(T3.mk u_0 v_0 q_1614).a, (T3.mk u_0 v_0 q_1614).b, (T3.mk u_0 v_0 q_1614).c] : (List Int))) (rfl) (ev_tup (ds := [enc u_0, enc v_0, enc q_1614]) (ea_cons (ev_var 2 rfl (pv 2)) (ea_cons (ev_var 3 rfl (pv 3)) (ea_cons (ev_var 14 rfl (pv 14)) ea_nil))))) (by with_unfolding_all rfl))) (fun q_1637 hq_1638 hc_1639 s H C cl fp => (ev_var 10 rfl (pv 10))) (by rfl) sc__law_exchange_right.nd (blk_of (own := [("x", 10)]) (by rfl)) (by decide)))) (And.intro rfl (And.intro rfl (And.intro rfl (And.intro rfl (And.intro rfl (And.intro rfl (And.intro rfl (And.intro rfl (And.intro rfl (And.intro rfl (And.intro rfl (And.intro rfl (And.intro rfl (And.intro rfl trivial)))))))))))))) (fun n_1642 q_1643 => (tg_name (pg_name (i := 10) sc__law_exchange_right.nd rfl (by first | exact .inl rfl | exact .inr rfl)))) (fun n_1642 q_1643 hb_1640 => ?_) hg_1635.2.1 hg_1635.2.2 (fun n_1668 hg_1669 => ?_)
          · refine stepV (Wf := (WX (nf__law_exchange_right_2 web_0 u_0 v_0 w_1552 z_1557 S_1559 h_1563 moves_1567 back_1581 late_1593 told_1604 q_1614) rf__law_exchange_right)) (δf := fun (cross_1655 : Int) => [some (.src), some (.p (enc web_0)), some (.p (enc u_0)), some (.p (enc v_0)), some (.p (enc ((w_1552).1))), some (.p (enc ((w_1552).2))), some (.p (enc z_1557.1)), some (.bb (encss z_1557.2)), some (.p (enc h_1563)), some (.p (enc moves_1567)), some (.p (enc q_1643)), some (.b (encs back_1581)), some (.p (enc late_1593)), some (.bb (encss told_1604)), some (.p (enc q_1614)), some (.p (enc cross_1655))]) (((getI (getI z_1557.2 q_1614) u_0) * (getI (getI z_1557.2 q_1643) v_0)) + ((getI (getI z_1557.2 q_1614) v_0) * (getI (getI z_1557.2 q_1643) u_0))) (fun (cross_1655 : Int) => m__law_exchange_right_5 w_1552 z_1557 S_1559 h_1563 told_1604 q_1614 q_1643 cross_1655) (fun (cross_1655 : Int) => g__law_exchange_right_5 w_1552 z_1557 S_1559 h_1563 told_1604 q_1614 q_1643 cross_1655) (st_p (i := 15) (ps_set (i := 15) sc__law_exchange_right.nd rfl (by first | exact .inl rfl | exact .inr rfl) (ev_add (ev_mul hb_1640.2.2.2.2.1 (ev_ixLB hb_1640.2.1 (ev_ixLBB hb_1640.1 (ev_varBB 7 rfl (pv 7)) (ev_var 14 rfl (pv 14))) (ev_var 2 rfl (pv 2))) (ev_ixLB hb_1640.2.2.2.1 (ev_ixLBB hb_1640.2.2.1 (ev_varBB 7 rfl (pv 7)) (ev_var 10 rfl (pv 10))) (ev_var 3 rfl (pv 3)))) (ev_mul hb_1640.2.2.2.2.2.2.2.2.2.1 (ev_ixLB hb_1640.2.2.2.2.2.2.1 (ev_ixLBB hb_1640.2.2.2.2.2.1 (ev_varBB 7 rfl (pv 7)) (ev_var 14 rfl (pv 14))) (ev_var 3 rfl (pv 3))) (ev_ixLB hb_1640.2.2.2.2.2.2.2.2.1 (ev_ixLBB hb_1640.2.2.2.2.2.2.2.1 (ev_varBB 7 rfl (pv 7)) (ev_var 10 rfl (pv 10))) (ev_var 2 rfl (pv 2))))))) hb_1640.2.2.2.2.2.2.2.2.2.2 (fun cross_1655 hg_1657 => ?_)
            refine sb_if (Wf := (WX (nf__law_exchange_right_2 web_0 u_0 v_0 w_1552 z_1557 S_1559 h_1563 moves_1567 back_1581 late_1593 told_1604 q_1614) rf__law_exchange_right)) (x := m__law_exchange_right_3 S_1559) (y := m__law_exchange_right_4) (et_cmp op_ne rc_neI (ev_mod hg_1657.2.2.2.2.2.1 (ev_intI (by rfl) T.z_int (ev_sub (ev_mul hg_1657.2.2.2.2.1 (ev_sub (ev_ixLB hg_1657.2.1 (ev_ixLBB hg_1657.1 (ev_varBB 7 rfl (pv 7)) (ev_var 14 rfl (pv 14))) (ev_var 10 rfl (pv 10))) (ev_ixLB hg_1657.2.2.2.1 (ev_ixLBB hg_1657.2.2.1 (ev_varBB 13 rfl (pv 13)) (ev_var 14 rfl (pv 14))) (ev_var 10 rfl (pv 10)))) (ev_var 8 rfl (pv 8))) (ev_var 15 rfl (pv 15)))) (ev_var 4 rfl (pv 4))) ev_int (nomark _)) (fun hc_1664 => ?_) (fun hc_1665 => ?_)
            · have hg_1666 := hg_1657.2.2.2.2.2.2.1 hc_1664
              exact sb_ret ev_bl ⟨_, rfl, rfl⟩
            · have hg_1667 := hg_1657.2.2.2.2.2.2.2 hc_1665
              exact sb_nil ⟨_, rfl, rfl⟩ (And.intro rfl (And.intro rfl (And.intro rfl (And.intro rfl (And.intro rfl (And.intro rfl (And.intro rfl (And.intro rfl (And.intro rfl (And.intro rfl (And.intro rfl (And.intro rfl (And.intro rfl (And.intro rfl trivial))))))))))))))
          · exact sb_nil ⟨_, rfl, rfl⟩ (And.intro rfl (And.intro rfl (And.intro rfl (And.intro rfl (And.intro rfl (And.intro rfl (And.intro rfl (And.intro rfl (And.intro rfl (And.intro rfl (And.intro rfl (And.intro rfl (And.intro rfl trivial)))))))))))))
      · exact sb_ret (ev_cmp op_eq rc_eqI (ev_ixLB hg_1671.2 (ev_ixLBB hg_1671.1 (ev_varBB 13 rfl (pv 13)) (ev_var 2 rfl (pv 2))) (ev_var 3 rfl (pv 3))) (ev_var 8 rfl (pv 8)) (nomark _)) rfl)
set_option maxHeartbeats 0 in
theorem ok_law {P : Program} {w : World} {K : PySem.W.Frag} {mg : Str → Option Value} {base : Heap} (T : Kit K mg) : FnG P w K mg base 5 T.a_law T.d_law ["script"] (spLaw K g_law m_law) := by
  refine fnG_of T.F_law sc_law (fun vs H Q E h => ?_) fun cd A outer s H vs Q E hr hgd h => ?_
  · obtain ⟨a, ns, rfl, _⟩ := h; rfl
  obtain ⟨a, ns, rfl, hs, hz, hg, hm, q⟩ := h
  have body : ∀ (sa : SA) (S : Src), g_law S → SB (bx P w K mg base ["script", "source", "lap", "p", "n", "web", "kept", "rows", "row", "u", "v", "w", "near", "turn", "moves", "found", "move", "late", "due", "back", "tie", "one", "other"] "law" (defScope s_law) T.a_law cd A outer s H E) sa [none, some (.src), none, none, none, none, none, none, none, none, none, none, none, none, none, none, none, none, none, none, none, none, none] S ((defBody s_law).drop 1) (WR rf_law (m_law S)) := fun sa S hg => by
    refine forR (itm := itP1) (fun (n_1936 : Src) => m_law_41 n_1936) (fun (n_1936 : Src) => g_law_41 n_1936) nf_law_1 rf_law (S : Src) (fun (n_1716 : Src) (q_1717 : Int) => g_law_40 n_1716 q_1717) (fun n_1716 q_1717 => [none, some (.src), some (.p (enc q_1717)), none, none, none, none, none, none, none, none, none, none, none, none, none, none, none, none, none, none, none, none]) (fun (n_1716 : Src) (q_1717 : Int) => m_law_40 n_1716 q_1717) (ij_range1 hg.1 (by rfl) T.z_range (ea_cons ev_int ea_nil)) (And.intro rfl trivial) (fun n_1716 q_1717 => (tg_name (pg_name (i := 2) sc_law.nd rfl (by first | exact .inl rfl | exact .inr rfl)))) (fun n_1716 q_1717 hb_1714 => ?_) hg.2.1 hg.2.2 (fun n_1936 hg_1937 => ?_)
    · refine stepVS (Wf := (WX nf_law_1 rf_law)) (δf := fun (z_1723 : (Int × Int)) => [none, some (.src), some (.p (enc q_1717)), some (.p (enc z_1723.1)), some (.p (enc z_1723.2)), none, none, none, none, none, none, none, none, none, none, none, none, none, none, none, none, none, none]) ((getI ([(2 : Int), (3 : Int), (5 : Int), (7 : Int)] : List Int) ((m__law_pick (4 : Int) n_1716).1)), ((1 : Int) + (m__law_pick (getI ([(4 : Int), (6 : Int), (8 : Int), (8 : Int)] : List Int) q_1717) ((m__law_pick (4 : Int) n_1716).2)).1)) (fun (z_1723 : (Int × Int)) (S_1725 : Src) => m_law_39 q_1717 z_1723 S_1725) (fun (z_1723 : (Int × Int)) (S_1725 : Src) => g_law_39 q_1717 z_1723 S_1725) (st_parG (i := 3) (j := 4) (eo_p (ev_ixLB hb_1714.2.1 (ev_of_new (el_lst (ds := encs ([(2 : Int), (3 : Int), (5 : Int), (7 : Int)] : List Int)) (ea_cons ev_int (ea_cons ev_int (ea_cons ev_int (ea_cons ev_int ea_nil)))))) (ev_call ⟨ok__law_pick T, T.G__law_pick, T.F__law_pick.kp, T.B__law_pick⟩ (hr.mono (by decide)) hgd (by rfl) (ea_cons (ev_varS 1 rfl (pv 1)) (ea_cons ev_int ea_nil)) rfl ⟨_, rfl, hb_1714.1, rfl, rfl⟩))) (eo_p (ev_add ev_int (ev_call ⟨ok__law_pick T, T.G__law_pick, T.F__law_pick.kp, T.B__law_pick⟩ (hr.mono (by decide)) hgd (by rfl) (ea_cons (ev_varS 1 rfl (pv 1)) (ea_cons (ev_ixLB hb_1714.2.2.1 (ev_of_new (el_lst (ds := encs ([(4 : Int), (6 : Int), (8 : Int), (8 : Int)] : List Int)) (ea_cons ev_int (ea_cons ev_int (ea_cons ev_int (ea_cons ev_int ea_nil)))))) (ev_var 2 rfl (pv 2))) ea_nil)) rfl ⟨_, rfl, hb_1714.2.2.2.1, rfl, rfl⟩))) (pg_name (i := 3) sc_law.nd rfl (by first | exact .inl rfl | exact .inr rfl)) (pg_name (i := 4) sc_law.nd rfl (by first | exact .inl rfl | exact .inr rfl)) (by rfl)) hb_1714.2.2.2.2 (fun z_1723 S_1725 hg_1726 => ?_)
      refine stepVS (Wf := (WX nf_law_1 rf_law)) (δf := fun (web_1729 : (T3 Int Int (List (T3 Int Int Int)))) => [none, some (.src), some (.p (enc q_1717)), some (.p (enc z_1723.1)), some (.p (enc z_1723.2)), some (.p (enc web_1729)), none, none, none, none, none, none, none, none, none, none, none, none, none, none, none, none, none]) ((m__law_web z_1723.1 z_1723.2 ((2 : Int) + (m__law_pick (2 : Int) S_1725).1) ((m__law_pick (2 : Int) S_1725).2)).1) (fun (web_1729 : (T3 Int Int (List (T3 Int Int Int)))) (S_1731 : Src) => m_law_38 q_1717 z_1723 web_1729 S_1731) (fun (web_1729 : (T3 Int Int (List (T3 Int Int Int)))) (S_1731 : Src) => g_law_38 q_1717 z_1723 web_1729 S_1731) (st_p (i := 5) (ps_set (i := 5) sc_law.nd rfl (by first | exact .inl rfl | exact .inr rfl) (ev_call ⟨ok__law_web T, T.G__law_web, T.F__law_web.kp, T.B__law_web⟩ (hr.mono (by decide)) hgd (by rfl) (ea_cons (ev_varS 1 rfl (pv 1)) (ea_cons (ev_var 3 rfl (pv 3)) (ea_cons (ev_var 4 rfl (pv 4)) (ea_cons (ev_add ev_int (ev_call ⟨ok__law_pick T, T.G__law_pick, T.F__law_pick.kp, T.B__law_pick⟩ (hr.mono (by decide)) hgd (by rfl) (ea_cons (ev_varS 1 rfl (pv 1)) (ea_cons ev_int ea_nil)) rfl ⟨_, rfl, hg_1726.1, rfl, rfl⟩)) ea_nil)))) rfl ⟨_, _, _, rfl, hg_1726.2.1, rfl, rfl⟩))) hg_1726.2.2 (fun web_1729 S_1731 hg_1732 => ?_)
      refine stepV (Wf := (WX nf_law_1 rf_law)) (δf := fun (z_1735 : (Str × (List (List Int)))) => [none, some (.src), some (.p (enc q_1717)), some (.p (enc z_1723.1)), some (.p (enc z_1723.2)), some (.p (enc web_1729)), some (.p (enc z_1735.1)), some (.bb (encss z_1735.2)), none, none, none, none, none, none, none, none, none, none, none, none, none, none, none]) ((rp (enc web_1729)), (m__law_table web_1729)) (fun (z_1735 : (Str × (List (List Int)))) => m_law_37 q_1717 z_1723 web_1729 S_1731 z_1735) (fun (z_1735 : (Str × (List (List Int)))) => g_law_37 q_1717 z_1723 web_1729 S_1731 z_1735) (Step.frz' 7 (st_parG (i := 6) (j := 7) (eo_p (ev_repr hr hgd hg_1732.1 (by rfl) T.z_repr (ed_p (ev_var 5 rfl (pv 5))))) (eo_m (em_call ⟨ok__law_table T, T.G__law_table, T.F__law_table.kp, T.B__law_table⟩ (hr.mono (by decide)) hgd (by rfl) (ea_cons (ev_var 5 rfl (pv 5)) ea_nil) rfl ⟨_, rfl, hg_1732.2.1, rfl, rfl⟩)) (pg_name (i := 6) sc_law.nd rfl (by first | exact .inl rfl | exact .inr rfl)) (pg_name (i := 7) sc_law.nd rfl (by first | exact .inl rfl | exact .inr rfl)) (by rfl)) (by rfl) (by rfl)) hg_1732.2.2 (fun z_1735 hg_1737 => ?_)
      refine sb_if (Wf := (WX nf_law_1 rf_law)) (x := m_law_35 S_1731) (y := m_law_36 q_1717 z_1723 web_1729 S_1731 z_1735) (et_pw (ew_orP (et_cmp op_ne rc_neS (ev_repr hr hgd hg_1737.2.1 (by rfl) T.z_repr (ed_p (ev_call ⟨ok_table_of T, T.G_table_of, T.F_table_of.kp, T.B_table_of⟩ (hr.mono (by decide)) hgd (by rfl) (ea_cons (ev_var 5 rfl (pv 5)) ea_nil) rfl ⟨_, rfl, hg_1737.1, rfl, rfl⟩))) (ev_repr hr hgd hg_1737.2.2.1 (by rfl) T.z_repr (ed_p (ev_tuple (by rfl) T.z_tuple (ev_of_new (elc (fun (q_1740 : (List Int)) => True) (fun (q_1740 : (List Int)) => [none, some (.src), some (.p (enc q_1717)), some (.p (enc z_1723.1)), some (.p (enc z_1723.2)), some (.p (enc web_1729)), some (.p (enc z_1735.1)), some (.bb (encss z_1735.2)), some (.b (encs q_1740)), none, none, none, none, none, none, none, none, none, none, none, none, none, none]) (fun (q_1740 : (List Int)) => q_1740) (ij_LL (ev_varBB 7 rfl (pv 7))) (fun _ _ => trivial) (fun q_1740 s H C cl fp => (tg_name (pg_name (i := 8) sc_law.nd rfl (by first | exact .inl rfl | exact .inr rfl)))) (fun q_1740 hq_1741 s H C cl fp => (ev_tuple (by rfl) T.z_tuple (ev_varB 8 rfl (pv 8)))) (by rfl) sc_law.nd (blk_of (own := [("row", 8)]) (by rfl)) (by decide)))))) (nomark _)) fun hc_1744 => (ew_or1 (et_cmp op_ne rc_neS (ev_repr hr hgd (hg_1737.2.2.2.1 hc_1744).2.2 (by rfl) T.z_repr (ed_p (ev_call ⟨ok_web_of T, T.G_web_of, T.F_web_of.kp, T.B_web_of⟩ (hr.mono (by decide)) hgd (by rfl) (ea_cons (ev_var 3 rfl (pv 3)) (ea_cons (ev_call ⟨ok_table_of T, T.G_table_of, T.F_table_of.kp, T.B_table_of⟩ (hr.mono (by decide)) hgd (by rfl) (ea_cons (ev_var 5 rfl (pv 5)) ea_nil) rfl ⟨_, rfl, (hg_1737.2.2.2.1 hc_1744).1, rfl, rfl⟩) ea_nil)) rfl ⟨_, _, rfl, (hg_1737.2.2.2.1 hc_1744).2.1, rfl, rfl⟩))) (ev_var 6 rfl (pv 6)) (nomark _))))) (fun hc_1749 => ?_) (fun hc_1750 => ?_)
      · have hg_1751 := hg_1737.2.2.2.2.1 hc_1749
        exact sb_ret ev_bl ⟨_, rfl, rfl⟩
      · have hg_1752 := hg_1737.2.2.2.2.2 hc_1750
        refine stepVS (Wf := (WX nf_law_1 rf_law)) (δf := fun (z_1755 : (Int × Int)) => [none, some (.src), some (.p (enc q_1717)), some (.p (enc z_1723.1)), some (.p (enc z_1723.2)), some (.p (enc web_1729)), some (.p (enc z_1735.1)), some (.bb (encss z_1735.2)), none, some (.p (enc z_1755.1)), some (.p (enc z_1755.2)), none, none, none, none, none, none, none, none, none, none, none, none]) ((m__law_pick z_1723.2 S_1731).1, (m__law_pick z_1723.2 ((m__law_pick z_1723.2 S_1731).2)).1) (fun (z_1755 : (Int × Int)) (S_1757 : Src) => m_law_34 q_1717 z_1723 web_1729 z_1735 z_1755 S_1757) (fun (z_1755 : (Int × Int)) (S_1757 : Src) => g_law_34 q_1717 z_1723 web_1729 z_1735 z_1755 S_1757) (st_parG (i := 9) (j := 10) (eo_p (ev_call ⟨ok__law_pick T, T.G__law_pick, T.F__law_pick.kp, T.B__law_pick⟩ (hr.mono (by decide)) hgd (by rfl) (ea_cons (ev_varS 1 rfl (pv 1)) (ea_cons (ev_var 4 rfl (pv 4)) ea_nil)) rfl ⟨_, rfl, hg_1752.1, rfl, rfl⟩)) (eo_p (ev_call ⟨ok__law_pick T, T.G__law_pick, T.F__law_pick.kp, T.B__law_pick⟩ (hr.mono (by decide)) hgd (by rfl) (ea_cons (ev_varS 1 rfl (pv 1)) (ea_cons (ev_var 4 rfl (pv 4)) ea_nil)) rfl ⟨_, rfl, hg_1752.2.1, rfl, rfl⟩)) (pg_name (i := 9) sc_law.nd rfl (by first | exact .inl rfl | exact .inr rfl)) (pg_name (i := 10) sc_law.nd rfl (by first | exact .inl rfl | exact .inr rfl)) (by rfl)) hg_1752.2.2 (fun z_1755 S_1757 hg_1758 => ?_)
        refine stepV (Wf := (WX nf_law_1 rf_law)) (δf := fun (near_1769 : (List (Int × Int))) => [none, some (.src), some (.p (enc q_1717)), some (.p (enc z_1723.1)), some (.p (enc z_1723.2)), some (.p (enc web_1729)), some (.p (enc z_1735.1)), some (.bb (encss z_1735.2)), none, some (.p (enc z_1755.1)), some (.p (enc z_1755.2)), none, some (.b (encs near_1769)), none, none, none, none, none, none, none, none, none, none]) (List.map (fun (q_1760 : Int) => (q_1760, (getI (getI z_1735.2 z_1755.2) q_1760))) (List.filter (fun (q_1760 : Int) => decide ((getI (getI z_1735.2 z_1755.2) q_1760) ≠ (0 : Int))) (rngI 0 (Int.toNat z_1723.2)))) (fun (near_1769 : (List (Int × Int))) => m_law_33 q_1717 z_1723 web_1729 z_1735 z_1755 S_1757 near_1769) (fun (near_1769 : (List (Int × Int))) => g_law_33 q_1717 z_1723 web_1729 z_1735 z_1755 S_1757 near_1769) (st_lB (i := 12) (plcf (fun (q_1760 : Int) => (InB z_1735.2 z_1755.2) ∧ (InB (getI z_1735.2 z_1755.2) q_1760) ∧ (decide ((getI (getI z_1735.2 z_1755.2) q_1760) ≠ (0 : Int)) = true → (InB z_1735.2 z_1755.2) ∧ (InB (getI z_1735.2 z_1755.2) q_1760))) (fun (q_1760 : Int) => [none, some (.src), some (.p (enc q_1717)), some (.p (enc z_1723.1)), some (.p (enc z_1723.2)), some (.p (enc web_1729)), some (.p (enc z_1735.1)), some (.bb (encss z_1735.2)), none, some (.p (enc z_1755.1)), some (.p (enc z_1755.2)), some (.p (enc q_1760)), none, none, none, none, none, none, none, none, none, none, none]) (fun (q_1760 : Int) => decide ((getI (getI z_1735.2 z_1755.2) q_1760) ≠ (0 : Int))) (fun (q_1760 : Int) => (q_1760, (getI (getI z_1735.2 z_1755.2) q_1760))) (ij_range1 hg_1758.1 (by rfl) T.z_range (ea_cons (ev_var 4 rfl (pv 4)) ea_nil)) hg_1758.2.1 (fun q_1760 s H C cl fp => (tg_name (pg_name (i := 11) sc_law.nd rfl (by first | exact .inl rfl | exact .inr rfl)))) (fun q_1760 hq_1761 s H C cl fp => (et_cmp op_ne rc_neI (ev_ixLB hq_1761.2.1 (ev_ixLBB hq_1761.1 (ev_varBB 7 rfl (pv 7)) (ev_var 10 rfl (pv 10))) (ev_var 11 rfl (pv 11))) ev_int (nomark _))) (fun q_1760 hq_1761 hc_1764 s H C cl fp => (ev_tup (ds := [enc q_1760, enc (getI (getI z_1735.2 z_1755.2) q_1760)]) (ea_cons (ev_var 11 rfl (pv 11)) (ea_cons (ev_ixLB (hq_1761.2.2 hc_1764).2 (ev_ixLBB (hq_1761.2.2 hc_1764).1 (ev_varBB 7 rfl (pv 7)) (ev_var 10 rfl (pv 10))) (ev_var 11 rfl (pv 11))) ea_nil)))) (by rfl) sc_law.nd (blk_of (own := [("w", 11)]) (by rfl)) (by decide) (by rfl) rfl (by rfl))) hg_1758.2.2 (fun near_1769 hg_1771 => ?_)
        refine sb_if (Wf := (WX nf_law_1 rf_law)) (x := m_law_31 S_1757) (y := m_law_32 q_1717 z_1723 web_1729 z_1735 S_1757) (et_cmp op_ne rc_neS (ev_repr hr hgd hg_1771.2.2.1 (by rfl) T.z_repr (ed_lst (ds := [(enc (m_weight_at web_1729 z_1755.1 z_1755.2)), (PyData.list (encs (m_tied_to web_1729 z_1755.2)))]) (eda_cons (ed_p (ev_call ⟨ok_weight_at T, T.G_weight_at, T.F_weight_at.kp, T.B_weight_at⟩ (hr.mono (by decide)) hgd (by rfl) (ea_cons (ev_var 5 rfl (pv 5)) (ea_cons (ev_var 9 rfl (pv 9)) (ea_cons (ev_var 10 rfl (pv 10)) ea_nil))) rfl ⟨_, _, _, rfl, hg_1771.1, rfl, rfl⟩)) (eda_cons (ed_b (ev_of_new (el_call ⟨ok_tied_to T, T.G_tied_to, T.F_tied_to.kp, T.B_tied_to⟩ (hr.mono (by decide)) hgd (by rfl) (ea_cons (ev_var 5 rfl (pv 5)) (ea_cons (ev_var 10 rfl (pv 10)) ea_nil)) rfl ⟨_, _, rfl, hg_1771.2.1, rfl, rfl⟩))) eda_nil)))) (ev_repr hr hgd hg_1771.2.2.2.2.2.1 (by rfl) T.z_repr (ed_lst (ds := [(enc (getI (getI z_1735.2 z_1755.1) z_1755.2)), (PyData.list (encs near_1769))]) (eda_cons (ed_p (ev_ixLB hg_1771.2.2.2.2.1 (ev_ixLBB hg_1771.2.2.2.1 (ev_varBB 7 rfl (pv 7)) (ev_var 9 rfl (pv 9))) (ev_var 10 rfl (pv 10)))) (eda_cons (ed_b (ev_varB 12 rfl (pv 12))) eda_nil)))) (nomark _)) (fun hc_1782 => ?_) (fun hc_1783 => ?_)
        · have hg_1784 := hg_1771.2.2.2.2.2.2.1 hc_1782
          exact sb_ret ev_bl ⟨_, rfl, rfl⟩
        · have hg_1785 := hg_1771.2.2.2.2.2.2.2 hc_1783
          refine stepVS (Wf := (WX nf_law_1 rf_law)) (δf := fun (moves_1795 : (List (T3 Str Int Int))) => [none, some (.src), some (.p (enc q_1717)), some (.p (enc z_1723.1)), some (.p (enc z_1723.2)), some (.p (enc web_1729)), some (.p (enc z_1735.1)), some (.bb (encss z_1735.2)), none, some (.p (enc z_1755.1)), some (.p (enc z_1755.2)), none, some (.b (encs near_1769)), none, some (.p (enc moves_1795)), none, none, none, none, none, none, none, none]) ((mapS (fun (S_1793 : Src) (q_1789 : Int) => ((m__law_move z_1723.1 z_1723.2 (S_1793)).1, (m__law_move z_1723.1 z_1723.2 (S_1793)).2)) ((m__law_pick (getI ([(5 : Int), (25 : Int), (40 : Int), (200 : Int)] : List Int) q_1717) S_1757).2) (rngI 0 (Int.toNat ((m__law_pick (getI ([(5 : Int), (25 : Int), (40 : Int), (200 : Int)] : List Int) q_1717) S_1757).1)))).1) (fun (moves_1795 : (List (T3 Str Int Int))) (S_1797 : Src) => m_law_30 z_1723 web_1729 z_1735 moves_1795 S_1797) (fun (moves_1795 : (List (T3 Str Int Int))) (S_1797 : Src) => g_law_30 z_1723 web_1729 z_1735 moves_1795 S_1797) (st_p (i := 14) (ps_set (i := 14) sc_law.nd rfl (by first | exact .inl rfl | exact .inr rfl) (ev_tuple (by rfl) T.z_tuple (ev_of_new (elcS (fun (S_1793 : Src) (q_1789 : Int) => (g__law_move z_1723.1 z_1723.2 (S_1793))) (fun (q_1789 : Int) => [none, some (.src), some (.p (enc q_1717)), some (.p (enc z_1723.1)), some (.p (enc z_1723.2)), some (.p (enc web_1729)), some (.p (enc z_1735.1)), some (.bb (encss z_1735.2)), none, some (.p (enc z_1755.1)), some (.p (enc z_1755.2)), none, some (.b (encs near_1769)), some (.p (enc q_1789)), none, none, none, none, none, none, none, none, none]) (fun (S_1793 : Src) (q_1789 : Int) => ((m__law_move z_1723.1 z_1723.2 (S_1793)).1, (m__law_move z_1723.1 z_1723.2 (S_1793)).2)) (ij_range1 hg_1785.2.2.1 (by rfl) T.z_range (ea_cons (ev_call ⟨ok__law_pick T, T.G__law_pick, T.F__law_pick.kp, T.B__law_pick⟩ (hr.mono (by decide)) hgd (by rfl) (ea_cons (ev_varS 1 rfl (pv 1)) (ea_cons (ev_ixLB hg_1785.1 (ev_of_new (el_lst (ds := encs ([(5 : Int), (25 : Int), (40 : Int), (200 : Int)] : List Int)) (ea_cons ev_int (ea_cons ev_int (ea_cons ev_int (ea_cons ev_int ea_nil)))))) (ev_var 2 rfl (pv 2))) ea_nil)) rfl ⟨_, rfl, hg_1785.2.1, rfl, rfl⟩) ea_nil)) hg_1785.2.2.2.1 (fun q_1789 s H C cl fp => (tg_name (pg_name (i := 13) sc_law.nd rfl (by first | exact .inl rfl | exact .inr rfl)))) (fun S_1793 q_1789 hq_1790 s H C cl fp => (ev_call ⟨ok__law_move T, T.G__law_move, T.F__law_move.kp, T.B__law_move⟩ (hr.mono (by decide)) hgd (by rfl) (ea_cons (ev_varS 1 rfl (pv 1)) (ea_cons (ev_var 3 rfl (pv 3)) (ea_cons (ev_var 4 rfl (pv 4)) ea_nil))) rfl ⟨_, _, rfl, hq_1790, rfl, rfl⟩)) (by rfl) sc_law.nd (blk_of (own := [("turn", 13)]) (by rfl)) (by decide)))))) hg_1785.2.2.2.2 (fun moves_1795 S_1797 hg_1798 => ?_)
          refine stepV (Wf := (WX nf_law_1 rf_law)) (δf := fun (found_1799 : (List (T3 Int Int (List (T3 Int Int Int))))) => [none, some (.src), some (.p (enc q_1717)), some (.p (enc z_1723.1)), some (.p (enc z_1723.2)), some (.p (enc web_1729)), some (.p (enc z_1735.1)), some (.bb (encss z_1735.2)), none, some (.p (enc z_1755.1)), some (.p (enc z_1755.2)), none, some (.b (encs near_1769)), none, some (.p (enc moves_1795)), some (.l (encs found_1799)), none, none, none, none, none, none, none]) ([web_1729] : List (T3 Int Int (List (T3 Int Int Int)))) (fun (found_1799 : (List (T3 Int Int (List (T3 Int Int Int))))) => m_law_29 z_1723 web_1729 z_1735 moves_1795 S_1797 found_1799) (fun (found_1799 : (List (T3 Int Int (List (T3 Int Int Int))))) => g_law_29 z_1723 web_1729 z_1735 moves_1795 S_1797 found_1799) (st_l (i := 15) (ps_set (i := 15) sc_law.nd rfl (by first | exact .inl rfl | exact .inr rfl) (el_lst (ds := encs ([web_1729] : List (T3 Int Int (List (T3 Int Int Int))))) (ea_cons (ev_var 5 rfl (pv 5)) ea_nil)))) hg_1798 (fun found_1799 hg_1801 => ?_)
          refine forX (itm := itP1) (fun (n_1846 : (List (T3 Int Int (List (T3 Int Int Int))))) => m_law_28 z_1723 web_1729 z_1735 moves_1795 S_1797 n_1846) (fun (n_1846 : (List (T3 Int Int (List (T3 Int Int Int))))) => g_law_28 z_1723 web_1729 z_1735 moves_1795 S_1797 n_1846) (nf_law_2 q_1717 z_1723 web_1729 z_1735 z_1755 near_1769 moves_1795 S_1797) rf_law (found_1799 : (List (T3 Int Int (List (T3 Int Int Int))))) (fun (n_1804 : (List (T3 Int Int (List (T3 Int Int Int))))) (q_1805 : (T3 Str Int Int)) => g_law_10 z_1723 S_1797 n_1804 q_1805) (fun n_1804 q_1805 => [none, some (.src), some (.p (enc q_1717)), some (.p (enc z_1723.1)), some (.p (enc z_1723.2)), some (.p (enc web_1729)), some (.p (enc z_1735.1)), some (.bb (encss z_1735.2)), none, some (.p (enc z_1755.1)), some (.p (enc z_1755.2)), none, some (.b (encs near_1769)), none, some (.p (enc moves_1795)), some (.l (encs n_1804)), some (.p (enc q_1805)), none, none, none, none, none, none]) (fun (n_1804 : (List (T3 Int Int (List (T3 Int Int Int))))) (q_1805 : (T3 Str Int Int)) => m_law_10 z_1723 S_1797 n_1804 q_1805) (ij_T (ev_var 14 rfl (pv 14))) (And.intro rfl (And.intro rfl (And.intro rfl (And.intro rfl (And.intro rfl (And.intro rfl (And.intro rfl (And.intro rfl (And.intro rfl (And.intro rfl (And.intro rfl (And.intro rfl trivial)))))))))))) (fun n_1804 q_1805 => (tg_name (pg_name (i := 16) sc_law.nd rfl (by first | exact .inl rfl | exact .inr rfl)))) (fun n_1804 q_1805 hb_1802 => ?_) hg_1801.1 hg_1801.2 (fun n_1846 hg_1847 => ?_)
          · refine stepV (Wf := (WX (nf_law_2 q_1717 z_1723 web_1729 z_1735 z_1755 near_1769 moves_1795 S_1797) rf_law)) (δf := fun (found_1810 : (List (T3 Int Int (List (T3 Int Int Int))))) => [none, some (.src), some (.p (enc q_1717)), some (.p (enc z_1723.1)), some (.p (enc z_1723.2)), some (.p (enc web_1729)), some (.p (enc z_1735.1)), some (.bb (encss z_1735.2)), none, some (.p (enc z_1755.1)), some (.p (enc z_1755.2)), none, some (.b (encs near_1769)), none, some (.p (enc moves_1795)), some (.l (encs found_1810)), some (.p (enc q_1805)), none, none, none, none, none, none]) (n_1804 ++ [(m__law_moved (getI n_1804 (-(1 : Int))) q_1805)]) (fun (found_1810 : (List (T3 Int Int (List (T3 Int Int Int))))) => m_law_9 z_1723 S_1797 q_1805 found_1810) (fun (found_1810 : (List (T3 Int Int (List (T3 Int Int Int))))) => g_law_9 z_1723 S_1797 q_1805 found_1810) (st_app (i := 15) rfl (pv 15) (ev_call ⟨ok__law_moved T, T.G__law_moved, T.F__law_moved.kp, T.B__law_moved⟩ (hr.mono (by decide)) hgd (by rfl) (ea_cons (ev_ixLB hb_1802.1 (ev_varL 15 rfl (pv 15)) (ev_neg ev_int)) (ea_cons (ev_var 16 rfl (pv 16)) ea_nil)) rfl ⟨_, _, rfl, hb_1802.2.1, rfl, rfl⟩) hb_1802.2.2.1 (fun h1 h2 => pe_bm PySem.F.plainAttrs_list PySem.F.slot_list_append PySem.F.type_list_append mt_append h1 h2)) hb_1802.2.2.2 (fun found_1810 hg_1812 => ?_)
            refine stepV (Wf := (WX (nf_law_2 q_1717 z_1723 web_1729 z_1735 z_1755 near_1769 moves_1795 S_1797) rf_law)) (δf := fun (late_1814 : (T3 Int Int (List (T3 Int Int Int)))) => [none, some (.src), some (.p (enc q_1717)), some (.p (enc z_1723.1)), some (.p (enc z_1723.2)), some (.p (enc web_1729)), some (.p (enc z_1735.1)), some (.bb (encss z_1735.2)), none, some (.p (enc z_1755.1)), some (.p (enc z_1755.2)), none, some (.b (encs near_1769)), none, some (.p (enc moves_1795)), some (.l (encs found_1810)), some (.p (enc q_1805)), some (.p (enc late_1814)), none, none, none, none, none]) (getI found_1810 (-(2 : Int))) (fun (late_1814 : (T3 Int Int (List (T3 Int Int Int)))) => m_law_8 z_1723 S_1797 q_1805 found_1810 late_1814) (fun (late_1814 : (T3 Int Int (List (T3 Int Int Int)))) => g_law_8 z_1723 S_1797 q_1805 found_1810 late_1814) (st_p (i := 17) (ps_set (i := 17) sc_law.nd rfl (by first | exact .inl rfl | exact .inr rfl) (ev_ixLB hg_1812.1 (ev_varL 15 rfl (pv 15)) (ev_neg ev_int)))) hg_1812.2 (fun late_1814 hg_1816 => ?_)
            refine stepV (Wf := (WX (nf_law_2 q_1717 z_1723 web_1729 z_1735 z_1755 near_1769 moves_1795 S_1797) rf_law)) (δf := fun (due_1823 : (T3 Int Int (List (T3 Int Int Int)))) => [none, some (.src), some (.p (enc q_1717)), some (.p (enc z_1723.1)), some (.p (enc z_1723.2)), some (.p (enc web_1729)), some (.p (enc z_1735.1)), some (.bb (encss z_1735.2)), none, some (.p (enc z_1755.1)), some (.p (enc z_1755.2)), none, some (.b (encs near_1769)), none, some (.p (enc moves_1795)), some (.l (encs found_1810)), some (.p (enc q_1805)), some (.p (enc late_1814)), some (.p (enc due_1823)), none, none, none, none]) (if decide (q_1805.a = ("turn" : Str)) = true then (m_turned late_1814 q_1805.b q_1805.c) else (m_scaled late_1814 q_1805.b q_1805.c)) (fun (due_1823 : (T3 Int Int (List (T3 Int Int Int)))) => m_law_7 z_1723 S_1797 q_1805 found_1810 late_1814 due_1823) (fun (due_1823 : (T3 Int Int (List (T3 Int Int Int)))) => g_law_7 z_1723 S_1797 q_1805 found_1810 late_1814 due_1823) (st_p (i := 18) (ps_set (i := 18) sc_law.nd rfl (by first | exact .inl rfl | exact .inr rfl) (ev_ifp (x := ((m_turned late_1814 q_1805.b q_1805.c) : (T3 Int Int (List (T3 Int Int Int))))) (y := ((m_scaled late_1814 q_1805.b q_1805.c) : (T3 Int Int (List (T3 Int Int Int))))) (et_cmp op_eq rc_eqS (ev_ixT rfl (ev_var 16 rfl (pv 16)) ev_int) ev_str (nomark _)) (fun hc_1817 => (ev_call ⟨ok_turned T, T.G_turned, T.F_turned.kp, T.B_turned⟩ (hr.mono (by decide)) hgd (by rfl) (ea_cons (ev_var 17 rfl (pv 17)) (ea_cons (ev_ixT rfl (ev_var 16 rfl (pv 16)) ev_int) (ea_cons (ev_ixT rfl (ev_var 16 rfl (pv 16)) ev_int) ea_nil))) rfl ⟨_, _, _, rfl, (hg_1816.1 hc_1817), rfl, rfl⟩)) (fun hc_1818 => (ev_call ⟨ok_scaled T, T.G_scaled, T.F_scaled.kp, T.B_scaled⟩ (hr.mono (by decide)) hgd (by rfl) (ea_cons (ev_var 17 rfl (pv 17)) (ea_cons (ev_ixT rfl (ev_var 16 rfl (pv 16)) ev_int) (ea_cons (ev_ixT rfl (ev_var 16 rfl (pv 16)) ev_int) ea_nil))) rfl ⟨_, _, _, rfl, (hg_1816.2.1 hc_1818), rfl, rfl⟩))))) hg_1816.2.2 (fun due_1823 hg_1825 => ?_)
            refine sb_if (Wf := (WX (nf_law_2 q_1717 z_1723 web_1729 z_1735 z_1755 near_1769 moves_1795 S_1797) rf_law)) (x := m_law_5 S_1797) (y := m_law_6 z_1723 S_1797 q_1805 found_1810) (et_cmp op_ne rc_neS (ev_repr hr hgd hg_1825.2.1 (by rfl) T.z_repr (ed_lst (ds := [(enc (m_moved late_1814 q_1805)), (enc due_1823)]) (eda_cons (ed_p (ev_call ⟨ok_moved T, T.G_moved, T.F_moved.kp, T.B_moved⟩ (hr.mono (by decide)) hgd (by rfl) (ea_cons (ev_var 17 rfl (pv 17)) (ea_cons (ev_var 16 rfl (pv 16)) ea_nil)) rfl ⟨_, _, rfl, hg_1825.1, rfl, rfl⟩)) (eda_cons (ed_p (ev_var 18 rfl (pv 18))) eda_nil)))) (ev_repr hr hgd hg_1825.2.2.2.2.1 (by rfl) T.z_repr (ed_lst (ds := [(enc (getI found_1810 (-(1 : Int)))), (enc (getI found_1810 (-(1 : Int))))]) (eda_cons (ed_p (ev_ixLB hg_1825.2.2.1 (ev_varL 15 rfl (pv 15)) (ev_neg ev_int))) (eda_cons (ed_p (ev_ixLB hg_1825.2.2.2.1 (ev_varL 15 rfl (pv 15)) (ev_neg ev_int))) eda_nil)))) (nomark _)) (fun hc_1834 => ?_) (fun hc_1835 => ?_)
            · have hg_1836 := hg_1825.2.2.2.2.2.1 hc_1834
              exact sb_ret ev_bl ⟨_, rfl, rfl⟩
            · have hg_1837 := hg_1825.2.2.2.2.2.2 hc_1835
              refine sb_if (Wf := (WX (nf_law_2 q_1717 z_1723 web_1729 z_1735 z_1755 near_1769 moves_1795 S_1797) rf_law)) (x := m_law_3 S_1797) (y := m_law_4 found_1810) (et_cmp (op_neD (hr.un64 (Nat.zero_le _))) (rc_neT ((m_moved (getI found_1810 (-(1 : Int))) (m_move_back z_1723.1 q_1805)) : (T3 Int Int (List (T3 Int Int Int)))) ((getI found_1810 (-(2 : Int))) : (T3 Int Int (List (T3 Int Int Int))))) (ev_call ⟨ok_moved T, T.G_moved, T.F_moved.kp, T.B_moved⟩ (hr.mono (by decide)) hgd (by rfl) (ea_cons (ev_ixLB hg_1837.1 (ev_varL 15 rfl (pv 15)) (ev_neg ev_int)) (ea_cons (ev_call ⟨ok_move_back T, T.G_move_back, T.F_move_back.kp, T.B_move_back⟩ (hr.mono (by decide)) hgd (by rfl) (ea_cons (ev_var 3 rfl (pv 3)) (ea_cons (ev_var 16 rfl (pv 16)) ea_nil)) rfl ⟨_, _, rfl, hg_1837.2.1, rfl, rfl⟩) ea_nil)) rfl ⟨_, _, rfl, hg_1837.2.2.1, rfl, rfl⟩) (ev_ixLB hg_1837.2.2.2.1 (ev_varL 15 rfl (pv 15)) (ev_neg ev_int)) (nomark _)) (fun hc_1842 => ?_) (fun hc_1843 => ?_)
              · have hg_1844 := hg_1837.2.2.2.2.1 hc_1842
                exact sb_ret ev_bl ⟨_, rfl, rfl⟩
              · have hg_1845 := hg_1837.2.2.2.2.2 hc_1843
                exact sb_nil ⟨_, rfl, rfl⟩ (And.intro rfl (And.intro rfl (And.intro rfl (And.intro rfl (And.intro rfl (And.intro rfl (And.intro rfl (And.intro rfl (And.intro rfl (And.intro rfl (And.intro rfl (And.intro rfl trivial))))))))))))
          · refine sb_if (Wf := (WX nf_law_1 rf_law)) (x := m_law_26 S_1797) (y := m_law_27 z_1723 web_1729 z_1735 moves_1795 S_1797 n_1846) (et_cmp op_ne rc_neS (ev_repr hr hgd hg_1847.2.2.1 (by rfl) T.z_repr (ed_lst (ds := [(enc (m_webs_along web_1729 moves_1795)), (enc (m_made_moves web_1729 moves_1795))]) (eda_cons (ed_p (ev_call ⟨ok_webs_along T, T.G_webs_along, T.F_webs_along.kp, T.B_webs_along⟩ (hr.mono (by decide)) hgd (by rfl) (ea_cons (ev_var 5 rfl (pv 5)) (ea_cons (ev_var 14 rfl (pv 14)) ea_nil)) rfl ⟨_, _, rfl, hg_1847.1, rfl, rfl⟩)) (eda_cons (ed_p (ev_call ⟨ok_made_moves T, T.G_made_moves, T.F_made_moves.kp, T.B_made_moves⟩ (hr.mono (by decide)) hgd (by rfl) (ea_cons (ev_var 5 rfl (pv 5)) (ea_cons (ev_var 14 rfl (pv 14)) ea_nil)) rfl ⟨_, _, rfl, hg_1847.2.1, rfl, rfl⟩)) eda_nil)))) (ev_repr hr hgd hg_1847.2.2.2.2.1 (by rfl) T.z_repr (ed_lst (ds := [(enc n_1846), (enc (getI n_1846 (-(1 : Int))))]) (eda_cons (ed_p (ev_tuple (by rfl) T.z_tuple (ev_varL 15 rfl (pv 15)))) (eda_cons (ed_p (ev_ixLB hg_1847.2.2.2.1 (ev_varL 15 rfl (pv 15)) (ev_neg ev_int))) eda_nil)))) (nomark _)) (fun hc_1856 => ?_) (fun hc_1857 => ?_)
            · have hg_1858 := hg_1847.2.2.2.2.2.1 hc_1856
              exact sb_ret ev_bl ⟨_, rfl, rfl⟩
            · have hg_1859 := hg_1847.2.2.2.2.2.2 hc_1857
              refine stepV (Wf := (WX nf_law_1 rf_law)) (δf := fun (back_1861 : (List (T3 Str Int Int))) => [none, some (.src), some (.p (enc q_1717)), some (.p (enc z_1723.1)), some (.p (enc z_1723.2)), some (.p (enc web_1729)), some (.p (enc z_1735.1)), some (.bb (encss z_1735.2)), none, some (.p (enc z_1755.1)), some (.p (enc z_1755.2)), none, some (.b (encs near_1769)), none, some (.p (enc moves_1795)), some (.l (encs n_1846)), none, none, none, some (.p (enc back_1861)), none, none, none]) (m_moves_back z_1723.1 moves_1795) (fun (back_1861 : (List (T3 Str Int Int))) => m_law_25 z_1723 web_1729 z_1735 moves_1795 S_1797 n_1846 back_1861) (fun (back_1861 : (List (T3 Str Int Int))) => g_law_25 z_1723 web_1729 z_1735 moves_1795 S_1797 n_1846 back_1861) (st_p (i := 19) (ps_set (i := 19) sc_law.nd rfl (by first | exact .inl rfl | exact .inr rfl) (ev_call ⟨ok_moves_back T, T.G_moves_back, T.F_moves_back.kp, T.B_moves_back⟩ (hr.mono (by decide)) hgd (by rfl) (ea_cons (ev_var 3 rfl (pv 3)) (ea_cons (ev_var 14 rfl (pv 14)) ea_nil)) rfl ⟨_, _, rfl, hg_1859.1, rfl, rfl⟩))) hg_1859.2 (fun back_1861 hg_1863 => ?_)
              refine sb_if (Wf := (WX nf_law_1 rf_law)) (x := m_law_23 S_1797) (y := m_law_24 web_1729 z_1735 S_1797 n_1846 back_1861) (et_cmp op_ne rc_neS (ev_repr hr hgd hg_1863.1 (by rfl) T.z_repr (ed_p (ev_var 19 rfl (pv 19)))) (ev_repr hr hgd hg_1863.2.2.1 (by rfl) T.z_repr (ed_p (ev_tuple (by rfl) T.z_tuple (ev_of_new (elc (fun (q_1865 : (T3 Str Int Int)) => (g_move_back z_1723.1 q_1865)) (fun (q_1865 : (T3 Str Int Int)) => [none, some (.src), some (.p (enc q_1717)), some (.p (enc z_1723.1)), some (.p (enc z_1723.2)), some (.p (enc web_1729)), some (.p (enc z_1735.1)), some (.bb (encss z_1735.2)), none, some (.p (enc z_1755.1)), some (.p (enc z_1755.2)), none, some (.b (encs near_1769)), none, some (.p (enc moves_1795)), some (.b (encs n_1846)), some (.p (enc q_1865)), none, none, some (.p (enc back_1861)), none, none, none]) (fun (q_1865 : (T3 Str Int Int)) => (m_move_back z_1723.1 q_1865)) (ij_T (ev_revT (ev_var 14 rfl (pv 14)))) hg_1863.2.1 (fun q_1865 s H C cl fp => (tg_name (pg_name (i := 16) sc_law.nd rfl (by first | exact .inl rfl | exact .inr rfl)))) (fun q_1865 hq_1866 s H C cl fp => (ev_call ⟨ok_move_back T, T.G_move_back, T.F_move_back.kp, T.B_move_back⟩ (hr.mono (by decide)) hgd (by rfl) (ea_cons (ev_var 3 rfl (pv 3)) (ea_cons (ev_var 16 rfl (pv 16)) ea_nil)) rfl ⟨_, _, rfl, hq_1866, rfl, rfl⟩)) (by rfl) sc_law.nd (blk_of (own := [("move", 16)]) (by rfl)) (by decide)))))) (nomark _)) (fun hc_1871 => ?_) (fun hc_1872 => ?_)
              · have hg_1873 := hg_1863.2.2.2.1 hc_1871
                exact sb_ret ev_bl ⟨_, rfl, rfl⟩
              · have hg_1874 := hg_1863.2.2.2.2 hc_1872
                refine sb_if (Wf := (WX nf_law_1 rf_law)) (x := m_law_21 (if decide ((rp (enc (m_made_moves (getI n_1846 (-(1 : Int))) back_1861))) ≠ z_1735.1) = true then S_1797 else (m__law_along_right (getI n_1846 (-(1 : Int))) S_1797).2)) (y := m_law_22 web_1729 z_1735 (if decide ((rp (enc (m_made_moves (getI n_1846 (-(1 : Int))) back_1861))) ≠ z_1735.1) = true then S_1797 else (m__law_along_right (getI n_1846 (-(1 : Int))) S_1797).2)) (et_pw (ew_or (et_cmp op_ne rc_neS (ev_repr hr hgd hg_1874.2.2.1 (by rfl) T.z_repr (ed_p (ev_call ⟨ok_made_moves T, T.G_made_moves, T.F_made_moves.kp, T.B_made_moves⟩ (hr.mono (by decide)) hgd (by rfl) (ea_cons (ev_ixLB hg_1874.1 (ev_varL 15 rfl (pv 15)) (ev_neg ev_int)) (ea_cons (ev_var 19 rfl (pv 19)) ea_nil)) rfl ⟨_, _, rfl, hg_1874.2.1, rfl, rfl⟩))) (ev_var 6 rfl (pv 6)) (nomark _)) fun hc_1878 => (ew_or1 (et_not (et_val (ev_call ⟨ok__law_along_right T, T.G__law_along_right, T.F__law_along_right.kp, T.B__law_along_right⟩ (hr.mono (by decide)) hgd (by rfl) (ea_cons (ev_varS 1 rfl (pv 1)) (ea_cons (ev_ixLB (hg_1874.2.2.2.1 hc_1878).1 (ev_varL 15 rfl (pv 15)) (ev_neg ev_int)) ea_nil)) rfl ⟨_, rfl, (hg_1874.2.2.2.1 hc_1878).2, rfl, rfl⟩)))))) (fun hc_1882 => ?_) (fun hc_1883 => ?_)
                · have hg_1885 := hg_1874.2.2.2.2.1 hc_1882
                  generalize (if decide ((rp (enc (m_made_moves (getI n_1846 (-(1 : Int))) back_1861))) ≠ z_1735.1) = true then S_1797 else (m__law_along_right (getI n_1846 (-(1 : Int))) S_1797).2) = S_1884 at hg_1885 ⊢
                  exact sb_ret ev_bl ⟨_, rfl, rfl⟩
                · have hg_1886 := hg_1874.2.2.2.2.2 hc_1883
                  generalize (if decide ((rp (enc (m_made_moves (getI n_1846 (-(1 : Int))) back_1861))) ≠ z_1735.1) = true then S_1797 else (m__law_along_right (getI n_1846 (-(1 : Int))) S_1797).2) = S_1884 at hg_1886 ⊢
                  refine ifX (nf := (nf_law_11 q_1717 z_1723 web_1729 z_1735 z_1755 near_1769 moves_1795 n_1846 back_1861)) (x := m_law_16 web_1729 S_1884) (y := m_law_17 S_1884) (fun (n_1930 : Src) => m_law_20 web_1729 z_1735 n_1930) (fun (n_1930 : Src) => g_law_20 web_1729 z_1735 n_1930) (et_cmp (op_neD (hr.un64 (Nat.zero_le _))) (rc_neT (web_1729.c : (List (T3 Int Int Int))) ([] : (List (T3 Int Int Int)))) (ev_ixT rfl (ev_var 5 rfl (pv 5)) ev_int) (ev_tup (ds := []) ea_p0) (nomark _)) (fun hc_1887 => ?_) (fun hc_1888 => ?_) hg_1886.2.2 (fun n_1930 hg_1911 => ?_)
                  · have hg_1909 := hg_1886.1 hc_1887
                    refine stepVS (Wf := (WX (nf_law_11 q_1717 z_1723 web_1729 z_1735 z_1755 near_1769 moves_1795 n_1846 back_1861) rf_law)) (δf := fun (tie_1913 : (T3 Int Int Int)) => [none, some (.src), some (.p (enc q_1717)), some (.p (enc z_1723.1)), some (.p (enc z_1723.2)), some (.p (enc web_1729)), some (.p (enc z_1735.1)), some (.bb (encss z_1735.2)), none, some (.p (enc z_1755.1)), some (.p (enc z_1755.2)), none, some (.b (encs near_1769)), none, some (.p (enc moves_1795)), some (.l (encs n_1846)), none, none, none, some (.p (enc back_1861)), some (.p (enc tie_1913)), none, none]) ((m__law_of web_1729.c S_1884).1) (fun (tie_1913 : (T3 Int Int Int)) (S_1915 : Src) => m_law_15 web_1729 tie_1913 S_1915) (fun (tie_1913 : (T3 Int Int Int)) (S_1915 : Src) => g_law_15 web_1729 tie_1913 S_1915) (st_p (i := 20) (ps_set (i := 20) sc_law.nd rfl (by first | exact .inl rfl | exact .inr rfl) (ev_call ⟨ok__law_of T, T.G__law_of, T.F__law_of.kp, T.B__law_of⟩ (hr.mono (by decide)) hgd (by rfl) (ea_cons (ev_varS 1 rfl (pv 1)) (ea_cons (ev_ixT rfl (ev_var 5 rfl (pv 5)) ev_int) ea_nil)) rfl ⟨_, rfl, hg_1909.1, rfl, rfl⟩))) hg_1909.2 (fun tie_1913 S_1915 hg_1916 => ?_)
                    refine stepVS (Wf := (WX (nf_law_11 q_1717 z_1723 web_1729 z_1735 z_1755 near_1769 moves_1795 n_1846 back_1861) rf_law)) (δf := fun (w_1920 : (Int × Int)) => [none, some (.src), some (.p (enc q_1717)), some (.p (enc z_1723.1)), some (.p (enc z_1723.2)), some (.p (enc web_1729)), some (.p (enc z_1735.1)), some (.bb (encss z_1735.2)), none, some (.p (enc z_1755.1)), some (.p (enc z_1755.2)), none, some (.b (encs near_1769)), none, some (.p (enc moves_1795)), some (.l (encs n_1846)), none, none, none, some (.p (enc back_1861)), some (.p (enc tie_1913)), some (.p (enc ((w_1920).1))), some (.p (enc ((w_1920).2)))]) (if decide ((m__law_pick (2 : Int) S_1915).1 = (0 : Int)) = true then (tie_1913.a, tie_1913.b) else (tie_1913.b, tie_1913.a)) (fun (w_1920 : (Int × Int)) (S_1922 : Src) => m_law_14 web_1729 w_1920 S_1922) (fun (w_1920 : (Int × Int)) (S_1922 : Src) => g_law_14 web_1729 w_1920 S_1922) (st_asg (ev_ifp (x := ((tie_1913.a, tie_1913.b) : (Int × Int))) (y := ((tie_1913.b, tie_1913.a) : (Int × Int))) (et_cmp op_eq rc_eqI (ev_call ⟨ok__law_pick T, T.G__law_pick, T.F__law_pick.kp, T.B__law_pick⟩ (hr.mono (by decide)) hgd (by rfl) (ea_cons (ev_varS 1 rfl (pv 1)) (ea_cons ev_int ea_nil)) rfl ⟨_, rfl, hg_1916.1, rfl, rfl⟩) ev_int (nomark _)) (fun hc_1918 => (ev_slD (ds := [enc tie_1913.a, enc tie_1913.b, enc tie_1913.c]) (ds' := [enc tie_1913.a, enc tie_1913.b]) (l := Option.none) (h := (some (2 : Int))) rfl (ev_var 20 rfl (pv 20)) ep_none (ep_some ev_int))) (fun hc_1919 => (ev_back1 (ev_var 20 rfl (pv 20))))) (tg_tup (ds := [enc (((if decide ((m__law_pick (2 : Int) S_1915).1 = (0 : Int)) = true then (tie_1913.a, tie_1913.b) else (tie_1913.b, tie_1913.a))).1), enc (((if decide ((m__law_pick (2 : Int) S_1915).1 = (0 : Int)) = true then (tie_1913.a, tie_1913.b) else (tie_1913.b, tie_1913.a))).2)]) (by rfl) (tgs_cons (tg_name (pg_name (i := 21) sc_law.nd rfl (by first | exact .inl rfl | exact .inr rfl))) (tgs_cons (tg_name (pg_name (i := 22) sc_law.nd rfl (by first | exact .inl rfl | exact .inr rfl))) tgs_nil)))) hg_1916.2 (fun w_1920 S_1922 hg_1923 => ?_)
                    refine sb_if (Wf := (WX (nf_law_11 q_1717 z_1723 web_1729 z_1735 z_1755 near_1769 moves_1795 n_1846 back_1861) rf_law)) (x := m_law_12 ((m__law_exchange_right web_1729 ((w_1920).1) ((w_1920).2) S_1922).2)) (y := m_law_13 ((m__law_exchange_right web_1729 ((w_1920).1) ((w_1920).2) S_1922).2)) (et_not (et_val (ev_call ⟨ok__law_exchange_right T, T.G__law_exchange_right, T.F__law_exchange_right.kp, T.B__law_exchange_right⟩ (hr.mono (by decide)) hgd (by rfl) (ea_cons (ev_varS 1 rfl (pv 1)) (ea_cons (ev_var 5 rfl (pv 5)) (ea_cons (ev_var 21 rfl (pv 21)) (ea_cons (ev_var 22 rfl (pv 22)) ea_nil)))) rfl ⟨_, _, _, rfl, hg_1923.1, rfl, rfl⟩))) (fun hc_1925 => ?_) (fun hc_1926 => ?_)
                    · have hg_1928 := hg_1923.2.1 hc_1925
                      generalize (m__law_exchange_right web_1729 ((w_1920).1) ((w_1920).2) S_1922).2 = S_1927 at hg_1928 ⊢
                      exact sb_ret ev_bl ⟨_, rfl, rfl⟩
                    · have hg_1929 := hg_1923.2.2 hc_1926
                      generalize (m__law_exchange_right web_1729 ((w_1920).1) ((w_1920).2) S_1922).2 = S_1927 at hg_1929 ⊢
                      exact sb_nil ⟨_, rfl, rfl⟩ (And.intro rfl (And.intro rfl (And.intro rfl (And.intro rfl (And.intro rfl (And.intro rfl (And.intro rfl (And.intro rfl (And.intro rfl (And.intro rfl (And.intro rfl (And.intro rfl (And.intro rfl trivial)))))))))))))
                  · have hg_1910 := hg_1886.2.1 hc_1888
                    exact sb_nil ⟨_, rfl, rfl⟩ (And.intro rfl (And.intro rfl (And.intro rfl (And.intro rfl (And.intro rfl (And.intro rfl (And.intro rfl (And.intro rfl (And.intro rfl (And.intro rfl (And.intro rfl (And.intro rfl (And.intro rfl trivial)))))))))))))
                  · refine sb_if (Wf := (WX nf_law_1 rf_law)) (x := m_law_18 n_1930) (y := m_law_19 n_1930) (et_cmp op_ne rc_neS (ev_repr hr hgd hg_1911.1 (by rfl) T.z_repr (ed_p (ev_var 5 rfl (pv 5)))) (ev_var 6 rfl (pv 6)) (nomark _)) (fun hc_1932 => ?_) (fun hc_1933 => ?_)
                    · have hg_1934 := hg_1911.2.1 hc_1932
                      exact sb_ret ev_bl ⟨_, rfl, rfl⟩
                    · have hg_1935 := hg_1911.2.2 hc_1933
                      exact sb_nil ⟨_, rfl, rfl⟩ (And.intro rfl trivial)
    · exact sb_ret (ev_cmp (op_eqD (hr.un64 (Nat.zero_le _))) (rc_eqT ((m_turned (T3.mk ((T3.mk (3 : Int) (3 : Int) ((T3.mk (0 : Int) (1 : Int) (1 : Int)), (T3.mk (1 : Int) (2 : Int) (1 : Int)))).a) ((T3.mk (3 : Int) (3 : Int) ((T3.mk (0 : Int) (1 : Int) (1 : Int)), (T3.mk (1 : Int) (2 : Int) (1 : Int)))).b) [((T3.mk (3 : Int) (3 : Int) ((T3.mk (0 : Int) (1 : Int) (1 : Int)), (T3.mk (1 : Int) (2 : Int) (1 : Int)))).c).1, ((T3.mk (3 : Int) (3 : Int) ((T3.mk (0 : Int) (1 : Int) (1 : Int)), (T3.mk (1 : Int) (2 : Int) (1 : Int)))).c).2]) (1 : Int) (1 : Int)) : (T3 Int Int (List (T3 Int Int Int)))) ((T3.mk ((T3.mk (3 : Int) (3 : Int) (T3.mk (T3.mk (0 : Int) (1 : Int) (1 : Int)) (T3.mk (0 : Int) (2 : Int) (1 : Int)) (T3.mk (1 : Int) (2 : Int) (1 : Int)))).a) ((T3.mk (3 : Int) (3 : Int) (T3.mk (T3.mk (0 : Int) (1 : Int) (1 : Int)) (T3.mk (0 : Int) (2 : Int) (1 : Int)) (T3.mk (1 : Int) (2 : Int) (1 : Int)))).b) [((T3.mk (3 : Int) (3 : Int) (T3.mk (T3.mk (0 : Int) (1 : Int) (1 : Int)) (T3.mk (0 : Int) (2 : Int) (1 : Int)) (T3.mk (1 : Int) (2 : Int) (1 : Int)))).c).a, ((T3.mk (3 : Int) (3 : Int) (T3.mk (T3.mk (0 : Int) (1 : Int) (1 : Int)) (T3.mk (0 : Int) (2 : Int) (1 : Int)) (T3.mk (1 : Int) (2 : Int) (1 : Int)))).c).b, ((T3.mk (3 : Int) (3 : Int) (T3.mk (T3.mk (0 : Int) (1 : Int) (1 : Int)) (T3.mk (0 : Int) (2 : Int) (1 : Int)) (T3.mk (1 : Int) (2 : Int) (1 : Int)))).c).c]) : (T3 Int Int (List (T3 Int Int Int))))) (ev_call ⟨ok_turned T, T.G_turned, T.F_turned.kp, T.B_turned⟩ (hr.mono (by decide)) hgd (by rfl) (ea_cons (ev_cast (x := ((T3.mk (3 : Int) (3 : Int) ((T3.mk (0 : Int) (1 : Int) (1 : Int)), (T3.mk (1 : Int) (2 : Int) (1 : Int)))) : (T3 Int Int ((T3 Int Int Int) × (T3 Int Int Int))))) (y := ((T3.mk ((T3.mk (3 : Int) (3 : Int) ((T3.mk (0 : Int) (1 : Int) (1 : Int)), (T3.mk (1 : Int) (2 : Int) (1 : Int)))).a) ((T3.mk (3 : Int) (3 : Int) ((T3.mk (0 : Int) (1 : Int) (1 : Int)), (T3.mk (1 : Int) (2 : Int) (1 : Int)))).b) [((T3.mk (3 : Int) (3 : Int) ((T3.mk (0 : Int) (1 : Int) (1 : Int)), (T3.mk (1 : Int) (2 : Int) (1 : Int)))).c).1, ((T3.mk (3 : Int) (3 : Int) ((T3.mk (0 : Int) (1 : Int) (1 : Int)), (T3.mk (1 : Int) (2 : Int) (1 : Int)))).c).2]) : (T3 Int Int (List (T3 Int Int Int))))) (rfl) (ev_tup (ds := [enc (3 : Int), enc (3 : Int), enc ((T3.mk (0 : Int) (1 : Int) (1 : Int)), (T3.mk (1 : Int) (2 : Int) (1 : Int)))]) (ea_cons ev_int (ea_cons ev_int (ea_cons (ev_tup (ds := [enc (T3.mk (0 : Int) (1 : Int) (1 : Int)), enc (T3.mk (1 : Int) (2 : Int) (1 : Int))]) (ea_cons (ev_tup (ds := [enc (0 : Int), enc (1 : Int), enc (1 : Int)]) (ea_cons ev_int (ea_cons ev_int (ea_cons ev_int ea_nil)))) (ea_cons (ev_tup (ds := [enc (1 : Int), enc (2 : Int), enc (1 : Int)]) (ea_cons ev_int (ea_cons ev_int (ea_cons ev_int ea_nil)))) ea_nil))) ea_nil))))) (ea_cons ev_int (ea_cons ev_int ea_nil))) rfl ⟨_, _, _, rfl, hg_1937, rfl, rfl⟩) (ev_cast (x := ((T3.mk (3 : Int) (3 : Int) (T3.mk (T3.mk (0 : Int) (1 : Int) (1 : Int)) (T3.mk (0 : Int) (2 : Int) (1 : Int)) (T3.mk (1 : Int) (2 : Int) (1 : Int)))) : (T3 Int Int (T3 (T3 Int Int Int) (T3 Int Int Int) (T3 Int Int Int))))) (y := ((T3.mk ((T3.mk (3 : Int) (3 : Int) (T3.mk (T3.mk (0 : Int) (1 : Int) (1 : Int)) (T3.mk (0 : Int) (2 : Int) (1 : Int)) (T3.mk (1 : Int) (2 : Int) (1 : Int)))).a) ((T3.mk (3 : Int) (3 : Int) (T3.mk (T3.mk (0 : Int) (1 : Int) (1 : Int)) (T3.mk (0 : Int) (2 : Int) (1 : Int)) (T3.mk (1 : Int) (2 : Int) (1 : Int)))).b) [((T3.mk (3 : Int) (3 : Int) (T3.mk (T3.mk (0 : Int) (1 : Int) (1 : Int)) (T3.mk (0 : Int) (2 : Int) (1 : Int)) (T3.mk (1 : Int) (2 : Int) (1 : Int)))).c).a, ((T3.mk (3 : Int) (3 : Int) (T3.mk (T3.mk (0 : Int) (1 : Int) (1 : Int)) (T3.mk (0 : Int) (2 : Int) (1 : Int)) (T3.mk (1 : Int) (2 : Int) (1 : Int)))).c).b, ((T3.mk (3 : Int) (3 : Int) (T3.mk (T3.mk (0 : Int) (1 : Int) (1 : Int)) (T3.mk (0 : Int) (2 : Int) (1 : Int)) (T3.mk (1 : Int) (2 : Int) (1 : Int)))).c).c]) : (T3 Int Int (List (T3 Int Int Int))))) (rfl) (ev_tup (ds := [enc (3 : Int), enc (3 : Int), enc (T3.mk (T3.mk (0 : Int) (1 : Int) (1 : Int)) (T3.mk (0 : Int) (2 : Int) (1 : Int)) (T3.mk (1 : Int) (2 : Int) (1 : Int)))]) (ea_cons ev_int (ea_cons ev_int (ea_cons (ev_tup (ds := [enc (T3.mk (0 : Int) (1 : Int) (1 : Int)), enc (T3.mk (0 : Int) (2 : Int) (1 : Int)), enc (T3.mk (1 : Int) (2 : Int) (1 : Int))]) (ea_cons (ev_tup (ds := [enc (0 : Int), enc (1 : Int), enc (1 : Int)]) (ea_cons ev_int (ea_cons ev_int (ea_cons ev_int ea_nil)))) (ea_cons (ev_tup (ds := [enc (0 : Int), enc (2 : Int), enc (1 : Int)]) (ea_cons ev_int (ea_cons ev_int (ea_cons ev_int ea_nil)))) (ea_cons (ev_tup (ds := [enc (1 : Int), enc (2 : Int), enc (1 : Int)]) (ea_cons ev_int (ea_cons ev_int (ea_cons ev_int ea_nil)))) ea_nil)))) ea_nil))))) (nomark _)) rfl
  refine ⟨_, pss_cons (ps_set (i := 1) sc_law.nd rfl (by first | exact .inl rfl | exact .inr rfl) (pe_callG (E := E0) (ok__law_open_cells T) (hr.mono (by decide)) hgd (by rfl) T.G__law_open_cells T.F__law_open_cells.kp T.B__law_open_cells (pa_cons (pv 0) pa_nil)))
    (pss_ex (ι := Addr × Addr) (P := fun _ => True) (T := fun p => tSB K (some p) [none, some (.src), none, none, none, none, none, none, none, none, none, none, none, none, none, none, none, none, none, none, none, none, none] (openS ns) (WR rf_law (m_law (openS ns)))) fun p _ => body (some p) _ hg), ?_⟩
  refine ⟨.ref a, rfl, a, ns, rfl, hs, hz, fun D L H' sm hat => ⟨(D, L), trivial, H', ok_src (n := 21) hat rfl rfl, (fun _ _ _ _ _ hf => hf.elim), fun B' v H2 r S2 F hw eb eh hs2 hres hrep hnd hfr => ?_⟩⟩
  have hw' : rf_law (m_law (openS ns)) = (r, S2) := hw
  obtain rfl : .p (enc (m_law (openS ns)).1) = r := congrArg Prod.fst hw'
  rw [hm] at hrep
  obtain ⟨_, hd, _⟩ := hrep
  cases hd
  exact q H2
end L2.Ev

set_option Elab.async false
set_option linter.all false
set_option maxRecDepth 100000
/-! Wm1: plain mathematics: ranges, folds with invariants, square tables as functions. -/
namespace L2.Ev
open PySem PySem.Spec PyProof.Rows
/-! ### ranges -/
theorem mem_rngI {lo x : Int} {n : Nat} : x ∈ rngI lo n ↔ lo ≤ x ∧ x < lo + n := by
  unfold rngI
  rw [List.mem_map]
  constructor
  · rintro ⟨i, h, rfl⟩
    rw [List.mem_range] at h; omega
  · rintro ⟨h1, h2⟩
    exact ⟨(x - lo).toNat, List.mem_range.mpr (by omega), by omega⟩
theorem rngI_length (lo : Int) (n : Nat) : (rngI lo n).length = n := by unfold rngI; rw [List.length_map, List.length_range]
theorem rngI_zero (lo : Int) : rngI lo 0 = [] := rfl
theorem rngI_succ (lo : Int) (n : Nat) : rngI lo (n + 1) = rngI lo n ++ [lo + n] := by unfold rngI; rw [List.range_succ, List.map_append]; rfl
theorem rngI_cons (lo : Int) (n : Nat) : rngI lo (n + 1) = lo :: rngI (lo + 1) n := by
  unfold rngI
  rw [List.range_succ_eq_map, List.map_cons, List.map_map]
  congr 1
  · simp
  · apply List.map_congr_left
    intro i _
    simp only [Function.comp]
    omega
theorem rngI_get {lo : Int} {n i : Nat} (h : i < n) : (rngI lo n)[i]? = some (lo + i) := by
  unfold rngI
  rw [List.getElem?_map, List.getElem?_range h]; rfl
/-! ### folds -/
section
variable {α ν ρ : Type}
theorem FG_append {P : ν → α → Prop} {f : ν → α → ν} : ∀ {xs ys : List α} {n : ν}, FG P f (xs ++ ys) n ↔ FG P f xs n ∧ FG P f ys (xs.foldl f n)
  | [], ys, n => ⟨fun h => ⟨trivial, h⟩, fun h => h.2⟩
  | x :: xs, ys, n => ⟨fun h => ⟨⟨h.1, (FG_append.mp h.2).1⟩, (FG_append.mp h.2).2⟩, fun h => ⟨h.1.1, FG_append.mpr ⟨h.1.2, h.2⟩⟩⟩
/-- a fold along a range, with what holds at each number -/
theorem fold_rng {P : ν → Int → Prop} {f : ν → Int → ν} {lo : Int} (I : Int → ν → Prop) : ∀ (k : Nat) {n0 : ν}, I lo n0 → (∀ i n, lo ≤ i → i < lo + k → I i n → P n i ∧ I (i + 1) (f n i)) → FG P f (rngI lo k) n0 ∧ I (lo + k) ((rngI lo k).foldl f n0)
  | 0, n0, h0, _ => ⟨trivial, by show I (lo + ((0 : Nat) : Int)) n0; rw [show lo + ((0 : Nat) : Int) = lo by omega]; exact h0⟩
  | k + 1, n0, h0, st => by
    obtain ⟨h1, h2⟩ := fold_rng I k h0 (fun i n a b => st i n a (by omega))
    obtain ⟨h3, h4⟩ := st (lo + k) _ (by omega) (by omega) h2
    rw [rngI_succ]
    refine ⟨FG_append.mpr ⟨h1, h3, trivial⟩, ?_⟩
    rw [List.foldl_append]
    have e : lo + ((k + 1 : Nat) : Int) = lo + k + 1 := by omega
    rw [e]; exact h4
/-- .. along any list, by its parts -/
theorem fold_list {P : ν → α → Prop} {f : ν → α → ν} (I : List α → ν → Prop) : ∀ (xs pre : List α) {n0 : ν}, I pre n0 → (∀ p x n, (∃ s, p ++ x :: s = pre ++ xs) → I p n → P n x ∧ I (p ++ [x]) (f n x)) → FG P f xs n0 ∧ I (pre ++ xs) (xs.foldl f n0)
  | [], pre, n0, h0, _ => ⟨trivial, by simpa using h0⟩
  | x :: xs, pre, n0, h0, st => by
    obtain ⟨h1, h2⟩ := st pre x n0 ⟨xs, rfl⟩ h0
    obtain ⟨h3, h4⟩ := fold_list I xs (pre ++ [x]) h2 (fun p y n ⟨s, e⟩ => st p y n ⟨s, by rw [e, List.append_assoc]; rfl⟩)
    refine ⟨⟨h1, h3⟩, ?_⟩
    rw [List.append_assoc] at h4
    exact h4
/-- a fold with returns that never returns -/
theorem foldX_rng {P : ν → Int → Prop} {f : ν → Int → Except ρ ν} (I : Int → ν → Prop) : ∀ (k : Nat) (lo : Int) {n0 : ν}, I lo n0 → (∀ i n, lo ≤ i → i < lo + k → I i n → P n i ∧ ∃ n', f n i = .ok n' ∧ I (i + 1) n') → FX P f (rngI lo k) n0 ∧ ∃ n', foldX f (rngI lo k) n0 = .ok n' ∧ I (lo + k) n'
  | 0, lo, n0, h0, _ => ⟨trivial, n0, rfl, by rw [show lo + ((0 : Nat) : Int) = lo by omega]; exact h0⟩
  | k + 1, lo, n0, h0, st => by
    obtain ⟨h1, n1, h2, h3⟩ := st lo n0 (Int.le_refl _) (by omega) h0
    obtain ⟨h4, n2, h5, h6⟩ := foldX_rng I k (lo + 1) h3 (fun i n a b => st i n (by omega) (by omega))
    rw [rngI_cons]
    refine ⟨⟨h1, ?_⟩, n2, ?_, ?_⟩
    · rw [h2]; exact h4
    · show (match f n0 lo with | .ok n' => foldX f (rngI (lo + 1) k) n' | .error r => .error r) = _
      rw [h2]; exact h5
    · have e : lo + ((k + 1 : Nat) : Int) = lo + 1 + k := by omega
      rw [e]; exact h6
theorem foldX_list {P : ν → α → Prop} {f : ν → α → Except ρ ν} (I : ν → Prop) : ∀ (xs : List α) {n0 : ν}, I n0 → (∀ x n, x ∈ xs → I n → P n x ∧ ∃ n', f n x = .ok n' ∧ I n') → FX P f xs n0 ∧ ∃ n', foldX f xs n0 = .ok n' ∧ I n'
  | [], n0, h0, _ => ⟨trivial, n0, rfl, h0⟩
  | x :: xs, n0, h0, st => by
    obtain ⟨h1, n1, h2, h3⟩ := st x n0 List.mem_cons_self h0
    obtain ⟨h4, n2, h5, h6⟩ := foldX_list I xs h3 (fun y n a => st y n (List.mem_cons_of_mem _ a))
    refine ⟨⟨h1, ?_⟩, n2, ?_, h6⟩
    · rw [h2]; exact h4
    · show (match f n0 x with | .ok n' => foldX f xs n' | .error r => .error r) = _
      rw [h2]; exact h5
theorem mapS_all {β : Type} {f : Src → α → β × Src} {G : Src → α → Prop} (Q : β → Prop) : ∀ (xs : List α) (S : Src), (∀ T x, x ∈ xs → G T x ∧ Q (f T x).1) → GS f G S xs ∧ ∀ y ∈ (mapS f S xs).1, Q y
  | [], S, _ => ⟨trivial, fun _ h => nomatch h⟩
  | x :: xs, S, h => by
    obtain ⟨h1, h2⟩ := h S x List.mem_cons_self
    obtain ⟨h3, h4⟩ := mapS_all Q xs (f S x).2 (fun T y m => h T y (List.mem_cons_of_mem _ m))
    refine ⟨⟨h1, h3⟩, fun y m => ?_⟩
    rcases List.mem_cons.mp m with rfl | m
    · exact h2
    · exact h4 y m
end
/-! ### places -/
section
variable {α : Type} [Inhabited α]
theorem getI_nat {xs : List α} {i : Nat} {x : α} (h : xs[i]? = some x) : getI xs (i : Int) = x := by
  have hl : i < xs.length := (List.getElem?_eq_some_iff.mp h).1
  unfold getI L2.atI ixN
  rw [if_pos (by omega), if_pos (by omega)]
  show (xs[(i : Int).toNat]?).getD default = x
  rw [Int.toNat_natCast, h]; rfl
theorem getI_map_rng {f : Int → α} {n : Nat} {u : Int} (h0 : 0 ≤ u) (h : u < n) : getI ((rngI 0 n).map f) u = f u := by
  obtain ⟨i, rfl⟩ := Int.eq_ofNat_of_zero_le h0
  refine getI_nat ?_
  rw [List.getElem?_map, rngI_get (by omega)]
  show some (f (0 + (i : Int))) = _
  rw [Int.zero_add]
theorem inB_rng {f : Int → α} {n : Nat} {u : Int} (h0 : 0 ≤ u) (h : u < n) : InB ((rngI 0 n).map f) u := by
  unfold InB
  rw [List.length_map, rngI_length]; omega
end
/-! ### square tables -/
def Tab (n : Nat) (f : Int → Int → Int) : List (List Int) := (rngI 0 n).map fun u => (rngI 0 n).map fun v => f u v
def up2 (f : Int → Int → Int) (u v w : Int) : Int → Int → Int := fun a b => if a = u ∧ b = v then w else f a b
section
variable {n : Nat} {f g : Int → Int → Int} {u v w : Int}
theorem Tab_get (u0 : 0 ≤ u) (u1 : u < n) (v0 : 0 ≤ v) (v1 : v < n) : getI (getI (Tab n f) u) v = f u v := by
  unfold Tab
  rw [getI_map_rng u0 u1, getI_map_rng v0 v1]
theorem Tab_row (u0 : 0 ≤ u) (u1 : u < n) : getI (Tab n f) u = (rngI 0 n).map fun v => f u v := getI_map_rng u0 u1
theorem Tab_congr (h : ∀ u v : Int, 0 ≤ u → u < n → 0 ≤ v → v < n → f u v = g u v) : Tab n f = Tab n g := by
  unfold Tab
  refine List.map_congr_left fun u hu => List.map_congr_left fun v hv => ?_
  rw [mem_rngI] at hu hv
  exact h u v hu.1 (by omega) hv.1 (by omega)
theorem Tab_inj {u v : Int} (h : Tab n f = Tab n g) (u0 : 0 ≤ u) (u1 : u < n) (v0 : 0 ≤ v) (v1 : v < n) : f u v = g u v := by
  have : getI (getI (Tab n f) u) v = getI (getI (Tab n g) u) v := by rw [h]
  rwa [Tab_get u0 u1 v0 v1, Tab_get u0 u1 v0 v1] at this
theorem Tab_length : (Tab n f).length = n := by unfold Tab; rw [List.length_map, rngI_length]
theorem Tab_inB (u0 : 0 ≤ u) (u1 : u < n) : InB (Tab n f) u := inB_rng u0 u1
theorem Tab_inBrow (u0 : 0 ≤ u) (u1 : u < n) (v0 : 0 ≤ v) (v1 : v < n) : InB (getI (Tab n f) u) v := by rw [Tab_row u0 u1]; exact inB_rng v0 v1
theorem ixN_nat {n i : Nat} (h : i < n) : ixN n (i : Int) = some i := by
  unfold ixN
  rw [if_pos (by omega), if_pos (by omega)]; simp
theorem Tab_inB2 (u0 : 0 ≤ u) (u1 : u < n) (v0 : 0 ≤ v) (v1 : v < n) : InB2 (Tab n f) u v := ⟨Tab_inB u0 u1, fun xs e => by
  have h := atI_some (Tab_inB (f := f) u0 u1)
  rw [e] at h
  cases h
  exact Tab_inBrow u0 u1 v0 v1⟩
theorem set_map_rng {α : Type} (f : Int → α) (i : Nat) (y : α) : ((rngI 0 n).map f).set i y = (rngI 0 n).map fun a => if a = (i : Int) then y else f a := by
  apply List.ext_getElem?
  intro j
  rw [List.getElem?_set, List.getElem?_map]
  by_cases h : i = j
  · subst h
    rw [if_pos rfl, List.length_map, rngI_length]
    by_cases hn : i < n
    · rw [if_pos hn, List.getElem?_map, rngI_get hn]
      show some y = some (if 0 + (i : Int) = i then y else _)
      rw [if_pos (by omega)]
    · rw [if_neg hn, List.getElem?_map, List.getElem?_eq_none (by rw [rngI_length]; omega)]; rfl
  · rw [if_neg h, List.getElem?_map]
    by_cases hn : j < n
    · rw [rngI_get hn]
      show some (f (0 + (j : Int))) = some (if 0 + (j : Int) = i then y else f (0 + (j : Int)))
      rw [if_neg (by omega)]
    · rw [List.getElem?_eq_none (by rw [rngI_length]; omega)]; rfl
theorem Tab_set (u0 : 0 ≤ u) (u1 : u < n) (v0 : 0 ≤ v) (v1 : v < n) : setAt2 (Tab n f) u v w = Tab n (up2 f u v w) := by
  obtain ⟨i, rfl⟩ := Int.eq_ofNat_of_zero_le u0
  obtain ⟨j, rfl⟩ := Int.eq_ofNat_of_zero_le v0
  have hi : i < n := by omega
  have hj : j < n := by omega
  unfold setAt2
  rw [Tab_length]
  show (match ixN n (i : Int) with | some j' => (Tab n f).set j' (setAt ((Tab n f).getD j' []) (j : Int) w) | none => Tab n f) = _
  rw [ixN_nat hi]
  show (Tab n f).set i (setAt ((Tab n f).getD i []) (j : Int) w) = _
  have hrow : (Tab n f).getD i [] = (rngI 0 n).map fun v => f i v := by
    unfold Tab
    rw [List.getD_eq_getElem?_getD, List.getElem?_map, rngI_get hi]
    show (rngI 0 n).map (fun v => f (0 + (i : Int)) v) = _
    rw [Int.zero_add]
  rw [hrow]
  unfold setAt
  rw [List.length_map, rngI_length, ixN_nat hj]
  show (Tab n f).set i (((rngI 0 n).map fun v => f i v).set j w) = _
  rw [set_map_rng]
  unfold Tab
  rw [set_map_rng]
  refine List.map_congr_left fun a _ => ?_
  by_cases h : a = (i : Int)
  · subst h
    rw [if_pos rfl]
    refine List.map_congr_left fun b _ => ?_
    unfold up2
    by_cases h2 : b = (j : Int)
    · rw [if_pos h2, if_pos ⟨rfl, h2⟩]
    · rw [if_neg h2, if_neg (fun z => h2 z.2)]
  · rw [if_neg h]
    refine List.map_congr_left fun b _ => ?_
    unfold up2
    rw [if_neg (fun z => h z.1)]
theorem Tab_zero (n : Nat) : (rngI 0 n).map (fun _ => repL (n : Int) ([0] : List Int)) = Tab n fun _ _ => 0 := by
  unfold Tab
  refine List.map_congr_left fun u _ => ?_
  unfold repL
  rw [Int.toNat_natCast]
  apply List.ext_getElem?
  intro j
  have e : ∀ n : Nat, (List.replicate n [(0 : Int)]).flatten = List.replicate n 0 := fun n => by
    induction n with
    | zero => rfl
    | succ n ih => rw [List.replicate_succ, List.flatten_cons, ih]; rfl
  rw [e, List.getElem?_map, List.getElem?_replicate]
  by_cases h : j < n
  · rw [if_pos h, rngI_get h]; rfl
  · rw [if_neg h, List.getElem?_eq_none (by rw [rngI_length]; omega)]; rfl
end
end L2.Ev

set_option Elab.async false
set_option linter.all false
set_option maxRecDepth 100000
/-! Wm2: webs by their weights: tables of webs, webs of tables. -/
namespace L2.Ev
open PySem PySem.Spec PyProof.Rows
abbrev Tie := T3 Int Int Int
abbrev Web := T3 Int Int (List Tie)
/-- weights: the same both ways, none from a place to itself, numbers modulo p -/
structure Good (p : Int) (f : Int → Int → Int) : Prop where
  sym : ∀ u v, f u v = f v u
  diag : ∀ u, f u u = 0
  lo : ∀ u v, 0 ≤ f u v
  hi : ∀ u v, f u v < p
def rowT (n : Nat) (f : Int → Int → Int) (u : Int) : List Tie := ((rngI (u + 1) (Int.toNat (n - (u + 1)))).filter fun v => decide (f u v ≠ 0)).map fun v => ⟨u, v, f u v⟩
def tiesF (n : Nat) (f : Int → Int → Int) : List Tie := (rngI 0 n).flatMap (rowT n f)
def webF (p : Int) (n : Nat) (f : Int → Int → Int) : Web := ⟨p, n, tiesF n f⟩
section
variable {p : Int} {n : Nat} {f g : Int → Int → Int}
theorem mem_rowT {u : Int} {t : Tie} : t ∈ rowT n f u ↔ t.a = u ∧ u < t.b ∧ t.b < n ∧ t.c = f t.a t.b ∧ t.c ≠ 0 := by
  unfold rowT
  rw [List.mem_map]
  constructor
  · rintro ⟨v, h, rfl⟩
    rw [List.mem_filter, mem_rngI] at h
    obtain ⟨⟨h1, h2⟩, h3⟩ := h
    exact ⟨rfl, by show u < v; omega, by show v < n; omega, rfl, of_decide_eq_true h3⟩
  · rintro ⟨rfl, h1, h2, h3, h4⟩
    refine ⟨t.b, ?_, by cases t; simp_all⟩
    rw [List.mem_filter, mem_rngI]
    exact ⟨⟨by omega, by omega⟩, decide_eq_true (by rw [← h3]; exact h4)⟩
theorem mem_tiesF {t : Tie} : t ∈ tiesF n f ↔ 0 ≤ t.a ∧ t.a < t.b ∧ t.b < n ∧ t.c = f t.a t.b ∧ t.c ≠ 0 := by
  unfold tiesF
  rw [List.mem_flatMap]
  constructor
  · rintro ⟨u, h, h2⟩
    rw [mem_rowT] at h2
    rw [mem_rngI] at h
    obtain ⟨rfl, h3⟩ := h2
    exact ⟨h.1, h3⟩
  · rintro ⟨h1, h2, h3, h4⟩
    exact ⟨t.a, mem_rngI.mpr ⟨h1, by omega⟩, mem_rowT.mpr ⟨rfl, h2, h3, h4⟩⟩
theorem rowT_length (u : Int) (h : 0 ≤ u) : (rowT n f u).length ≤ n := by
  unfold rowT
  rw [List.length_map]
  refine Nat.le_trans (List.length_filter_le _ _) ?_
  rw [rngI_length]; omega
theorem flatMap_len (k : Nat) : (((rngI 0 k).flatMap (rowT n f))).length ≤ k * n := by
  induction k with
  | zero => simp [rngI_zero]
  | succ k ih =>
    rw [rngI_succ, List.flatMap_append, List.length_append]
    have := rowT_length (n := n) (f := f) ((0 : Int) + k) (by omega)
    simp only [List.flatMap_cons, List.flatMap_nil, List.append_nil]
    rw [Nat.succ_mul]; omega
theorem rngI_snoc {i : Int} (h : 0 ≤ i) : rngI 0 (i + 1).toNat = rngI 0 i.toNat ++ [i] := by
  have e : (i + 1).toNat = i.toNat + 1 := by omega
  rw [e, rngI_succ, show (0 : Int) + (i.toNat : Nat) = i by omega]
/-! ### from tables to webs -/
theorem web_of_eq (hn : n ≤ 1000) : g_web_of p (Tab n f) ∧ m_web_of p (Tab n f) = webF p n f := by
  have key := fold_rng (P := fun ts q => g_web_of_3 (Tab n f) (((Tab n f).length : Int), []) ts q) (f := fun ts q => m_web_of_3 (Tab n f) (((Tab n f).length : Int), []) ts q) (lo := 0)
    (fun i ts => ts = (rngI 0 i.toNat).flatMap (rowT n f)) n (n0 := []) rfl (fun i ts h0 h1 hI => by
      subst hI
      have hr : (List.map (fun q => T3.mk i q (getI (getI (Tab n f) i) q)) (List.filter (fun q => decide (getI (getI (Tab n f) i) q ≠ (0 : Int))) (rngI (i + 1) (Int.toNat (((Tab n f).length : Int) - (i + 1)))))) = rowT n f i := by
        unfold rowT
        rw [Tab_length]
        have e1 : List.filter (fun q => decide (getI (getI (Tab n f) i) q ≠ (0 : Int))) (rngI (i + 1) (Int.toNat ((n : Int) - (i + 1)))) = List.filter (fun v => decide (f i v ≠ 0)) (rngI (i + 1) (Int.toNat ((n : Int) - (i + 1)))) := by
          apply List.filter_congr
          intro v hv
          rw [mem_rngI] at hv
          rw [Tab_get h0 (by omega) (by omega) (by omega)]
        rw [e1]
        refine List.map_congr_left fun v hv => ?_
        rw [List.mem_filter, mem_rngI] at hv
        rw [Tab_get h0 (by omega) (by omega) (by omega)]
      have hl := flatMap_len (n := n) (f := f) i.toNat
      have hl2 := rowT_length (n := n) (f := f) i h0
      have hb : i.toNat * n ≤ 1000 * 1000 := Nat.mul_le_mul (by omega) hn
      refine ⟨⟨⟨by omega, by omega⟩, ⟨by rw [Tab_length]; omega, by rw [Tab_length]; omega⟩, by rw [Tab_length]; omega, fun q hq => ?_, ?_, trivial⟩, ?_⟩
      · rw [mem_rngI, Tab_length] at hq
        have a1 := Tab_inB (f := f) h0 (show i < n by omega)
        have a2 := Tab_inBrow (f := f) h0 (show i < n by omega) (show 0 ≤ q by omega) (show q < n by omega)
        exact ⟨a1, a2, fun _ => ⟨a1, a2⟩⟩
      · rw [hr]; omega
      · show m_web_of_2 (_ ++ _) = _
        unfold m_web_of_2
        rw [hr, rngI_snoc h0, List.flatMap_append]
        simp)
  have e : Int.toNat ((Tab n f).length : Int) = n := by rw [Tab_length]; simp
  obtain ⟨k1, k2⟩ := key
  constructor
  · show g_web_of_5 _ _ _
    refine ⟨⟨by rw [Tab_length]; omega, by rw [Tab_length]; omega⟩, ?_, trivial⟩
    rw [e]; exact k1
  · show m_web_of_4 _ _ _ = _
    unfold m_web_of_4 webF tiesF
    rw [e]
    rw [show (0 : Int) + (n : Int) = (n : Int) by omega] at k2
    rw [show ((List.foldl (fun ts q => m_web_of_3 (Tab n f) (((Tab n f).length : Int), []) ts q) [] (rngI 0 n))) = _ from k2, Tab_length]
    simp
/-! ### from webs to tables -/
def putT (f : Int → Int → Int) (t : Tie) : Int → Int → Int := up2 (up2 f t.a t.b t.c) t.b t.a t.c
def okT (n : Nat) (t : Tie) : Prop := 0 ≤ t.a ∧ t.a < n ∧ 0 ≤ t.b ∧ t.b < n
theorem putT_val {h : Int → Int → Int} (hs : ∀ u v, h u v = h v u) : ∀ (L : List Tie) (g : Int → Int → Int), (∀ t ∈ L, t.c = h t.a t.b) → ∀ u v, (L.foldl putT g) u v = if (∃ t ∈ L, (t.a = u ∧ t.b = v) ∨ (t.b = u ∧ t.a = v)) then h u v else g u v
  | [], g, _, u, v => by rw [if_neg (by rintro ⟨t, m, _⟩; cases m)]; rfl
  | t :: L, g, hL, u, v => by
    rw [List.foldl_cons, putT_val hs L _ (fun t m => hL t (List.mem_cons_of_mem _ m)) u v]
    have ht := hL t List.mem_cons_self
    by_cases h1 : ∃ t ∈ L, (t.a = u ∧ t.b = v) ∨ (t.b = u ∧ t.a = v)
    · rw [if_pos h1, if_pos]
      obtain ⟨s, m, e⟩ := h1
      exact ⟨s, List.mem_cons_of_mem _ m, e⟩
    · rw [if_neg h1]
      unfold putT up2
      by_cases h2 : u = t.b ∧ v = t.a
      · rw [if_pos h2, if_pos ⟨t, List.mem_cons_self, .inr ⟨h2.1.symm, h2.2.symm⟩⟩, ht, h2.1, h2.2, hs]
      · rw [if_neg h2]
        by_cases h3 : u = t.a ∧ v = t.b
        · rw [if_pos h3, if_pos ⟨t, List.mem_cons_self, .inl ⟨h3.1.symm, h3.2.symm⟩⟩, ht, h3.1, h3.2]
        · rw [if_neg h3, if_neg]
          rintro ⟨s, m, e⟩
          rcases List.mem_cons.mp m with rfl | m
          · rcases e with e | e
            · exact h3 ⟨e.1.symm, e.2.symm⟩
            · exact h2 ⟨e.1.symm, e.2.symm⟩
          · exact h1 ⟨s, m, e⟩
theorem ties_tab (G : Good p f) : Tab n ((tiesF n f).foldl putT fun _ _ => 0) = Tab n f := by
  refine Tab_congr fun u v u0 u1 v0 v1 => ?_
  rw [putT_val G.sym _ _ (fun t m => (mem_tiesF.mp m).2.2.2.1)]
  by_cases h : ∃ t ∈ tiesF n f, (t.a = u ∧ t.b = v) ∨ (t.b = u ∧ t.a = v)
  · rw [if_pos h]
  · rw [if_neg h]
    by_cases h0 : f u v = 0
    · exact h0.symm
    · refine absurd ?_ h
      rcases Int.lt_trichotomy u v with c | c | c
      · exact ⟨⟨u, v, f u v⟩, mem_tiesF.mpr ⟨u0, c, v1, rfl, h0⟩, .inl ⟨rfl, rfl⟩⟩
      · subst c; exact absurd (G.diag u) h0
      · exact ⟨⟨v, u, f v u⟩, mem_tiesF.mpr ⟨v0, c, u1, rfl, by rw [G.sym]; exact h0⟩, .inr ⟨rfl, rfl⟩⟩
theorem okT_ties {t : Tie} (h : t ∈ tiesF n f) : okT n t := by
  obtain ⟨h1, h2, h3, _⟩ := mem_tiesF.mp h
  exact ⟨h1, by omega, by omega, h3⟩
theorem table_fold : ∀ (L : List Tie) (g : Int → Int → Int), (∀ t ∈ L, okT n t) → FG (fun n q => g_table_of_3 n q) (fun n q => m_table_of_3 n q) L (Tab n g) ∧ L.foldl (fun n q => m_table_of_3 n q) (Tab n g) = Tab n (L.foldl putT g)
  | [], g, _ => ⟨trivial, rfl⟩
  | t :: L, g, h => by
    obtain ⟨a0, a1, b0, b1⟩ := h t List.mem_cons_self
    have e : m_table_of_3 (Tab n g) t = Tab n (putT g t) := by
      show setAt2 (setAt2 (Tab n g) t.a t.b t.c) t.b t.a t.c = _
      rw [Tab_set a0 a1 b0 b1, Tab_set b0 b1 a0 a1]; rfl
    obtain ⟨h1, h2⟩ := table_fold L (putT g t) (fun s m => h s (List.mem_cons_of_mem _ m))
    refine ⟨⟨⟨Tab_inB2 a0 a1 b0 b1, ?_, trivial⟩, ?_⟩, ?_⟩
    · rw [Tab_set a0 a1 b0 b1]; exact Tab_inB2 b0 b1 a0 a1
    · show FG _ _ L (m_table_of_3 (Tab n g) t)
      rw [e]; exact h1
    · rw [List.foldl_cons, List.foldl_cons]
      show L.foldl _ (m_table_of_3 (Tab n g) t) = _
      rw [e]; exact h2
theorem table_of_eq (G : Good p f) (hn : n ≤ 1000) : g_table_of (webF p n f) ∧ m_table_of (webF p n f) = Tab n f := by
  obtain ⟨h1, h2⟩ := table_fold (tiesF n f) (fun _ _ => 0) (fun t m => okT_ties m)
  have e : (List.map (fun (_ : Int) => repL ((webF p n f).b) ([(0 : Int)] : List Int)) (rngI 0 (Int.toNat (webF p n f).b))) = Tab n fun _ _ => 0 := by
    show (List.map (fun (_ : Int) => repL (n : Int) ([(0 : Int)] : List Int)) (rngI 0 (Int.toNat (n : Int)))) = _
    rw [Int.toNat_natCast]; exact Tab_zero n
  constructor
  · refine ⟨⟨by show -(2 ^ 62) ≤ (n : Int); omega, by show (n : Int) ≤ _; omega⟩, fun q _ => ⟨by show -(2 ^ 63) ≤ (n : Int); omega, by show (n : Int) < _; omega, by show 1 * (n : Int).toNat ≤ _; omega⟩, ?_⟩
    rw [e]
    exact ⟨h1, trivial⟩
  · show m_table_of_5 _ _ = _
    rw [e]
    show List.map (fun q => q) (List.foldl (fun n q => m_table_of_3 n q) (Tab n fun _ _ => 0) (tiesF n f)) = _
    rw [h2, ties_tab G]; simp
theorem ltable_fold : ∀ (L : List Tie) (g : Int → Int → Int), (∀ t ∈ L, okT n t) → FG (fun n q => g__law_table_4 n q) (fun n q => m__law_table_4 n q) L (Tab n g) ∧ L.foldl (fun n q => m__law_table_4 n q) (Tab n g) = Tab n (L.foldl putT g)
  | [], g, _ => ⟨trivial, rfl⟩
  | t :: L, g, h => by
    obtain ⟨a0, a1, b0, b1⟩ := h t List.mem_cons_self
    have e : m__law_table_4 (Tab n g) t = Tab n (putT g t) := by
      show setAt2 (setAt2 (Tab n g) t.a t.b t.c) t.b t.a t.c = _
      rw [Tab_set a0 a1 b0 b1, Tab_set b0 b1 a0 a1]; rfl
    obtain ⟨h1, h2⟩ := ltable_fold L (putT g t) (fun s m => h s (List.mem_cons_of_mem _ m))
    refine ⟨⟨⟨Tab_inB2 a0 a1 b0 b1, ?_, trivial⟩, ?_⟩, ?_⟩
    · rw [Tab_set a0 a1 b0 b1]; exact Tab_inB2 b0 b1 a0 a1
    · show FG _ _ L (m__law_table_4 (Tab n g) t)
      rw [e]; exact h1
    · rw [List.foldl_cons, List.foldl_cons]
      show L.foldl _ (m__law_table_4 (Tab n g) t) = _
      rw [e]; exact h2
theorem ltable_eq (G : Good p f) (hn : n ≤ 1000) : g__law_table (webF p n f) ∧ m__law_table (webF p n f) = Tab n f := by
  obtain ⟨h1, h2⟩ := ltable_fold (tiesF n f) (fun _ _ => 0) (fun t m => okT_ties m)
  have e : (List.map (fun (_ : Int) => repL ((webF p n f).b) ([(0 : Int)] : List Int)) (rngI 0 (Int.toNat (webF p n f).b))) = Tab n fun _ _ => 0 := by
    show (List.map (fun (_ : Int) => repL (n : Int) ([(0 : Int)] : List Int)) (rngI 0 (Int.toNat (n : Int)))) = _
    rw [Int.toNat_natCast]; exact Tab_zero n
  constructor
  · refine ⟨⟨by show -(2 ^ 62) ≤ (n : Int); omega, by show (n : Int) ≤ _; omega⟩, fun q _ => ⟨by show -(2 ^ 63) ≤ (n : Int); omega, by show (n : Int) < _; omega, by show 1 * (n : Int).toNat ≤ _; omega⟩, ?_⟩
    rw [e]
    exact ⟨h1, trivial⟩
  · show m__law_table_6 _ _ = _
    rw [e]
    show List.foldl (fun n q => m__law_table_4 n q) (Tab n fun _ _ => 0) (tiesF n f) = _
    rw [h2, ties_tab G]
end
end L2.Ev

set_option Elab.async false
set_option linter.all false
set_option maxRecDepth 100000
/-! Wm3: what is drawn; drawn webs. -/
namespace L2.Ev
open PySem PySem.Spec PyProof.Rows
theorem pickA_bd (S : Src) {m : Int} (h : 1 ≤ m) : 0 ≤ (pickA S m).1 ∧ (pickA S m).1 < m := by
  unfold pickA
  by_cases h1 : m < 2
  · rw [if_pos h1]; exact ⟨Int.le_refl _, by show (0 : Int) < m; omega⟩
  · rw [if_neg h1]
    by_cases h2 : 1 < (pulled S).2
    · rw [if_pos h2]
      exact ⟨Int.emod_nonneg _ (by omega), Int.emod_lt_of_pos _ (by omega)⟩
    · rw [if_neg h2]
      exact ⟨Int.emod_nonneg _ (by omega), Int.emod_lt_of_pos _ (by omega)⟩
section
variable {p : Int} {n : Nat} {f g : Int → Int → Int}
def rowP (f : Int → Int → Int) (u v : Int) : List Tie := ((rngI (u + 1) (Int.toNat (v - (u + 1)))).filter fun v => decide (f u v ≠ 0)).map fun v => ⟨u, v, f u v⟩
theorem rowP_congr {u v : Int} (h : ∀ w, u < w → w < v → f u w = g u w) : rowP f u v = rowP g u v := by
  unfold rowP
  have e1 : (rngI (u + 1) (Int.toNat (v - (u + 1)))).filter (fun v => decide (f u v ≠ 0)) = (rngI (u + 1) (Int.toNat (v - (u + 1)))).filter (fun v => decide (g u v ≠ 0)) := by
    apply List.filter_congr
    intro w hw
    rw [mem_rngI] at hw
    rw [h w (by omega) (by omega)]
  rw [e1]
  refine List.map_congr_left fun w hw => ?_
  rw [List.mem_filter, mem_rngI] at hw
  rw [h w (by omega) (by omega)]
theorem rowP_succ {u v : Int} (h : u < v) : rowP f u (v + 1) = rowP f u v ++ (if f u v = 0 then [] else [⟨u, v, f u v⟩]) := by
  unfold rowP
  have e : Int.toNat (v + 1 - (u + 1)) = Int.toNat (v - (u + 1)) + 1 := by omega
  rw [e, rngI_succ, List.filter_append, List.map_append]
  congr 1
  have e2 : u + 1 + (Int.toNat (v - (u + 1)) : Int) = v := by omega
  rw [e2]
  by_cases h0 : f u v = 0
  · rw [if_pos h0, List.filter_cons, if_neg (by simp [h0])]; rfl
  · rw [if_neg h0, List.filter_cons, if_pos (decide_eq_true h0)]; rfl
theorem rowP_len {u v : Int} (hu : 0 ≤ u) : (rowP f u v).length ≤ v.toNat := by
  unfold rowP
  rw [List.length_map]
  refine Nat.le_trans (List.length_filter_le _ _) ?_
  rw [rngI_length]; omega
theorem flat_congr {k : Int} (h : ∀ u w, 0 ≤ u → u < k → u < w → f u w = g u w) : (rngI 0 k.toNat).flatMap (rowT n f) = (rngI 0 k.toNat).flatMap (rowT n g) := by
  have : ∀ u ∈ rngI 0 k.toNat, rowT n f u = rowT n g u := fun u hu => by
    rw [mem_rngI] at hu
    exact rowP_congr (v := (n : Int)) fun w hw _ => h u w hu.1 (by omega) hw
  rw [List.flatMap_def, List.flatMap_def, List.map_congr_left this]
theorem Good.put (G : Good p f) {u v c : Int} (hv : u ≠ v) (c0 : 0 ≤ c) (c1 : c < p) : Good p (putT f ⟨u, v, c⟩) := by
  have val : ∀ a b, putT f ⟨u, v, c⟩ a b = if (a = v ∧ b = u) ∨ (a = u ∧ b = v) then c else f a b := fun a b => by
    unfold putT up2
    by_cases h1 : a = v ∧ b = u
    · rw [if_pos h1, if_pos (.inl h1)]
    · rw [if_neg h1]
      by_cases h2 : a = u ∧ b = v
      · rw [if_pos h2, if_pos (.inr h2)]
      · rw [if_neg h2, if_neg (fun z => z.elim h1 h2)]
  refine ⟨fun a b => ?_, fun a => ?_, fun a b => ?_, fun a b => ?_⟩
  · rw [val, val]
    by_cases h : (a = v ∧ b = u) ∨ (a = u ∧ b = v)
    · rw [if_pos h, if_pos (h.elim (fun z => .inr ⟨z.2, z.1⟩) fun z => .inl ⟨z.2, z.1⟩)]
    · rw [if_neg h, if_neg (fun z => h (z.elim (fun z => .inr ⟨z.2, z.1⟩) fun z => .inl ⟨z.2, z.1⟩)), G.sym]
  · rw [val, if_neg (by rintro (⟨rfl, h⟩ | ⟨rfl, h⟩) <;> exact hv (by omega)), G.diag]
  · rw [val]; split
    · exact c0
    · exact G.lo a b
  · rw [val]; split
    · exact c1
    · exact G.hi a b
theorem put_at {u v c : Int} : putT f ⟨u, v, c⟩ u v = c := by
  unfold putT up2
  by_cases h1 : u = v ∧ v = u
  · rw [if_pos h1]
  · rw [if_neg h1, if_pos ⟨rfl, rfl⟩]
theorem put_off {u v c a b : Int} (h1 : ¬ (a = v ∧ b = u)) (h2 : ¬ (a = u ∧ b = v)) : putT f ⟨u, v, c⟩ a b = f a b := by
  unfold putT up2
  rw [if_neg h1, if_neg h2]
theorem law_web_eq (hp : 2 ≤ p) (hp2 : p ≤ 1000) (hn : n ≤ 1000) {share : Int} (hs : share < 1073741824) (S : Src) : g__law_web p n share S ∧ ∃ f S', Good p f ∧ m__law_web p n share S = (webF p n f, S') := by
  have G0 : Good p fun _ _ => 0 := ⟨fun _ _ => rfl, fun _ => rfl, fun _ _ => Int.le_refl _, fun _ _ => by omega⟩
  have inner : ∀ (u : Int) (ts : List Tie) (T : Src) (f : Int → Int → Int), 0 ≤ u → u < n → Good p f → ts = (rngI 0 u.toNat).flatMap (rowT n f) →
      FG (fun n_71 q => g__law_web_6 p share u n_71 q) (fun n_71 q => m__law_web_6 p share u n_71 q) (rngI (u + 1) (Int.toNat (n - (u + 1)))) (ts, T) ∧
      ∃ f' T', Good p f' ∧ (rngI (u + 1) (Int.toNat (n - (u + 1)))).foldl (fun n_71 q => m__law_web_6 p share u n_71 q) (ts, T) = ((rngI 0 (u + 1).toNat).flatMap (rowT n f'), T') := by
    intro u ts T f u0 u1 G hts
    obtain ⟨k1, k2⟩ := fold_rng (P := fun n_71 q => g__law_web_6 p share u n_71 q) (f := fun n_71 q => m__law_web_6 p share u n_71 q) (lo := u + 1)
      (fun v st => ∃ f, Good p f ∧ st.1 = (rngI 0 u.toNat).flatMap (rowT n f) ++ rowP f u v) (Int.toNat (n - (u + 1))) (n0 := (ts, T)) ⟨f, G, by
        show ts = _
        rw [hts]; unfold rowP; simp [rngI]⟩ (fun v st v0 v1 ⟨f, G, e⟩ => by
      have uv : u < v := by omega
      obtain ⟨b0, b1⟩ := pickA_bd (pickA st.2 share).2 (m := p - 1) (by omega)
      have nx : ∀ c : Int, 0 ≤ c → c < p → ∃ f', Good p f' ∧ st.1 ++ (if c = 0 then [] else [⟨u, v, c⟩]) = (rngI 0 u.toNat).flatMap (rowT n f') ++ rowP f' u (v + 1) := fun c c0 c1 => by
        refine ⟨putT f ⟨u, v, c⟩, G.put (by omega) c0 c1, ?_⟩
        rw [rowP_succ uv, put_at, e, ← List.append_assoc]
        congr 1
        congr 1
        · exact flat_congr fun a w a0 a1 a2 => (put_off (by omega) (by omega)).symm
        · exact rowP_congr fun w w0 w1 => (put_off (by omega) (by omega)).symm
      have hlen : st.1.length < 16777216 := by
        rw [e, List.length_append]
        have h1 := flatMap_len (n := n) (f := f) u.toNat
        have h2 := rowP_len (f := f) (u := u) (v := v) u0
        have hb : u.toNat * n ≤ 1000 * 1000 := Nat.mul_le_mul (by omega) hn
        omega
      refine ⟨⟨hs, fun _ => ⟨by show p - 1 < 1073741824; omega, hlen, trivial⟩, fun _ => trivial⟩, ?_⟩
      show ∃ f, Good p f ∧ (m__law_web_6 p share u st v).1 = _
      unfold m__law_web_6
      by_cases hc : decide ((0 : Int) < (m__law_pick share st.2).1) = true
      · rw [if_pos hc]
        obtain ⟨f', G', e'⟩ := nx (1 + (pickA (pickA st.2 share).2 (p - 1)).1) (by omega) (by omega)
        rw [if_neg (by omega)] at e'
        exact ⟨f', G', e'⟩
      · rw [if_neg hc]
        obtain ⟨f', G', e'⟩ := nx 0 (Int.le_refl _) (by omega)
        rw [if_pos rfl, List.append_nil] at e'
        exact ⟨f', G', e'⟩)
    refine ⟨k1, ?_⟩
    obtain ⟨f', G', e⟩ := k2
    refine ⟨f', ((rngI (u + 1) (Int.toNat (n - (u + 1)))).foldl (fun n_71 q => m__law_web_6 p share u n_71 q) (ts, T)).2, G', Prod.ext ?_ rfl⟩
    rw [e, rngI_snoc u0, List.flatMap_append]
    have ev : u + 1 + (Int.toNat ((n : Int) - (u + 1)) : Int) = n := by omega
    rw [ev]
    congr 1
    simp only [List.flatMap_cons, List.flatMap_nil, List.append_nil]
    rfl
  obtain ⟨k1, k2⟩ := fold_rng (P := fun n_64 q => g__law_web_8 p n share n_64 q) (f := fun n_64 q => m__law_web_8 p n share n_64 q) (lo := 0)
    (fun u st => ∃ f, Good p f ∧ st.1 = (rngI 0 u.toNat).flatMap (rowT n f)) n (n0 := (([] : List Tie), S)) ⟨_, G0, rfl⟩ (fun u st u0 u1 ⟨f, G, e⟩ => by
    obtain ⟨j1, f', T', G', j2⟩ := inner u st.1 st.2 f u0 (by omega) G e
    refine ⟨⟨⟨by omega, by omega⟩, ⟨by omega, by omega⟩, by omega, j1, trivial⟩, f', G', ?_⟩
    show (m__law_web_7 _).1 = _
    unfold m__law_web_7
    show (List.foldl _ (st.1, st.2) _).1 = _
    rw [j2])
  obtain ⟨f, G, e⟩ := k2
  refine ⟨⟨⟨by omega, by omega⟩, ?_, trivial⟩, f, ((rngI 0 n).foldl (fun n_64 q => m__law_web_8 p n share n_64 q) (([] : List Tie), S)).2, G, ?_⟩
  · rw [Int.toNat_natCast]; exact k1
  · show m__law_web_9 _ _ _ = _
    unfold m__law_web_9
    rw [Int.toNat_natCast]
    refine Prod.ext ?_ rfl
    show (T3.mk p (n : Int) _ : Web) = webF p n f
    unfold webF tiesF
    rw [e]
    rw [show (0 : Int) + (n : Int) = (n : Int) by omega, Int.toNat_natCast]
end
end L2.Ev

set_option Elab.async false
set_option linter.all false
set_option maxRecDepth 100000
/-! Wm4: who is tied to a place. -/
namespace L2.Ev
open PySem PySem.Spec PyProof.Rows PySem.W
theorem mem_two {α : Type} [DecidableEq α] {x a b : α} : mem x [a, b] = true ↔ x = a ∨ x = b := by
  unfold mem
  rw [decide_eq_true_iff]; simp
theorem sorted_le2 {a b c d : Int} (h : a < c) : dataLe false (enc : Int × Int → PyData) (a, b) (c, d) = true := by
  show (!(lexLt itemOrd (keyToks (.tuple [.int c, .int d])) (keyToks (.tuple [.int a, .int b])))) = true
  show (!(lexLt itemOrd [.inl 1, .inl c, .inl 1, .inl d, .inl 0] [.inl 1, .inl a, .inl 1, .inl b, .inl 0])) = true
  rw [lex_cons, lex_cons]
  have e1 : itemOrd.blt (.inl 1) (.inl 1) = false := by show decide ((1 : Int) < 1) = false; decide
  have e2 : itemOrd.blt (.inl c) (.inl a) = false := by show decide (c < a) = false; exact decide_eq_false (by omega)
  have e3 : itemOrd.blt (.inl a) (.inl c) = true := by show decide (a < c) = true; exact decide_eq_true h
  rw [e1, e2, e3]; rfl
theorem sortD_id {xs : List (Int × Int)} (h : xs.Pairwise fun x y => x.1 < y.1) : sortD xs = xs := by
  unfold sortD
  exact List.mergeSort_of_pairwise (h.imp fun {x y} q => sorted_le2 q)
theorem sortOk2 (xs : List (Int × Int)) : SortOk (encs xs) := by
  refine ⟨fun d hd d' hd' => ?_, .inl fun d hd => ?_⟩
  · rw [List.mem_map] at hd hd'
    obtain ⟨x, _, rfl⟩ := hd
    obtain ⟨y, _, rfl⟩ := hd'
    rfl
  · rw [List.mem_map] at hd
    obtain ⟨x, _, rfl⟩ := hd
    exact ⟨_, _, rfl⟩
section
variable {p : Int} {n : Nat} {f g : Int → Int → Int}
def near (n : Nat) (f : Int → Int → Int) (v : Int) : List (Int × Int) := ((rngI 0 n).filter fun w => decide (f v w ≠ 0)).map fun w => (w, f v w)
def tieAt (v : Int) (t : Tie) : Option (Int × Int) := if mem v [t.a, t.b] = true then some (if decide (t.a = v) = true then t.b else t.a, t.c) else none
theorem tied_fold (v : Int) : ∀ (L : List Tie) (acc : List (Int × Int)), acc.length + L.length ≤ 2000000 → FG (fun a q => g_tied_to_5 v a q) (fun a q => m_tied_to_5 v a q) L acc ∧ L.foldl (fun a q => m_tied_to_5 v a q) acc = acc ++ L.filterMap (tieAt v)
  | [], acc, _ => ⟨trivial, by simp⟩
  | t :: L, acc, h => by
    rw [List.length_cons] at h
    by_cases hm : mem v [t.a, t.b] = true
    · have e : m_tied_to_5 v acc t = acc ++ [(if decide (t.a = v) = true then t.b else t.a, t.c)] := by
        show (if mem v [t.a, t.b] = true then m_tied_to_3 v acc t else m_tied_to_4 acc) = _
        rw [if_pos hm]; rfl
      obtain ⟨h1, h2⟩ := tied_fold v L (acc ++ [(if decide (t.a = v) = true then t.b else t.a, t.c)]) (by rw [List.length_append]; simp; omega)
      refine ⟨⟨⟨fun _ => ⟨by omega, trivial⟩, fun _ => trivial⟩, ?_⟩, ?_⟩
      · show FG _ _ L (m_tied_to_5 v acc t)
        rw [e]; exact h1
      · rw [List.foldl_cons]
        show L.foldl _ (m_tied_to_5 v acc t) = _
        rw [e, h2, List.filterMap_cons]
        unfold tieAt
        rw [if_pos hm, List.append_assoc]; rfl
    · have e : m_tied_to_5 v acc t = acc := by
        show (if mem v [t.a, t.b] = true then m_tied_to_3 v acc t else m_tied_to_4 acc) = _
        rw [if_neg hm]; rfl
      obtain ⟨h1, h2⟩ := tied_fold v L acc (by omega)
      refine ⟨⟨⟨fun z => absurd z hm, fun _ => trivial⟩, ?_⟩, ?_⟩
      · show FG _ _ L (m_tied_to_5 v acc t)
        rw [e]; exact h1
      · rw [List.foldl_cons]
        show L.foldl _ (m_tied_to_5 v acc t) = _
        rw [e, h2, List.filterMap_cons]
        unfold tieAt
        rw [if_neg hm]
theorem filterMap_flat {α β γ : Type} (h : β → Option γ) (k : α → List β) : ∀ xs : List α, (xs.flatMap k).filterMap h = xs.flatMap fun x => (k x).filterMap h
  | [] => rfl
  | x :: xs => by rw [List.flatMap_cons, List.filterMap_append, filterMap_flat h k xs, List.flatMap_cons]
theorem filter_one {lo : Int} {k : Nat} {v : Int} {P : Int → Bool} (h : ∀ w, P w = true → w = v) : (rngI lo k).filter P = if lo ≤ v ∧ v < lo + k ∧ P v = true then [v] else [] := by
  induction k with
  | zero => rw [rngI_zero, if_neg (by omega)]; rfl
  | succ k ih =>
    rw [rngI_succ, List.filter_append, ih]
    by_cases hv : v = lo + k
    · subst hv
      rw [if_neg (by omega)]
      by_cases hp : P (lo + k) = true
      · rw [if_pos ⟨by omega, by omega, hp⟩, List.filter_cons, if_pos hp]; rfl
      · rw [if_neg (fun z => hp z.2.2), List.filter_cons, if_neg hp]; rfl
    · have hn : P (lo + k) = false := by
        cases q : P (lo + k) with
        | false => rfl
        | true => exact absurd (h _ q).symm hv
      rw [List.filter_cons, hn]
      have e : (lo ≤ v ∧ v < lo + k ∧ P v = true) ↔ (lo ≤ v ∧ v < lo + ((k + 1 : Nat) : Int) ∧ P v = true) := ⟨fun z => ⟨z.1, by omega, z.2.2⟩, fun z => ⟨z.1, by omega, z.2.2⟩⟩
      by_cases c : lo ≤ v ∧ v < lo + k ∧ P v = true
      · rw [if_pos c, if_pos (e.mp c)]; rfl
      · rw [if_neg c, if_neg (fun z => c (e.mpr z))]; rfl
theorem rngI_split {a b c : Int} (h1 : a ≤ b) (h2 : b ≤ c) : rngI a (c - a).toNat = rngI a (b - a).toNat ++ rngI b (c - b).toNat := by
  unfold rngI
  have e : (c - a).toNat = (b - a).toNat + (c - b).toNat := by omega
  rw [e, List.range_add, List.map_append, List.map_map]
  congr 1
  apply List.map_congr_left
  intro i _
  simp only [Function.comp]
  omega
theorem tied_row (G : Good p f) {v u : Int} (v0 : 0 ≤ v) (v1 : v < n) (u0 : 0 ≤ u) (u1 : u < n) : (rowT n f u).filterMap (tieAt v) = if u < v then (if f v u = 0 then [] else [(u, f v u)]) else if u = v then ((rngI (v + 1) (Int.toNat (n - (v + 1)))).filter fun w => decide (f v w ≠ 0)).map (fun w => (w, f v w)) else [] := by
  have e0 : (rowT n f u).filterMap (tieAt v) = ((rngI (u + 1) (Int.toNat (n - (u + 1)))).filter fun w => decide (f u w ≠ 0)).filterMap fun w => tieAt v ⟨u, w, f u w⟩ := by
    unfold rowT
    rw [List.filterMap_map]; rfl
  rw [e0]
  by_cases c1 : u < v
  · rw [if_pos c1]
    have e1 : ∀ w, tieAt v ⟨u, w, f u w⟩ = if w = v then some (u, f u v) else none := fun w => by
      unfold tieAt
      by_cases h : w = v
      · subst h
        rw [if_pos (mem_two.mpr (.inr rfl)), if_neg (fun z => by have q : u = w := of_decide_eq_true z; omega), if_pos rfl]
      · rw [if_neg (fun z => (mem_two.mp z).elim (fun q => by have q : v = u := q; omega) fun q => h q.symm), if_neg h]
    rw [show (fun w => tieAt v ⟨u, w, f u w⟩) = fun w => if w = v then some (u, f u v) else none from funext e1]
    have e2 : ∀ (L : List Int), L.filterMap (fun w => if w = v then some (u, f u v) else none) = (L.filter fun w => decide (w = v)).map fun _ => (u, f u v) := fun L => by
      induction L with
      | nil => rfl
      | cons x L ih =>
        rw [List.filterMap_cons, List.filter_cons]
        by_cases h : x = v
        · rw [if_pos h, if_pos (decide_eq_true h), ih]; rfl
        · rw [if_neg h, if_neg (by simp [h]), ih]
    rw [e2, List.filter_filter, filter_one (v := v) (fun w hw => by simp at hw; exact hw.1)]
    by_cases h0 : f v u = 0
    · rw [if_pos h0, if_neg]
      · rfl
      · rintro ⟨_, _, q⟩
        simp at q
        exact q (by rw [G.sym]; exact h0)
    · rw [if_neg h0, if_pos]
      · rw [List.map_singleton, G.sym u v]
      · refine ⟨by omega, by omega, ?_⟩
        simp
        rw [G.sym]; exact h0
  · rw [if_neg c1]
    by_cases c2 : u = v
    · subst c2
      rw [if_pos rfl]
      have e1 : ∀ w, tieAt u ⟨u, w, f u w⟩ = some (w, f u w) := fun w => by
        unfold tieAt
        rw [if_pos (mem_two.mpr (.inl rfl)), if_pos (decide_eq_true rfl)]
      rw [show (fun w => tieAt u ⟨u, w, f u w⟩) = fun w => some (w, f u w) from funext e1]
      exact congrFun List.filterMap_eq_map' _
    · rw [if_neg c2]
      rw [List.filterMap_eq_nil_iff]
      intro w hw
      rw [List.mem_filter, mem_rngI] at hw
      unfold tieAt
      rw [if_neg (fun z => (mem_two.mp z).elim (fun q => c2 q.symm) fun q => by simp only at q; omega)]
theorem tied_eq (G : Good p f) {v : Int} (v0 : 0 ≤ v) (v1 : v < n) : (tiesF n f).filterMap (tieAt v) = near n f v := by
  unfold tiesF
  rw [filterMap_flat]
  have e1 : (rngI 0 n).flatMap (fun u => (rowT n f u).filterMap (tieAt v)) = (rngI 0 n).flatMap fun u => if u < v then (if f v u = 0 then [] else [(u, f v u)]) else if u = v then ((rngI (v + 1) (Int.toNat (n - (v + 1)))).filter fun w => decide (f v w ≠ 0)).map (fun w => (w, f v w)) else [] := by
    rw [List.flatMap_def, List.flatMap_def]
    congr 1
    refine List.map_congr_left fun u hu => ?_
    rw [mem_rngI] at hu
    exact tied_row G v0 v1 hu.1 (by omega)
  rw [e1]
  have s1 : rngI 0 n = rngI 0 v.toNat ++ (v :: rngI (v + 1) (Int.toNat (n - (v + 1)))) := by
    have := rngI_split (a := 0) (b := v) (c := n) v0 (by omega)
    rw [show ((n : Int) - 0).toNat = n by omega, show (v - 0).toNat = v.toNat by omega, show ((n : Int) - v).toNat = Int.toNat (n - (v + 1)) + 1 by omega, rngI_cons] at this
    exact this
  have a1 : (rngI 0 v.toNat).flatMap (fun u => if u < v then (if f v u = 0 then [] else [(u, f v u)]) else if u = v then ((rngI (v + 1) (Int.toNat (n - (v + 1)))).filter fun w => decide (f v w ≠ 0)).map (fun w => (w, f v w)) else []) = ((rngI 0 v.toNat).filter fun w => decide (f v w ≠ 0)).map fun w => (w, f v w) := by
    have : ∀ L : List Int, (∀ u ∈ L, u < v) → L.flatMap (fun u => if u < v then (if f v u = 0 then [] else [(u, f v u)]) else if u = v then ((rngI (v + 1) (Int.toNat (n - (v + 1)))).filter fun w => decide (f v w ≠ 0)).map (fun w => (w, f v w)) else []) = (L.filter fun w => decide (f v w ≠ 0)).map fun w => (w, f v w) := fun L => by
      induction L with
      | nil => intro _; rfl
      | cons x L ih =>
        intro h
        rw [List.flatMap_cons, ih (fun u m => h u (List.mem_cons_of_mem _ m)), if_pos (h x List.mem_cons_self), List.filter_cons]
        by_cases h0 : f v x = 0
        · rw [if_pos h0, if_neg (by simp [h0])]; rfl
        · rw [if_neg h0, if_pos (decide_eq_true h0)]; rfl
    exact this _ fun u hu => by rw [mem_rngI] at hu; omega
  have a2 : (rngI (v + 1) (Int.toNat (n - (v + 1)))).flatMap (fun u => if u < v then (if f v u = 0 then [] else [(u, f v u)]) else if u = v then ((rngI (v + 1) (Int.toNat (n - (v + 1)))).filter fun w => decide (f v w ≠ 0)).map (fun w => (w, f v w)) else []) = [] := by
    rw [List.flatMap_eq_nil_iff]
    intro u hu
    rw [mem_rngI] at hu
    rw [if_neg (by omega), if_neg (by omega)]
  rw [s1, List.flatMap_append, List.flatMap_cons, a1, a2, if_neg (by omega), if_pos rfl, List.append_nil]
  unfold near
  rw [s1, List.filter_append, List.map_append, List.filter_cons, if_neg (by simp [G.diag])]
theorem near_sorted (v : Int) : (near n f v).Pairwise fun x y => x.1 < y.1 := by
  unfold near
  rw [List.pairwise_map]
  refine List.Pairwise.filter _ ?_
  unfold rngI
  rw [List.pairwise_map]
  exact List.pairwise_lt_range.imp fun {a b} h => by show (0 : Int) + a < 0 + b; omega
theorem ties_len : (tiesF n f).length ≤ n * n := flatMap_len n
theorem tied_to_eq (G : Good p f) (hn : n ≤ 1000) {v : Int} (v0 : 0 ≤ v) (v1 : v < n) : g_tied_to (webF p n f) v ∧ m_tied_to (webF p n f) v = near n f v := by
  have hl := ties_len (n := n) (f := f)
  have hb : n * n ≤ 1000 * 1000 := Nat.mul_le_mul hn hn
  obtain ⟨h1, h2⟩ := tied_fold v (tiesF n f) [] (by simp only [List.length_nil]; omega)
  rw [List.nil_append, tied_eq G v0 v1] at h2
  constructor
  · refine ⟨h1, ?_⟩
    show g_tied_to_6 (List.foldl (fun a q => m_tied_to_5 v a q) [] (tiesF n f))
    rw [h2]
    exact ⟨sortOk2 _, fun x _ => by show max 0 (max 0 0) + 1 ≤ 60; decide⟩
  · show m_tied_to_6 (List.foldl (fun a q => m_tied_to_5 v a q) [] (tiesF n f)) = _
    rw [h2]
    exact sortD_id (near_sorted v)
end
end L2.Ev

set_option Elab.async false
set_option linter.all false
set_option maxRecDepth 100000
/-! Wm5: turned and scaled webs. -/
namespace L2.Ev
open PySem PySem.Spec PyProof.Rows PySem.W
def turnF (p v c : Int) (f : Int → Int → Int) : Int → Int → Int := fun a b => if a = b then 0 else (f a b + c * f v a * f v b) % p
def scaleF (p v s : Int) (f : Int → Int → Int) : Int → Int → Int := fun a b => if a = v ∨ b = v then (f a b * s) % p else f a b
section
variable {p : Int} {n : Nat} {f g : Int → Int → Int}
theorem Good.turn (G : Good p f) (hp : 2 ≤ p) (v c : Int) : Good p (turnF p v c f) := by
  refine ⟨fun a b => ?_, fun a => ?_, fun a b => ?_, fun a b => ?_⟩
  · unfold turnF
    by_cases h : a = b
    · subst h; rfl
    · rw [if_neg h, if_neg (fun z => h z.symm), G.sym b a, Int.mul_right_comm]
  · unfold turnF; rw [if_pos rfl]
  · unfold turnF; split
    · exact Int.le_refl _
    · exact Int.emod_nonneg _ (by omega)
  · unfold turnF; split
    · omega
    · exact Int.emod_lt_of_pos _ (by omega)
theorem Good.scale (G : Good p f) (hp : 2 ≤ p) (v s : Int) : Good p (scaleF p v s f) := by
  refine ⟨fun a b => ?_, fun a => ?_, fun a b => ?_, fun a b => ?_⟩
  · unfold scaleF
    by_cases h : a = v ∨ b = v
    · rw [if_pos h, if_pos h.symm, G.sym]
    · rw [if_neg h, if_neg (fun z => h z.symm), G.sym]
  · unfold scaleF; rw [G.diag]; simp
  · unfold scaleF; split
    · exact Int.emod_nonneg _ (by omega)
    · exact G.lo a b
  · unfold scaleF; split
    · exact Int.emod_lt_of_pos _ (by omega)
    · exact G.hi a b
theorem mem_near {v : Int} {y : Int × Int} : y ∈ near n f v ↔ 0 ≤ y.1 ∧ y.1 < n ∧ y.2 = f v y.1 ∧ y.2 ≠ 0 := by
  unfold near
  rw [List.mem_map]
  constructor
  · rintro ⟨w, h, rfl⟩
    rw [List.mem_filter, mem_rngI] at h
    exact ⟨h.1.1, by show w < n; omega, rfl, of_decide_eq_true h.2⟩
  · rintro ⟨h1, h2, h3, h4⟩
    refine ⟨y.1, ?_, by rw [← h3]⟩
    rw [List.mem_filter, mem_rngI]
    exact ⟨⟨h1, by omega⟩, decide_eq_true (by rw [← h3]; exact h4)⟩
theorem near_new {v : Int} {P s : List (Int × Int)} {x : Int × Int} (h : P ++ x :: s = near n f v) : ∀ y ∈ P, y.1 ≠ x.1 := fun y m => by
  have := near_sorted (n := n) (f := f) v
  rw [← h, List.pairwise_append] at this
  have := this.2.2 y m x List.mem_cons_self
  omega
/-- row u behind the items P -/
def innF (p v c : Int) (f g : Int → Int → Int) (y : Int × Int) (P : List (Int × Int)) : Int → Int → Int := fun a b => if a = y.1 ∧ y.1 ≠ b ∧ ∃ z ∈ P, z.1 = b then (f a b + c * f v a * f v b) % p else g a b
theorem turn_inner (G : Good p f) (hp : 2 ≤ p) (hp2 : p ≤ 1000) {v c : Int} {web : Web} (hw : web.a = p) {y : Int × Int} (hy : y ∈ near n f v) (hg : ∀ b, g y.1 b = f y.1 b) :
    FG (fun r q => g_turned_6 web c y r q) (fun r q => m_turned_6 web c y r q) (near n f v) (Tab n g) ∧ (near n f v).foldl (fun r q => m_turned_6 web c y r q) (Tab n g) = Tab n (innF p v c f g y (near n f v)) := by
  obtain ⟨y0, y1, y2, _⟩ := mem_near.mp hy
  have key := fold_list (P := fun r q => g_turned_6 web c y r q) (f := fun r q => m_turned_6 web c y r q) (fun P r => r = Tab n (innF p v c f g y P)) (near n f v) [] (n0 := Tab n g) (Tab_congr fun a b _ _ _ _ => by
    unfold innF
    rw [if_neg]
    rintro ⟨_, _, z, m, _⟩; cases m) (fun P x r ⟨s, hs⟩ hr => by
      subst hr
      rw [List.nil_append] at hs
      have hx : x ∈ near n f v := by rw [← hs]; simp
      obtain ⟨x0, x1, x2, _⟩ := mem_near.mp hx
      have hnew := near_new hs
      by_cases hyx : y.1 = x.1
      · refine ⟨⟨fun z => absurd (of_decide_eq_true z) (by simp [hyx]), fun _ => trivial⟩, ?_⟩
        show (if decide (y.1 ≠ x.1) = true then m_turned_4 web c y _ x else m_turned_5 _) = _
        rw [if_neg (by simp [hyx])]
        show Tab n _ = _
        refine Tab_congr fun a b _ _ _ _ => ?_
        unfold innF
        by_cases h1 : a = y.1 ∧ y.1 ≠ b ∧ ∃ z ∈ P, z.1 = b
        · rw [if_pos h1, if_pos ⟨h1.1, h1.2.1, let ⟨z, m, e⟩ := h1.2.2; ⟨z, List.mem_append_left _ m, e⟩⟩]
        · rw [if_neg h1, if_neg]
          rintro ⟨a1, a2, z, m, e⟩
          rcases List.mem_append.mp m with m | m
          · exact h1 ⟨a1, a2, z, m, e⟩
          · rw [List.mem_singleton.mp m] at e
            exact a2 (hyx.trans e)
      · have val : getI (getI (Tab n (innF p v c f g y P)) y.1) x.1 = f y.1 x.1 := by
          rw [Tab_get y0 y1 x0 x1]
          unfold innF
          rw [if_neg, hg]
          rintro ⟨_, _, z, m, e⟩
          exact hnew z m e
        have b1 := G.lo v y.1
        have b2 := G.hi v y.1
        have b3 := G.lo v x.1
        have b4 := G.hi v x.1
        refine ⟨⟨fun _ => ⟨Tab_inB y0 y1, Tab_inBrow y0 y1 x0 x1, .inr ⟨by rw [y2]; omega, by rw [y2]; omega⟩, .inr ⟨by rw [x2]; omega, by rw [x2]; omega⟩, by rw [hw]; omega, Tab_inB2 y0 y1 x0 x1, trivial⟩, fun _ => trivial⟩, ?_⟩
        show (if decide (y.1 ≠ x.1) = true then m_turned_4 web c y _ x else m_turned_5 _) = _
        rw [if_pos (decide_eq_true hyx)]
        show setAt2 (Tab n _) y.1 x.1 ((getI (getI (Tab n (innF p v c f g y P)) y.1) x.1 + c * y.2 * x.2) % web.a) = _
        rw [Tab_set y0 y1 x0 x1, val, hw, y2, x2]
        refine Tab_congr fun a b _ _ _ _ => ?_
        unfold up2 innF
        by_cases h0 : a = y.1 ∧ b = x.1
        · rw [if_pos h0, if_pos ⟨h0.1, by rw [h0.2]; exact hyx, x, by simp, h0.2.symm⟩, h0.1, h0.2]
        · rw [if_neg h0]
          by_cases h1 : a = y.1 ∧ y.1 ≠ b ∧ ∃ z ∈ P, z.1 = b
          · rw [if_pos h1, if_pos ⟨h1.1, h1.2.1, let ⟨z, m, e⟩ := h1.2.2; ⟨z, List.mem_append_left _ m, e⟩⟩]
          · rw [if_neg h1, if_neg]
            rintro ⟨a1, a2, z, m, e⟩
            rcases List.mem_append.mp m with m | m
            · exact h1 ⟨a1, a2, z, m, e⟩
            · rw [List.mem_singleton.mp m] at e
              exact h0 ⟨a1, e.symm⟩)
  rw [List.nil_append] at key
  exact key
def outF (p v c : Int) (n : Nat) (f : Int → Int → Int) (P : List (Int × Int)) : Int → Int → Int := fun a b => if (∃ z ∈ P, z.1 = a) ∧ a ≠ b ∧ ∃ z ∈ near n f v, z.1 = b then (f a b + c * f v a * f v b) % p else f a b
theorem turn_outer (G : Good p f) (hp : 2 ≤ p) (hp2 : p ≤ 1000) {v c : Int} {web : Web} (hw : web.a = p) :
    FG (fun r q => g_turned_8 web c (Tab n f, near n f v) r q) (fun r q => m_turned_8 web c (Tab n f, near n f v) r q) (near n f v) (Tab n f) ∧ (near n f v).foldl (fun r q => m_turned_8 web c (Tab n f, near n f v) r q) (Tab n f) = Tab n (outF p v c n f (near n f v)) := by
  have key := fold_list (P := fun r q => g_turned_8 web c (Tab n f, near n f v) r q) (f := fun r q => m_turned_8 web c (Tab n f, near n f v) r q) (fun P r => r = Tab n (outF p v c n f P)) (near n f v) [] (n0 := Tab n f) (Tab_congr fun a b _ _ _ _ => by
    unfold outF
    rw [if_neg]
    rintro ⟨⟨z, m, _⟩, _⟩; cases m) (fun P y r ⟨s, hs⟩ hr => by
      subst hr
      rw [List.nil_append] at hs
      have hy : y ∈ near n f v := by rw [← hs]; simp
      have hnew := near_new hs
      obtain ⟨k1, k2⟩ := turn_inner (g := outF p v c n f P) G hp hp2 (c := c) hw hy (fun b => by
        unfold outF
        rw [if_neg]
        rintro ⟨⟨z, m, e⟩, _⟩
        exact hnew z m e)
      refine ⟨⟨k1, trivial⟩, ?_⟩
      show List.foldl (fun r q => m_turned_6 web c y r q) (Tab n (outF p v c n f P)) (near n f v) = _
      rw [k2]
      refine Tab_congr fun a b _ _ _ _ => ?_
      unfold innF outF
      by_cases h1 : a = y.1 ∧ y.1 ≠ b ∧ ∃ z ∈ near n f v, z.1 = b
      · rw [if_pos h1, if_pos ⟨⟨y, by simp, h1.1.symm⟩, by rw [h1.1]; exact h1.2.1, h1.2.2⟩]
      · rw [if_neg h1]
        by_cases h2 : (∃ z ∈ P, z.1 = a) ∧ a ≠ b ∧ ∃ z ∈ near n f v, z.1 = b
        · rw [if_pos h2, if_pos ⟨let ⟨z, m, e⟩ := h2.1; ⟨z, List.mem_append_left _ m, e⟩, h2.2⟩]
        · rw [if_neg h2, if_neg]
          rintro ⟨⟨z, m, e⟩, q1, q2⟩
          rcases List.mem_append.mp m with m | m
          · exact h2 ⟨⟨z, m, e⟩, q1, q2⟩
          · rw [List.mem_singleton.mp m] at e
            exact h1 ⟨e.symm, by rw [e]; exact q1, q2⟩)
  rw [List.nil_append] at key
  exact key
theorem out_turn (G : Good p f) (hp : 2 ≤ p) {v c : Int} : Tab n (outF p v c n f (near n f v)) = Tab n (turnF p v c f) := by
  refine Tab_congr fun a b a0 a1 b0 b1 => ?_
  unfold outF turnF
  have hm : (f a b) % p = f a b := Int.emod_eq_of_lt (G.lo a b) (G.hi a b)
  by_cases hab : a = b
  · subst hab
    rw [if_pos rfl, if_neg (fun z => z.2.1 rfl), G.diag]
  · rw [if_neg hab]
    by_cases h : (∃ z ∈ near n f v, z.1 = a) ∧ a ≠ b ∧ ∃ z ∈ near n f v, z.1 = b
    · rw [if_pos h]
    · rw [if_neg h]
      have hz : f v a = 0 ∨ f v b = 0 := by
        by_cases z1 : f v a = 0
        · exact .inl z1
        · by_cases z2 : f v b = 0
          · exact .inr z2
          · exact absurd ⟨⟨(a, f v a), mem_near.mpr ⟨a0, a1, rfl, z1⟩, rfl⟩, hab, ⟨(b, f v b), mem_near.mpr ⟨b0, b1, rfl, z2⟩, rfl⟩⟩ h
      rcases hz with z | z <;> rw [z] <;> simp [hm]
end
end L2.Ev

set_option Elab.async false
set_option linter.all false
set_option maxRecDepth 100000
/-! Wm6: moves of webs, by the program and by the law. -/
namespace L2.Ev
open PySem PySem.Spec PyProof.Rows PySem.W
section
variable {p : Int} {n : Nat} {f g : Int → Int → Int}
theorem web_of1 (p : Int) (t : List (List Int)) : m_web_of_1 p t = m_web_of p t := rfl
theorem gweb_of1 (p : Int) (t : List (List Int)) : g_web_of_1 p t = g_web_of p t := rfl
theorem turned_eq (G : Good p f) (hp : 2 ≤ p) (hp2 : p ≤ 1000) (hn : n ≤ 1000) {v c : Int} (v0 : 0 ≤ v) (v1 : v < n) : g_turned (webF p n f) v c ∧ m_turned (webF p n f) v c = webF p n (turnF p v c f) := by
  obtain ⟨t1, t2⟩ := table_of_eq (n := n) G hn
  obtain ⟨n1, n2⟩ := tied_to_eq (n := n) G hn v0 v1
  obtain ⟨k1, k2⟩ := turn_outer (n := n) (v := v) (c := c) G hp hp2 (web := webF p n f) rfl
  obtain ⟨w1, w2⟩ := web_of_eq (p := p) (n := n) (f := turnF p v c f) hn
  have e : (List.map (fun (q : List Int) => q) (m_table_of (webF p n f)), m_tied_to (webF p n f) v) = (Tab n f, near n f v) := by rw [t2, n2]; simp
  constructor
  · refine ⟨t1, n1, ?_⟩
    show g_turned_10 _ c (List.map (fun (q : List Int) => q) (m_table_of (webF p n f)), m_tied_to (webF p n f) v)
    rw [e]
    refine ⟨k1, ?_⟩
    show g_web_of_1 p (List.foldl (fun r q => m_turned_8 (webF p n f) c (Tab n f, near n f v) r q) (Tab n f) (near n f v))
    rw [k2, out_turn G hp, gweb_of1]
    exact w1
  · show m_turned_10 _ c (List.map (fun (q : List Int) => q) (m_table_of (webF p n f)), m_tied_to (webF p n f) v) = _
    rw [e]
    show m_web_of_1 p (List.foldl (fun r q => m_turned_8 (webF p n f) c (Tab n f, near n f v) r q) (Tab n f) (near n f v)) = _
    rw [k2, out_turn G hp, web_of1]
    exact w2
/-- s takes no weight away -/
def Unit' (p s : Int) : Prop := ∀ x, 0 < x → x < p → (x * s) % p ≠ 0
theorem scaled_eq (G : Good p f) (hp : 2 ≤ p) (hp2 : p ≤ 1000) {v s : Int} (hs : Unit' p s) : g_scaled (webF p n f) v s ∧ m_scaled (webF p n f) v s = webF p n (scaleF p v s f) := by
  constructor
  · intro t ht _
    obtain ⟨_, _, _, e, _⟩ := mem_tiesF.mp (show t ∈ tiesF n f from ht)
    have b1 := G.lo t.a t.b
    have b2 := G.hi t.a t.b
    exact ⟨.inl ⟨by rw [e]; omega, by rw [e]; omega⟩, by show 0 < p; omega⟩
  · show (T3.mk p (n : Int) _ : Web) = T3.mk p (n : Int) _
    congr 1
    show List.map _ (tiesF n f) = tiesF n _
    unfold tiesF
    rw [List.map_flatMap, List.flatMap_def, List.flatMap_def]
    congr 1
    refine List.map_congr_left fun u _ => ?_
    unfold rowT
    rw [List.map_map]
    have e1 : ∀ w, (scaleF p v s f u w ≠ 0) ↔ f u w ≠ 0 := fun w => by
      unfold scaleF
      by_cases h : u = v ∨ w = v
      · rw [if_pos h]
        constructor
        · intro h1 h2; rw [h2] at h1; simp at h1
        · intro h1
          have := G.lo u w
          exact hs _ (by omega) (G.hi u w)
      · rw [if_neg h]
    have e2 : (rngI (u + 1) (Int.toNat (n - (u + 1)))).filter (fun w => decide (scaleF p v s f u w ≠ 0)) = (rngI (u + 1) (Int.toNat (n - (u + 1)))).filter (fun w => decide (f u w ≠ 0)) := by
      apply List.filter_congr
      intro w _
      exact decide_eq_decide.mpr (e1 w)
    rw [e2]
    refine List.map_congr_left fun w _ => ?_
    show (T3.mk u w (if mem v [u, w] = true then (f u w * s) % p else f u w) : Tie) = T3.mk u w (scaleF p v s f u w)
    congr 1
    unfold scaleF
    by_cases h : u = v ∨ w = v
    · rw [if_pos h, if_pos (mem_two.mpr (h.imp Eq.symm Eq.symm))]
    · rw [if_neg h, if_neg (fun z => h ((mem_two.mp z).imp Eq.symm Eq.symm))]
/-! ### the law's web of rows -/
theorem enumL_rng {α : Type} (k : Nat) (h : Int → α) : enumL ((rngI 0 k).map h) = (rngI 0 k).map fun i => (i, h i) := by
  unfold enumL
  apply List.ext_getElem?
  intro i
  rw [List.getElem?_mapIdx, List.getElem?_map, List.getElem?_map]
  by_cases c : i < k
  · rw [rngI_get c]
    show some ((i : Int), h (0 + (i : Int))) = some (0 + (i : Int), h (0 + (i : Int)))
    rw [Int.zero_add]
  · rw [List.getElem?_eq_none (by rw [rngI_length]; omega)]; rfl
theorem lrow_eq {u : Int} (u0 : 0 ≤ u) (u1 : u < n) : (List.filter (fun (q : Int × Int) => (decide (u < q.1) && decide (q.2 ≠ (0 : Int)))) (enumL ((rngI 0 n).map fun v => f u v))).map (fun q => (T3.mk u q.1 q.2 : Tie)) = rowT n f u := by
  rw [enumL_rng, List.filter_map, List.map_map]
  unfold rowT
  have s1 : rngI 0 n = rngI 0 (u + 1).toNat ++ rngI (u + 1) (Int.toNat (n - (u + 1))) := by
    have := rngI_split (a := 0) (b := u + 1) (c := n) (by omega) (by omega)
    rw [show ((n : Int) - 0).toNat = n by omega, show (u + 1 - 0).toNat = (u + 1).toNat by omega] at this
    exact this
  rw [s1, List.filter_append]
  have e1 : (rngI 0 (u + 1).toNat).filter ((fun (q : Int × Int) => (decide (u < q.1) && decide (q.2 ≠ (0 : Int)))) ∘ fun i => (i, f u i)) = [] := by
    rw [List.filter_eq_nil_iff]
    intro w hw
    rw [mem_rngI] at hw
    simp only [Function.comp]
    rw [decide_eq_false (by omega)]; simp
  have e2 : (rngI (u + 1) (Int.toNat (n - (u + 1)))).filter ((fun (q : Int × Int) => (decide (u < q.1) && decide (q.2 ≠ (0 : Int)))) ∘ fun i => (i, f u i)) = (rngI (u + 1) (Int.toNat (n - (u + 1)))).filter fun w => decide (f u w ≠ 0) := by
    apply List.filter_congr
    intro w hw
    rw [mem_rngI] at hw
    simp only [Function.comp]
    rw [decide_eq_true (show u < w by omega), Bool.true_and]
  rw [e1, e2, List.nil_append]; rfl
theorem lweb_of_eq (hn : n ≤ 1000) : g__law_web_of p (Tab n f) ∧ m__law_web_of p (Tab n f) = webF p n f := by
  have e0 : enumL (List.map Row.mk (Tab n f)) = (rngI 0 n).map fun u => (u, Row.mk ((rngI 0 n).map fun v => f u v)) := by
    unfold Tab
    rw [List.map_map, enumL_rng]; rfl
  have key := fold_rng (P := fun ts u => g__law_web_of_3 ts (u, Row.mk ((rngI 0 n).map fun v => f u v))) (f := fun ts u => m__law_web_of_3 ts (u, Row.mk ((rngI 0 n).map fun v => f u v))) (lo := 0)
    (fun i ts => ts = (rngI 0 i.toNat).flatMap (rowT n f)) n (n0 := []) rfl (fun i ts h0 h1 hI => by
      subst hI
      have hr := lrow_eq (f := f) h0 (show i < n by omega)
      have hl := flatMap_len (n := n) (f := f) i.toNat
      have hl2 := rowT_length (n := n) (f := f) i h0
      have hb : i.toNat * n ≤ 1000 * 1000 := Nat.mul_le_mul (by omega) hn
      refine ⟨⟨?_, trivial⟩, ?_⟩
      · show ((((rngI 0 i.toNat).flatMap (rowT n f)).length : Nat) : Int) + (((List.filter (fun (q : Int × Int) => (decide (i < q.1) && decide (q.2 ≠ (0 : Int)))) (enumL ((rngI 0 n).map fun v => f i v))).map (fun q => (T3.mk i q.1 q.2 : Tie))).length : Nat) ≤ 16777216
        rw [hr]; omega
      · show _ ++ (List.filter (fun (q : Int × Int) => (decide (i < q.1) && decide (q.2 ≠ (0 : Int)))) (enumL ((rngI 0 n).map fun v => f i v))).map (fun q => (T3.mk i q.1 q.2 : Tie)) = _
        rw [hr, rngI_snoc h0, List.flatMap_append]
        simp)
  obtain ⟨k1, k2⟩ := key
  have fgm : ∀ (L : List Int) (ts : List Tie), FG (fun ts u => g__law_web_of_3 ts (u, Row.mk ((rngI 0 n).map fun v => f u v))) (fun ts u => m__law_web_of_3 ts (u, Row.mk ((rngI 0 n).map fun v => f u v))) L ts → FG (fun ts q => g__law_web_of_3 ts q) (fun ts q => m__law_web_of_3 ts q) (L.map fun u => (u, Row.mk ((rngI 0 n).map fun v => f u v))) ts := fun L => by
    induction L with
    | nil => intro ts _; trivial
    | cons x L ih => intro ts h; exact ⟨h.1, ih _ h.2⟩
  constructor
  · refine ⟨?_, trivial⟩
    rw [e0]; exact fgm _ _ k1
  · show (T3.mk p ((Tab n f).length : Int) _ : Web) = T3.mk p (n : Int) _
    rw [Tab_length, e0, List.foldl_map]
    congr 1
    unfold tiesF
    rw [show (0 : Int) + (n : Int) = (n : Int) by omega, Int.toNat_natCast] at k2
    exact k2
end
end L2.Ev

set_option Elab.async false
set_option linter.all false
set_option maxRecDepth 100000
/-! Wm7: the law's moved webs. -/
namespace L2.Ev
open PySem PySem.Spec PyProof.Rows PySem.W
abbrev Mv := T3 Str Int Int
abbrev sTurn : Str := "turn"
abbrev sScale : Str := "scale"
theorem ts_ne : sTurn ≠ sScale := by decide
/-- a move that is let -/
structure MvOk (p : Int) (n : Nat) (m : Mv) : Prop where
  word : m.a = sTurn ∨ m.a = sScale
  v0 : 0 ≤ m.b
  v1 : m.b < n
  c0 : 1 ≤ m.c
  c1 : m.c < p
/-- weights behind a move -/
def actF (p : Int) (m : Mv) (f : Int → Int → Int) : Int → Int → Int := if m.a = sTurn then turnF p m.b m.c f else scaleF p m.b m.c f
def lawF (p : Int) (m : Mv) (f : Int → Int → Int) : Int → Int → Int := fun a b => if m.a = sTurn then (if a ≠ b ∧ ¬ (m.b = a ∨ m.b = b) then (f a b + m.c * f a m.b * f m.b b) % p else f a b) else (if m.b = a ∨ m.b = b then (f a b * m.c) % p else f a b)
section
variable {p : Int} {n : Nat} {f g : Int → Int → Int} {m : Mv}
theorem law_act (G : Good p f) : Tab n (lawF p m f) = Tab n (actF p m f) := by
  refine Tab_congr fun a b _ _ _ _ => ?_
  unfold lawF actF
  by_cases hw : m.a = sTurn
  · rw [if_pos hw, if_pos hw]
    unfold turnF
    have hm : (f a b) % p = f a b := Int.emod_eq_of_lt (G.lo a b) (G.hi a b)
    by_cases h : a = b
    · subst h
      rw [if_neg (fun z => z.1 rfl), if_pos rfl, G.diag]
    · rw [if_neg h]
      by_cases h2 : m.b = a ∨ m.b = b
      · rw [if_neg (fun z => z.2 h2)]
        rcases h2 with h2 | h2
        · rw [h2, G.diag a]; simp [hm]
        · rw [h2, G.diag b]; simp [hm]
      · rw [if_pos ⟨h, h2⟩, G.sym a m.b]
  · rw [if_neg hw, if_neg hw]
    unfold scaleF
    by_cases h2 : m.b = a ∨ m.b = b
    · rw [if_pos h2, if_pos (h2.imp Eq.symm Eq.symm)]
    · rw [if_neg h2, if_neg (fun z => h2 (z.imp Eq.symm Eq.symm))]
theorem lmoved_step (G : Good p f) (hp : 2 ≤ p) (hp2 : p ≤ 1000) (M : MvOk p n m) {u x : Int} (u0 : 0 ≤ u) (u1 : u < n) (x0 : 0 ≤ x) (x1 : x < n) (hg : g u x = f u x) :
    g__law_moved_11 m (p, Tab n f) u (Tab n g) x ∧ m__law_moved_11 m (p, Tab n f) u (Tab n g) x = Tab n (up2 g u x (lawF p m f u x)) := by
  have id1 : Tab n g = Tab n (up2 g u x (f u x)) := Tab_congr fun a b _ _ _ _ => by
    unfold up2
    by_cases h : a = u ∧ b = x
    · rw [if_pos h, h.1, h.2, hg]
    · rw [if_neg h]
  obtain ⟨hw, v0, v1, c0, c1⟩ := M
  have b1 := G.lo u m.b
  have b2 := G.hi u m.b
  have b3 := G.lo m.b x
  have b4 := G.hi m.b x
  have b5 := G.lo u x
  have b6 := G.hi u x
  rcases hw with hw | hw
  · -- turn
    have ns : (decide (m.a = sScale) && mem m.b [u, x]) = false := by rw [decide_eq_false (fun z => ts_ne (hw.symm.trans z))]; rfl
    by_cases hc : u ≠ x ∧ ¬ (m.b = u ∨ m.b = x)
    · have cc : (decide (m.a = sTurn) && (decide (u ≠ x) && (!mem m.b [u, x]))) = true := by
        rw [decide_eq_true hw, decide_eq_true hc.1]
        have : mem m.b [u, x] = false := by
          cases q : mem m.b [u, x] with
          | false => rfl
          | true => exact absurd (mem_two.mp q) hc.2
        rw [this]; rfl
      have e5 : m__law_moved_5 m (p, Tab n f) u (Tab n g) x = Tab n (up2 g u x (lawF p m f u x)) := by
        show setAt2 (Tab n g) u x ((getI (getI (Tab n f) u) x + m.c * getI (getI (Tab n f) u) m.b * getI (getI (Tab n f) m.b) x) % p) = _
        rw [Tab_set u0 u1 x0 x1, Tab_get u0 u1 x0 x1, Tab_get u0 u1 v0 v1, Tab_get v0 v1 x0 x1]
        unfold lawF
        rw [if_pos hw, if_pos hc]
      have g5 : g__law_moved_5 m (p, Tab n f) u (Tab n g) x := by
        refine ⟨Tab_inB u0 u1, Tab_inBrow u0 u1 x0 x1, Tab_inB u0 u1, Tab_inBrow u0 u1 v0 v1, .inl ⟨by omega, by omega⟩, Tab_inB v0 v1, Tab_inBrow v0 v1 x0 x1, .inr ?_, by show 0 < p; omega, Tab_inB2 u0 u1 x0 x1, trivial⟩
        show -(2 ^ 64) < getI (getI (Tab n f) m.b) x ∧ getI (getI (Tab n f) m.b) x < 2 ^ 64
        rw [Tab_get v0 v1 x0 x1]; omega
      have e11 : (if (decide (m.a = sTurn) && (decide (u ≠ x) && (!mem m.b [u, x]))) = true then m__law_moved_5 m (p, Tab n f) u (Tab n g) x else m__law_moved_6 (Tab n g)) = Tab n (up2 g u x (lawF p m f u x)) := by rw [if_pos cc, e5]
      constructor
      · refine ⟨fun _ => g5, fun _ => trivial, ?_⟩
        show g__law_moved_10 m (p, Tab n f) u x (if (decide (m.a = sTurn) && (decide (u ≠ x) && (!mem m.b [u, x]))) = true then m__law_moved_5 m (p, Tab n f) u (Tab n g) x else m__law_moved_6 (Tab n g))
        exact ⟨(fun z => by rw [ns] at z; cases z), fun _ => trivial⟩
      · show m__law_moved_10 m (p, Tab n f) u x (if (decide (m.a = sTurn) && (decide (u ≠ x) && (!mem m.b [u, x]))) = true then m__law_moved_5 m (p, Tab n f) u (Tab n g) x else m__law_moved_6 (Tab n g)) = _
        rw [e11]
        show (if (decide (m.a = sScale) && mem m.b [u, x]) = true then _ else m__law_moved_9 _) = _
        rw [if_neg (by rw [ns]; exact Bool.false_ne_true)]; rfl
    · have cc : ¬ (decide (m.a = sTurn) && (decide (u ≠ x) && (!mem m.b [u, x]))) = true := by
        intro z
        rw [Bool.and_eq_true, Bool.and_eq_true, Bool.not_eq_true'] at z
        exact hc ⟨of_decide_eq_true z.2.1, fun q => by rw [mem_two.mpr q] at z; exact absurd z.2.2 (by simp)⟩
      have el : lawF p m f u x = f u x := by unfold lawF; rw [if_pos hw, if_neg hc]
      constructor
      · refine ⟨fun z => absurd z cc, fun _ => trivial, ?_⟩
        show g__law_moved_10 m (p, Tab n f) u x (if (decide (m.a = sTurn) && (decide (u ≠ x) && (!mem m.b [u, x]))) = true then m__law_moved_5 m (p, Tab n f) u (Tab n g) x else m__law_moved_6 (Tab n g))
        exact ⟨(fun z => by rw [ns] at z; cases z), fun _ => trivial⟩
      · show m__law_moved_10 m (p, Tab n f) u x (if (decide (m.a = sTurn) && (decide (u ≠ x) && (!mem m.b [u, x]))) = true then m__law_moved_5 m (p, Tab n f) u (Tab n g) x else m__law_moved_6 (Tab n g)) = _
        rw [if_neg cc]
        show (if (decide (m.a = sScale) && mem m.b [u, x]) = true then _ else m__law_moved_9 _) = _
        rw [if_neg (by rw [ns]; exact Bool.false_ne_true), el, ← id1]; rfl
  · -- scale
    have hnt : m.a ≠ sTurn := fun z => ts_ne (z.symm.trans hw)
    have cc : ¬ (decide (m.a = sTurn) && (decide (u ≠ x) && (!mem m.b [u, x]))) = true := by
      rw [decide_eq_false hnt]; exact Bool.false_ne_true
    have e6 : (if (decide (m.a = sTurn) && (decide (u ≠ x) && (!mem m.b [u, x]))) = true then m__law_moved_5 m (p, Tab n f) u (Tab n g) x else m__law_moved_6 (Tab n g)) = Tab n g := by rw [if_neg cc]; rfl
    by_cases hc : m.b = u ∨ m.b = x
    · have ns : (decide (m.a = sScale) && mem m.b [u, x]) = true := by rw [decide_eq_true hw, mem_two.mpr hc]; rfl
      have el : lawF p m f u x = (f u x * m.c) % p := by unfold lawF; rw [if_neg hnt, if_pos hc]
      constructor
      · refine ⟨fun z => absurd z cc, fun _ => trivial, ?_⟩
        show g__law_moved_10 m (p, Tab n f) u x (if (decide (m.a = sTurn) && (decide (u ≠ x) && (!mem m.b [u, x]))) = true then m__law_moved_5 m (p, Tab n f) u (Tab n g) x else m__law_moved_6 (Tab n g))
        rw [e6]
        refine ⟨fun _ => ⟨Tab_inB u0 u1, Tab_inBrow u0 u1 x0 x1, .inr ⟨by omega, by omega⟩, by show 0 < p; omega, Tab_inB2 u0 u1 x0 x1, trivial⟩, fun _ => trivial⟩
      · show m__law_moved_10 m (p, Tab n f) u x (if (decide (m.a = sTurn) && (decide (u ≠ x) && (!mem m.b [u, x]))) = true then m__law_moved_5 m (p, Tab n f) u (Tab n g) x else m__law_moved_6 (Tab n g)) = _
        rw [e6]
        show (if (decide (m.a = sScale) && mem m.b [u, x]) = true then m__law_moved_8 m (p, Tab n f) u x (Tab n g) else _) = _
        rw [if_pos ns]
        show setAt2 (Tab n g) u x ((getI (getI (Tab n f) u) x * m.c) % p) = _
        rw [Tab_set u0 u1 x0 x1, Tab_get u0 u1 x0 x1, el]
    · have ns : ¬ (decide (m.a = sScale) && mem m.b [u, x]) = true := by
        intro z
        rw [Bool.and_eq_true] at z
        exact hc (mem_two.mp z.2)
      have el : lawF p m f u x = f u x := by unfold lawF; rw [if_neg hnt, if_neg hc]
      constructor
      · refine ⟨fun z => absurd z cc, fun _ => trivial, ?_⟩
        show g__law_moved_10 m (p, Tab n f) u x (if (decide (m.a = sTurn) && (decide (u ≠ x) && (!mem m.b [u, x]))) = true then m__law_moved_5 m (p, Tab n f) u (Tab n g) x else m__law_moved_6 (Tab n g))
        exact ⟨fun z => absurd z ns, fun _ => trivial⟩
      · show m__law_moved_10 m (p, Tab n f) u x (if (decide (m.a = sTurn) && (decide (u ≠ x) && (!mem m.b [u, x]))) = true then m__law_moved_5 m (p, Tab n f) u (Tab n g) x else m__law_moved_6 (Tab n g)) = _
        rw [e6]
        show (if (decide (m.a = sScale) && mem m.b [u, x]) = true then _ else m__law_moved_9 _) = _
        rw [if_neg ns, el, ← id1]; rfl
theorem lmoved_eq (G : Good p f) (hp : 2 ≤ p) (hp2 : p ≤ 1000) (hn : n ≤ 1000) (M : MvOk p n m) : g__law_moved (webF p n f) m ∧ m__law_moved (webF p n f) m = webF p n (actF p m f) := by
  obtain ⟨t1, t2⟩ := ltable_eq (n := n) G hn
  have inner : ∀ u : Int, 0 ≤ u → u < n → FG (fun r q => g__law_moved_11 m (p, Tab n f) u r q) (fun r q => m__law_moved_11 m (p, Tab n f) u r q) (rngI 0 n) (Tab n fun a b => if a < u then lawF p m f a b else f a b) ∧
      (rngI 0 n).foldl (fun r q => m__law_moved_11 m (p, Tab n f) u r q) (Tab n fun a b => if a < u then lawF p m f a b else f a b) = Tab n fun a b => if a < u + 1 then lawF p m f a b else f a b := fun u u0 u1 => by
    obtain ⟨k1, k2⟩ := fold_rng (P := fun r q => g__law_moved_11 m (p, Tab n f) u r q) (f := fun r q => m__law_moved_11 m (p, Tab n f) u r q) (lo := 0)
      (fun x r => r = Tab n fun a b => if a < u ∨ (a = u ∧ b < x) then lawF p m f a b else f a b) n (n0 := Tab n fun a b => if a < u then lawF p m f a b else f a b) (Tab_congr fun a b _ _ b0 _ => by
        by_cases h : a < u
        · rw [if_pos h, if_pos (.inl h)]
        · rw [if_neg h, if_neg (by omega)]) (fun x r x0 x1 hr => by
        subst hr
        obtain ⟨s1, s2⟩ := lmoved_step (g := fun a b => if a < u ∨ (a = u ∧ b < x) then lawF p m f a b else f a b) G hp hp2 M u0 u1 x0 (by omega) (by show (if _ then _ else _) = _; rw [if_neg (by omega)])
        refine ⟨s1, ?_⟩
        rw [s2]
        refine Tab_congr fun a b _ _ _ _ => ?_
        unfold up2
        by_cases h : a = u ∧ b = x
        · rw [if_pos h, if_pos (by omega), h.1, h.2]
        · rw [if_neg h]
          show (if a < u ∨ (a = u ∧ b < x) then lawF p m f a b else f a b) = _
          by_cases h2 : a < u ∨ (a = u ∧ b < x)
          · rw [if_pos h2, if_pos (by omega)]
          · rw [if_neg h2, if_neg (by omega)])
    refine ⟨k1, ?_⟩
    rw [k2]
    refine Tab_congr fun a b _ _ _ b1 => ?_
    by_cases h : a < u + 1
    · rw [if_pos h, if_pos (by omega)]
    · rw [if_neg h, if_neg (by omega)]
  obtain ⟨k1, k2⟩ := fold_rng (P := fun r u => g__law_moved_13 (webF p n f) m (p, Tab n f) r u) (f := fun r u => m__law_moved_13 (webF p n f) m (p, Tab n f) r u) (lo := 0)
    (fun u r => r = Tab n fun a b => if a < u then lawF p m f a b else f a b) n (n0 := Tab n f) (Tab_congr fun a b a0 _ _ _ => by rw [if_neg (by omega)]) (fun u r u0 u1 hr => by
      subst hr
      obtain ⟨s1, s2⟩ := inner u u0 (by omega)
      have en : Int.toNat (webF p n f).b = n := by show Int.toNat (n : Int) = n; simp
      refine ⟨⟨⟨by show -(2 ^ 62) ≤ (n : Int); omega, by show (n : Int) ≤ _; omega⟩, ?_, trivial⟩, ?_⟩
      · rw [en]; exact s1
      · show List.foldl (fun r q => m__law_moved_11 m (p, Tab n f) u r q) _ (rngI 0 (Int.toNat (webF p n f).b)) = _
        rw [en]; exact s2)
  have k3 : List.foldl (fun r u => m__law_moved_13 (webF p n f) m (p, Tab n f) r u) (Tab n f) (rngI 0 n) = Tab n (actF p m f) := by
    rw [k2, ← law_act G]
    refine Tab_congr fun a b _ a1 _ _ => ?_
    rw [if_pos (by omega)]
  have en : Int.toNat (webF p n f).b = n := by show Int.toNat (n : Int) = n; simp
  obtain ⟨w1, w2⟩ := lweb_of_eq (p := p) (n := n) (f := actF p m f) hn
  have em : List.map (fun (q : List Int) => q) (Tab n f) = Tab n f := by simp
  constructor
  · refine ⟨t1, ?_⟩
    show g__law_moved_16 (webF p n f) m (p, m__law_table (webF p n f))
    rw [t2]
    show g__law_moved_15 (webF p n f) m (p, Tab n f) (List.map (fun (q : List Int) => q) (Tab n f))
    rw [em]
    refine ⟨⟨by show -(2 ^ 62) ≤ (n : Int); omega, by show (n : Int) ≤ _; omega⟩, ?_, ?_⟩
    · rw [en]; exact k1
    · show g__law_web_of p (List.foldl (fun r u => m__law_moved_13 (webF p n f) m (p, Tab n f) r u) (Tab n f) (rngI 0 (Int.toNat (webF p n f).b)))
      rw [en, k3]; exact w1
  · show m__law_moved_16 (webF p n f) m (p, m__law_table (webF p n f)) = _
    rw [t2]
    show m__law_moved_15 (webF p n f) m (p, Tab n f) (List.map (fun (q : List Int) => q) (Tab n f)) = _
    rw [em]
    show m__law_web_of p (List.foldl (fun r u => m__law_moved_13 (webF p n f) m (p, Tab n f) r u) (Tab n f) (rngI 0 (Int.toNat (webF p n f).b))) = _
    rw [en, k3]; exact w2
theorem Good.act (G : Good p f) (hp : 2 ≤ p) (m : Mv) : Good p (actF p m f) := by
  unfold actF
  split
  · exact G.turn hp _ _
  · exact G.scale hp _ _
theorem moved_eq (G : Good p f) (hp : 2 ≤ p) (hp2 : p ≤ 1000) (hn : n ≤ 1000) (M : MvOk p n m) (hu : Unit' p m.c) : g_moved (webF p n f) m ∧ m_moved (webF p n f) m = webF p n (actF p m f) := by
  obtain ⟨a1, a2⟩ := turned_eq (n := n) (c := m.c) G hp hp2 hn M.v0 M.v1
  obtain ⟨b1, b2⟩ := scaled_eq (n := n) (v := m.b) G hp hp2 hu
  refine ⟨⟨fun _ => a1, fun _ => b1⟩, ?_⟩
  show (if decide (m.a = sTurn) = true then m_turned (webF p n f) m.b m.c else m_scaled (webF p n f) m.b m.c) = _
  unfold actF
  by_cases h : m.a = sTurn
  · rw [if_pos (decide_eq_true h), if_pos h, a2]
  · rw [if_neg (by simp [h]), if_neg h, b2]
end
end L2.Ev

set_option Elab.async false
set_option linter.all false
set_option maxRecDepth 100000
/-! Wm8: numbers modulo 2, 3, 5, 7; ways back. -/
namespace L2.Ev
open PySem PySem.Spec PyProof.Rows PySem.W
def Pr (p : Int) : Prop := p = 2 ∨ p = 3 ∨ p = 5 ∨ p = 7
theorem Pr.lo {p : Int} (h : Pr p) : 2 ≤ p := by rcases h with rfl | rfl | rfl | rfl <;> decide
theorem Pr.hi {p : Int} (h : Pr p) : p ≤ 7 := by rcases h with rfl | rfl | rfl | rfl <;> decide
theorem unit_ok {p s : Int} (hp : Pr p) (h1 : 1 ≤ s) (h2 : s < p) : Unit' p s := by
  intro x x0 x1 hx
  have h3 := hp.hi
  have hs : s = 1 ∨ s = 2 ∨ s = 3 ∨ s = 4 ∨ s = 5 ∨ s = 6 := by omega
  rcases hp with rfl | rfl | rfl | rfl <;> rcases hs with rfl | rfl | rfl | rfl | rfl | rfl <;> omega
theorem inv_fin : ∀ q ∈ ([(2, 1), (3, 1), (3, 2), (5, 1), (5, 2), (5, 3), (5, 4), (7, 1), (7, 2), (7, 3), (7, 4), (7, 5), (7, 6)] : List (Int × Int)), 0 < (List.filter (fun x : Int => decide ((q.2 * x) % q.1 = 1)) (rngI 1 (Int.toNat (q.1 - 1)))).length ∧ 1 ≤ m_inverse q.1 q.2 ∧ m_inverse q.1 q.2 < q.1 ∧ (q.2 * m_inverse q.1 q.2) % q.1 = 1 := by decide +kernel
theorem fin_mem {p a : Int} (hp : Pr p) (h1 : 1 ≤ a) (h2 : a < p) : (p, a) ∈ ([(2, 1), (3, 1), (3, 2), (5, 1), (5, 2), (5, 3), (5, 4), (7, 1), (7, 2), (7, 3), (7, 4), (7, 5), (7, 6)] : List (Int × Int)) := by
  have h3 := hp.hi
  have hs : a = 1 ∨ a = 2 ∨ a = 3 ∨ a = 4 ∨ a = 5 ∨ a = 6 := by omega
  rcases hp with rfl | rfl | rfl | rfl <;> rcases hs with rfl | rfl | rfl | rfl | rfl | rfl <;> first | decide | omega
theorem inverse_eq {p a : Int} (hp : Pr p) (h1 : 1 ≤ a) (h2 : a < p) : g_inverse p a ∧ 1 ≤ m_inverse p a ∧ m_inverse p a < p ∧ (a * m_inverse p a) % p = 1 := by
  obtain ⟨k1, k2, k3, k4⟩ := inv_fin _ (fin_mem hp h1 h2)
  have h4 := hp.hi
  have h5 := hp.lo
  refine ⟨⟨⟨by decide, by decide⟩, ⟨by omega, by omega⟩, by omega, fun q hq => ?_, ?_⟩, k2, k3, k4⟩
  · rw [mem_rngI] at hq
    exact ⟨.inl ⟨by omega, by omega⟩, by omega⟩
  · unfold InB
    rw [List.length_map]
    have k1' : 0 < (List.filter (fun x : Int => decide ((a * x) % p = 1)) (rngI 1 (Int.toNat (p - 1)))).length := k1
    omega
/-! ### mod -/
section
variable {p : Int}
theorem mul_mod_l (a b p : Int) : ((a % p) * b) % p = (a * b) % p := by rw [Int.mul_emod, Int.emod_emod_of_dvd a (Int.dvd_refl p), ← Int.mul_emod]
theorem mul_mod_r (a b p : Int) : (a * (b % p)) % p = (a * b) % p := by rw [Int.mul_emod, Int.emod_emod_of_dvd b (Int.dvd_refl p), ← Int.mul_emod]
theorem add_mod_l (a b p : Int) : ((a % p) + b) % p = (a + b) % p := by rw [Int.add_emod, Int.emod_emod_of_dvd a (Int.dvd_refl p), ← Int.add_emod]
theorem add_mod_r (a b p : Int) : (a + (b % p)) % p = (a + b) % p := by rw [Int.add_emod, Int.emod_emod_of_dvd b (Int.dvd_refl p), ← Int.add_emod]
/-- x and y are one modulo p -/
def Cg (p x y : Int) : Prop := x % p = y % p
theorem Cg.rfl' {x : Int} : Cg p x x := rfl
theorem Cg.symm {x y : Int} (h : Cg p x y) : Cg p y x := Eq.symm h
theorem Cg.trans {x y z : Int} (h : Cg p x y) (g : Cg p y z) : Cg p x z := Eq.trans h g
theorem Cg.md (x : Int) : Cg p (x % p) x := Int.emod_emod_of_dvd x (Int.dvd_refl p)
theorem Cg.add {x y z w : Int} (h : Cg p x y) (g : Cg p z w) : Cg p (x + z) (y + w) := by
  unfold Cg at *
  rw [Int.add_emod, h, g, ← Int.add_emod]
theorem Cg.mul {x y z w : Int} (h : Cg p x y) (g : Cg p z w) : Cg p (x * z) (y * w) := by
  unfold Cg at *
  rw [Int.mul_emod, h, g, ← Int.mul_emod]
theorem Cg.neg {x y : Int} (h : Cg p x y) : Cg p (-x) (-y) := by
  have := Cg.mul (p := p) (Cg.rfl' (x := -1)) h
  rw [Int.neg_one_mul, Int.neg_one_mul] at this
  exact this
theorem Cg.sub {x y z w : Int} (h : Cg p x y) (g : Cg p z w) : Cg p (x - z) (y - w) := by
  rw [Int.sub_eq_add_neg, Int.sub_eq_add_neg]; exact h.add g.neg
theorem Cg.of_eq {x y : Int} (h : x = y) : Cg p x y := by rw [h]; rfl
theorem Cg.eq {x y : Int} (h : Cg p x y) (x0 : 0 ≤ x) (x1 : x < p) (y0 : 0 ≤ y) (y1 : y < p) : x = y := by
  unfold Cg at h
  rwa [Int.emod_eq_of_lt x0 x1, Int.emod_eq_of_lt y0 y1] at h
end
/-! ### ways back -/
section
variable {p : Int} {n : Nat} {f : Int → Int → Int} {m : Mv}
theorem back_ok (hp : Pr p) (M : MvOk p n m) : g_move_back p m ∧ MvOk p n (m_move_back p m) ∧ (m_move_back p m).a = m.a ∧ (m_move_back p m).b = m.b := by
  have h2 := hp.lo
  obtain ⟨i1, i2, i3, i4⟩ := inverse_eq hp M.c0 M.c1
  have hm : 1 ≤ (-m.c) % p ∧ (-m.c) % p < p := by
    have c0 := M.c0
    have c1 := M.c1
    have : (-m.c) % p = p - m.c := by
      have := Int.emod_eq_of_lt (a := p - m.c) (b := p) (by omega) (by omega)
      rw [← this, show p - m.c = -m.c + p by omega, Int.add_emod_right]
    omega
  refine ⟨⟨fun _ => by omega, fun _ => i1⟩, ⟨M.word, M.v0, M.v1, ?_, ?_⟩, rfl, rfl⟩
  · show 1 ≤ (if decide (m.a = sTurn) = true then (-m.c) % p else m_inverse p m.c)
    split
    · exact hm.1
    · exact i2
  · show (if decide (m.a = sTurn) = true then (-m.c) % p else m_inverse p m.c) < p
    split
    · exact hm.2
    · exact i3
theorem turn_row (G : Good p f) (v c b : Int) : turnF p v c f v b = f v b := by
  unfold turnF
  by_cases h : v = b
  · subst h; rw [if_pos rfl, G.diag]
  · rw [if_neg h, G.diag v]
    have : (f v b) % p = f v b := Int.emod_eq_of_lt (G.lo v b) (G.hi v b)
    simp [this]
theorem turn_turn (G : Good p f) (v c d : Int) : turnF p v d (turnF p v c f) = turnF p v (c + d) f := by
  funext a b
  show (if a = b then 0 else (turnF p v c f a b + d * turnF p v c f v a * turnF p v c f v b) % p) = _
  rw [turn_row G, turn_row G]
  unfold turnF
  by_cases h : a = b
  · rw [if_pos h, if_pos h]
  · rw [if_neg h, if_neg h, if_neg h, add_mod_l]
    congr 1
    grind
theorem turn_cg (v : Int) {c d : Int} (h : Cg p c d) : turnF p v c f = turnF p v d f := by
  funext a b
  unfold turnF
  by_cases hab : a = b
  · rw [if_pos hab, if_pos hab]
  · rw [if_neg hab, if_neg hab]
    exact Cg.add .rfl' ((h.mul .rfl').mul .rfl')
theorem turn_zero (G : Good p f) (v : Int) : turnF p v 0 f = f := by
  funext a b
  unfold turnF
  by_cases hab : a = b
  · subst hab; rw [if_pos rfl, G.diag]
  · rw [if_neg hab]
    have : (f a b) % p = f a b := Int.emod_eq_of_lt (G.lo a b) (G.hi a b)
    simp [this]
theorem scale_scale (v s t : Int) : scaleF p v t (scaleF p v s f) = scaleF p v (s * t) f := by
  funext a b
  unfold scaleF
  by_cases h : a = v ∨ b = v
  · rw [if_pos h, if_pos h, if_pos h, mul_mod_l, Int.mul_assoc]
  · rw [if_neg h, if_neg h, if_neg h]
theorem scale_cg (v : Int) {s t : Int} (h : Cg p s t) : scaleF p v s f = scaleF p v t f := by
  funext a b
  unfold scaleF
  split
  · exact Cg.mul .rfl' h
  · rfl
theorem scale_one (G : Good p f) (v : Int) : scaleF p v 1 f = f := by
  funext a b
  unfold scaleF
  split
  · rw [Int.mul_one]; exact Int.emod_eq_of_lt (G.lo a b) (G.hi a b)
  · rfl
theorem act_back (hp : Pr p) (G : Good p f) (M : MvOk p n m) : actF p (m_move_back p m) (actF p m f) = f := by
  obtain ⟨_, _, ea, eb⟩ := back_ok (n := n) hp M
  obtain ⟨_, _, _, i4⟩ := inverse_eq hp M.c0 M.c1
  have h2 := hp.lo
  unfold actF
  rw [ea, eb]
  by_cases h : m.a = sTurn
  · rw [if_pos h, if_pos h, turn_turn G]
    have ec : (m_move_back p m).c = (-m.c) % p := by
      show (if decide (m.a = sTurn) = true then (-m.c) % p else m_inverse p m.c) = _
      rw [if_pos (decide_eq_true h)]
    rw [ec, turn_cg (c := m.c + (-m.c) % p) (d := 0) m.b, turn_zero G]
    exact (Cg.add .rfl' (Cg.md _)).trans (Cg.of_eq (by omega))
  · rw [if_neg h, if_neg h, scale_scale]
    have ec : (m_move_back p m).c = m_inverse p m.c := by
      show (if decide (m.a = sTurn) = true then (-m.c) % p else m_inverse p m.c) = _
      rw [if_neg (by simp [h])]
    rw [ec, scale_cg (s := m.c * m_inverse p m.c) (t := 1) m.b, scale_one G]
    show (m.c * m_inverse p m.c) % p = 1 % p
    rw [i4, Int.emod_eq_of_lt (by omega) (by omega)]
end
end L2.Ev

set_option Elab.async false
set_option linter.all false
set_option maxRecDepth 100000
/-! Wm9: weights of ties; rows of moves. -/
namespace L2.Ev
open PySem PySem.Spec PyProof.Rows PySem.W
section
variable {p : Int} {n : Nat} {f g : Int → Int → Int} {m : Mv}
theorem weight_eq (G : Good p f) {u v : Int} (u0 : 0 ≤ u) (u1 : u < n) (v0 : 0 ≤ v) (v1 : v < n) : g_weight_at (webF p n f) u v ∧ m_weight_at (webF p n f) u v = f u v := by
  have hm : ∀ t ∈ (tiesF n f).filter (fun q => mem ((q.a, q.b) : Int × Int) [(u, v), (v, u)]), t.c = f u v ∧ f u v ≠ 0 := fun t ht => by
    rw [List.mem_filter] at ht
    obtain ⟨_, _, _, e, e0⟩ := mem_tiesF.mp ht.1
    rcases mem_two.mp ht.2 with q | q
    · have q1 : t.a = u := congrArg Prod.fst q
      have q2 : t.b = v := congrArg Prod.snd q
      rw [q1, q2] at e
      exact ⟨e, by rw [← e]; exact e0⟩
    · have q1 : t.a = v := congrArg Prod.fst q
      have q2 : t.b = u := congrArg Prod.snd q
      rw [q1, q2, G.sym] at e
      exact ⟨e, by rw [← e]; exact e0⟩
  have hne : f u v ≠ 0 → (tiesF n f).filter (fun q => mem ((q.a, q.b) : Int × Int) [(u, v), (v, u)]) ≠ [] := fun h0 hnil => by
    have hmem : ∃ t, t ∈ (tiesF n f).filter (fun q => mem ((q.a, q.b) : Int × Int) [(u, v), (v, u)]) := by
      rcases Int.lt_trichotomy u v with c | c | c
      · exact ⟨⟨u, v, f u v⟩, List.mem_filter.mpr ⟨mem_tiesF.mpr ⟨u0, c, v1, rfl, h0⟩, mem_two.mpr (.inl rfl)⟩⟩
      · subst c; exact absurd (G.diag u) h0
      · exact ⟨⟨v, u, f v u⟩, List.mem_filter.mpr ⟨mem_tiesF.mpr ⟨v0, c, u1, rfl, by rw [G.sym]; exact h0⟩, mem_two.mpr (.inr rfl)⟩⟩
    obtain ⟨t, ht⟩ := hmem
    rw [hnil] at ht; cases ht
  have gen : ∀ (L : List Tie), (∀ t ∈ L, t.c = f u v ∧ f u v ≠ 0) → (f u v ≠ 0 → L ≠ []) → g_weight_at_1 (L.map fun q => q.c) ∧ m_weight_at_1 (L.map fun q => q.c) = f u v := fun L h1 h2 => by
    cases L with
    | nil =>
      refine ⟨fun z => absurd (of_decide_eq_true z) (by simp), ?_⟩
      show (if decide (([] : List Int) ≠ []) = true then _ else (0 : Int)) = _
      rw [if_neg (by simp)]
      by_cases h : f u v = 0
      · exact h.symm
      · exact absurd rfl (h2 h)
    | cons t L =>
      have e := (h1 t List.mem_cons_self).1
      refine ⟨fun _ => by unfold InB; simp only [List.map_cons, List.length_cons]; omega, ?_⟩
      show (if decide ((t.c :: L.map fun q => q.c) ≠ []) = true then getI (t.c :: L.map fun q => q.c) 0 else (0 : Int)) = _
      rw [if_pos (by simp)]
      exact (getI_nat (i := 0) rfl).trans e
  exact gen _ hm hne
/-! ### rows of moves -/
def actsF (p : Int) : List Mv → (Int → Int → Int) → Int → Int → Int
  | [], f => f
  | m :: ms, f => actsF p ms (actF p m f)
theorem Good.acts (hp : 2 ≤ p) : ∀ (ms : List Mv) {f : Int → Int → Int}, Good p f → Good p (actsF p ms f)
  | [], _, G => G
  | m :: ms, _, G => Good.acts hp ms (G.act hp m)
theorem actsF_append : ∀ (a b : List Mv) (f : Int → Int → Int), actsF p (a ++ b) f = actsF p b (actsF p a f)
  | [], _, _ => rfl
  | _ :: a, b, _ => actsF_append a b _
theorem made_eq (hp : Pr p) (hn : n ≤ 1000) : ∀ (ms : List Mv) {f : Int → Int → Int}, Good p f → (∀ m ∈ ms, MvOk p n m) → g_made_moves (webF p n f) ms ∧ m_made_moves (webF p n f) ms = webF p n (actsF p ms f)
  | [], f, G, _ => ⟨⟨trivial, trivial⟩, rfl⟩
  | m :: ms, f, G, h => by
    have h2 := hp.lo
    have h3 := hp.hi
    have M := h m List.mem_cons_self
    obtain ⟨a1, a2⟩ := moved_eq (n := n) G h2 (by omega) hn M (unit_ok hp M.c0 M.c1)
    obtain ⟨b1, b2⟩ := made_eq hp hn ms (G.act h2 m) (fun x q => h x (List.mem_cons_of_mem _ q))
    refine ⟨⟨⟨⟨a1, trivial⟩, ?_⟩, trivial⟩, ?_⟩
    · show FG _ _ ms (m_moved (webF p n f) m)
      rw [a2]; exact b1.1
    · show List.foldl (fun w q => m_made_moves_3 w q) (m_moved (webF p n f) m) ms = _
      rw [a2]; exact b2
theorem lmade_eq (hp : Pr p) (hn : n ≤ 1000) : ∀ (ms : List Mv) {f : Int → Int → Int}, Good p f → (∀ m ∈ ms, MvOk p n m) → g__law_made (webF p n f) ms ∧ m__law_made (webF p n f) ms = webF p n (actsF p ms f)
  | [], f, G, _ => ⟨⟨trivial, trivial⟩, rfl⟩
  | m :: ms, f, G, h => by
    have h2 := hp.lo
    have h3 := hp.hi
    have M := h m List.mem_cons_self
    obtain ⟨a1, a2⟩ := lmoved_eq (n := n) G h2 (by omega) hn M
    obtain ⟨b1, b2⟩ := lmade_eq hp hn ms (G.act h2 m) (fun x q => h x (List.mem_cons_of_mem _ q))
    refine ⟨⟨⟨⟨a1, trivial⟩, ?_⟩, trivial⟩, ?_⟩
    · show FG _ _ ms (m__law_moved (webF p n f) m)
      rw [a2]; exact b1.1
    · show List.foldl (fun w q => m__law_made_3 w q) (m__law_moved (webF p n f) m) ms = _
      rw [a2]; exact b2
theorem getI_last {α : Type} [Inhabited α] (xs : List α) (x : α) : getI (xs ++ [x]) (-(1 : Int)) = x := by
  unfold getI
  rw [show L2.atI (xs ++ [x]) (-(1 : Int)) = some x from atI_last xs x]; rfl
theorem inB_last {α : Type} (xs : List α) (x : α) : InB (xs ++ [x]) (-(1 : Int)) := by
  unfold InB
  rw [List.length_append]
  simp only [List.length_cons, List.length_nil]; omega
/-- the webs along a row of moves, from a web on -/
def alongF (p : Int) (n : Nat) : List Mv → (Int → Int → Int) → List Web
  | [], _ => []
  | m :: ms, f => webF p n (actF p m f) :: alongF p n ms (actF p m f)
theorem along_eq (hp : Pr p) (hn : n ≤ 1000) : ∀ (ms : List Mv) (pre : List Web) {f : Int → Int → Int}, Good p f → (∀ m ∈ ms, MvOk p n m) → pre.length + ms.length ≤ 100000 →
    FG (fun r q => g_webs_along_3 r q) (fun r q => m_webs_along_3 r q) ms (pre ++ [webF p n f]) ∧ ms.foldl (fun r q => m_webs_along_3 r q) (pre ++ [webF p n f]) = pre ++ webF p n f :: alongF p n ms f
  | [], pre, f, G, _, _ => ⟨trivial, rfl⟩
  | m :: ms, pre, f, G, h, hl => by
    have h2 := hp.lo
    have h3 := hp.hi
    have M := h m List.mem_cons_self
    obtain ⟨a1, a2⟩ := moved_eq (n := n) G h2 (by omega) hn M (unit_ok hp M.c0 M.c1)
    rw [List.length_cons] at hl
    obtain ⟨b1, b2⟩ := along_eq hp hn ms (pre ++ [webF p n f]) (G.act h2 m) (fun x q => h x (List.mem_cons_of_mem _ q)) (by rw [List.length_append]; simp; omega)
    have e : m_webs_along_3 (pre ++ [webF p n f]) m = (pre ++ [webF p n f]) ++ [webF p n (actF p m f)] := by
      show (pre ++ [webF p n f]) ++ [m_moved (getI (pre ++ [webF p n f]) (-(1 : Int))) m] = _
      rw [getI_last, a2]
    refine ⟨⟨⟨inB_last _ _, ?_, ?_, trivial⟩, ?_⟩, ?_⟩
    · rw [getI_last]; exact a1
    · rw [List.length_append]; simp; omega
    · show FG _ _ ms (m_webs_along_3 (pre ++ [webF p n f]) m)
      rw [e]; exact b1
    · rw [List.foldl_cons]
      show ms.foldl _ (m_webs_along_3 (pre ++ [webF p n f]) m) = _
      rw [e, b2, List.append_assoc]; rfl
end
end L2.Ev

set_option Elab.async false
set_option linter.all false
set_option maxRecDepth 100000
/-! Wm10: what goes along with what. -/
namespace L2.Ev
open PySem PySem.Spec PyProof.Rows PySem.W
section
variable {p : Int} {n : Nat} {f g : Int → Int → Int} {m : Mv}
theorem turn_scale (G : Good p f) (hp : 2 ≤ p) (v c s : Int) : turnF p v c (scaleF p v s f) = scaleF p v s (turnF p v ((c * s * s) % p) f) := by
  funext a b
  show (if a = b then 0 else (scaleF p v s f a b + c * scaleF p v s f v a * scaleF p v s f v b) % p) = (if a = v ∨ b = v then (turnF p v ((c * s * s) % p) f a b * s) % p else turnF p v ((c * s * s) % p) f a b)
  have r0 : ∀ x, scaleF p v s f v x = (f v x * s) % p := fun x => by unfold scaleF; rw [if_pos (.inl rfl)]
  by_cases hab : a = b
  · subst hab
    rw [if_pos rfl]
    unfold turnF
    rw [if_pos rfl]
    split <;> simp
  · rw [if_neg hab, r0, r0]
    by_cases hv : a = v ∨ b = v
    · rw [if_pos hv]
      have e1 : scaleF p v s f a b = (f a b * s) % p := by unfold scaleF; rw [if_pos hv]
      rw [e1]
      have z : c * ((f v a * s) % p) * ((f v b * s) % p) = 0 := by
        rcases hv with h | h
        · rw [h, G.diag v]; simp
        · rw [h, G.diag v]; simp
      rw [z, Int.add_zero, Int.emod_emod_of_dvd _ (Int.dvd_refl p)]
      congr 2
      rcases hv with h | h
      · rw [h, turn_row G]
      · rw [h, (G.turn hp v _).sym a v, turn_row G, G.sym]
    · rw [if_neg hv]
      have e1 : scaleF p v s f a b = f a b := by unfold scaleF; rw [if_neg hv]
      rw [e1]
      unfold turnF
      rw [if_neg hab]
      show Cg p _ _
      refine Cg.add .rfl' ?_
      refine (Cg.mul (Cg.mul .rfl' (Cg.md _)) (Cg.md _)).trans ?_
      refine Cg.trans ?_ (Cg.mul (Cg.mul (Cg.md _).symm .rfl') .rfl')
      exact Cg.of_eq (by grind)
theorem scale_turn (G : Good p f) {u v : Int} (huv : u ≠ v) (c s : Int) : scaleF p u s (turnF p v c f) = turnF p v c (scaleF p u s f) := by
  funext a b
  show (if a = u ∨ b = u then (turnF p v c f a b * s) % p else turnF p v c f a b) = (if a = b then 0 else (scaleF p u s f a b + c * scaleF p u s f v a * scaleF p u s f v b) % p)
  by_cases hab : a = b
  · subst hab
    rw [if_pos rfl]
    unfold turnF
    rw [if_pos rfl]
    split <;> simp
  · rw [if_neg hab]
    have tv : turnF p v c f a b = (f a b + c * f v a * f v b) % p := by unfold turnF; rw [if_neg hab]
    have rv : ∀ x, scaleF p u s f v x = if x = u then (f v x * s) % p else f v x := fun x => by
      unfold scaleF
      by_cases h : x = u
      · rw [if_pos (.inr h), if_pos h]
      · rw [if_neg (fun z => z.elim (fun q => huv q.symm) h), if_neg h]
    rw [tv, rv, rv]
    by_cases h1 : a = u
    · have h2 : b ≠ u := fun z => hab (h1.trans z.symm)
      have e1 : scaleF p u s f a b = (f a b * s) % p := by unfold scaleF; rw [if_pos (.inl h1)]
      rw [if_pos (.inl h1), if_pos h1, if_neg h2, e1]
      show Cg p _ _
      refine (Cg.mul (Cg.md _) .rfl').trans ?_
      refine Cg.trans ?_ (Cg.add (Cg.md _).symm (Cg.mul (Cg.mul .rfl' (Cg.md _).symm) .rfl'))
      exact Cg.of_eq (by grind)
    · by_cases h2 : b = u
      · have e1 : scaleF p u s f a b = (f a b * s) % p := by unfold scaleF; rw [if_pos (.inr h2)]
        rw [if_pos (.inr h2), if_neg h1, if_pos h2, e1]
        show Cg p _ _
        refine (Cg.mul (Cg.md _) .rfl').trans ?_
        refine Cg.trans ?_ (Cg.add (Cg.md _).symm (Cg.mul .rfl' (Cg.md _).symm))
        exact Cg.of_eq (by grind)
      · have e1 : scaleF p u s f a b = f a b := by unfold scaleF; rw [if_neg (fun z => z.elim h1 h2)]
        rw [if_neg (fun z => z.elim h1 h2), if_neg h1, if_neg h2, e1]
theorem turn_comm (G : Good p f) {u v : Int} (h : u = v ∨ f u v = 0) (c d : Int) : turnF p v d (turnF p u c f) = turnF p u c (turnF p v d f) := by
  rcases h with h | h
  · subst h
    rw [turn_turn G, turn_turn G, Int.add_comm]
  · have key : ∀ (x y c : Int), f x y = 0 → ∀ a, turnF p x c f y a = f y a := fun x y c h0 a => by
      unfold turnF
      by_cases e : y = a
      · subst e; rw [if_pos rfl, G.diag]
      · rw [if_neg e, h0]
        have : (f y a) % p = f y a := Int.emod_eq_of_lt (G.lo y a) (G.hi y a)
        simp [this]
    funext a b
    show (if a = b then 0 else (turnF p u c f a b + d * turnF p u c f v a * turnF p u c f v b) % p) = (if a = b then 0 else (turnF p v d f a b + c * turnF p v d f u a * turnF p v d f u b) % p)
    by_cases hab : a = b
    · rw [if_pos hab, if_pos hab]
    · rw [if_neg hab, if_neg hab, key u v c h, key u v c h, key v u d (by rw [G.sym]; exact h), key v u d (by rw [G.sym]; exact h)]
      unfold turnF
      rw [if_neg hab, if_neg hab, add_mod_l, add_mod_l]
      congr 1
      grind
end
end L2.Ev

set_option Elab.async false
set_option linter.all false
set_option maxRecDepth 100000
/-! Wm11: the law's own look at what goes along (k09). -/
namespace L2.Ev
open PySem PySem.Spec PyProof.Rows PySem.W
theorem nof {α : Type} [DecidableEq α] {x y : α} (h : x = y) : ¬ decide (x ≠ y) = true := fun q => of_decide_eq_true q h
section
variable {p : Int} {n : Nat} {f g : Int → Int → Int} {m : Mv}
theorem along_core (hp : Pr p) (G : Good p f) (hn : n ≤ 1000) {u v a b c d : Int} (u0 : 0 ≤ u) (u1 : u < n) (v0 : 0 ≤ v) (v1 : v < n) (a0 : 1 ≤ a) (a1 : a < p) (b0 : 1 ≤ b) (b1 : b < p) (c0 : 1 ≤ c) (c1 : c < p) (d0 : 1 ≤ d) (d1 : d < p) (S : Src) :
    g__law_along_right_11 (webF p n f) (p, n) (u, v) ⟨a, b, c, d⟩ S ∧ m__law_along_right_11 (webF p n f) (p, n) (u, v) ⟨a, b, c, d⟩ S = (true, S) := by
  have h2 := hp.lo
  have h3 := hp.hi
  have h1 : p ≤ 1000 := by omega
  have hpos : 0 < p := by omega
  have uc := unit_ok hp c0 c1
  have ud := unit_ok hp d0 d1
  have hcd : 1 ≤ (c * d) % p ∧ (c * d) % p < p := by
    have k1 := Int.emod_nonneg (c * d) (show p ≠ 0 by omega)
    have k2 := Int.emod_lt_of_pos (c * d) hpos
    have k3 := ud c (by omega) c1
    omega
  have ucd := unit_ok hp hcd.1 hcd.2
  obtain ⟨tva1, tva2⟩ := turned_eq (n := n) (c := a) G h2 h1 hn v0 v1
  obtain ⟨tvb1, tvb2⟩ := turned_eq (n := n) (c := b) (G.turn h2 v a) h2 h1 hn v0 v1
  obtain ⟨t01, t02⟩ := turned_eq (n := n) (c := (a + b) % p) G h2 h1 hn v0 v1
  obtain ⟨sc1, sc2⟩ := scaled_eq (n := n) (v := v) G h2 h1 uc
  obtain ⟨sd1, sd2⟩ := scaled_eq (n := n) (v := v) (G.scale h2 v c) h2 h1 ud
  obtain ⟨se1, se2⟩ := scaled_eq (n := n) (v := v) G h2 h1 ucd
  obtain ⟨ts1, ts2⟩ := turned_eq (n := n) (c := a) (G.scale h2 v c) h2 h1 hn v0 v1
  obtain ⟨tq1, tq2⟩ := turned_eq (n := n) (c := (a * c * c) % p) G h2 h1 hn v0 v1
  obtain ⟨st1, st2⟩ := scaled_eq (n := n) (v := v) (G.turn h2 v ((a * c * c) % p)) h2 h1 uc
  obtain ⟨xa1, xa2⟩ := scaled_eq (n := n) (v := u) (G.turn h2 v a) h2 h1 uc
  obtain ⟨xb1, xb2⟩ := scaled_eq (n := n) (v := u) G h2 h1 uc
  obtain ⟨xc1, xc2⟩ := turned_eq (n := n) (c := a) (G.scale h2 u c) h2 h1 hn v0 v1
  obtain ⟨ya1, ya2⟩ := turned_eq (n := n) (c := a) G h2 h1 hn u0 u1
  obtain ⟨yb1, yb2⟩ := turned_eq (n := n) (c := b) (G.turn h2 u a) h2 h1 hn v0 v1
  obtain ⟨yc1, yc2⟩ := turned_eq (n := n) (c := b) G h2 h1 hn v0 v1
  obtain ⟨yd1, yd2⟩ := turned_eq (n := n) (c := a) (G.turn h2 v b) h2 h1 hn u0 u1
  obtain ⟨w1, w2⟩ := weight_eq (n := n) G u0 u1 v0 v1
  -- what is the same
  have e1 : m_turned (m_turned (webF p n f) v a) v b = (if decide ((0 : Int) < ((a + b) % p)) = true then m_turned (webF p n f) v ((a + b) % p) else webF p n f) := by
    rw [tva2, tvb2, turn_turn G, t02, turn_cg v (Cg.md (p := p) (a + b))]
    by_cases hz : 0 < (a + b) % p
    · rw [if_pos (decide_eq_true hz)]
    · rw [if_neg (by simp [hz])]
      have : (a + b) % p = 0 := by
        have := Int.emod_nonneg (a + b) (show p ≠ 0 by omega)
        omega
      rw [turn_cg (c := a + b) (d := 0) v (by show (a + b) % p = 0 % p; rw [this]; rfl), turn_zero G]
  have e2 : m_scaled (m_scaled (webF p n f) v c) v d = m_scaled (webF p n f) v ((c * d) % p) := by
    rw [sc2, sd2, se2, scale_scale, scale_cg v (Cg.md (p := p) (c * d))]
  have e3 : m_turned (m_scaled (webF p n f) v c) v a = m_scaled (m_turned (webF p n f) v ((a * c * c) % p)) v c := by
    rw [sc2, ts2, tq2, st2, turn_scale G h2]
  have e4 : u ≠ v → m_scaled (m_turned (webF p n f) v a) u c = m_turned (m_scaled (webF p n f) u c) v a := fun huv => by
    rw [tva2, xa2, xb2, xc2, scale_turn G huv]
  have e5 : (u = v ∨ f u v = 0) → m_turned (m_turned (webF p n f) u a) v b = m_turned (m_turned (webF p n f) v b) u a := fun h => by
    rw [ya2, yb2, yc2, yd2, turn_comm G h]
  have hf4 : ¬ (decide (u ≠ v) && decide (m_scaled (m_turned (webF p n f) v a) u c ≠ m_turned (m_scaled (webF p n f) u c) v a)) = true := by
    intro q
    rw [Bool.and_eq_true] at q
    exact nof (e4 (of_decide_eq_true q.1)) q.2
  constructor
  · refine ⟨tva1, by rw [tva2]; exact tvb1, ?_⟩
    refine ⟨hpos, fun _ => ⟨hpos, t01⟩, fun _ => trivial, fun _ => ?_⟩
    refine ⟨sc1, by rw [sc2]; exact sd1, .inl ⟨by show -(2 ^ 64) < c; omega, by show c < 2 ^ 64; omega⟩, hpos, se1, fun _ => trivial, fun _ => ?_⟩
    refine ⟨sc1, by rw [sc2]; exact ts1, .inl ⟨by show -(2 ^ 64) < a; omega, by show a < 2 ^ 64; omega⟩, .inr ⟨by show -(2 ^ 64) < c; omega, by show c < 2 ^ 64; omega⟩, hpos, tq1, by rw [tq2]; exact st1, fun _ => trivial, fun _ => ?_⟩
    refine ⟨fun _ => ⟨tva1, by rw [tva2]; exact xa1, xb1, by rw [xb2]; exact xc1⟩, fun _ => trivial, fun _ => ?_⟩
    exact ⟨ya1, by rw [ya2]; exact yb1, yc1, by rw [yc2]; exact yd1, fun _ _ => w1⟩
  · show m__law_along_right_10 (webF p n f) (p, n) (u, v) ⟨a, b, c, d⟩ S (m_turned (m_turned (webF p n f) v a) v b) = _
    show (if decide (m_turned (m_turned (webF p n f) v a) v b ≠ (if decide ((0 : Int) < ((a + b) % p)) = true then m_turned (webF p n f) v ((a + b) % p) else webF p n f)) = true then _ else m__law_along_right_9 (webF p n f) (p, n) (u, v) ⟨a, b, c, d⟩ S) = _
    rw [if_neg (nof e1)]
    show (if decide (m_scaled (m_scaled (webF p n f) v c) v d ≠ m_scaled (webF p n f) v ((c * d) % p)) = true then _ else m__law_along_right_7 (webF p n f) (p, n) (u, v) ⟨a, b, c, d⟩ S) = _
    rw [if_neg (nof e2)]
    show (if decide (m_turned (m_scaled (webF p n f) v c) v a ≠ m_scaled (m_turned (webF p n f) v ((a * c * c) % p)) v c) = true then _ else m__law_along_right_5 (webF p n f) (u, v) ⟨a, b, c, d⟩ S) = _
    rw [if_neg (nof e3)]
    show (if (decide (u ≠ v) && decide (m_scaled (m_turned (webF p n f) v a) u c ≠ m_turned (m_scaled (webF p n f) u c) v a)) = true then _ else m__law_along_right_3 (webF p n f) (u, v) ⟨a, b, c, d⟩ S) = _
    rw [if_neg hf4]
    show ((decide (m_turned (m_turned (webF p n f) u a) v b = m_turned (m_turned (webF p n f) v b) u a) || (decide (u ≠ v) && decide (m_weight_at (webF p n f) u v ≠ (0 : Int)))), S) = (true, S)
    by_cases h : u = v ∨ f u v = 0
    · rw [decide_eq_true (e5 h)]; rfl
    · rw [w2, decide_eq_true (show u ≠ v from fun z => h (.inl z)), decide_eq_true (show f u v ≠ 0 from fun z => h (.inr z))]
      simp
def dr4 (p : Int) (S : Src) : List Int × Src := mapS (fun (S : Src) (q : Int) => ((1 : Int) + (m__law_pick (p - 1) S).1, (m__law_pick (p - 1) S).2)) S (rngI 0 (Int.toNat (4 : Int)))
theorem draws4 (p : Int) (S : Src) (hp : Pr p) : ∃ a b c d T, dr4 p S = ([a, b, c, d], T) ∧ (1 ≤ a ∧ a < p) ∧ (1 ≤ b ∧ b < p) ∧ (1 ≤ c ∧ c < p) ∧ (1 ≤ d ∧ d < p) := by
  have h2 := hp.lo
  have bd : ∀ T, 1 ≤ (1 : Int) + (m__law_pick (p - 1) T).1 ∧ (1 : Int) + (m__law_pick (p - 1) T).1 < p := fun T => by
    have := pickA_bd T (m := p - 1) (by omega)
    show 1 ≤ 1 + (pickA T (p - 1)).1 ∧ 1 + (pickA T (p - 1)).1 < p
    omega
  exact ⟨_, _, _, _, _, rfl, bd _, bd _, bd _, bd _⟩
theorem along_right (hp : Pr p) (G : Good p f) (h0 : 1 ≤ n) (hn : n ≤ 1000) (S : Src) : g__law_along_right (webF p n f) S ∧ ∃ S', m__law_along_right (webF p n f) S = (true, S') := by
  have h2 := hp.lo
  have h3 := hp.hi
  have bu := pickA_bd S (m := (n : Int)) (by omega)
  have bv := pickA_bd (pickA S n).2 (m := (n : Int)) (by omega)
  obtain ⟨a, b, c, d, T, e, ha, hb, hc, hd⟩ := draws4 p (pickA (pickA S n).2 n).2 hp
  obtain ⟨k1, k2⟩ := along_core hp G hn bu.1 bu.2 bv.1 bv.2 ha.1 ha.2 hb.1 hb.2 hc.1 hc.2 hd.1 hd.2 T
  constructor
  · show g__law_along_right_13 (webF p n f) S (p, n)
    refine ⟨by show (n : Int) < 1073741824; omega, by show (n : Int) < 1073741824; omega, ?_⟩
    refine ⟨⟨by decide, by decide⟩, ?_, ?_, ?_⟩
    · exact (mapS_all (fun _ => True) _ _ fun T x _ => ⟨by show p - 1 < 1073741824; omega, trivial⟩).1
    · show List.length (dr4 p (pickA (pickA S n).2 n).2).1 = 4
      rw [e]; rfl
    · show g__law_along_right_11 (webF p n f) (p, n) ((pickA S n).1, (pickA (pickA S n).2 n).1) (T4.mk (getI (dr4 p (pickA (pickA S n).2 n).2).1 0) (getI (dr4 p (pickA (pickA S n).2 n).2).1 1) (getI (dr4 p (pickA (pickA S n).2 n).2).1 2) (getI (dr4 p (pickA (pickA S n).2 n).2).1 3)) (dr4 p (pickA (pickA S n).2 n).2).2
      rw [e]
      exact k1
  · refine ⟨T, ?_⟩
    show m__law_along_right_11 (webF p n f) (p, n) ((pickA S n).1, (pickA (pickA S n).2 n).1) (T4.mk (getI (dr4 p (pickA (pickA S n).2 n).2).1 0) (getI (dr4 p (pickA (pickA S n).2 n).2).1 1) (getI (dr4 p (pickA (pickA S n).2 n).2).1 2) (getI (dr4 p (pickA (pickA S n).2 n).2).1 3)) (dr4 p (pickA (pickA S n).2 n).2).2 = _
    rw [e]
    exact k2
end
end L2.Ev

set_option Elab.async false
set_option linter.all false
set_option maxRecDepth 100000
/-! Wm12: exchanged places: three turnings as one formula. -/
namespace L2.Ev
open PySem PySem.Spec PyProof.Rows PySem.W
/-- u: the first place, v: the second, h their weight, k, i: inverses of a * h, h -/
def exF (p u v a h k i : Int) (f : Int → Int → Int) : Int → Int → Int := fun x y =>
  if (x = u ∧ y = v) ∨ (x = v ∧ y = u) then h
  else if x = y then 0
  else if x = u then ((-(f v y)) * k) % p
  else if y = u then ((-(f v x)) * k) % p
  else if x = v then (a * h * f u y) % p
  else if y = v then (a * h * f u x) % p
  else (f x y - (f x u * f y v + f x v * f y u) * i) % p
section
variable {p : Int} {n : Nat} {f g : Int → Int → Int} {u v a b h k i : Int}
theorem Cg.zero_mul {x y : Int} (hx : Cg p x 0) : Cg p (x * y) 0 := by
  have := Cg.mul hx (Cg.rfl' (x := y))
  rw [Int.zero_mul] at this
  exact this
/-- what the numbers are to one another -/
structure Ex (p a b h k i : Int) : Prop where
  ab : Cg p (1 + a * b * h * h) 0
  hi : Cg p (h * i) 1
  ak : Cg p (a * h * k) 1
theorem Ex.bh (X : Ex p a b h k i) : Cg p (b * h) (-k) := by
  have e1 : Cg p (b * h * (a * h * k)) (b * h) := (Cg.mul .rfl' X.ak).trans (Cg.of_eq (Int.mul_one _))
  have e2 : Cg p (b * h * (a * h * k)) (-k) := by
    have : b * h * (a * h * k) = -k + (1 + a * b * h * h) * k := by grind
    rw [this]
    exact (Cg.add .rfl' (Cg.zero_mul X.ab)).trans (Cg.of_eq (Int.add_zero _))
  exact e1.symm.trans e2
theorem Ex.abh (X : Ex p a b h k i) : Cg p (a * b * h) (-i) := by
  have e1 : Cg p (a * b * h * (h * i)) (a * b * h) := (Cg.mul .rfl' X.hi).trans (Cg.of_eq (Int.mul_one _))
  have e2 : Cg p (a * b * h * (h * i)) (-i) := by
    have : a * b * h * (h * i) = -i + (1 + a * b * h * h) * i := by grind
    rw [this]
    exact (Cg.add .rfl' (Cg.zero_mul X.ab)).trans (Cg.of_eq (Int.add_zero _))
  exact e1.symm.trans e2
theorem turn_off {v c x y : Int} (h : x ≠ y) : turnF p v c f x y = (f x y + c * f v x * f v y) % p := by unfold turnF; rw [if_neg h]
theorem red (G : Good p f) (x y : Int) : f x y % p = f x y := Int.emod_eq_of_lt (G.lo x y) (G.hi x y)
theorem exchange_eq (G : Good p f) (hp : 2 ≤ p) (huv : u ≠ v) (hh : f u v = h) (X : Ex p a b h k i) : turnF p u a (turnF p v b (turnF p u a f)) = exF p u v a h k i f := by
  have G1 := G.turn hp u a
  have G2 := G1.turn hp v b
  have G3 := G2.turn hp u a
  have hv : f v u = h := by rw [G.sym]; exact hh
  -- the rows of u and v step by step
  have a1 : turnF p u a f v u = h := by rw [G1.sym, turn_row G]; exact hh
  have b1 : ∀ y, y ≠ v → Cg p (turnF p u a f v y) (f v y + a * h * f u y) := fun y hy => by
    rw [turn_off (Ne.symm hy), hh]; exact Cg.md _
  have c1 : ∀ y, y ≠ u → y ≠ v → Cg p (turnF p v b (turnF p u a f) u y) (b * h * f v y) := fun y hy hy2 => by
    rw [turn_off (Ne.symm hy), a1, turn_row G]
    refine (Cg.md _).trans ((Cg.add .rfl' (Cg.mul .rfl' (b1 y hy2))).trans ?_)
    have : f u y + b * h * (f v y + a * h * f u y) = b * h * f v y + (1 + a * b * h * h) * f u y := by grind
    rw [this]
    exact (Cg.add .rfl' (Cg.zero_mul X.ab)).trans (Cg.of_eq (Int.add_zero _))
  have c2 : turnF p v b (turnF p u a f) u v = h := by rw [G2.sym, turn_row G1]; exact a1
  have c3 : ∀ y, y ≠ v → Cg p (turnF p v b (turnF p u a f) v y) (f v y + a * h * f u y) := fun y hy => by rw [turn_row G1]; exact b1 y hy
  have d1 : turnF p u a (turnF p v b (turnF p u a f)) u v = h := by rw [turn_row G2]; exact c2
  have rowu : ∀ y, y ≠ u → y ≠ v → turnF p u a (turnF p v b (turnF p u a f)) u y = ((-(f v y)) * k) % p := fun y hy hy2 => by
    rw [turn_row G2]
    have e : Cg p (turnF p v b (turnF p u a f) u y) ((-(f v y)) * k) := (c1 y hy hy2).trans ((Cg.mul X.bh .rfl').trans (Cg.of_eq (by grind)))
    rw [← red G2 u y]; exact e
  have rowv : ∀ y, y ≠ u → y ≠ v → turnF p u a (turnF p v b (turnF p u a f)) v y = (a * h * f u y) % p := fun y hy hy2 => by
    rw [turn_off (Ne.symm hy2), c2]
    show Cg p _ _
    refine (Cg.add (c3 y hy2) (Cg.mul .rfl' (c1 y hy hy2))).trans ?_
    have : f v y + a * h * f u y + a * h * (b * h * f v y) = a * h * f u y + (1 + a * b * h * h) * f v y := by grind
    rw [this]
    exact (Cg.add .rfl' (Cg.zero_mul X.ab)).trans (Cg.of_eq (Int.add_zero _))
  funext x y
  unfold exF
  by_cases e0 : (x = u ∧ y = v) ∨ (x = v ∧ y = u)
  · rw [if_pos e0]
    rcases e0 with ⟨rfl, rfl⟩ | ⟨rfl, rfl⟩
    · exact d1
    · rw [G3.sym]; exact d1
  · rw [if_neg e0]
    by_cases exy : x = y
    · subst exy; rw [if_pos rfl, G3.diag]
    · rw [if_neg exy]
      by_cases e1 : x = u
      · subst e1
        rw [if_pos rfl]
        exact rowu y (fun z => exy z.symm) (fun z => e0 (.inl ⟨rfl, z⟩))
      · rw [if_neg e1]
        by_cases e2 : y = u
        · subst e2
          rw [if_pos rfl, G3.sym]
          exact rowu x exy (fun z => e0 (.inr ⟨z, rfl⟩))
        · rw [if_neg e2]
          by_cases e3 : x = v
          · subst e3
            rw [if_pos rfl]
            exact rowv y e2 (fun z => exy z.symm)
          · rw [if_neg e3]
            by_cases e4 : y = v
            · subst e4
              rw [if_pos rfl, G3.sym]
              exact rowv x e1 exy
            · rw [if_neg e4, turn_off exy]
              show Cg p _ _
              refine Cg.trans (y := (f x y + a * f u x * f u y + b * (f v x + a * h * f u x) * (f v y + a * h * f u y)) + a * (b * h * f v x) * (b * h * f v y)) (Cg.add ?_ (Cg.mul (Cg.mul .rfl' (c1 x e1 e3)) (c1 y e2 e4))) ?_
              · rw [turn_off exy]
                refine (Cg.md _).trans (Cg.add ?_ (Cg.mul (Cg.mul .rfl' (b1 x e3)) (b1 y e4)))
                rw [turn_off exy]; exact Cg.md _
              · have : f x y + a * f u x * f u y + b * (f v x + a * h * f u x) * (f v y + a * h * f u y) + a * (b * h * f v x) * (b * h * f v y) = f x y + (a * b * h) * (f u x * f v y + f v x * f u y) + (1 + a * b * h * h) * (a * f u x * f u y + b * f v x * f v y) := by grind
                rw [this]
                refine (Cg.add (Cg.add .rfl' (Cg.mul X.abh .rfl')) (Cg.zero_mul X.ab)).trans (Cg.of_eq ?_)
                rw [G.sym x u, G.sym y v, G.sym x v, G.sym y u]
                grind
end
end L2.Ev

set_option Elab.async false
set_option linter.all false
set_option maxRecDepth 100000
/-! Wm13: the program's exchanged web. -/
namespace L2.Ev
open PySem PySem.Spec PyProof.Rows PySem.W
theorem mem_three {α : Type} [DecidableEq α] {x a b c : α} : mem x [a, b, c] = true ↔ x = a ∨ x = b ∨ x = c := by
  unfold mem
  rw [decide_eq_true_iff]; simp
section
variable {p : Int} {n : Nat} {f g : Int → Int → Int} {u v a h k i : Int}
/-- what stands behind the places below j -/
def exDone (u v j x y : Int) : Prop := (x ≠ u ∧ x ≠ v ∧ x < j) ∨ ((x = u ∨ x = v) ∧ y ≠ u ∧ y ≠ v ∧ y < j)
instance (u v j x y : Int) : Decidable (exDone u v j x y) := by unfold exDone; infer_instance
def exMix (p u v a h k i : Int) (f : Int → Int → Int) (j : Int) : Int → Int → Int := fun x y => if exDone u v j x y then exF p u v a h k i f x y else f x y
theorem ex_row (G : Good p f) {q x : Int} (hqu : q ≠ u) (hqv : q ≠ v) (hxq : x ≠ q) (hxu : x ≠ u) (hxv : x ≠ v) : exF p u v a h k i f q x = (f q x - (f q u * f x v + f q v * f x u) * i) % p := by
  unfold exF
  rw [if_neg (fun z => z.elim (fun w => hqu w.1) fun w => hqv w.1), if_neg (Ne.symm hxq), if_neg hqu, if_neg hxu, if_neg hqv, if_neg hxv]
theorem ex_uq {q : Int} (huv : u ≠ v) (hqu : q ≠ u) (hqv : q ≠ v) : exF p u v a h k i f u q = ((-(f v q)) * k) % p ∧ exF p u v a h k i f q u = ((-(f v q)) * k) % p ∧ exF p u v a h k i f v q = (a * h * f u q) % p ∧ exF p u v a h k i f q v = (a * h * f u q) % p := by
  unfold exF
  refine ⟨?_, ?_, ?_, ?_⟩
  · rw [if_neg (fun z => z.elim (fun w => hqv w.2) fun w => huv w.1), if_neg (Ne.symm hqu), if_pos rfl]
  · rw [if_neg (fun z => z.elim (fun w => hqu w.1) fun w => hqv w.1), if_neg hqu, if_neg hqu, if_pos rfl]
  · rw [if_neg (fun z => z.elim (fun w => huv w.1.symm) fun w => hqu w.2), if_neg (Ne.symm hqv), if_neg (Ne.symm huv), if_neg hqu, if_pos rfl]
  · rw [if_neg (fun z => z.elim (fun w => hqu w.1) fun w => hqv w.1), if_neg hqv, if_neg hqu, if_neg (Ne.symm huv), if_neg hqv, if_pos rfl]
theorem ex_inner (G : Good p f) (hp : 2 ≤ p) (hp2 : p ≤ 1000) (hi0 : 0 ≤ i) (hi1 : i < p) {z2 : Int} (u0 : 0 ≤ u) (u1 : u < n) (v0 : 0 ≤ v) (v1 : v < n) {q : Int} (q0 : 0 ≤ q) (q1 : q < n) (hqu : q ≠ u) (hqv : q ≠ v) (g : Int → Int → Int) :
    FG (fun r x => g_exchanged_6 u v (p, Tab n f) (i, z2) q r x) (fun r x => m_exchanged_6 u v (p, Tab n f) (i, z2) q r x) (rngI 0 n) (Tab n g) ∧
    (rngI 0 n).foldl (fun r x => m_exchanged_6 u v (p, Tab n f) (i, z2) q r x) (Tab n g) = Tab n fun c d => if c = q ∧ d ≠ q ∧ d ≠ u ∧ d ≠ v then exF p u v a h k i f q d else g c d := by
  obtain ⟨k1, k2⟩ := fold_rng (P := fun r x => g_exchanged_6 u v (p, Tab n f) (i, z2) q r x) (f := fun r x => m_exchanged_6 u v (p, Tab n f) (i, z2) q r x) (lo := 0)
    (fun x r => r = Tab n fun c d => if c = q ∧ (d ≠ q ∧ d ≠ u ∧ d ≠ v) ∧ d < x then exF p u v a h k i f q d else g c d) n (n0 := Tab n g) (Tab_congr fun c d _ _ d0 _ => by rw [if_neg (by omega)]) (fun x r x0 x1 hr => by
      subst hr
      have x1 : x < n := by omega
      by_cases hx : x = q ∨ x = u ∨ x = v
      · have cc : ¬ (!mem x [q, u, v]) = true := by rw [mem_three.mpr hx]; exact Bool.false_ne_true
        refine ⟨⟨fun z => absurd z cc, fun _ => trivial⟩, ?_⟩
        show (if (!mem x [q, u, v]) = true then _ else m_exchanged_5 _) = _
        rw [if_neg cc]
        show Tab n _ = _
        refine Tab_congr fun c d _ _ _ _ => ?_
        by_cases e : c = q ∧ (d ≠ q ∧ d ≠ u ∧ d ≠ v) ∧ d < x
        · rw [if_pos e, if_pos ⟨e.1, e.2.1, by omega⟩]
        · rw [if_neg e, if_neg]
          rintro ⟨e1, e2, e3⟩
          refine e ⟨e1, e2, ?_⟩
          rcases hx with hx | hx | hx
          · have := e2.1; omega
          · have := e2.2.1; omega
          · have := e2.2.2; omega
      · have cc : (!mem x [q, u, v]) = true := by
          cases z : mem x [q, u, v] with
          | false => rfl
          | true => exact absurd (mem_three.mp z) hx
        have hx' : x ≠ q ∧ x ≠ u ∧ x ≠ v := ⟨fun z => hx (.inl z), fun z => hx (.inr (.inl z)), fun z => hx (.inr (.inr z))⟩
        have bd : ∀ c d, -(2 ^ 64) < f c d ∧ f c d < 2 ^ 64 := fun c d => by
          have := G.lo c d; have := G.hi c d; omega
        refine ⟨⟨fun _ => ⟨Tab_inB q0 q1, Tab_inBrow q0 q1 x0 x1, Tab_inB q0 q1, Tab_inBrow q0 q1 u0 u1, Tab_inB x0 x1, Tab_inBrow x0 x1 v0 v1, ?_, Tab_inB q0 q1, Tab_inBrow q0 q1 v0 v1, Tab_inB x0 x1, Tab_inBrow x0 x1 u0 u1, ?_, .inr ⟨by show -(2 ^ 64) < i; omega, by show i < 2 ^ 64; omega⟩, by show 0 < p; omega, Tab_inB2 q0 q1 x0 x1, trivial⟩, fun _ => trivial⟩, ?_⟩
        · show CMul (getI (getI (Tab n f) q) u) _
          rw [Tab_get q0 q1 u0 u1]; exact .inl (bd q u)
        · show CMul (getI (getI (Tab n f) q) v) _
          rw [Tab_get q0 q1 v0 v1]; exact .inl (bd q v)
        · show (if (!mem x [q, u, v]) = true then m_exchanged_4 u v (p, Tab n f) (i, z2) q _ x else _) = _
          rw [if_pos cc]
          show setAt2 (Tab n _) q x ((getI (getI (Tab n f) q) x - (getI (getI (Tab n f) q) u * getI (getI (Tab n f) x) v + getI (getI (Tab n f) q) v * getI (getI (Tab n f) x) u) * i) % p) = _
          rw [Tab_set q0 q1 x0 x1, Tab_get q0 q1 x0 x1, Tab_get q0 q1 u0 u1, Tab_get x0 x1 v0 v1, Tab_get q0 q1 v0 v1, Tab_get x0 x1 u0 u1, ← ex_row (a := a) (h := h) (k := k) G hqu hqv hx'.1 hx'.2.1 hx'.2.2]
          refine Tab_congr fun c d _ _ _ _ => ?_
          unfold up2
          by_cases e0 : c = q ∧ d = x
          · rw [if_pos e0, if_pos ⟨e0.1, by rw [e0.2]; exact hx', by omega⟩, e0.2]
          · rw [if_neg e0]
            show (if c = q ∧ (d ≠ q ∧ d ≠ u ∧ d ≠ v) ∧ d < x then _ else _) = _
            by_cases e : c = q ∧ (d ≠ q ∧ d ≠ u ∧ d ≠ v) ∧ d < x
            · rw [if_pos e, if_pos ⟨e.1, e.2.1, by omega⟩]
            · rw [if_neg e, if_neg]
              rintro ⟨e1, e2, e3⟩
              by_cases e4 : d = x
              · exact e0 ⟨e1, e4⟩
              · exact e ⟨e1, e2, by omega⟩)
  refine ⟨k1, ?_⟩
  rw [k2]
  refine Tab_congr fun c d _ _ _ d1 => ?_
  by_cases e : c = q ∧ d ≠ q ∧ d ≠ u ∧ d ≠ v
  · rw [if_pos e, if_pos ⟨e.1, e.2, by omega⟩]
  · rw [if_neg e, if_neg (fun z => e ⟨z.1, z.2.1⟩)]
end
end L2.Ev

set_option Elab.async false
set_option linter.all false
set_option maxRecDepth 100000
/-! Wm14: the program's exchanged web, whole; the moves of an exchange. -/
namespace L2.Ev
open PySem PySem.Spec PyProof.Rows PySem.W
section
variable {p : Int} {n : Nat} {f g : Int → Int → Int} {u v a h k i : Int}
theorem ex_step {q : Int} (huv : u ≠ v) (hqu : q ≠ u) (hqv : q ≠ v) (G : Good p f) : (Tab n fun c d => if c = q ∧ d ≠ q ∧ d ≠ u ∧ d ≠ v then exF p u v a h k i f q d else (up2 (up2 (up2 (up2 (exMix p u v a h k i f q) u q (((-(f v q)) * k) % p)) q u (((-(f v q)) * k) % p)) v q ((a * h * f u q) % p)) q v ((a * h * f u q) % p)) c d) = Tab n (exMix p u v a h k i f (q + 1)) := by
  obtain ⟨x1, x2, x3, x4⟩ := ex_uq (p := p) (f := f) (a := a) (h := h) (k := k) (i := i) huv hqu hqv
  refine Tab_congr fun c d _ _ _ _ => ?_
  unfold up2
  by_cases hc : c = q
  · have hd : exDone u v (q + 1) c d := .inl ⟨by rw [hc]; exact hqu, by rw [hc]; exact hqv, by omega⟩
    have e : exMix p u v a h k i f (q + 1) c d = exF p u v a h k i f q d := by unfold exMix; rw [if_pos hd, hc]
    rw [e]
    by_cases h1 : d ≠ q ∧ d ≠ u ∧ d ≠ v
    · rw [if_pos ⟨hc, h1⟩]
    · rw [if_neg (fun z => h1 z.2)]
      by_cases h2 : d = v
      · rw [if_pos ⟨hc, h2⟩, h2, x4]
      · rw [if_neg (fun z => h2 z.2), if_neg (fun z => hqv (hc.symm.trans z.1))]
        by_cases h3 : d = u
        · rw [if_pos ⟨hc, h3⟩, h3, x2]
        · rw [if_neg (fun z => h3 z.2), if_neg (fun z => hqu (hc.symm.trans z.1))]
          have h4 : d = q := by
            by_cases z : d = q
            · exact z
            · exact absurd ⟨z, h3, h2⟩ h1
          have nd : ¬ exDone u v q c d := by
            rintro (z | z)
            · omega
            · rcases z.1 with z | z
              · exact hqu (hc.symm.trans z)
              · exact hqv (hc.symm.trans z)
          unfold exMix
          rw [if_neg nd, hc, h4, G.diag]
          unfold exF
          rw [if_neg (fun z => z.elim (fun w => hqu w.1) fun w => hqv w.1), if_pos rfl]
  · rw [if_neg (fun z => hc z.1), if_neg (fun z => hc z.1)]
    by_cases h1 : c = v ∧ d = q
    · rw [if_pos h1]
      have hd : exDone u v (q + 1) c d := .inr ⟨.inr h1.1, by rw [h1.2]; exact hqu, by rw [h1.2]; exact hqv, by omega⟩
      unfold exMix
      rw [if_pos hd, h1.1, h1.2, x3]
    · rw [if_neg h1, if_neg (fun z => hc z.1)]
      by_cases h2 : c = u ∧ d = q
      · rw [if_pos h2]
        have hd : exDone u v (q + 1) c d := .inr ⟨.inl h2.1, by rw [h2.2]; exact hqu, by rw [h2.2]; exact hqv, by omega⟩
        unfold exMix
        rw [if_pos hd, h2.1, h2.2, x1]
      · rw [if_neg h2]
        have iff1 : exDone u v q c d ↔ exDone u v (q + 1) c d := by
          unfold exDone
          constructor
          · rintro (z | z)
            · exact .inl ⟨z.1, z.2.1, by omega⟩
            · exact .inr ⟨z.1, z.2.1, z.2.2.1, by omega⟩
          · rintro (z | z)
            · exact .inl ⟨z.1, z.2.1, by omega⟩
            · refine .inr ⟨z.1, z.2.1, z.2.2.1, ?_⟩
              have : d ≠ q := fun w => z.1.elim (fun e => h2 ⟨e, w⟩) fun e => h1 ⟨e, w⟩
              omega
        unfold exMix
        by_cases z : exDone u v q c d
        · rw [if_pos z, if_pos (iff1.mp z)]
        · rw [if_neg z, if_neg (fun w => z (iff1.mpr w))]
theorem ex_same {q : Int} (hq : q = u ∨ q = v) : Tab n (exMix p u v a h k i f q) = Tab n (exMix p u v a h k i f (q + 1)) := by
  refine Tab_congr fun c d _ _ _ _ => ?_
  have iff1 : exDone u v q c d ↔ exDone u v (q + 1) c d := by
    unfold exDone
    constructor
    · rintro (z | z)
      · exact .inl ⟨z.1, z.2.1, by omega⟩
      · exact .inr ⟨z.1, z.2.1, z.2.2.1, by omega⟩
    · rintro (z | z)
      · refine .inl ⟨z.1, z.2.1, ?_⟩
        rcases hq with hq | hq
        · have := z.1; omega
        · have := z.2.1; omega
      · refine .inr ⟨z.1, z.2.1, z.2.2.1, ?_⟩
        rcases hq with hq | hq
        · have := z.2.1; omega
        · have := z.2.2.1; omega
  unfold exMix
  by_cases z : exDone u v q c d
  · rw [if_pos z, if_pos (iff1.mp z)]
  · rw [if_neg z, if_neg (fun w => z (iff1.mpr w))]
theorem exchanged_eq (hp : Pr p) (G : Good p f) (hn : n ≤ 1000) (u0 : 0 ≤ u) (u1 : u < n) (v0 : 0 ≤ v) (v1 : v < n) (huv : u ≠ v) (hh : f u v ≠ 0) (a0 : 1 ≤ a) (a1 : a < p) :
    g_exchanged (webF p n f) u v a ∧ m_exchanged (webF p n f) u v a = webF p n (exF p u v a (f u v) (m_inverse p ((a * f u v) % p)) (m_inverse p (f u v)) f) := by
  have h2 := hp.lo
  have h3 := hp.hi
  have hlo := G.lo u v
  have hhi := G.hi u v
  have hah : 1 ≤ (a * f u v) % p ∧ (a * f u v) % p < p := by
    have k1 := Int.emod_nonneg (a * f u v) (show p ≠ 0 by omega)
    have k2 := Int.emod_lt_of_pos (a * f u v) (show 0 < p by omega)
    have k3 := unit_ok hp (s := f u v) (by omega) hhi a (by omega) a1
    omega
  obtain ⟨i1, i2, i3, i4⟩ := inverse_eq hp (a := f u v) (by omega) hhi
  obtain ⟨j1, j2, j3, j4⟩ := inverse_eq hp hah.1 hah.2
  obtain ⟨t1, t2⟩ := table_of_eq (n := n) G hn
  have bd : ∀ c d, -(2 ^ 64) < f c d ∧ f c d < 2 ^ 64 := fun c d => by
    have := G.lo c d; have := G.hi c d; omega
  have en : Int.toNat (webF p n f).b = n := by show Int.toNat (n : Int) = n; simp
  have rg : RngOk (webF p n f).b := ⟨by show -(2 ^ 62) ≤ (n : Int); omega, by show (n : Int) ≤ _; omega⟩
  obtain ⟨k1, k2⟩ := fold_rng (P := fun r q => g_exchanged_12 (webF p n f) u v a (p, Tab n f) (m_inverse p (f u v), f u v) r q) (f := fun r q => m_exchanged_12 (webF p n f) u v a (p, Tab n f) (m_inverse p (f u v), f u v) r q) (lo := 0)
    (fun q r => r = Tab n (exMix p u v a (f u v) (m_inverse p ((a * f u v) % p)) (m_inverse p (f u v)) f q)) n (n0 := Tab n f) (Tab_congr fun c d c0 _ d0 _ => by
      unfold exMix
      rw [if_neg]
      unfold exDone; omega) (fun q r q0 q1 hr => by
      subst hr
      have q1 : q < n := by omega
      by_cases hq : q = u ∨ q = v
      · have cc : ¬ (!mem q [u, v]) = true := by rw [mem_two.mpr hq]; exact Bool.false_ne_true
        refine ⟨⟨fun z => absurd z cc, fun _ => trivial⟩, ?_⟩
        show (if (!mem q [u, v]) = true then _ else m_exchanged_11 _) = _
        rw [if_neg cc]
        exact ex_same hq
      · have cc : (!mem q [u, v]) = true := by
          cases z : mem q [u, v] with
          | false => rfl
          | true => exact absurd (mem_two.mp z) hq
        have hqu : q ≠ u := fun z => hq (.inl z)
        have hqv : q ≠ v := fun z => hq (.inr z)
        obtain ⟨w1, w2⟩ := ex_inner (n := n) (z2 := f u v) (a := a) (h := f u v) (k := m_inverse p ((a * f u v) % p)) (i := m_inverse p (f u v)) G h2 (by omega) (by omega) i3 u0 u1 v0 v1 q0 q1 hqu hqv
          (up2 (up2 (up2 (up2 (exMix p u v a (f u v) (m_inverse p ((a * f u v) % p)) (m_inverse p (f u v)) f q) u q (((-(f v q)) * m_inverse p ((a * f u v) % p)) % p)) q u (((-(f v q)) * m_inverse p ((a * f u v) % p)) % p)) v q ((a * f u v * f u q) % p)) q v ((a * f u v * f u q) % p))
        have eA : setAt2 (setAt2 (Tab n (exMix p u v a (f u v) (m_inverse p ((a * f u v) % p)) (m_inverse p (f u v)) f q)) u q (((-(getI (getI (Tab n f) v) q)) * m_inverse p ((a * f u v) % p)) % p)) q u (((-(getI (getI (Tab n f) v) q)) * m_inverse p ((a * f u v) % p)) % p) = Tab n (up2 (up2 (exMix p u v a (f u v) (m_inverse p ((a * f u v) % p)) (m_inverse p (f u v)) f q) u q (((-(f v q)) * m_inverse p ((a * f u v) % p)) % p)) q u (((-(f v q)) * m_inverse p ((a * f u v) % p)) % p)) := by
          rw [Tab_get v0 v1 q0 q1, Tab_set u0 u1 q0 q1, Tab_set q0 q1 u0 u1]
        have eB : ∀ g, setAt2 (setAt2 (Tab n g) v q ((a * f u v * getI (getI (Tab n f) u) q) % p)) q v ((a * f u v * getI (getI (Tab n f) u) q) % p) = Tab n (up2 (up2 g v q ((a * f u v * f u q) % p)) q v ((a * f u v * f u q) % p)) := fun g => by
          rw [Tab_get u0 u1 q0 q1, Tab_set v0 v1 q0 q1, Tab_set q0 q1 v0 v1]
        constructor
        · refine ⟨fun _ => ?_, fun _ => trivial⟩
          refine ⟨Tab_inB v0 v1, Tab_inBrow v0 v1 q0 q1, .inr (bd u v), by show 0 < p; omega, j1, .inr ⟨by show -(2 ^ 64) < m_inverse p ((a * f u v) % p); omega, by show m_inverse p ((a * f u v) % p) < 2 ^ 64; omega⟩, by show 0 < p; omega, Tab_inB2 u0 u1 q0 q1, ?_, ?_⟩
          · rw [Tab_set u0 u1 q0 q1]; exact Tab_inB2 q0 q1 u0 u1
          · show g_exchanged_9 (webF p n f) u v a (p, Tab n f) (m_inverse p (f u v), f u v) q (setAt2 (setAt2 (Tab n _) u q (((-(getI (getI (Tab n f) v) q)) * m_inverse p ((a * f u v) % p)) % p)) q u (((-(getI (getI (Tab n f) v) q)) * m_inverse p ((a * f u v) % p)) % p))
            rw [eA]
            refine ⟨.inr (bd u v), Tab_inB u0 u1, Tab_inBrow u0 u1 q0 q1, ?_, by show 0 < p; omega, Tab_inB2 v0 v1 q0 q1, ?_, ?_⟩
            · show CMul (a * f u v) (getI (getI (Tab n f) u) q)
              rw [Tab_get u0 u1 q0 q1]; exact .inr (bd u q)
            · rw [Tab_set v0 v1 q0 q1]; exact Tab_inB2 q0 q1 v0 v1
            · show g_exchanged_8 (webF p n f) u v (p, Tab n f) (m_inverse p (f u v), f u v) q (setAt2 (setAt2 (Tab n _) v q ((a * f u v * getI (getI (Tab n f) u) q) % p)) q v ((a * f u v * getI (getI (Tab n f) u) q) % p))
              rw [eB]
              refine ⟨rg, ?_, trivial⟩
              rw [en]; exact w1
        · show (if (!mem q [u, v]) = true then m_exchanged_10 (webF p n f) u v a (p, Tab n f) (m_inverse p (f u v), f u v) _ q else _) = _
          rw [if_pos cc]
          show m_exchanged_9 (webF p n f) u v a (p, Tab n f) (m_inverse p (f u v), f u v) q (setAt2 (setAt2 (Tab n _) u q (((-(getI (getI (Tab n f) v) q)) * m_inverse p ((a * f u v) % p)) % p)) q u (((-(getI (getI (Tab n f) v) q)) * m_inverse p ((a * f u v) % p)) % p)) = _
          rw [eA]
          show m_exchanged_8 (webF p n f) u v (p, Tab n f) (m_inverse p (f u v), f u v) q (setAt2 (setAt2 (Tab n _) v q ((a * f u v * getI (getI (Tab n f) u) q) % p)) q v ((a * f u v * getI (getI (Tab n f) u) q) % p)) = _
          rw [eB]
          show List.foldl (fun r x => m_exchanged_6 u v (p, Tab n f) (m_inverse p (f u v), f u v) q r x) (Tab n _) (rngI 0 (Int.toNat (webF p n f).b)) = _
          rw [en, w2]
          exact ex_step huv hqu hqv G)
  have fin : Tab n (exMix p u v a (f u v) (m_inverse p ((a * f u v) % p)) (m_inverse p (f u v)) f (0 + (n : Int))) = Tab n (exF p u v a (f u v) (m_inverse p ((a * f u v) % p)) (m_inverse p (f u v)) f) := by
    refine Tab_congr fun c d c0 c1 d0 d1 => ?_
    unfold exMix
    by_cases z : exDone u v (0 + (n : Int)) c d
    · rw [if_pos z]
    · rw [if_neg z]
      unfold exDone at z
      have hc : c = u ∨ c = v := by omega
      have hd : d = u ∨ d = v := by omega
      unfold exF
      rcases hc with rfl | rfl <;> rcases hd with rfl | rfl
      · rw [if_neg (fun w => w.elim (fun q => huv q.2) fun q => huv q.1), if_pos rfl, G.diag]
      · rw [if_pos (.inl ⟨rfl, rfl⟩)]
      · rw [if_pos (.inr ⟨rfl, rfl⟩), G.sym]
      · rw [if_neg (fun w => w.elim (fun q => huv q.1.symm) fun q => huv q.2.symm), if_pos rfl, G.diag]
  have em : List.map (fun (q : List Int) => q) (Tab n f) = Tab n f := by simp
  obtain ⟨w1, w2⟩ := web_of_eq (p := p) (n := n) (f := exF p u v a (f u v) (m_inverse p ((a * f u v) % p)) (m_inverse p (f u v)) f) hn
  constructor
  · refine ⟨t1, ?_⟩
    show g_exchanged_16 (webF p n f) u v a (p, m_table_of (webF p n f))
    rw [t2]
    refine ⟨Tab_inB u0 u1, Tab_inBrow u0 u1 v0 v1, ?_, Tab_inB u0 u1, Tab_inBrow u0 u1 v0 v1, ?_⟩
    · show g_inverse p (getI (getI (Tab n f) u) v)
      rw [Tab_get u0 u1 v0 v1]; exact i1
    · show g_exchanged_15 (webF p n f) u v a (p, Tab n f) (m_inverse p (getI (getI (Tab n f) u) v), getI (getI (Tab n f) u) v)
      rw [Tab_get u0 u1 v0 v1]
      show g_exchanged_14 (webF p n f) u v a (p, Tab n f) (m_inverse p (f u v), f u v) (List.map (fun (q : List Int) => q) (Tab n f))
      rw [em]
      refine ⟨rg, ?_, ?_⟩
      · rw [en]; exact k1
      · show g_web_of_1 p (List.foldl (fun r q => m_exchanged_12 (webF p n f) u v a (p, Tab n f) (m_inverse p (f u v), f u v) r q) (Tab n f) (rngI 0 (Int.toNat (webF p n f).b)))
        rw [en, k2, fin, gweb_of1]; exact w1
  · show m_exchanged_16 (webF p n f) u v a (p, m_table_of (webF p n f)) = _
    rw [t2]
    show m_exchanged_15 (webF p n f) u v a (p, Tab n f) (m_inverse p (getI (getI (Tab n f) u) v), getI (getI (Tab n f) u) v) = _
    rw [Tab_get u0 u1 v0 v1]
    show m_exchanged_14 (webF p n f) u v a (p, Tab n f) (m_inverse p (f u v), f u v) (List.map (fun (q : List Int) => q) (Tab n f)) = _
    rw [em]
    show m_web_of_1 p (List.foldl (fun r q => m_exchanged_12 (webF p n f) u v a (p, Tab n f) (m_inverse p (f u v), f u v) r q) (Tab n f) (rngI 0 (Int.toNat (webF p n f).b))) = _
    rw [en, k2, fin, web_of1]; exact w2
end
end L2.Ev

set_option Elab.async false
set_option linter.all false
set_option maxRecDepth 100000
/-! Wm15: what repr needs: how long the texts of data are. -/
namespace L2.Ev
open PySem PySem.Spec PyProof.Rows PySem.W
/-- data without dict, of depth at most k, whose text has at most w signs -/
def Sh (d : PyData) (w k : Nat) : Prop := d.showable = true ∧ d.hasDict = false ∧ d.depth ≤ k ∧ d.shown.length ≤ w
theorem Sh.ok {d : PyData} {w k : Nat} (h : Sh d w k) (hw : w ≤ 16777216 := by decide) (hk : k ≤ 60 := by decide) : RpOk d :=
  ⟨h.1, h.2.1, Nat.le_trans h.2.2.1 hk, Nat.le_trans h.2.2.2 (by show w ≤ 2 ^ 24; omega)⟩
theorem Sh.mono {d : PyData} {w k w' k' : Nat} (h : Sh d w k) (hw : w ≤ w') (hk : k ≤ k') : Sh d w' k' :=
  ⟨h.1, h.2.1, Nat.le_trans h.2.2.1 hk, Nat.le_trans h.2.2.2 hw⟩
theorem ints_short : ∀ i ∈ rngI 0 100, (toString i : Str).length ≤ 8 ∧ i.natAbs.log2 < 1920 := by decide +kernel
theorem mem_0_100 {i : Int} (h : 0 ≤ i ∧ i < 100) : i ∈ rngI 0 100 := by rw [mem_rngI]; exact h
theorem Sh_int {i : Int} (h : 0 ≤ i ∧ i < 100) : Sh (enc i) 8 0 := by
  have h2 := ints_short i (mem_0_100 h)
  refine ⟨?_, rfl, Nat.le_refl _, h2.1⟩
  show decide _ = true
  exact decide_eq_true h2.2
theorem Sh_str {x : Str} (h : (reprText x).length ≤ 20) : Sh (enc x) 20 0 := ⟨rfl, rfl, Nat.le_refl _, h⟩
theorem tupleText_len (ts : List Str) : (tupleText ts).length ≤ piled ts + 4 := by
  unfold tupleText
  cases ts with
  | nil => decide
  | cons x r =>
    have := join_length_add (x :: r) (by simp)
    rw [Str.length_append, Str.length_append]
    have h1 : (("(" : Str)).length = 1 := by decide
    have h2 : ((if (x :: r).length == 1 then ",)" else ")" : String) : Str).length ≤ 2 := by split <;> decide
    omega
theorem listText_len : ∀ ts : List Str, (listText ts).length ≤ piled ts + 4
  | [] => by decide
  | t :: r => by
    have h := textFrom_length_pos r 1 (("[" : Str) ++ (if (0 : Nat) > 0 then ", " else "" : String) ++ t) (Nat.succ_pos 0)
    have e : ((("[" : Str) ++ (if (0 : Nat) > 0 then ", " else "" : String) ++ t)).length = 1 + t.length := by
      rw [Str.length_append, Str.length_append]
      have a1 : (("[" : Str)).length = 1 := by decide
      have a2 : ((if (0 : Nat) > 0 then ", " else "" : String) : Str).length = 0 := by decide
      omega
    have hX : (listText (t :: r)).length = (textFrom 0 "[" (t :: r)).length + 1 := Str.length_append _ _
    have hY : (textFrom 0 "[" (t :: r)).length = (textFrom 1 (("[" : Str) ++ (if (0 : Nat) > 0 then ", " else "" : String) ++ t) r).length := rfl
    rw [hX, hY, h, e, piled_cons]; omega
theorem ShAll {xs : List PyData} {w k : Nat} : (∀ x ∈ xs, Sh x w k) → PyData.showableAll xs = true ∧ PyData.hasDictAll xs = false ∧ PyData.depthAll xs ≤ k ∧ piled (PyData.shownAll xs) ≤ xs.length * (w + 2) := by
  induction xs with
  | nil => intro _; exact ⟨rfl, rfl, Nat.zero_le _, Nat.zero_le _⟩
  | cons x r ih =>
    intro h
    obtain ⟨a, b, c, d⟩ := h x (List.mem_cons_self ..)
    obtain ⟨a', b', c', d'⟩ := ih fun y hy => h y (List.mem_cons_of_mem _ hy)
    refine ⟨?_, ?_, ?_, ?_⟩
    · simp only [PyData.showableAll, a, a', Bool.and_self]
    · simp only [PyData.hasDictAll, b, b', Bool.or_self]
    · simp only [PyData.depthAll]; omega
    · simp only [PyData.shownAll, piled_cons, List.length_cons, Nat.add_mul, Nat.one_mul]; omega
theorem Sh_tup {xs : List PyData} {w k m W K : Nat} (h : ∀ x ∈ xs, Sh x w k) (hm : xs.length ≤ m) (hW : m * (w + 2) + 4 ≤ W) (hK : k + 1 ≤ K) : Sh (.tuple xs) W K := by
  obtain ⟨a, b, c, d⟩ := ShAll h
  have e := tupleText_len (PyData.shownAll xs)
  have e2 : xs.length * (w + 2) ≤ m * (w + 2) := Nat.mul_le_mul_right _ hm
  refine ⟨by simp only [PyData.showable]; exact a, by simp only [PyData.hasDict]; exact b, by simp only [PyData.depth]; omega, by simp only [PyData.shown]; omega⟩
theorem Sh_lst {xs : List PyData} {w k m W K : Nat} (h : ∀ x ∈ xs, Sh x w k) (hm : xs.length ≤ m) (hW : m * (w + 2) + 4 ≤ W) (hK : k + 1 ≤ K) : Sh (.list xs) W K := by
  obtain ⟨a, b, c, d⟩ := ShAll h
  have e := listText_len (PyData.shownAll xs)
  have e2 : xs.length * (w + 2) ≤ m * (w + 2) := Nat.mul_le_mul_right _ hm
  refine ⟨by simp only [PyData.showable]; exact a, by simp only [PyData.hasDict]; exact b, by simp only [PyData.depth]; omega, by simp only [PyData.shown]; omega⟩
theorem mem_encs {α : Type} [Enc α] {xs : List α} {P : PyData → Prop} (h : ∀ x ∈ xs, P (enc x)) : ∀ d ∈ encs xs, P d := by
  intro d hd
  obtain ⟨x, hx, rfl⟩ := List.mem_map.mp hd
  exact h x hx
theorem len_encs {α : Type} [Enc α] (xs : List α) : (encs xs).length = xs.length := List.length_map ..
end L2.Ev

set_option Elab.async false
set_option linter.all false
set_option maxRecDepth 100000
/-! Wm16: the texts of webs and moves; the law's own look at what is exchanged (k09). -/
namespace L2.Ev
open PySem PySem.Spec PyProof.Rows PySem.W
theorem allM {α : Type} {P : α → Prop} : ∀ {xs : List α}, xs = [] ∨ (∀ x ∈ xs, P x) → ∀ x ∈ xs, P x
  | _, .inl h => by subst h; intro x m; cases m
  | _, .inr h => h
theorem all1 {P : PyData → Prop} {a : PyData} (h : P a) : ∀ x ∈ [a], P x := by
  intro x m; rw [List.mem_singleton] at m; subst m; exact h
theorem all2 {P : PyData → Prop} {a b : PyData} (h : P a) (g : P b) : ∀ x ∈ [a, b], P x := by
  intro x m
  rcases List.mem_cons.mp m with rfl | m
  · exact h
  · exact all1 g x m
theorem all3 {P : PyData → Prop} {a b c : PyData} (h : P a) (g : P b) (k : P c) : ∀ x ∈ [a, b, c], P x := by
  intro x m
  rcases List.mem_cons.mp m with rfl | m
  · exact h
  · exact all2 g k x m
theorem rneq {a b : PyData} (h : a = b) : ¬ decide (rp a ≠ rp b) = true := by subst h; intro q; exact of_decide_eq_true q rfl
section
variable {p : Int} {n : Nat} {f g : Int → Int → Int} {u v a : Int}
theorem Sh_tie {t : Tie} (hp : p ≤ 100) (hn : n ≤ 10) (G : Good p f) (h : t ∈ tiesF n f) : Sh (enc t) 34 1 := by
  obtain ⟨h1, h2, h3, h4, h5⟩ := mem_tiesF.mp h
  have := G.lo t.a t.b
  have := G.hi t.a t.b
  exact Sh_tup (m := 3) (all3 (Sh_int (by omega)) (Sh_int (by omega)) (Sh_int (by omega))) (Nat.le_refl 3) (by decide) (by decide)
theorem ties_100 (hn : n ≤ 10) : (tiesF n f).length ≤ 100 := by
  have h1 := ties_len (n := n) (f := f)
  have h2 : n * n ≤ 10 * 10 := Nat.mul_le_mul hn hn
  omega
theorem Sh_web (hp : Pr p) (hn : n ≤ 10) (G : Good p f) : Sh (enc (webF p n f)) 10822 3 := by
  have h2 := hp.lo
  have h3 := hp.hi
  have ht : Sh (PyData.tuple (encs (tiesF n f))) 3604 2 := Sh_tup (m := 100) (mem_encs fun t m => Sh_tie (by omega) hn G m) (by rw [len_encs]; exact ties_100 hn) (by decide) (by decide)
  exact Sh_tup (m := 3) (all3 ((Sh_int (i := p) (by omega)).mono (by decide) (by decide)) ((Sh_int (i := (n : Int)) (by omega)).mono (by decide) (by decide)) ht) (Nat.le_refl 3) (by decide) (by decide)
theorem Sh_move {m : Mv} (hp : Pr p) (hn : n ≤ 10) (M : MvOk p n m) : Sh (enc m) 70 1 := by
  have h2 := hp.lo
  have h3 := hp.hi
  have := M.v0
  have := M.v1
  have := M.c0
  have := M.c1
  have hs : Sh (enc m.a) 20 0 := by
    rcases M.word with e | e <;> rw [e] <;> exact Sh_str (by decide +kernel)
  exact Sh_tup (m := 3) (all3 hs ((Sh_int (i := m.b) (by omega)).mono (by decide) (by decide)) ((Sh_int (i := m.c) (by omega)).mono (by decide) (by decide))) (Nat.le_refl 3) (by decide) (by decide)
theorem ex_fin : ∀ q ∈ ([(2, 1), (3, 1), (3, 2), (5, 1), (5, 2), (5, 3), (5, 4), (7, 1), (7, 2), (7, 3), (7, 4), (7, 5), (7, 6)] : List (Int × Int)), ∀ h ∈ rngI 1 (Int.toNat (q.1 - 1)),
    List.map (fun (x : Int) => x) (List.filter (fun (x : Int) => decide ((((((x * q.2) * h) * h) + (1 : Int)) % q.1) = (0 : Int))) (rngI (1 : Int) (Int.toNat (q.1 - (1 : Int))))) = [(-(m_inverse q.1 (((q.2 * h) * h) % q.1))) % q.1] ∧
    (1 + q.2 * ((-(m_inverse q.1 (((q.2 * h) * h) % q.1))) % q.1) * h * h) % q.1 = 0 % q.1 ∧ (h * m_inverse q.1 h) % q.1 = 1 % q.1 ∧ (q.2 * h * m_inverse q.1 ((q.2 * h) % q.1)) % q.1 = 1 % q.1 ∧
    (1 ≤ ((q.2 * h) * h) % q.1 ∧ ((q.2 * h) * h) % q.1 < q.1) ∧ (1 ≤ (-(m_inverse q.1 (((q.2 * h) * h) % q.1))) % q.1 ∧ (-(m_inverse q.1 (((q.2 * h) * h) % q.1))) % q.1 < q.1) := by decide +kernel
theorem ex_uv {h k i : Int} : exF p u v a h k i f u v = h := by unfold exF; rw [if_pos (.inl ⟨rfl, rfl⟩)]
theorem told_ok (hp : Pr p) (G : Good p f) (hn : n ≤ 10) {h k i b : Int} (hh : f u v = h) (h0 : h ≠ 0) (X : Ex p a b h k i) (a0 : 1 ≤ a) (a1 : a < p)
    (u0 : 0 ≤ u) (u1 : u < n) (v0 : 0 ≤ v) (v1 : v < n) (huv : u ≠ v) (hg : ∀ x y, g x y = exF p u v a h k i f x y) (gp : Good p g) (S : Src) :
    g__law_exchange_right_12 u v (p, n) (a, Tab n f) S h (Tab n g) ∧ m__law_exchange_right_12 u v (p, n) (a, Tab n f) S h (Tab n g) = (true, S) := by
  have h2 := hp.lo
  have h3 := hp.hi
  have hpos : 0 < p := by omega
  have hlo : 0 ≤ h := by have := G.lo u v; omega
  have hhi : h < p := by have := G.hi u v; omega
  have rg : RngOk (((p, (n : Int)) : Int × Int).2) := ⟨by show -(2 ^ 62) ≤ (n : Int); omega, by show (n : Int) ≤ _; omega⟩
  have ca : -(2 ^ 64) < a ∧ a < 2 ^ 64 := by omega
  have ch : -(2 ^ 64) < h ∧ h < 2 ^ 64 := by omega
  have bd : ∀ c d, -(2 ^ 64) < f c d ∧ f c d < 2 ^ 64 := fun c d => by
    have := G.lo c d; have := G.hi c d; omega
  have gd : ∀ c d, -(2 ^ 64) < g c d ∧ g c d < 2 ^ 64 := fun c d => by
    have := gp.lo c d; have := gp.hi c d; omega
  have toN : Int.toNat (((p, (n : Int)) : Int × Int).2) = n := by show Int.toNat (n : Int) = n; omega
  obtain ⟨F1, ⟨⟩, F2, _⟩ := foldX_list (P := fun r q => g__law_exchange_right_10 u v (p, n) (a, Tab n f) S h (Tab n g) r q) (f := fun r q => m__law_exchange_right_10 u v (p, n) (a, Tab n f) S h (Tab n g) r q) (fun (_ : Unit) => True)
    (List.map (fun (q_1608 : Int) => q_1608) (List.filter (fun (q_1608 : Int) => (!(mem (q_1608 : Int) ([(u, v).1, (u, v).2] : (List Int))))) (rngI 0 (Int.toNat (((p, (n : Int)) : Int × Int).2))))) (n0 := ()) trivial (fun w r hw _ => by
      obtain ⟨w', hw', rfl⟩ := List.mem_map.mp hw
      obtain ⟨hw1, hw2⟩ := List.mem_filter.mp hw'
      rw [toN, mem_rngI] at hw1
      have w0 : 0 ≤ w' := hw1.1
      have w1 : w' < n := by omega
      have hwn : ¬ (w' = u ∨ w' = v) := fun z => by
        rw [show mem w' [(u, v).1, (u, v).2] = true from mem_two.mpr z] at hw2; exact absurd hw2 Bool.false_ne_true
      have hwu : w' ≠ u := fun z => hwn (.inl z)
      have hwv : w' ≠ v := fun z => hwn (.inr z)
      obtain ⟨q1, q2, q3, q4⟩ := ex_uq (p := p) (f := f) (a := a) (h := h) (k := k) (i := i) huv hwu hwv
      have E1 : (g u w' * a * h + f v w') % p = 0 := by
        have : Cg p (g u w' * a * h + f v w') 0 := by
          rw [hg, q1]
          have z1 : Cg p ((-(f v w') * k) % p * a * h + f v w') (-(f v w') * k * a * h + f v w') := ((((Cg.md _).mul .rfl').mul .rfl').add .rfl')
          have z2 : -(f v w') * k * a * h + f v w' = -(f v w') * (a * h * k) + f v w' := by grind
          have z3 : Cg p (-(f v w') * (a * h * k) + f v w') (-(f v w') * 1 + f v w') := ((Cg.mul .rfl' X.ak).add .rfl')
          rw [z2] at z1
          exact (z1.trans z3).trans (Cg.of_eq (by omega))
        have z : (g u w' * a * h + f v w') % p = 0 % p := this
        rw [z]; exact Int.zero_emod p
      have E2 : g v w' = (a * h * f u w') % p := by rw [hg, q3]
      have D1 : decide ((getI (getI (Tab n g) u) w' * a * h + getI (getI (Tab n f) v) w') % p ≠ (0 : Int)) = false := by
        rw [Tab_get u0 u1 w0 w1, Tab_get v0 v1 w0 w1]
        exact decide_eq_false (fun z => z E1)
      have D2 : decide (getI (getI (Tab n g) v) w' ≠ (a * h * getI (getI (Tab n f) u) w') % p) = false := by
        rw [Tab_get v0 v1 w0 w1, Tab_get u0 u1 w0 w1]
        exact decide_eq_false (fun z => z E2)
      obtain ⟨I1, ⟨⟩, I2, _⟩ := foldX_list (P := fun r q => g__law_exchange_right_6 u v (p, n) (a, Tab n f) S h (Tab n g) w' r q) (f := fun r q => m__law_exchange_right_6 u v (p, n) (a, Tab n f) S h (Tab n g) w' r q) (fun (_ : Unit) => True)
        (List.map (fun (q_1637 : Int) => q_1637) (List.filter (fun (q_1637 : Int) => (!(mem (q_1637 : Int) ([(T3.mk u v w').a, (T3.mk u v w').b, (T3.mk u v w').c] : (List Int))))) (rngI 0 (Int.toNat (((p, (n : Int)) : Int × Int).2))))) (n0 := ()) trivial (fun x r hx _ => by
          obtain ⟨x', hx', rfl⟩ := List.mem_map.mp hx
          obtain ⟨hx1, hx2⟩ := List.mem_filter.mp hx'
          rw [toN, mem_rngI] at hx1
          have x0 : 0 ≤ x' := hx1.1
          have x1 : x' < n := by omega
          have hxn : ¬ (x' = u ∨ x' = v ∨ x' = w') := fun z => by
            rw [show mem x' [(T3.mk u v w').a, (T3.mk u v w').b, (T3.mk u v w').c] = true from mem_three.mpr z] at hx2; exact absurd hx2 Bool.false_ne_true
          have hxu : x' ≠ u := fun z => hxn (.inl z)
          have hxv : x' ≠ v := fun z => hxn (.inr (.inl z))
          have hxw : x' ≠ w' := fun z => hxn (.inr (.inr z))
          have E3 : ((f w' x' - g w' x') * h - (f w' u * f x' v + f w' v * f x' u)) % p = 0 := by
            have : Cg p ((f w' x' - g w' x') * h - (f w' u * f x' v + f w' v * f x' u)) 0 := by
              rw [hg, ex_row G hwu hwv hxw hxu hxv]
              have z1 : Cg p ((f w' x' - (f w' x' - (f w' u * f x' v + f w' v * f x' u) * i) % p) * h - (f w' u * f x' v + f w' v * f x' u)) ((f w' x' - (f w' x' - (f w' u * f x' v + f w' v * f x' u) * i)) * h - (f w' u * f x' v + f w' v * f x' u)) :=
                ((Cg.rfl'.sub (Cg.md _)).mul .rfl').sub .rfl'
              have z2 : (f w' x' - (f w' x' - (f w' u * f x' v + f w' v * f x' u) * i)) * h - (f w' u * f x' v + f w' v * f x' u) = (f w' u * f x' v + f w' v * f x' u) * (h * i) - (f w' u * f x' v + f w' v * f x' u) := by grind
              have z3 : Cg p ((f w' u * f x' v + f w' v * f x' u) * (h * i) - (f w' u * f x' v + f w' v * f x' u)) ((f w' u * f x' v + f w' v * f x' u) * 1 - (f w' u * f x' v + f w' v * f x' u)) := (Cg.mul .rfl' X.hi).sub .rfl'
              rw [z2] at z1
              exact (z1.trans z3).trans (Cg.of_eq (by omega))
            have z : ((f w' x' - g w' x') * h - (f w' u * f x' v + f w' v * f x' u)) % p = 0 % p := this
            rw [z]; exact Int.zero_emod p
          have D3 : decide (((getI (getI (Tab n f) w') x' - getI (getI (Tab n g) w') x') * h - ((getI (getI (Tab n f) w') u * getI (getI (Tab n f) x') v) + (getI (getI (Tab n f) w') v * getI (getI (Tab n f) x') u))) % p ≠ (0 : Int)) = false := by
            rw [Tab_get w0 w1 x0 x1, Tab_get w0 w1 x0 x1, Tab_get w0 w1 u0 u1, Tab_get x0 x1 v0 v1, Tab_get w0 w1 v0 v1, Tab_get x0 x1 u0 u1]
            exact decide_eq_false (fun z => z E3)
          constructor
          · refine ⟨Tab_inB w0 w1, Tab_inBrow w0 w1 u0 u1, Tab_inB x0 x1, Tab_inBrow x0 x1 v0 v1, .inl ?_, Tab_inB w0 w1, Tab_inBrow w0 w1 v0 v1, Tab_inB x0 x1, Tab_inBrow x0 x1 u0 u1, .inl ?_, Tab_inB w0 w1, Tab_inBrow w0 w1 x0 x1, Tab_inB w0 w1, Tab_inBrow w0 w1 x0 x1, .inr ch, hpos, fun _ => trivial, fun _ => trivial⟩
            · show -(2 ^ 64) < getI (getI (Tab n f) w') u ∧ getI (getI (Tab n f) w') u < 2 ^ 64
              rw [Tab_get w0 w1 u0 u1]; exact bd _ _
            · show -(2 ^ 64) < getI (getI (Tab n f) w') v ∧ getI (getI (Tab n f) w') v < 2 ^ 64
              rw [Tab_get w0 w1 v0 v1]; exact bd _ _
          · refine ⟨(), ?_, trivial⟩
            show (if decide (((getI (getI (Tab n f) w') x' - getI (getI (Tab n g) w') x') * h - ((getI (getI (Tab n f) w') u * getI (getI (Tab n f) x') v) + (getI (getI (Tab n f) w') v * getI (getI (Tab n f) x') u))) % p ≠ (0 : Int)) = true then _ else _) = _
            rw [D3]; rfl)
      have G9 : g__law_exchange_right_9 u v (p, n) (a, Tab n f) S h (Tab n g) w' := ⟨rg, I1, by rw [I2]; trivial⟩
      have M9 : m__law_exchange_right_9 u v (p, n) (a, Tab n f) S h (Tab n g) w' = .ok () := by
        unfold m__law_exchange_right_9
        rw [I2]; rfl
      constructor
      · refine ⟨Tab_inB u0 u1, Tab_inBrow u0 u1 w0 w1, .inr ca, .inr ch, Tab_inB v0 v1, Tab_inBrow v0 v1 w0 w1, hpos, fun _ => ⟨Tab_inB v0 v1, Tab_inBrow v0 v1 w0 w1, .inl ca, Tab_inB u0 u1, Tab_inBrow u0 u1 w0 w1, .inr ?_, hpos⟩, fun _ => trivial, fun _ => G9⟩
        show -(2 ^ 64) < getI (getI (Tab n f) u) w' ∧ getI (getI (Tab n f) u) w' < 2 ^ 64
        rw [Tab_get u0 u1 w0 w1]; exact bd _ _
      · refine ⟨(), ?_, trivial⟩
        show (if (decide ((getI (getI (Tab n g) u) w' * a * h + getI (getI (Tab n f) v) w') % p ≠ (0 : Int)) || decide (getI (getI (Tab n g) v) w' ≠ (a * h * getI (getI (Tab n f) u) w') % p)) = true then _ else m__law_exchange_right_9 u v (p, n) (a, Tab n f) S h (Tab n g) w') = _
        rw [D1, D2]
        exact M9)
  constructor
  · exact ⟨rg, F1, by rw [F2]; exact ⟨Tab_inB u0 u1, Tab_inBrow u0 u1 v0 v1⟩⟩
  · unfold m__law_exchange_right_12
    rw [F2]
    show (decide (getI (getI (Tab n g) u) v = h), S) = (true, S)
    rw [Tab_get u0 u1 v0 v1, hg, ex_uv, decide_eq_true rfl]
end
end L2.Ev

set_option Elab.async false
set_option linter.all false
set_option maxRecDepth 100000
/-! Wm17: exchange_right (k09). -/
namespace L2.Ev
open PySem PySem.Spec PyProof.Rows PySem.W
section
variable {p : Int} {n : Nat} {f g : Int → Int → Int} {u v a : Int}
theorem mv3 {b : Int} (hp : Pr p) (u0 : 0 ≤ u) (u1 : u < n) (v0 : 0 ≤ v) (v1 : v < n) (a0 : 1 ≤ a) (a1 : a < p) (b0 : 1 ≤ b) (b1 : b < p) :
    ∀ m ∈ ([⟨sTurn, u, a⟩, ⟨sTurn, v, b⟩, ⟨sTurn, u, a⟩] : List Mv), MvOk p n m := by
  intro m hm
  have A : MvOk p n (⟨sTurn, u, a⟩ : Mv) := ⟨.inl rfl, u0, u1, a0, a1⟩
  have B : MvOk p n (⟨sTurn, v, b⟩ : Mv) := ⟨.inl rfl, v0, v1, b0, b1⟩
  rcases List.mem_cons.mp hm with rfl | hm
  · exact A
  rcases List.mem_cons.mp hm with rfl | hm
  · exact B
  rw [List.mem_singleton] at hm
  subst hm; exact A
theorem Sh_mv3 {b : Int} (hp : Pr p) (hn : n ≤ 10) (u0 : 0 ≤ u) (u1 : u < n) (v0 : 0 ≤ v) (v1 : v < n) (a0 : 1 ≤ a) (a1 : a < p) (b0 : 1 ≤ b) (b1 : b < p) :
    Sh (enc (T3.mk (T3.mk sTurn u a) (T3.mk sTurn v b) (T3.mk sTurn u a))) 220 2 := by
  have A : MvOk p n (⟨sTurn, u, a⟩ : Mv) := ⟨.inl rfl, u0, u1, a0, a1⟩
  have B : MvOk p n (⟨sTurn, v, b⟩ : Mv) := ⟨.inl rfl, v0, v1, b0, b1⟩
  exact Sh_tup (m := 3) (all3 (Sh_move hp hn A) (Sh_move hp hn B) (Sh_move hp hn A)) (Nat.le_refl 3) (by decide) (by decide)
theorem ex_core (hp : Pr p) (G : Good p f) (hn : n ≤ 10) (u0 : 0 ≤ u) (u1 : u < n) (v0 : 0 ≤ v) (v1 : v < n) (huv : u ≠ v) (hh : f u v ≠ 0) (a0 : 1 ≤ a) (a1 : a < p) (S : Src) :
    g__law_exchange_right_20 (webF p n f) u v (p, n) (a, Tab n f) S (f u v) ∧ m__law_exchange_right_20 (webF p n f) u v (p, n) (a, Tab n f) S (f u v) = (true, S) := by
  have h2 := hp.lo
  have h3 := hp.hi
  have hpos : 0 < p := by omega
  have hlo : 1 ≤ f u v := by have := G.lo u v; omega
  have hhi : f u v < p := G.hi u v
  obtain ⟨e1, e2, e3, e4, e5, e6⟩ := ex_fin (p, a) (fin_mem hp a0 a1) (f u v) (by rw [mem_rngI]; show 1 ≤ f u v ∧ f u v < 1 + ((p - 1).toNat : Nat); omega)
  generalize hb : (-(m_inverse p (((a * f u v) * f u v) % p))) % p = b at *
  have X : Ex p a b (f u v) (m_inverse p ((a * f u v) % p)) (m_inverse p (f u v)) := ⟨e2, e3, e4⟩
  obtain ⟨x1, x2⟩ := exchanged_eq (n := n) hp G (by omega) u0 u1 v0 v1 huv hh a0 a1
  have M3 := mv3 (n := n) hp u0 u1 v0 v1 a0 a1 e6.1 e6.2
  obtain ⟨l1, l2⟩ := lmade_eq (n := n) hp (by omega) [⟨sTurn, u, a⟩, ⟨sTurn, v, b⟩, ⟨sTurn, u, a⟩] G M3
  have eA : actsF p [⟨sTurn, u, a⟩, ⟨sTurn, v, b⟩, ⟨sTurn, u, a⟩] f = exF p u v a (f u v) (m_inverse p ((a * f u v) % p)) (m_inverse p (f u v)) f := by
    show actF p ⟨sTurn, u, a⟩ (actF p ⟨sTurn, v, b⟩ (actF p ⟨sTurn, u, a⟩ f)) = _
    unfold actF
    simp only [if_true]
    exact exchange_eq G h2 huv rfl X
  have Gx : Good p (exF p u v a (f u v) (m_inverse p ((a * f u v) % p)) (m_inverse p (f u v)) f) := by
    rw [← eA]; exact Good.acts h2 _ G
  obtain ⟨w1, w2⟩ := weight_eq (n := n) G u0 u1 v0 v1
  obtain ⟨i1, i2, i3, i4⟩ := inverse_eq hp e5.1 e5.2
  obtain ⟨t1, t2⟩ := ltable_eq (n := n) Gx (by omega)
  obtain ⟨q1, q2⟩ := told_ok (n := n) (g := exF p u v a (f u v) (m_inverse p ((a * f u v) % p)) (m_inverse p (f u v)) f) hp G hn rfl hh X a0 a1 u0 u1 v0 v1 huv (fun _ _ => rfl) Gx S
  have em : m_exchange_moves (webF p n f) u v a = T3.mk (T3.mk sTurn u a) (T3.mk sTurn v b) (T3.mk sTurn u a) := by
    show m_exchange_moves_2 u v a (p, m_weight_at (webF p n f) u v) = _
    rw [w2]
    show m_exchange_moves_1 u v a ((-(m_inverse p (((a * f u v) * f u v) % p))) % p) = _
    rw [hb]; rfl
  have Gm : g_exchange_moves (webF p n f) u v a := by
    refine ⟨w1, ?_⟩
    rw [w2]
    refine ⟨.inl ⟨by show -(2 ^ 64) < a; omega, by show a < 2 ^ 64; omega⟩, .inr ⟨by show -(2 ^ 64) < f u v; omega, by show f u v < 2 ^ 64; omega⟩, hpos, i1, hpos, trivial⟩
  have S3 := Sh_mv3 (n := n) hp hn u0 u1 v0 v1 a0 a1 e6.1 e6.2
  have SW := Sh_web hp hn Gx
  have c15 : ¬ decide ((rp (enc (webF p n (exF p u v a (f u v) (m_inverse p ((a * f u v) % p)) (m_inverse p (f u v)) f)))) ≠ (rp (enc (m__law_made (webF p n f) [⟨sTurn, u, a⟩, ⟨sTurn, v, b⟩, ⟨sTurn, u, a⟩])))) = true := rneq (by rw [l2, eA])
  constructor
  · refine ⟨Gm, ?_⟩
    rw [em]
    refine ⟨⟨by decide, by decide⟩, ⟨by show -(2 ^ 62) ≤ p; omega, by show p ≤ _; omega⟩, by show p - 1 ≤ _; omega, ?_, ?_⟩
    · intro x hx
      refine ⟨.inr ⟨by show -(2 ^ 64) < a; omega, by show a < 2 ^ 64; omega⟩, .inr ⟨by show -(2 ^ 64) < f u v; omega, by show f u v < 2 ^ 64; omega⟩, .inr ⟨by show -(2 ^ 64) < f u v; omega, by show f u v < 2 ^ 64; omega⟩, hpos⟩
    · show g__law_exchange_right_18 (webF p n f) u v (p, n) (a, Tab n f) S (f u v) _ (List.map (fun (x : Int) => x) (List.filter (fun (x : Int) => decide ((((((x * a) * f u v) * f u v) + (1 : Int)) % p) = (0 : Int))) (rngI (1 : Int) (Int.toNat (p - (1 : Int))))))
      rw [e1]
      refine ⟨S3.ok, ⟨by show -((1 : Nat) : Int) ≤ 0; decide, by show (0 : Int) < ((1 : Nat) : Int); decide⟩, S3.ok, fun _ => trivial, fun _ => ?_⟩
      refine ⟨x1, ?_⟩
      show g__law_exchange_right_15 (webF p n f) u v (p, n) (a, Tab n f) S (f u v) _ (m_exchanged (webF p n f) u v a)
      rw [x2]
      refine ⟨SW.ok, l1, ?_, fun _ => trivial, fun _ => ⟨t1, ?_⟩⟩
      · show RpOk (enc (m__law_made (webF p n f) [⟨sTurn, u, a⟩, ⟨sTurn, v, b⟩, ⟨sTurn, u, a⟩]))
        rw [l2, eA]; exact SW.ok
      · rw [t2]; exact q1
  · show m__law_exchange_right_19 (webF p n f) u v (p, n) (a, Tab n f) S (f u v) (m_exchange_moves (webF p n f) u v a) = _
    rw [em]
    show m__law_exchange_right_18 (webF p n f) u v (p, n) (a, Tab n f) S (f u v) _ (List.map (fun (x : Int) => x) (List.filter (fun (x : Int) => decide ((((((x * a) * f u v) * f u v) + (1 : Int)) % p) = (0 : Int))) (rngI (1 : Int) (Int.toNat (p - (1 : Int)))))) = _
    rw [e1]
    show (if decide (rp (enc (T3.mk (T3.mk sTurn u a) (T3.mk sTurn v b) (T3.mk sTurn u a))) ≠ rp (enc (T3.mk (T3.mk sTurn u a) (T3.mk sTurn v b) (T3.mk sTurn u a)))) = true then _ else m__law_exchange_right_17 (webF p n f) u v (p, n) (a, Tab n f) S (f u v) _) = _
    rw [if_neg (rneq rfl)]
    show m__law_exchange_right_15 (webF p n f) u v (p, n) (a, Tab n f) S (f u v) _ (m_exchanged (webF p n f) u v a) = _
    rw [x2]
    show (if decide ((rp (enc (webF p n (exF p u v a (f u v) (m_inverse p ((a * f u v) % p)) (m_inverse p (f u v)) f)))) ≠ (rp (enc (m__law_made (webF p n f) [⟨sTurn, u, a⟩, ⟨sTurn, v, b⟩, ⟨sTurn, u, a⟩])))) = true then _ else m__law_exchange_right_12 u v (p, n) (a, Tab n f) S (f u v) (m__law_table (webF p n (exF p u v a (f u v) (m_inverse p ((a * f u v) % p)) (m_inverse p (f u v)) f)))) = _
    rw [if_neg c15, t2]
    exact q2
theorem exchange_right (hp : Pr p) (G : Good p f) (hn : n ≤ 10) (u0 : 0 ≤ u) (u1 : u < n) (v0 : 0 ≤ v) (v1 : v < n) (huv : u ≠ v) (hh : f u v ≠ 0) (S : Src) :
    g__law_exchange_right (webF p n f) u v S ∧ ∃ S', m__law_exchange_right (webF p n f) u v S = (true, S') := by
  have h2 := hp.lo
  have h3 := hp.hi
  have ba := pickA_bd S (m := p - 1) (by omega)
  obtain ⟨t1, t2⟩ := ltable_eq (n := n) G (by omega)
  obtain ⟨c1, c2⟩ := ex_core (a := 1 + (pickA S (p - 1)).1) hp G hn u0 u1 v0 v1 huv hh (by omega) (by omega) (pickA S (p - 1)).2
  constructor
  · refine ⟨by show p - 1 < 1073741824; omega, t1, ?_⟩
    rw [t2]
    refine ⟨Tab_inB u0 u1, Tab_inBrow u0 u1 v0 v1, ?_⟩
    show g__law_exchange_right_20 (webF p n f) u v (p, n) (1 + (pickA S (p - 1)).1, Tab n f) (pickA S (p - 1)).2 (getI (getI (Tab n f) u) v)
    rw [Tab_get u0 u1 v0 v1]; exact c1
  · refine ⟨(pickA S (p - 1)).2, ?_⟩
    show m__law_exchange_right_21 (webF p n f) u v (p, n) (1 + (pickA S (p - 1)).1, m__law_table (webF p n f)) (pickA S (p - 1)).2 = _
    rw [t2]
    show m__law_exchange_right_20 (webF p n f) u v (p, n) (1 + (pickA S (p - 1)).1, Tab n f) (pickA S (p - 1)).2 (getI (getI (Tab n f) u) v) = _
    rw [Tab_get u0 u1 v0 v1]; exact c2
end
end L2.Ev

set_option Elab.async false
set_option linter.all false
set_option maxRecDepth 100000
/-! Wm18: what the law finds along a row of moves (k09). -/
namespace L2.Ev
open PySem PySem.Spec PyProof.Rows PySem.W
theorem getI_last2 {α : Type} [Inhabited α] (xs : List α) (x y : α) : getI (xs ++ [x] ++ [y]) (-(2 : Int)) = x := by
  unfold getI L2.atI ixN
  have e : (xs ++ [x] ++ [y]).length = xs.length + 2 := by rw [List.length_append, List.length_append]; rfl
  rw [e, if_neg (by decide), if_pos (by omega)]
  show ((xs ++ [x] ++ [y])[(-(2 : Int) + ((xs.length + 2 : Nat) : Int)).toNat]?).getD default = x
  have : (-(2 : Int) + ((xs.length + 2 : Nat) : Int)).toNat = xs.length := by omega
  rw [this, List.append_assoc, List.getElem?_append_right (Nat.le_refl _), Nat.sub_self]; rfl
theorem inB_last2 {α : Type} (xs : List α) (x y : α) : InB (xs ++ [x] ++ [y]) (-(2 : Int)) := by
  unfold InB
  rw [List.length_append, List.length_append]
  simp only [List.length_cons, List.length_nil]; omega
theorem mapS_len {α β : Type} (f : Src → α → β × Src) : ∀ (xs : List α) (S : Src), (mapS f S xs).1.length = xs.length
  | [], _ => rfl
  | x :: xs, S => by show (mapS f (f S x).2 xs).1.length + 1 = _; rw [mapS_len f xs]; rfl
theorem FX_ok {ν α ρ : Type} {P : ν → α → Prop} {f : ν → α → Except ρ ν} {x : α} {xs : List α} {n n' : ν} (hP : P n x) (h : f n x = .ok n') (hF : FX P f xs n') : FX P f (x :: xs) n := by
  unfold FX
  exact ⟨hP, by rw [h]; exact hF⟩
theorem foldX_ok {ν α ρ : Type} {f : ν → α → Except ρ ν} {x : α} {xs : List α} {n n' : ν} (h : f n x = .ok n') : foldX f (x :: xs) n = foldX f xs n' := by
  show (match f n x with
    | .ok n' => foldX f xs n'
    | .error r => .error r) = _
  rw [h]
section
variable {p : Int} {n : Nat} {f g : Int → Int → Int} {u v a : Int}
theorem due_eq (hp : Pr p) (G : Good p f) (hn : n ≤ 10) {m : Mv} (M : MvOk p n m) :
    (decide (m.a = ("turn" : Str)) = true → g_turned (webF p n f) m.b m.c) ∧ (decide (m.a = ("turn" : Str)) = false → g_scaled (webF p n f) m.b m.c) ∧ (if decide (m.a = ("turn" : Str)) = true then (m_turned (webF p n f) m.b m.c) else (m_scaled (webF p n f) m.b m.c)) = webF p n (actF p m f) := by
  have h2 := hp.lo
  have h3 := hp.hi
  obtain ⟨t1, t2⟩ := turned_eq (n := n) (c := m.c) G h2 (by omega) (by omega) M.v0 M.v1
  obtain ⟨s1, s2⟩ := scaled_eq (n := n) (v := m.b) G h2 (by omega) (unit_ok hp M.c0 M.c1)
  refine ⟨fun _ => t1, fun _ => s1, ?_⟩
  by_cases h : m.a = sTurn
  · rw [if_pos (decide_eq_true h), t2]; unfold actF; rw [if_pos h]
  · rw [if_neg (fun q => h (of_decide_eq_true q)), s2]; unfold actF; rw [if_neg h]
theorem found_step (hp : Pr p) (G : Good p f) (hn : n ≤ 10) {m : Mv} (M : MvOk p n m) (pre : List Web) (hl : pre.length ≤ 100000) (S : Src) :
    g_law_10 (p, n) S (pre ++ [webF p n f]) m ∧ m_law_10 (p, n) S (pre ++ [webF p n f]) m = .ok (pre ++ [webF p n f] ++ [webF p n (actF p m f)]) := by
  have h2 := hp.lo
  have h3 := hp.hi
  obtain ⟨a1, a2⟩ := moved_eq (n := n) G h2 (by omega) (by omega) M (unit_ok hp M.c0 M.c1)
  obtain ⟨l1, l2⟩ := lmoved_eq (n := n) G h2 (by omega) (by omega) M
  obtain ⟨d1, d2, d3⟩ := due_eq hp G hn M
  have G' := G.act h2 m
  obtain ⟨b1, b2, b3, b4⟩ := back_ok (n := n) hp M
  obtain ⟨c1, c2⟩ := moved_eq (n := n) G' h2 (by omega) (by omega) b2 (unit_ok hp b2.c0 b2.c1)
  have cb := act_back hp G M
  rw [cb] at c2
  have SW := Sh_web hp hn G'
  have R2 : RpOk (PyData.list [enc (webF p n (actF p m f)), enc (webF p n (actF p m f))]) := (Sh_lst (m := 2) (all2 SW SW) (Nat.le_refl 2) (Nat.le_refl _) (Nat.le_refl _)).ok
  have e7 : ¬ (decide ((rp (PyData.list [(enc (m_moved (webF p n f) m)), (enc (webF p n (actF p m f)))])) ≠ (rp (PyData.list [(enc (webF p n (actF p m f))), (enc (webF p n (actF p m f)))])))) = true := rneq (by rw [a2])
  have e6 : ¬ (decide ((m_moved (webF p n (actF p m f)) (m_move_back p m)) ≠ webF p n f)) = true := nof c2
  constructor
  · refine ⟨inB_last _ _, by rw [getI_last]; exact l1, by rw [List.length_append]; show pre.length + 1 < _; omega, ?_⟩
    rw [getI_last, l2]
    refine ⟨inB_last2 _ _ _, ?_⟩
    rw [getI_last2]
    refine ⟨d1, d2, ?_⟩
    rw [d3]
    refine ⟨a1, by rw [a2]; exact R2, inB_last _ _, inB_last _ _, by rw [getI_last]; exact R2, fun _ => trivial, fun _ => ?_⟩
    refine ⟨inB_last _ _, b1, by rw [getI_last]; exact c1, inB_last2 _ _ _, fun _ => trivial, fun _ => trivial⟩
  · show m_law_9 (p, n) S m (pre ++ [webF p n f] ++ [m__law_moved (getI (pre ++ [webF p n f]) (-(1 : Int))) m]) = _
    rw [getI_last, l2]
    show m_law_8 (p, n) S m (pre ++ [webF p n f] ++ [webF p n (actF p m f)]) (getI (pre ++ [webF p n f] ++ [webF p n (actF p m f)]) (-(2 : Int))) = _
    rw [getI_last2]
    show m_law_7 (p, n) S m (pre ++ [webF p n f] ++ [webF p n (actF p m f)]) (webF p n f) (if decide (m.a = ("turn" : Str)) = true then (m_turned (webF p n f) m.b m.c) else (m_scaled (webF p n f) m.b m.c)) = _
    rw [d3]
    show (if (decide ((rp (PyData.list [(enc (m_moved (webF p n f) m)), (enc (webF p n (actF p m f)))])) ≠ (rp (PyData.list [(enc (getI (pre ++ [webF p n f] ++ [webF p n (actF p m f)]) (-(1 : Int)))), (enc (getI (pre ++ [webF p n f] ++ [webF p n (actF p m f)]) (-(1 : Int))))])))) = true then _ else m_law_6 (p, n) S m (pre ++ [webF p n f] ++ [webF p n (actF p m f)])) = _
    rw [getI_last, if_neg e7]
    show (if (decide ((m_moved (getI (pre ++ [webF p n f] ++ [webF p n (actF p m f)]) (-(1 : Int))) (m_move_back p m)) ≠ (getI (pre ++ [webF p n f] ++ [webF p n (actF p m f)]) (-(2 : Int))))) = true then _ else m_law_4 (pre ++ [webF p n f] ++ [webF p n (actF p m f)])) = _
    rw [getI_last, getI_last2, if_neg e6]; rfl
theorem found_eq (hp : Pr p) (hn : n ≤ 10) (S : Src) : ∀ (ms : List Mv) (pre : List Web) {f : Int → Int → Int}, Good p f → (∀ m ∈ ms, MvOk p n m) → pre.length + ms.length ≤ 100000 →
    FX (fun r q => g_law_10 (p, n) S r q) (fun r q => m_law_10 (p, n) S r q) ms (pre ++ [webF p n f]) ∧ foldX (fun r q => m_law_10 (p, n) S r q) ms (pre ++ [webF p n f]) = .ok (pre ++ webF p n f :: alongF p n ms f)
  | [], pre, f, _, _, _ => ⟨trivial, rfl⟩
  | m :: ms, pre, f, G, h, hl => by
    have M := h m List.mem_cons_self
    rw [List.length_cons] at hl
    obtain ⟨a1, a2⟩ := found_step hp G hn M pre (by omega) S
    obtain ⟨b1, b2⟩ := found_eq hp hn S ms (pre ++ [webF p n f]) (G.act hp.lo m) (fun x q => h x (List.mem_cons_of_mem _ q)) (by rw [List.length_append]; simp; omega)
    refine ⟨FX_ok a1 a2 b1, ?_⟩
    rw [foldX_ok (f := fun r q => m_law_10 (p, n) S r q) a2, b2, List.append_assoc]; rfl
theorem along_len : ∀ (ms : List Mv) (f : Int → Int → Int), (alongF p n ms f).length = ms.length
  | [], _ => rfl
  | m :: ms, f => by show (alongF p n ms (actF p m f)).length + 1 = _; rw [along_len ms]; rfl
theorem along_good (hp : 2 ≤ p) : ∀ (ms : List Mv) {f : Int → Int → Int}, Good p f → ∀ w ∈ webF p n f :: alongF p n ms f, ∃ g, Good p g ∧ w = webF p n g
  | [], f, G, w, h => by
    rw [show alongF p n [] f = [] from rfl, List.mem_singleton] at h
    exact ⟨f, G, h⟩
  | m :: ms, f, G, w, h => by
    rcases List.mem_cons.mp h with rfl | h
    · exact ⟨f, G, rfl⟩
    · exact along_good hp ms (G.act hp m) w h
theorem along_last : ∀ (ms : List Mv) (f : Int → Int → Int), ∃ pre, webF p n f :: alongF p n ms f = pre ++ [webF p n (actsF p ms f)]
  | [], f => ⟨[], rfl⟩
  | m :: ms, f => by
    obtain ⟨pre, e⟩ := along_last ms (actF p m f)
    exact ⟨webF p n f :: pre, by show webF p n f :: (webF p n (actF p m f) :: alongF p n ms (actF p m f)) = _; rw [e]; rfl⟩
theorem acts_back (hp : Pr p) : ∀ (ms : List Mv) {f : Int → Int → Int}, Good p f → (∀ m ∈ ms, MvOk p n m) → actsF p ((ms.reverse).map fun q => m_move_back p q) (actsF p ms f) = f
  | [], f, _, _ => rfl
  | m :: ms, f, G, h => by
    rw [List.reverse_cons, List.map_append, actsF_append]
    show actsF p [m_move_back p m] (actsF p ((ms.reverse).map fun q => m_move_back p q) (actsF p ms (actF p m f))) = f
    rw [acts_back hp ms (G.act hp.lo m) fun x q => h x (List.mem_cons_of_mem _ q)]
    exact act_back hp G (h m List.mem_cons_self)
theorem backs_all (hp : Pr p) {ms : List Mv} (h : ∀ m ∈ ms, MvOk p n m) : ∀ m ∈ (ms.reverse).map (fun q => m_move_back p q), MvOk p n m := by
  intro m hm
  obtain ⟨q, hq, rfl⟩ := List.mem_map.mp hm
  exact (back_ok hp (h q (List.mem_reverse.mp hq))).2.1
theorem Sh_moves (hp : Pr p) (hn : n ≤ 10) {ms : List Mv} (h : ∀ m ∈ ms, MvOk p n m) (hl : ms.length ≤ 200) : Sh (enc ms) 14404 2 :=
  Sh_tup (m := 200) (mem_encs fun m q => Sh_move hp hn (h m q)) (by rw [len_encs]; exact hl) (by decide) (by decide)
theorem Sh_webs (hp : Pr p) (hn : n ≤ 10) {ms : List Mv} (G : Good p f) (hl : ms.length ≤ 200) : Sh (enc (webF p n f :: alongF p n ms f)) 2175628 4 :=
  Sh_tup (m := 201) (mem_encs fun w q => by
    obtain ⟨g, Gg, rfl⟩ := along_good hp.lo ms G w q
    exact Sh_web hp hn Gg) (by rw [len_encs, List.length_cons, along_len]; omega) (by decide) (by decide)
end
end L2.Ev

set_option Elab.async false
set_option linter.all false
set_option maxRecDepth 100000
/-! Wm19: the end of a lap (k09). -/
namespace L2.Ev
open PySem PySem.Spec PyProof.Rows PySem.W
theorem getI_memN {α : Type} [Inhabited α] {xs : List α} {i : Int} (h0 : 0 ≤ i) (h1 : i < xs.length) : getI xs i ∈ xs ∧ InB xs i := by
  obtain ⟨k, rfl⟩ : ∃ k : Nat, i = k := ⟨i.toNat, by omega⟩
  have hk : k < xs.length := by omega
  constructor
  · rw [getI_nat (List.getElem?_eq_getElem hk)]; exact List.getElem_mem hk
  · exact ⟨by omega, by omega⟩
section
variable {p : Int} {n : Nat} {f g : Int → Int → Int} {u v a : Int} {rows : List (List Int)}
theorem lap_16 (hp : Pr p) (G : Good p f) (hn : n ≤ 10) (ht : tiesF n f ≠ []) (S : Src) :
    g_law_16 (webF p n f) S ∧ ∃ S', m_law_16 (webF p n f) S = .ok S' := by
  have hlen : 0 < (tiesF n f).length := List.length_pos_iff.mpr ht
  have h100 := ties_100 (f := f) hn
  have bi := pickA_bd S (m := ((tiesF n f).length : Int)) (by omega)
  obtain ⟨hm, hb⟩ := getI_memN (xs := tiesF n f) bi.1 bi.2
  generalize ht0 : getI (tiesF n f) (pickA S ((tiesF n f).length : Int)).1 = t at *
  obtain ⟨m1, m2, m3, m4, m5⟩ := mem_tiesF.mp hm
  generalize hT : (pickA S ((tiesF n f).length : Int)).2 = T at *
  have key : ∀ x y : Int, ((x = t.a ∧ y = t.b) ∨ (x = t.b ∧ y = t.a)) → ∀ T', g__law_exchange_right (webF p n f) x y T' ∧ ∃ S', m__law_exchange_right (webF p n f) x y T' = (true, S') := fun x y hxy T' => by
    refine exchange_right hp G hn (by omega) (by omega) (by omega) (by omega) (by omega) ?_ T'
    rcases hxy with ⟨rfl, rfl⟩ | ⟨rfl, rfl⟩
    · rw [← m4]; exact m5
    · rw [G.sym, ← m4]; exact m5
  have key2 : ∀ w : Int × Int, ((w.1 = t.a ∧ w.2 = t.b) ∨ (w.1 = t.b ∧ w.2 = t.a)) → ∀ T', g_law_14 (webF p n f) w T' ∧ ∃ S', m_law_14 (webF p n f) w T' = .ok S' := fun w hw T' => by
    obtain ⟨k1, S', k2⟩ := key w.1 w.2 hw T'
    refine ⟨⟨k1, fun _ => trivial, fun _ => trivial⟩, S', ?_⟩
    show (if (!(m__law_exchange_right (webF p n f) w.1 w.2 T').1) = true then _ else m_law_13 (m__law_exchange_right (webF p n f) w.1 w.2 T').2) = _
    rw [k2]; rfl
  have key3 : g_law_15 (webF p n f) t T ∧ ∃ S', m_law_15 (webF p n f) t T = .ok S' := by
    have hw : ((if decide ((m__law_pick (2 : Int) T).1 = (0 : Int)) = true then (t.a, t.b) else (t.b, t.a)).1 = t.a ∧ (if decide ((m__law_pick (2 : Int) T).1 = (0 : Int)) = true then (t.a, t.b) else (t.b, t.a)).2 = t.b) ∨ ((if decide ((m__law_pick (2 : Int) T).1 = (0 : Int)) = true then (t.a, t.b) else (t.b, t.a)).1 = t.b ∧ (if decide ((m__law_pick (2 : Int) T).1 = (0 : Int)) = true then (t.a, t.b) else (t.b, t.a)).2 = t.a) := by
      by_cases c : decide ((m__law_pick (2 : Int) T).1 = (0 : Int)) = true
      · rw [if_pos c]; exact .inl ⟨rfl, rfl⟩
      · rw [if_neg c]; exact .inr ⟨rfl, rfl⟩
    obtain ⟨k1, S', k2⟩ := key2 _ hw (m__law_pick (2 : Int) T).2
    exact ⟨⟨by show (2 : Int) < 1073741824; decide, k1⟩, S', k2⟩
  constructor
  · refine ⟨⟨by show ((tiesF n f).length : Int) < 1073741824; omega, hb⟩, ?_⟩
    show g_law_15 (webF p n f) (getI (tiesF n f) (pickA S ((tiesF n f).length : Int)).1) (pickA S ((tiesF n f).length : Int)).2
    rw [ht0, hT]; exact key3.1
  · obtain ⟨S', k⟩ := key3.2
    refine ⟨S', ?_⟩
    show m_law_15 (webF p n f) (getI (tiesF n f) (pickA S ((tiesF n f).length : Int)).1) (pickA S ((tiesF n f).length : Int)).2 = _
    rw [ht0, hT]; exact k
theorem lap_22 (hp : Pr p) (G : Good p f) (hn : n ≤ 10) (S : Src) :
    g_law_22 (webF p n f) (rp (enc (webF p n f)), rows) S ∧ ∃ S', m_law_22 (webF p n f) (rp (enc (webF p n f)), rows) S = .ok S' := by
  have k20 : ∀ T, g_law_20 (webF p n f) (rp (enc (webF p n f)), rows) T ∧ m_law_20 (webF p n f) (rp (enc (webF p n f)), rows) T = .ok T := fun T => by
    refine ⟨⟨(Sh_web hp hn G).ok, fun _ => trivial, fun _ => trivial⟩, ?_⟩
    show (if decide (rp (enc (webF p n f)) ≠ rp (enc (webF p n f))) = true then _ else m_law_19 T) = _
    rw [if_neg (rneq rfl)]; rfl
  by_cases ht : tiesF n f = []
  · have c : ¬ decide (tiesF n f ≠ []) = true := fun q => of_decide_eq_true q ht
    refine ⟨⟨fun q => absurd q c, fun _ => trivial, ?_⟩, S, ?_⟩
    · show okX (if decide (tiesF n f ≠ []) = true then m_law_16 (webF p n f) S else m_law_17 S) _
      rw [if_neg c]; exact (k20 S).1
    · show bindXX (if decide (tiesF n f ≠ []) = true then m_law_16 (webF p n f) S else m_law_17 S) _ = _
      rw [if_neg c]; exact (k20 S).2
  · have c : decide (tiesF n f ≠ []) = true := decide_eq_true ht
    obtain ⟨k1, S', k2⟩ := lap_16 hp G hn ht S
    refine ⟨⟨fun _ => k1, fun _ => trivial, ?_⟩, S', ?_⟩
    · show okX (if decide (tiesF n f ≠ []) = true then m_law_16 (webF p n f) S else m_law_17 S) _
      rw [if_pos c, k2]; exact (k20 S').1
    · show bindXX (if decide (tiesF n f ≠ []) = true then m_law_16 (webF p n f) S else m_law_17 S) _ = _
      rw [if_pos c, k2]; exact (k20 S').2
theorem lap_28 (hp : Pr p) (G : Good p f) (h0 : 1 ≤ n) (hn : n ≤ 10) {ms : List Mv} (hm : ∀ m ∈ ms, MvOk p n m) (hl : ms.length ≤ 200) (S : Src) :
    g_law_28 (p, n) (webF p n f) (rp (enc (webF p n f)), rows) ms S (webF p n f :: alongF p n ms f) ∧ ∃ S', m_law_28 (p, n) (webF p n f) (rp (enc (webF p n f)), rows) ms S (webF p n f :: alongF p n ms f) = .ok S' := by
  have h2 := hp.lo
  obtain ⟨pre, hF⟩ := along_last (p := p) (n := n) ms f
  have SF := Sh_webs (n := n) hp hn (ms := ms) G hl
  have gl : getI (webF p n f :: alongF p n ms f) (-(1 : Int)) = webF p n (actsF p ms f) := by rw [hF, getI_last]
  have il : InB (webF p n f :: alongF p n ms f) (-(1 : Int)) := by rw [hF]; exact inB_last _ _
  obtain ⟨w1, w2⟩ := along_eq (n := n) hp (by omega) ms [] G hm (by simp; omega)
  obtain ⟨m1, m2⟩ := made_eq (n := n) hp (by omega) ms G hm
  have Ge := Good.acts h2 ms G
  have hb := backs_all hp hm
  obtain ⟨b1, b2⟩ := made_eq (n := n) hp (by omega) _ Ge hb
  rw [acts_back hp ms G hm] at b2
  have ew : m_webs_along (webF p n f) ms = webF p n f :: alongF p n ms f := w2
  have gw : g_webs_along (webF p n f) ms := ⟨w1, trivial⟩
  obtain ⟨r1, S1, r2⟩ := along_right (n := n) hp Ge h0 (by omega) S
  obtain ⟨x1, S2, x2⟩ := lap_22 (rows := rows) hp G hn S1
  have SE := Sh_web hp hn Ge
  have R28 : RpOk (PyData.list [enc (webF p n f :: alongF p n ms f), enc (webF p n (actsF p ms f))]) := (Sh_lst (m := 2) (all2 SF (SE.mono (by decide) (by decide))) (Nat.le_refl 2) (Nat.le_refl _) (Nat.le_refl _)).ok
  have SB := Sh_moves hp hn hb (by rw [List.length_map, List.length_reverse]; exact hl)
  have bkG : ∀ q ∈ ms.reverse, g_move_back p q := fun q hq => (back_ok hp (hm q (List.mem_reverse.mp hq))).1
  have c24 : decide (rp (enc (m_made_moves (webF p n (actsF p ms f)) (ms.reverse.map fun q => m_move_back p q))) ≠ rp (enc (webF p n f))) = false := by
    rw [b2]; exact decide_eq_false (fun z => z rfl)
  have K24 : g_law_24 (webF p n f) (rp (enc (webF p n f)), rows) S (webF p n f :: alongF p n ms f) (ms.reverse.map fun q => m_move_back p q) ∧ m_law_24 (webF p n f) (rp (enc (webF p n f)), rows) S (webF p n f :: alongF p n ms f) (ms.reverse.map fun q => m_move_back p q) = .ok S2 := by
    constructor
    · refine ⟨il, by rw [gl]; exact b1, by rw [gl, b2]; exact (Sh_web hp hn G).ok, fun _ => ⟨il, by rw [gl]; exact r1⟩, fun _ => trivial, fun _ => ?_⟩
      rw [gl]
      show g_law_22 (webF p n f) (rp (enc (webF p n f)), rows) (if decide (rp (enc (m_made_moves (webF p n (actsF p ms f)) (ms.reverse.map fun q => m_move_back p q))) ≠ rp (enc (webF p n f))) = true then S else (m__law_along_right (webF p n (actsF p ms f)) S).2)
      rw [c24, r2]; exact x1
    · unfold m_law_24
      rw [gl]
      show (if (decide (rp (enc (m_made_moves (webF p n (actsF p ms f)) (ms.reverse.map fun q => m_move_back p q))) ≠ rp (enc (webF p n f))) || !(m__law_along_right (webF p n (actsF p ms f)) S).1) = true then _ else m_law_22 (webF p n f) (rp (enc (webF p n f)), rows) (if decide (rp (enc (m_made_moves (webF p n (actsF p ms f)) (ms.reverse.map fun q => m_move_back p q))) ≠ rp (enc (webF p n f))) = true then S else (m__law_along_right (webF p n (actsF p ms f)) S).2)) = _
      rw [c24, r2]; exact x2
  have K27 : g_law_27 (p, n) (webF p n f) (rp (enc (webF p n f)), rows) ms S (webF p n f :: alongF p n ms f) ∧ m_law_27 (p, n) (webF p n f) (rp (enc (webF p n f)), rows) ms S (webF p n f :: alongF p n ms f) = .ok S2 := by
    constructor
    · exact ⟨bkG, SB.ok, bkG, SB.ok, fun _ => trivial, fun _ => K24.1⟩
    · show (if decide (rp (enc (ms.reverse.map fun q => m_move_back p q)) ≠ rp (enc (ms.reverse.map fun q => m_move_back p q))) = true then _ else m_law_24 (webF p n f) (rp (enc (webF p n f)), rows) S (webF p n f :: alongF p n ms f) (ms.reverse.map fun q => m_move_back p q)) = _
      rw [if_neg (rneq rfl)]; exact K24.2
  constructor
  · refine ⟨gw, m1, by rw [ew, m2]; exact R28, il, by rw [gl]; exact R28, fun _ => trivial, fun _ => K27.1⟩
  · refine ⟨S2, ?_⟩
    unfold m_law_28
    rw [ew, m2, gl, if_neg (rneq rfl)]
    exact K27.2
end
end L2.Ev

set_option Elab.async false
set_option linter.all false
set_option maxRecDepth 100000
/-! Wm20: the law's body (k09). -/
namespace L2.Ev
open PySem PySem.Spec PyProof.Rows PySem.W
section
variable {p : Int} {n : Nat} {f g : Int → Int → Int} {u v a : Int}
theorem move_ok (hp : Pr p) (h0 : 1 ≤ n) (hn : n ≤ 10) (S : Src) : g__law_move p n S ∧ MvOk p n (m__law_move p n S).1 := by
  have h2 := hp.lo
  have h3 := hp.hi
  have b1 := pickA_bd S (m := 3) (by decide)
  have b2 := pickA_bd (pickA S 3).2 (m := (n : Int)) (by omega)
  have b3 := pickA_bd (pickA (pickA S 3).2 n).2 (m := p - 1) (by omega)
  obtain ⟨g1, g2⟩ := getI_memN (xs := ([("turn" : Str), ("turn" : Str), ("scale" : Str)] : List Str)) b1.1 b1.2
  refine ⟨⟨by show (3 : Int) < 1073741824; decide, g2, by show (n : Int) < 1073741824; omega, by show p - 1 < 1073741824; omega⟩, ?_, b2.1, b2.2, ?_, ?_⟩
  · show getI ([("turn" : Str), ("turn" : Str), ("scale" : Str)] : List Str) (pickA S 3).1 = sTurn ∨ getI ([("turn" : Str), ("turn" : Str), ("scale" : Str)] : List Str) (pickA S 3).1 = sScale
    rcases List.mem_cons.mp g1 with e | g1
    · exact .inl e
    rcases List.mem_cons.mp g1 with e | g1
    · exact .inl e
    · exact .inr (List.mem_singleton.mp g1)
  · show 1 ≤ 1 + (pickA (pickA (pickA S 3).2 n).2 (p - 1)).1
    omega
  · show 1 + (pickA (pickA (pickA S 3).2 n).2 (p - 1)).1 < p
    omega
theorem lap_29 (hp : Pr p) (G : Good p f) (h0 : 1 ≤ n) (hn : n ≤ 10) {rows : List (List Int)} {ms : List Mv} (hm : ∀ m ∈ ms, MvOk p n m) (hl : ms.length ≤ 200) (S : Src) :
    g_law_30 (p, n) (webF p n f) (rp (enc (webF p n f)), rows) ms S ∧ ∃ S', m_law_30 (p, n) (webF p n f) (rp (enc (webF p n f)), rows) ms S = .ok S' := by
  obtain ⟨a1, a2⟩ := found_eq (n := n) hp hn S ms [] G hm (by simp; omega)
  obtain ⟨b1, S', b2⟩ := lap_28 (rows := rows) hp G h0 hn hm hl S
  refine ⟨⟨a1, ?_⟩, S', ?_⟩
  · show okX (foldX (fun r q => m_law_10 (p, n) S r q) ms ([] ++ [webF p n f])) _
    rw [a2]; exact b1
  · show bindXX (foldX (fun r q => m_law_10 (p, n) S r q) ms ([] ++ [webF p n f])) _ = _
    rw [a2]; exact b2
theorem lap_32 (hp : Pr p) (G : Good p f) (h0 : 1 ≤ n) (hn : n ≤ 10) {rows : List (List Int)} {lap : Int} (l0 : 0 ≤ lap) (l1 : lap < 4) (S : Src) :
    g_law_32 lap (p, n) (webF p n f) (rp (enc (webF p n f)), rows) S ∧ ∃ S', m_law_32 lap (p, n) (webF p n f) (rp (enc (webF p n f)), rows) S = .ok S' := by
  obtain ⟨c1, c2⟩ := getI_memN (xs := ([(5 : Int), (25 : Int), (40 : Int), (200 : Int)] : List Int)) l0 (by show lap < ((4 : Nat) : Int); omega)
  generalize hc : getI ([(5 : Int), (25 : Int), (40 : Int), (200 : Int)] : List Int) lap = c at *
  have cb : 1 ≤ c ∧ c ≤ 200 := by
    simp only [List.mem_cons, List.not_mem_nil, or_false] at c1
    omega
  have bc := pickA_bd S (m := c) cb.1
  generalize hk : pickA S c = k at *
  obtain ⟨m1, m2⟩ := mapS_all (f := fun (S_1793 : Src) (q_1789 : Int) => ((m__law_move p n (S_1793)).1, (m__law_move p n (S_1793)).2)) (G := fun (S_1793 : Src) (q_1789 : Int) => (g__law_move p n (S_1793))) (fun m => MvOk p n m) (rngI 0 (Int.toNat k.1)) k.2 (fun T x _ => move_ok hp h0 hn T)
  have ml := mapS_len (fun (S_1793 : Src) (q_1789 : Int) => ((m__law_move p n (S_1793)).1, (m__law_move p n (S_1793)).2)) (rngI 0 (Int.toNat k.1)) k.2
  rw [rngI_length] at ml
  obtain ⟨d1, S', d2⟩ := lap_29 (rows := rows) hp G h0 hn m2 (by rw [ml]; omega) (mapS (fun (S_1793 : Src) (q_1789 : Int) => ((m__law_move p n (S_1793)).1, (m__law_move p n (S_1793)).2)) k.2 (rngI 0 (Int.toNat k.1))).2
  have ek : m__law_pick (getI ([(5 : Int), (25 : Int), (40 : Int), (200 : Int)] : List Int) lap) S = k := by rw [hc]; exact hk
  constructor
  · unfold g_law_32
    rw [ek]
    exact ⟨c2, by rw [hc]; show c < 1073741824; omega, ⟨by omega, by omega⟩, m1, d1⟩
  · refine ⟨S', ?_⟩
    unfold m_law_32
    rw [ek]
    exact d2
theorem lap_34 (hp : Pr p) (G : Good p f) (h0 : 1 ≤ n) (hn : n ≤ 10) {lap : Int} (l0 : 0 ≤ lap) (l1 : lap < 4) (u0 : 0 ≤ u) (u1 : u < n) (v0 : 0 ≤ v) (v1 : v < n) (S : Src) :
    g_law_34 lap (p, n) (webF p n f) (rp (enc (webF p n f)), Tab n f) (u, v) S ∧ ∃ S', m_law_34 lap (p, n) (webF p n f) (rp (enc (webF p n f)), Tab n f) (u, v) S = .ok S' := by
  have h2 := hp.lo
  have h3 := hp.hi
  obtain ⟨w1, w2⟩ := weight_eq (n := n) G u0 u1 v0 v1
  obtain ⟨t1, t2⟩ := tied_to_eq (n := n) G (by omega) v0 v1
  obtain ⟨d1, S', d2⟩ := lap_32 (rows := Tab n f) hp G h0 hn l0 l1 S
  have en : List.map (fun (q : Int) => (q, getI (getI (Tab n f) v) q)) (List.filter (fun (q : Int) => decide (getI (getI (Tab n f) v) q ≠ (0 : Int))) (rngI 0 (Int.toNat (n : Int)))) = near n f v := by
    rw [Int.toNat_natCast]
    unfold near
    have e1 : List.filter (fun (q : Int) => decide (getI (getI (Tab n f) v) q ≠ (0 : Int))) (rngI 0 n) = List.filter (fun w => decide (f v w ≠ 0)) (rngI 0 n) := List.filter_congr fun x hx => by
      rw [mem_rngI] at hx
      rw [Tab_get v0 v1 hx.1 (by omega)]
    rw [e1]
    exact List.map_congr_left fun x hx => by
      have hx := (List.mem_filter.mp hx).1
      rw [mem_rngI] at hx
      rw [Tab_get v0 v1 hx.1 (by omega)]
  have fb := G.lo u v
  have fh := G.hi u v
  have nl : (near n f v).length ≤ 10 := by
    unfold near
    rw [List.length_map]
    have := List.length_filter_le (fun w => decide (f v w ≠ 0)) (rngI 0 n)
    rw [rngI_length] at this; omega
  have SN : Sh (PyData.list (encs (near n f v))) 264 2 := Sh_lst (m := 10) (w := 24) (k := 1) (mem_encs fun y hy => by
    obtain ⟨y1, y2, y3, y4⟩ := mem_near.mp hy
    have := G.lo v y.1
    have := G.hi v y.1
    exact Sh_tup (m := 2) (all2 (Sh_int (i := y.1) (by omega)) (Sh_int (i := y.2) (by omega))) (Nat.le_refl 2) (by decide) (by decide)) (by rw [len_encs]; exact nl) (by decide) (by decide)
  have R : RpOk (PyData.list [enc (f u v), PyData.list (encs (near n f v))]) := (Sh_lst (m := 2) (all2 ((Sh_int (i := f u v) (by omega)).mono (by decide) (by decide)) SN) (Nat.le_refl 2) (Nat.le_refl _) (Nat.le_refl _)).ok
  have K33 : g_law_33 lap (p, n) (webF p n f) (rp (enc (webF p n f)), Tab n f) (u, v) S (near n f v) ∧ m_law_33 lap (p, n) (webF p n f) (rp (enc (webF p n f)), Tab n f) (u, v) S (near n f v) = .ok S' := by
    constructor
    · refine ⟨w1, t1, ?_, Tab_inB u0 u1, Tab_inBrow u0 u1 v0 v1, ?_, fun _ => trivial, fun _ => d1⟩
      · show RpOk (PyData.list [enc (m_weight_at (webF p n f) u v), PyData.list (encs (m_tied_to (webF p n f) v))])
        rw [w2, t2]; exact R
      · show RpOk (PyData.list [enc (getI (getI (Tab n f) u) v), PyData.list (encs (near n f v))])
        rw [Tab_get u0 u1 v0 v1]; exact R
    · show (if decide (rp (PyData.list [enc (m_weight_at (webF p n f) u v), PyData.list (encs (m_tied_to (webF p n f) v))]) ≠ rp (PyData.list [enc (getI (getI (Tab n f) u) v), PyData.list (encs (near n f v))])) = true then _ else m_law_32 lap (p, n) (webF p n f) (rp (enc (webF p n f)), Tab n f) S) = _
      rw [w2, t2, Tab_get u0 u1 v0 v1, if_neg (rneq rfl)]
      exact d2
  constructor
  · refine ⟨⟨by show -(2 ^ 62) ≤ (n : Int); omega, by show (n : Int) ≤ _; omega⟩, fun q hq => ?_, ?_⟩
    · have hq' : q ∈ rngI 0 (Int.toNat (n : Int)) := hq
      rw [Int.toNat_natCast, mem_rngI] at hq'
      have q1 : q < n := by omega
      exact ⟨Tab_inB v0 v1, Tab_inBrow v0 v1 hq'.1 q1, fun _ => ⟨Tab_inB v0 v1, Tab_inBrow v0 v1 hq'.1 q1⟩⟩
    · show g_law_33 lap (p, n) (webF p n f) (rp (enc (webF p n f)), Tab n f) (u, v) S (List.map (fun (q : Int) => (q, getI (getI (Tab n f) v) q)) (List.filter (fun (q : Int) => decide (getI (getI (Tab n f) v) q ≠ (0 : Int))) (rngI 0 (Int.toNat (n : Int)))))
      rw [en]; exact K33.1
  · refine ⟨S', ?_⟩
    show m_law_33 lap (p, n) (webF p n f) (rp (enc (webF p n f)), Tab n f) (u, v) S (List.map (fun (q : Int) => (q, getI (getI (Tab n f) v) q)) (List.filter (fun (q : Int) => decide (getI (getI (Tab n f) v) q ≠ (0 : Int))) (rngI 0 (Int.toNat (n : Int))))) = _
    rw [en]; exact K33.2
theorem Sh_tab (hp : Pr p) (hn : n ≤ 10) (G : Good p f) : Sh (enc (Tab n f)) 1064 2 := by
  have h2 := hp.lo
  have h3 := hp.hi
  refine Sh_tup (m := 10) (w := 104) (k := 1) (mem_encs fun r hr => ?_) (by rw [len_encs, Tab_length]; exact hn) (by decide) (by decide)
  obtain ⟨x, hx, rfl⟩ := List.mem_map.mp hr
  refine Sh_tup (m := 10) (w := 8) (k := 0) (mem_encs fun y hy => ?_) (by rw [len_encs, List.length_map, rngI_length]; exact hn) (by decide) (by decide)
  obtain ⟨z, hz, rfl⟩ := List.mem_map.mp hy
  have := G.lo x z
  have := G.hi x z
  exact Sh_int (by omega)
theorem lap_38 (hp : Pr p) (G : Good p f) (h0 : 1 ≤ n) (hn : n ≤ 10) {lap : Int} (l0 : 0 ≤ lap) (l1 : lap < 4) (S : Src) :
    g_law_38 lap (p, n) (webF p n f) S ∧ ∃ S', m_law_38 lap (p, n) (webF p n f) S = .ok S' := by
  have h2 := hp.lo
  have h3 := hp.hi
  obtain ⟨t1, t2⟩ := table_of_eq (n := n) G (by omega)
  obtain ⟨r1, r2⟩ := ltable_eq (n := n) G (by omega)
  obtain ⟨o1, o2⟩ := web_of_eq (p := p) (n := n) (f := f) (by omega)
  have bu := pickA_bd S (m := (n : Int)) (by omega)
  have bv := pickA_bd (pickA S n).2 (m := (n : Int)) (by omega)
  obtain ⟨d1, S', d2⟩ := lap_34 hp G h0 hn l0 l1 bu.1 bu.2 bv.1 bv.2 (pickA (pickA S n).2 n).2
  have ST := (Sh_tab hp hn G).ok
  have SW := (Sh_web hp hn G).ok
  have D1 : decide (rp (enc (m_table_of (webF p n f))) ≠ rp (enc (List.map (fun (q : List Int) => q) (Tab n f)))) = false := by
    rw [t2, List.map_id']; exact decide_eq_false fun z => z rfl
  have D2 : decide (rp (enc (m_web_of p (m_table_of (webF p n f)))) ≠ rp (enc (webF p n f))) = false := by
    rw [t2, o2]; exact decide_eq_false fun z => z rfl
  have pn : (n : Int) < 1073741824 := by omega
  have K37 : g_law_37 lap (p, n) (webF p n f) S (rp (enc (webF p n f)), Tab n f) ∧ m_law_37 lap (p, n) (webF p n f) S (rp (enc (webF p n f)), Tab n f) = .ok S' := by
    constructor
    · refine ⟨t1, by rw [t2]; exact ST, ?_, fun _ => ⟨t1, by rw [t2]; exact o1, ?_⟩, fun _ => trivial, fun _ => ⟨pn, pn, d1⟩⟩
      · show RpOk (enc (List.map (fun (q : List Int) => q) (Tab n f)))
        rw [List.map_id']; exact ST
      · show RpOk (enc (m_web_of p (m_table_of (webF p n f))))
        rw [t2, o2]; exact SW
    · show (if (decide (rp (enc (m_table_of (webF p n f))) ≠ rp (enc (List.map (fun (q : List Int) => q) (Tab n f)))) || decide (rp (enc (m_web_of p (m_table_of (webF p n f)))) ≠ rp (enc (webF p n f)))) = true then _ else m_law_36 lap (p, n) (webF p n f) S (rp (enc (webF p n f)), Tab n f)) = _
      rw [D1, D2]
      exact d2
  constructor
  · refine ⟨SW, r1, ?_⟩
    rw [r2]; exact K37.1
  · refine ⟨S', ?_⟩
    show m_law_37 lap (p, n) (webF p n f) S (rp (enc (webF p n f)), m__law_table (webF p n f)) = _
    rw [r2]; exact K37.2
end
theorem lap_40 {lap : Int} (l0 : 0 ≤ lap) (l1 : lap < 4) (S : Src) : g_law_40 S lap ∧ ∃ S', m_law_40 S lap = .ok S' := by
  have b1 := pickA_bd S (m := 4) (by decide)
  obtain ⟨p1, p2⟩ := getI_memN (xs := ([(2 : Int), (3 : Int), (5 : Int), (7 : Int)] : List Int)) b1.1 b1.2
  obtain ⟨c1, c2⟩ := getI_memN (xs := ([(4 : Int), (6 : Int), (8 : Int), (8 : Int)] : List Int)) l0 (by show lap < ((4 : Nat) : Int); omega)
  have hp : Pr (getI ([(2 : Int), (3 : Int), (5 : Int), (7 : Int)] : List Int) (m__law_pick (4 : Int) S).1) := by
    have p1' : getI ([(2 : Int), (3 : Int), (5 : Int), (7 : Int)] : List Int) (m__law_pick (4 : Int) S).1 ∈ ([(2 : Int), (3 : Int), (5 : Int), (7 : Int)] : List Int) := p1
    simp only [List.mem_cons, List.not_mem_nil, or_false] at p1'
    exact p1'
  have cb : 1 ≤ getI ([(4 : Int), (6 : Int), (8 : Int), (8 : Int)] : List Int) lap ∧ getI ([(4 : Int), (6 : Int), (8 : Int), (8 : Int)] : List Int) lap ≤ 8 := by
    simp only [List.mem_cons, List.not_mem_nil, or_false] at c1
    omega
  have g1 : g__law_pick (getI ([(4 : Int), (6 : Int), (8 : Int), (8 : Int)] : List Int) lap) ((m__law_pick (4 : Int) S).2) := by
    show getI ([(4 : Int), (6 : Int), (8 : Int), (8 : Int)] : List Int) lap < 1073741824
    omega
  have key : ∀ (p c : Int) (T : Src), Pr p → 0 ≤ c → c < 8 → g_law_39 lap (p, 1 + c) T ∧ ∃ S', m_law_39 lap (p, 1 + c) T = .ok S' := fun p c T hp c0 c8 => by
    have h2 := hp.lo
    have h3 := hp.hi
    obtain ⟨n, hn⟩ : ∃ n : Nat, 1 + c = n := ⟨(1 + c).toNat, by omega⟩
    rw [hn]
    have bs := pickA_bd T (m := 2) (by decide)
    obtain ⟨w1, f, S1, G, w2⟩ := law_web_eq (p := p) (n := n) (share := 2 + (pickA T 2).1) h2 (by omega) (by omega) (by omega) (pickA T 2).2
    obtain ⟨d1, S', d2⟩ := lap_38 (n := n) hp G (by omega) (by omega) l0 l1 S1
    constructor
    · refine ⟨by show (2 : Int) < 1073741824; decide, w1, ?_⟩
      show g_law_38 lap (p, n) (m__law_web p n (2 + (pickA T 2).1) (pickA T 2).2).1 (m__law_web p n (2 + (pickA T 2).1) (pickA T 2).2).2
      rw [w2]; exact d1
    · refine ⟨S', ?_⟩
      show m_law_38 lap (p, n) (m__law_web p n (2 + (pickA T 2).1) (pickA T 2).2).1 (m__law_web p n (2 + (pickA T 2).1) (pickA T 2).2).2 = _
      rw [w2]; exact d2
  have b2 := pickA_bd (m__law_pick (4 : Int) S).2 (m := getI ([(4 : Int), (6 : Int), (8 : Int), (8 : Int)] : List Int) lap) cb.1
  obtain ⟨k1, S', k2⟩ := key _ (m__law_pick (getI ([(4 : Int), (6 : Int), (8 : Int), (8 : Int)] : List Int) lap) ((m__law_pick (4 : Int) S).2)).1 (m__law_pick (getI ([(4 : Int), (6 : Int), (8 : Int), (8 : Int)] : List Int) lap) ((m__law_pick (4 : Int) S).2)).2 hp b2.1 (by
    have := b2.2
    show (pickA (m__law_pick (4 : Int) S).2 (getI ([(4 : Int), (6 : Int), (8 : Int), (8 : Int)] : List Int) lap)).1 < 8
    omega)
  exact ⟨⟨by show (4 : Int) < 1073741824; decide, p2, c2, g1, k1⟩, S', k2⟩
/-- the web of the last row of the law -/
def f3 : Int → Int → Int := fun a b => if (a = 0 ∧ b = 1) ∨ (a = 1 ∧ b = 0) ∨ (a = 1 ∧ b = 2) ∨ (a = 2 ∧ b = 1) then 1 else 0
theorem f3_good : Good 3 f3 := by
  refine ⟨fun u v => ?_, fun u => ?_, fun u v => ?_, fun u v => ?_⟩
  · unfold f3
    by_cases h : (u = 0 ∧ v = 1) ∨ (u = 1 ∧ v = 0) ∨ (u = 1 ∧ v = 2) ∨ (u = 2 ∧ v = 1)
    · rw [if_pos h, if_pos (by omega)]
    · rw [if_neg h, if_neg (by omega)]
  · unfold f3; rw [if_neg (by omega)]
  · unfold f3; split <;> decide
  · unfold f3; split <;> decide
theorem last_41 (S : Src) : g_law_41 S ∧ m_law_41 S = (true, S) := by
  have e : webF 3 3 f3 = (T3.mk (3 : Int) (3 : Int) [T3.mk (0 : Int) (1 : Int) (1 : Int), T3.mk (1 : Int) (2 : Int) (1 : Int)] : Web) := by decide +kernel
  obtain ⟨t1, t2⟩ := turned_eq (n := 3) (v := 1) (c := 1) f3_good (by decide) (by decide) (by decide) (by decide) (by decide)
  have e2 : webF 3 3 (turnF 3 1 1 f3) = (T3.mk (3 : Int) (3 : Int) [T3.mk (0 : Int) (1 : Int) (1 : Int), T3.mk (0 : Int) (2 : Int) (1 : Int), T3.mk (1 : Int) (2 : Int) (1 : Int)] : Web) := by decide +kernel
  rw [e] at t1 t2
  rw [e2] at t2
  constructor
  · exact t1
  · show (decide (m_turned (T3.mk (3 : Int) (3 : Int) [T3.mk (0 : Int) (1 : Int) (1 : Int), T3.mk (1 : Int) (2 : Int) (1 : Int)]) (1 : Int) (1 : Int) = (T3.mk (3 : Int) (3 : Int) [T3.mk (0 : Int) (1 : Int) (1 : Int), T3.mk (0 : Int) (2 : Int) (1 : Int), T3.mk (1 : Int) (2 : Int) (1 : Int)] : Web)), S) = (true, S)
    rw [decide_eq_true t2]
theorem law_all (S : Src) : g_law S ∧ (m_law S).1 = true := by
  obtain ⟨a1, S', a2, _⟩ := foldX_list (P := fun r q => g_law_40 r q) (f := fun r q => m_law_40 r q) (fun (_ : Src) => True) (rngI 0 (Int.toNat (4 : Int))) (n0 := S) trivial (fun x r hx _ => by
    rw [mem_rngI] at hx
    obtain ⟨k1, S', k2⟩ := lap_40 (lap := x) hx.1 (by have := hx.2; show x < 4; simpa using this) r
    exact ⟨k1, S', k2, trivial⟩)
  constructor
  · refine ⟨⟨by decide, by decide⟩, a1, ?_⟩
    rw [a2]; exact (last_41 S').1
  · show (bindX (foldX (fun r q => m_law_40 r q) (rngI 0 (Int.toNat (4 : Int))) S) (fun n => m_law_41 n)).1 = true
    rw [a2]
    show (m_law_41 S').1 = true
    rw [(last_41 S').2]
theorem law_true : ∀ ns : List Int, ns.length ≤ 63 → g_law (openS ns) ∧ (m_law (openS ns)).1 = true := fun ns _ => law_all _
end L2.Ev

set_option Elab.async false
set_option linter.all false
set_option maxRecDepth 100000
namespace L2.Ev
open PySem PySem.Spec PyProof.Rows
/-! what the top has written -/
theorem bd__law_open_cells {K : PySem.W.Frag} {f : Addr} {fd : FuncData} (F : Fun K "_law_open_cells" "_law_open_cells" s__law_open_cells f fd) : Binds K fd ["script"] [] := F.binds (ps := ["script"]) fun _ _ _ _ _ _ us hl => match us, hl with | [_], _ => rfl
theorem bd__law_pick {K : PySem.W.Frag} {f : Addr} {fd : FuncData} (F : Fun K "_law_pick" "_law_pick" s__law_pick f fd) : Binds K fd ["source", "most"] [] := F.binds (ps := ["source", "most"]) fun _ _ _ _ _ _ us hl => match us, hl with | [_, _], _ => rfl
theorem bd__law_web {K : PySem.W.Frag} {f : Addr} {fd : FuncData} (F : Fun K "_law_web" "_law_web" s__law_web f fd) : Binds K fd ["source", "p", "n", "share"] [] := F.binds (ps := ["source", "p", "n", "share"]) fun _ _ _ _ _ _ us hl => match us, hl with | [_, _, _, _], _ => rfl
theorem bd__law_table {K : PySem.W.Frag} {f : Addr} {fd : FuncData} (F : Fun K "_law_table" "_law_table" s__law_table f fd) : Binds K fd ["web"] [] := F.binds (ps := ["web"]) fun _ _ _ _ _ _ us hl => match us, hl with | [_], _ => rfl
theorem bd_table_of {K : PySem.W.Frag} {f : Addr} {fd : FuncData} (F : Fun K "table_of" "table_of" s_table_of f fd) : Binds K fd ["web"] [] := F.binds (ps := ["web"]) fun _ _ _ _ _ _ us hl => match us, hl with | [_], _ => rfl
theorem bd_web_of {K : PySem.W.Frag} {f : Addr} {fd : FuncData} (F : Fun K "web_of" "web_of" s_web_of f fd) : Binds K fd ["p", "table"] [] := F.binds (ps := ["p", "table"]) fun _ _ _ _ _ _ us hl => match us, hl with | [_, _], _ => rfl
theorem bd_weight_at {K : PySem.W.Frag} {f : Addr} {fd : FuncData} (F : Fun K "weight_at" "weight_at" s_weight_at f fd) : Binds K fd ["web", "u", "v"] [] := F.binds (ps := ["web", "u", "v"]) fun _ _ _ _ _ _ us hl => match us, hl with | [_, _, _], _ => rfl
theorem bd_tied_to {K : PySem.W.Frag} {f : Addr} {fd : FuncData} (F : Fun K "tied_to" "tied_to" s_tied_to f fd) : Binds K fd ["web", "v"] [] := F.binds (ps := ["web", "v"]) fun _ _ _ _ _ _ us hl => match us, hl with | [_, _], _ => rfl
theorem bd__law_move {K : PySem.W.Frag} {f : Addr} {fd : FuncData} (F : Fun K "_law_move" "_law_move" s__law_move f fd) : Binds K fd ["source", "p", "n"] [] := F.binds (ps := ["source", "p", "n"]) fun _ _ _ _ _ _ us hl => match us, hl with | [_, _, _], _ => rfl
theorem bd__law_web_of {K : PySem.W.Frag} {f : Addr} {fd : FuncData} (F : Fun K "_law_web_of" "_law_web_of" s__law_web_of f fd) : Binds K fd ["p", "rows"] [] := F.binds (ps := ["p", "rows"]) fun _ _ _ _ _ _ us hl => match us, hl with | [_, _], _ => rfl
theorem bd__law_moved {K : PySem.W.Frag} {f : Addr} {fd : FuncData} (F : Fun K "_law_moved" "_law_moved" s__law_moved f fd) : Binds K fd ["web", "move"] [] := F.binds (ps := ["web", "move"]) fun _ _ _ _ _ _ us hl => match us, hl with | [_, _], _ => rfl
theorem bd_turned {K : PySem.W.Frag} {f : Addr} {fd : FuncData} (F : Fun K "turned" "turned" s_turned f fd) : Binds K fd ["web", "v", "c"] [] := F.binds (ps := ["web", "v", "c"]) fun _ _ _ _ _ _ us hl => match us, hl with | [_, _, _], _ => rfl
theorem bd_scaled {K : PySem.W.Frag} {f : Addr} {fd : FuncData} (F : Fun K "scaled" "scaled" s_scaled f fd) : Binds K fd ["web", "v", "s"] [] := F.binds (ps := ["web", "v", "s"]) fun _ _ _ _ _ _ us hl => match us, hl with | [_, _, _], _ => rfl
theorem bd_moved {K : PySem.W.Frag} {f : Addr} {fd : FuncData} (F : Fun K "moved" "moved" s_moved f fd) : Binds K fd ["web", "move"] [] := F.binds (ps := ["web", "move"]) fun _ _ _ _ _ _ us hl => match us, hl with | [_, _], _ => rfl
theorem bd_inverse {K : PySem.W.Frag} {f : Addr} {fd : FuncData} (F : Fun K "inverse" "inverse" s_inverse f fd) : Binds K fd ["p", "a"] [] := F.binds (ps := ["p", "a"]) fun _ _ _ _ _ _ us hl => match us, hl with | [_, _], _ => rfl
theorem bd_move_back {K : PySem.W.Frag} {f : Addr} {fd : FuncData} (F : Fun K "move_back" "move_back" s_move_back f fd) : Binds K fd ["p", "move"] [] := F.binds (ps := ["p", "move"]) fun _ _ _ _ _ _ us hl => match us, hl with | [_, _], _ => rfl
theorem bd_webs_along {K : PySem.W.Frag} {f : Addr} {fd : FuncData} (F : Fun K "webs_along" "webs_along" s_webs_along f fd) : Binds K fd ["web", "moves"] [] := F.binds (ps := ["web", "moves"]) fun _ _ _ _ _ _ us hl => match us, hl with | [_, _], _ => rfl
theorem bd_made_moves {K : PySem.W.Frag} {f : Addr} {fd : FuncData} (F : Fun K "made_moves" "made_moves" s_made_moves f fd) : Binds K fd ["web", "moves"] [] := F.binds (ps := ["web", "moves"]) fun _ _ _ _ _ _ us hl => match us, hl with | [_, _], _ => rfl
theorem bd_moves_back {K : PySem.W.Frag} {f : Addr} {fd : FuncData} (F : Fun K "moves_back" "moves_back" s_moves_back f fd) : Binds K fd ["p", "moves"] [] := F.binds (ps := ["p", "moves"]) fun _ _ _ _ _ _ us hl => match us, hl with | [_, _], _ => rfl
theorem bd__law_along_right {K : PySem.W.Frag} {f : Addr} {fd : FuncData} (F : Fun K "_law_along_right" "_law_along_right" s__law_along_right f fd) : Binds K fd ["source", "web"] [] := F.binds (ps := ["source", "web"]) fun _ _ _ _ _ _ us hl => match us, hl with | [_, _], _ => rfl
theorem bd__law_of {K : PySem.W.Frag} {f : Addr} {fd : FuncData} (F : Fun K "_law_of" "_law_of" s__law_of f fd) : Binds K fd ["source", "some"] [] := F.binds (ps := ["source", "some"]) fun _ _ _ _ _ _ us hl => match us, hl with | [_, _], _ => rfl
theorem bd_exchange_moves {K : PySem.W.Frag} {f : Addr} {fd : FuncData} (F : Fun K "exchange_moves" "exchange_moves" s_exchange_moves f fd) : Binds K fd ["web", "v", "w", "a"] [] := F.binds (ps := ["web", "v", "w", "a"]) fun _ _ _ _ _ _ us hl => match us, hl with | [_, _, _, _], _ => rfl
theorem bd_exchanged {K : PySem.W.Frag} {f : Addr} {fd : FuncData} (F : Fun K "exchanged" "exchanged" s_exchanged f fd) : Binds K fd ["web", "v", "w", "a"] [] := F.binds (ps := ["web", "v", "w", "a"]) fun _ _ _ _ _ _ us hl => match us, hl with | [_, _, _, _], _ => rfl
theorem bd__law_made {K : PySem.W.Frag} {f : Addr} {fd : FuncData} (F : Fun K "_law_made" "_law_made" s__law_made f fd) : Binds K fd ["web", "moves"] [] := F.binds (ps := ["web", "moves"]) fun _ _ _ _ _ _ us hl => match us, hl with | [_, _], _ => rfl
theorem bd__law_exchange_right {K : PySem.W.Frag} {f : Addr} {fd : FuncData} (F : Fun K "_law_exchange_right" "_law_exchange_right" s__law_exchange_right f fd) : Binds K fd ["source", "web", "u", "v"] [] := F.binds (ps := ["source", "web", "u", "v"]) fun _ _ _ _ _ _ us hl => match us, hl with | [_, _, _, _], _ => rfl
theorem bd_law {K : PySem.W.Frag} {f : Addr} {fd : FuncData} (F : Fun K "law" "law" s_law f fd) : Binds K fd ["script"] [] := F.binds (ps := ["script"]) fun _ _ _ _ _ _ us hl => match us, hl with | [_], _ => rfl
def mkKit {K : PySem.W.Frag} {h : Heap} {mg : Str → Option Value} (X : K.In h) (G : h.Ns mainGlobals mg)
    {f1 : Addr} {od1 an1 : Option Addr} {sl1 : Array (Option Value)} {oc1 kV1 dc1 pm1 cd1 ct1 : Value}
    {f2 : Addr} {od2 an2 : Option Addr} {sl2 : Array (Option Value)} {oc2 kV2 dc2 pm2 cd2 ct2 : Value}
    {f3 : Addr} {od3 an3 : Option Addr} {sl3 : Array (Option Value)} {oc3 kV3 dc3 pm3 cd3 ct3 : Value}
    {f4 : Addr} {od4 an4 : Option Addr} {sl4 : Array (Option Value)} {oc4 kV4 dc4 pm4 cd4 ct4 : Value}
    {f5 : Addr} {od5 an5 : Option Addr} {sl5 : Array (Option Value)} {oc5 kV5 dc5 pm5 cd5 ct5 : Value}
    {f6 : Addr} {od6 an6 : Option Addr} {sl6 : Array (Option Value)} {oc6 kV6 dc6 pm6 cd6 ct6 : Value}
    {f7 : Addr} {od7 an7 : Option Addr} {sl7 : Array (Option Value)} {oc7 kV7 dc7 pm7 cd7 ct7 : Value}
    {f8 : Addr} {od8 an8 : Option Addr} {sl8 : Array (Option Value)} {oc8 kV8 dc8 pm8 cd8 ct8 : Value}
    {f9 : Addr} {od9 an9 : Option Addr} {sl9 : Array (Option Value)} {oc9 kV9 dc9 pm9 cd9 ct9 : Value}
    {f10 : Addr} {od10 an10 : Option Addr} {sl10 : Array (Option Value)} {oc10 kV10 dc10 pm10 cd10 ct10 : Value}
    {f11 : Addr} {od11 an11 : Option Addr} {sl11 : Array (Option Value)} {oc11 kV11 dc11 pm11 cd11 ct11 : Value}
    {f12 : Addr} {od12 an12 : Option Addr} {sl12 : Array (Option Value)} {oc12 kV12 dc12 pm12 cd12 ct12 : Value}
    {f13 : Addr} {od13 an13 : Option Addr} {sl13 : Array (Option Value)} {oc13 kV13 dc13 pm13 cd13 ct13 : Value}
    {f14 : Addr} {od14 an14 : Option Addr} {sl14 : Array (Option Value)} {oc14 kV14 dc14 pm14 cd14 ct14 : Value}
    {f15 : Addr} {od15 an15 : Option Addr} {sl15 : Array (Option Value)} {oc15 kV15 dc15 pm15 cd15 ct15 : Value}
    {f16 : Addr} {od16 an16 : Option Addr} {sl16 : Array (Option Value)} {oc16 kV16 dc16 pm16 cd16 ct16 : Value}
    {f17 : Addr} {od17 an17 : Option Addr} {sl17 : Array (Option Value)} {oc17 kV17 dc17 pm17 cd17 ct17 : Value}
    {f18 : Addr} {od18 an18 : Option Addr} {sl18 : Array (Option Value)} {oc18 kV18 dc18 pm18 cd18 ct18 : Value}
    {f19 : Addr} {od19 an19 : Option Addr} {sl19 : Array (Option Value)} {oc19 kV19 dc19 pm19 cd19 ct19 : Value}
    {f20 : Addr} {od20 an20 : Option Addr} {sl20 : Array (Option Value)} {oc20 kV20 dc20 pm20 cd20 ct20 : Value}
    {f21 : Addr} {od21 an21 : Option Addr} {sl21 : Array (Option Value)} {oc21 kV21 dc21 pm21 cd21 ct21 : Value}
    {f22 : Addr} {od22 an22 : Option Addr} {sl22 : Array (Option Value)} {oc22 kV22 dc22 pm22 cd22 ct22 : Value}
    {f23 : Addr} {od23 an23 : Option Addr} {sl23 : Array (Option Value)} {oc23 kV23 dc23 pm23 cd23 ct23 : Value}
    {f24 : Addr} {od24 an24 : Option Addr} {sl24 : Array (Option Value)} {oc24 kV24 dc24 pm24 cd24 ct24 : Value}
    {f25 : Addr} {od25 an25 : Option Addr} {sl25 : Array (Option Value)} {oc25 kV25 dc25 pm25 cd25 ct25 : Value}
    {f26 : Addr} {od26 an26 : Option Addr} {sl26 : Array (Option Value)} {oc26 kV26 dc26 pm26 cd26 ct26 : Value}
    (a1 : PySem.W.nsIn K mainGlobals "_law_open_cells" = some (some (.ref f1)))
    (l1 : K.lookup f1 = some ⟨oc1, od1, .func (PySem.W.fnOf "_law_open_cells" "_law_open_cells" (defArgs s__law_open_cells) (defBody s__law_open_cells) (defScope s__law_open_cells) .none kV1 dc1 pm1 an1 cd1 ct1), sl1⟩)
    (c1 : PySem.W.codeIn K cd1 "_law_open_cells" = true) (k1 : PySem.W.keepIn K (.ref f1) = true)
    (a2 : PySem.W.nsIn K mainGlobals "_law_pick" = some (some (.ref f2)))
    (l2 : K.lookup f2 = some ⟨oc2, od2, .func (PySem.W.fnOf "_law_pick" "_law_pick" (defArgs s__law_pick) (defBody s__law_pick) (defScope s__law_pick) .none kV2 dc2 pm2 an2 cd2 ct2), sl2⟩)
    (c2 : PySem.W.codeIn K cd2 "_law_pick" = true) (k2 : PySem.W.keepIn K (.ref f2) = true)
    (a3 : PySem.W.nsIn K mainGlobals "_law_web" = some (some (.ref f3)))
    (l3 : K.lookup f3 = some ⟨oc3, od3, .func (PySem.W.fnOf "_law_web" "_law_web" (defArgs s__law_web) (defBody s__law_web) (defScope s__law_web) .none kV3 dc3 pm3 an3 cd3 ct3), sl3⟩)
    (c3 : PySem.W.codeIn K cd3 "_law_web" = true) (k3 : PySem.W.keepIn K (.ref f3) = true)
    (a4 : PySem.W.nsIn K mainGlobals "_law_table" = some (some (.ref f4)))
    (l4 : K.lookup f4 = some ⟨oc4, od4, .func (PySem.W.fnOf "_law_table" "_law_table" (defArgs s__law_table) (defBody s__law_table) (defScope s__law_table) .none kV4 dc4 pm4 an4 cd4 ct4), sl4⟩)
    (c4 : PySem.W.codeIn K cd4 "_law_table" = true) (k4 : PySem.W.keepIn K (.ref f4) = true)
    (a5 : PySem.W.nsIn K mainGlobals "table_of" = some (some (.ref f5)))
    (l5 : K.lookup f5 = some ⟨oc5, od5, .func (PySem.W.fnOf "table_of" "table_of" (defArgs s_table_of) (defBody s_table_of) (defScope s_table_of) .none kV5 dc5 pm5 an5 cd5 ct5), sl5⟩)
    (c5 : PySem.W.codeIn K cd5 "table_of" = true) (k5 : PySem.W.keepIn K (.ref f5) = true)
    (a6 : PySem.W.nsIn K mainGlobals "web_of" = some (some (.ref f6)))
    (l6 : K.lookup f6 = some ⟨oc6, od6, .func (PySem.W.fnOf "web_of" "web_of" (defArgs s_web_of) (defBody s_web_of) (defScope s_web_of) .none kV6 dc6 pm6 an6 cd6 ct6), sl6⟩)
    (c6 : PySem.W.codeIn K cd6 "web_of" = true) (k6 : PySem.W.keepIn K (.ref f6) = true)
    (a7 : PySem.W.nsIn K mainGlobals "weight_at" = some (some (.ref f7)))
    (l7 : K.lookup f7 = some ⟨oc7, od7, .func (PySem.W.fnOf "weight_at" "weight_at" (defArgs s_weight_at) (defBody s_weight_at) (defScope s_weight_at) .none kV7 dc7 pm7 an7 cd7 ct7), sl7⟩)
    (c7 : PySem.W.codeIn K cd7 "weight_at" = true) (k7 : PySem.W.keepIn K (.ref f7) = true)
    (a8 : PySem.W.nsIn K mainGlobals "tied_to" = some (some (.ref f8)))
    (l8 : K.lookup f8 = some ⟨oc8, od8, .func (PySem.W.fnOf "tied_to" "tied_to" (defArgs s_tied_to) (defBody s_tied_to) (defScope s_tied_to) .none kV8 dc8 pm8 an8 cd8 ct8), sl8⟩)
    (c8 : PySem.W.codeIn K cd8 "tied_to" = true) (k8 : PySem.W.keepIn K (.ref f8) = true)
    (a9 : PySem.W.nsIn K mainGlobals "_law_move" = some (some (.ref f9)))
    (l9 : K.lookup f9 = some ⟨oc9, od9, .func (PySem.W.fnOf "_law_move" "_law_move" (defArgs s__law_move) (defBody s__law_move) (defScope s__law_move) .none kV9 dc9 pm9 an9 cd9 ct9), sl9⟩)
    (c9 : PySem.W.codeIn K cd9 "_law_move" = true) (k9 : PySem.W.keepIn K (.ref f9) = true)
    (a10 : PySem.W.nsIn K mainGlobals "_law_web_of" = some (some (.ref f10)))
    (l10 : K.lookup f10 = some ⟨oc10, od10, .func (PySem.W.fnOf "_law_web_of" "_law_web_of" (defArgs s__law_web_of) (defBody s__law_web_of) (defScope s__law_web_of) .none kV10 dc10 pm10 an10 cd10 ct10), sl10⟩)
    (c10 : PySem.W.codeIn K cd10 "_law_web_of" = true) (k10 : PySem.W.keepIn K (.ref f10) = true)
    (a11 : PySem.W.nsIn K mainGlobals "_law_moved" = some (some (.ref f11)))
    (l11 : K.lookup f11 = some ⟨oc11, od11, .func (PySem.W.fnOf "_law_moved" "_law_moved" (defArgs s__law_moved) (defBody s__law_moved) (defScope s__law_moved) .none kV11 dc11 pm11 an11 cd11 ct11), sl11⟩)
    (c11 : PySem.W.codeIn K cd11 "_law_moved" = true) (k11 : PySem.W.keepIn K (.ref f11) = true)
    (a12 : PySem.W.nsIn K mainGlobals "turned" = some (some (.ref f12)))
    (l12 : K.lookup f12 = some ⟨oc12, od12, .func (PySem.W.fnOf "turned" "turned" (defArgs s_turned) (defBody s_turned) (defScope s_turned) .none kV12 dc12 pm12 an12 cd12 ct12), sl12⟩)
    (c12 : PySem.W.codeIn K cd12 "turned" = true) (k12 : PySem.W.keepIn K (.ref f12) = true)
    (a13 : PySem.W.nsIn K mainGlobals "scaled" = some (some (.ref f13)))
    (l13 : K.lookup f13 = some ⟨oc13, od13, .func (PySem.W.fnOf "scaled" "scaled" (defArgs s_scaled) (defBody s_scaled) (defScope s_scaled) .none kV13 dc13 pm13 an13 cd13 ct13), sl13⟩)
    (c13 : PySem.W.codeIn K cd13 "scaled" = true) (k13 : PySem.W.keepIn K (.ref f13) = true)
    (a14 : PySem.W.nsIn K mainGlobals "moved" = some (some (.ref f14)))
    (l14 : K.lookup f14 = some ⟨oc14, od14, .func (PySem.W.fnOf "moved" "moved" (defArgs s_moved) (defBody s_moved) (defScope s_moved) .none kV14 dc14 pm14 an14 cd14 ct14), sl14⟩)
    (c14 : PySem.W.codeIn K cd14 "moved" = true) (k14 : PySem.W.keepIn K (.ref f14) = true)
    (a15 : PySem.W.nsIn K mainGlobals "inverse" = some (some (.ref f15)))
    (l15 : K.lookup f15 = some ⟨oc15, od15, .func (PySem.W.fnOf "inverse" "inverse" (defArgs s_inverse) (defBody s_inverse) (defScope s_inverse) .none kV15 dc15 pm15 an15 cd15 ct15), sl15⟩)
    (c15 : PySem.W.codeIn K cd15 "inverse" = true) (k15 : PySem.W.keepIn K (.ref f15) = true)
    (a16 : PySem.W.nsIn K mainGlobals "move_back" = some (some (.ref f16)))
    (l16 : K.lookup f16 = some ⟨oc16, od16, .func (PySem.W.fnOf "move_back" "move_back" (defArgs s_move_back) (defBody s_move_back) (defScope s_move_back) .none kV16 dc16 pm16 an16 cd16 ct16), sl16⟩)
    (c16 : PySem.W.codeIn K cd16 "move_back" = true) (k16 : PySem.W.keepIn K (.ref f16) = true)
    (a17 : PySem.W.nsIn K mainGlobals "webs_along" = some (some (.ref f17)))
    (l17 : K.lookup f17 = some ⟨oc17, od17, .func (PySem.W.fnOf "webs_along" "webs_along" (defArgs s_webs_along) (defBody s_webs_along) (defScope s_webs_along) .none kV17 dc17 pm17 an17 cd17 ct17), sl17⟩)
    (c17 : PySem.W.codeIn K cd17 "webs_along" = true) (k17 : PySem.W.keepIn K (.ref f17) = true)
    (a18 : PySem.W.nsIn K mainGlobals "made_moves" = some (some (.ref f18)))
    (l18 : K.lookup f18 = some ⟨oc18, od18, .func (PySem.W.fnOf "made_moves" "made_moves" (defArgs s_made_moves) (defBody s_made_moves) (defScope s_made_moves) .none kV18 dc18 pm18 an18 cd18 ct18), sl18⟩)
    (c18 : PySem.W.codeIn K cd18 "made_moves" = true) (k18 : PySem.W.keepIn K (.ref f18) = true)
    (a19 : PySem.W.nsIn K mainGlobals "moves_back" = some (some (.ref f19)))
    (l19 : K.lookup f19 = some ⟨oc19, od19, .func (PySem.W.fnOf "moves_back" "moves_back" (defArgs s_moves_back) (defBody s_moves_back) (defScope s_moves_back) .none kV19 dc19 pm19 an19 cd19 ct19), sl19⟩)
    (c19 : PySem.W.codeIn K cd19 "moves_back" = true) (k19 : PySem.W.keepIn K (.ref f19) = true)
    (a20 : PySem.W.nsIn K mainGlobals "_law_along_right" = some (some (.ref f20)))
    (l20 : K.lookup f20 = some ⟨oc20, od20, .func (PySem.W.fnOf "_law_along_right" "_law_along_right" (defArgs s__law_along_right) (defBody s__law_along_right) (defScope s__law_along_right) .none kV20 dc20 pm20 an20 cd20 ct20), sl20⟩)
    (c20 : PySem.W.codeIn K cd20 "_law_along_right" = true) (k20 : PySem.W.keepIn K (.ref f20) = true)
    (a21 : PySem.W.nsIn K mainGlobals "_law_of" = some (some (.ref f21)))
    (l21 : K.lookup f21 = some ⟨oc21, od21, .func (PySem.W.fnOf "_law_of" "_law_of" (defArgs s__law_of) (defBody s__law_of) (defScope s__law_of) .none kV21 dc21 pm21 an21 cd21 ct21), sl21⟩)
    (c21 : PySem.W.codeIn K cd21 "_law_of" = true) (k21 : PySem.W.keepIn K (.ref f21) = true)
    (a22 : PySem.W.nsIn K mainGlobals "exchange_moves" = some (some (.ref f22)))
    (l22 : K.lookup f22 = some ⟨oc22, od22, .func (PySem.W.fnOf "exchange_moves" "exchange_moves" (defArgs s_exchange_moves) (defBody s_exchange_moves) (defScope s_exchange_moves) .none kV22 dc22 pm22 an22 cd22 ct22), sl22⟩)
    (c22 : PySem.W.codeIn K cd22 "exchange_moves" = true) (k22 : PySem.W.keepIn K (.ref f22) = true)
    (a23 : PySem.W.nsIn K mainGlobals "exchanged" = some (some (.ref f23)))
    (l23 : K.lookup f23 = some ⟨oc23, od23, .func (PySem.W.fnOf "exchanged" "exchanged" (defArgs s_exchanged) (defBody s_exchanged) (defScope s_exchanged) .none kV23 dc23 pm23 an23 cd23 ct23), sl23⟩)
    (c23 : PySem.W.codeIn K cd23 "exchanged" = true) (k23 : PySem.W.keepIn K (.ref f23) = true)
    (a24 : PySem.W.nsIn K mainGlobals "_law_made" = some (some (.ref f24)))
    (l24 : K.lookup f24 = some ⟨oc24, od24, .func (PySem.W.fnOf "_law_made" "_law_made" (defArgs s__law_made) (defBody s__law_made) (defScope s__law_made) .none kV24 dc24 pm24 an24 cd24 ct24), sl24⟩)
    (c24 : PySem.W.codeIn K cd24 "_law_made" = true) (k24 : PySem.W.keepIn K (.ref f24) = true)
    (a25 : PySem.W.nsIn K mainGlobals "_law_exchange_right" = some (some (.ref f25)))
    (l25 : K.lookup f25 = some ⟨oc25, od25, .func (PySem.W.fnOf "_law_exchange_right" "_law_exchange_right" (defArgs s__law_exchange_right) (defBody s__law_exchange_right) (defScope s__law_exchange_right) .none kV25 dc25 pm25 an25 cd25 ct25), sl25⟩)
    (c25 : PySem.W.codeIn K cd25 "_law_exchange_right" = true) (k25 : PySem.W.keepIn K (.ref f25) = true)
    (a26 : PySem.W.nsIn K mainGlobals "law" = some (some (.ref f26)))
    (l26 : K.lookup f26 = some ⟨oc26, od26, .func (PySem.W.fnOf "law" "law" (defArgs s_law) (defBody s_law) (defScope s_law) .none kV26 dc26 pm26 an26 cd26 ct26), sl26⟩)
    (c26 : PySem.W.codeIn K cd26 "law" = true) (k26 : PySem.W.keepIn K (.ref f26) = true)
    (z_abs : PySem.W.nsIn K mainGlobals "abs" = some none)
    (z_enumerate : PySem.W.nsIn K mainGlobals "enumerate" = some none)
    (z_int : PySem.W.nsIn K mainGlobals "int" = some none)
    (z_len : PySem.W.nsIn K mainGlobals "len" = some none)
    (z_list : PySem.W.nsIn K mainGlobals "list" = some none)
    (z_range : PySem.W.nsIn K mainGlobals "range" = some none)
    (z_repr : PySem.W.nsIn K mainGlobals "repr" = some none)
    (z_sorted : PySem.W.nsIn K mainGlobals "sorted" = some none)
    (z_tuple : PySem.W.nsIn K mainGlobals "tuple" = some none) : Kit K mg := ⟨f1, _, fun_mk (st := s__law_open_cells) l1 c1 k1, bd__law_open_cells (fun_mk (st := s__law_open_cells) l1 c1 k1), PySem.W.mg_of X G a1,
    f2, _, fun_mk (st := s__law_pick) l2 c2 k2, bd__law_pick (fun_mk (st := s__law_pick) l2 c2 k2), PySem.W.mg_of X G a2,
    f3, _, fun_mk (st := s__law_web) l3 c3 k3, bd__law_web (fun_mk (st := s__law_web) l3 c3 k3), PySem.W.mg_of X G a3,
    f4, _, fun_mk (st := s__law_table) l4 c4 k4, bd__law_table (fun_mk (st := s__law_table) l4 c4 k4), PySem.W.mg_of X G a4,
    f5, _, fun_mk (st := s_table_of) l5 c5 k5, bd_table_of (fun_mk (st := s_table_of) l5 c5 k5), PySem.W.mg_of X G a5,
    f6, _, fun_mk (st := s_web_of) l6 c6 k6, bd_web_of (fun_mk (st := s_web_of) l6 c6 k6), PySem.W.mg_of X G a6,
    f7, _, fun_mk (st := s_weight_at) l7 c7 k7, bd_weight_at (fun_mk (st := s_weight_at) l7 c7 k7), PySem.W.mg_of X G a7,
    f8, _, fun_mk (st := s_tied_to) l8 c8 k8, bd_tied_to (fun_mk (st := s_tied_to) l8 c8 k8), PySem.W.mg_of X G a8,
    f9, _, fun_mk (st := s__law_move) l9 c9 k9, bd__law_move (fun_mk (st := s__law_move) l9 c9 k9), PySem.W.mg_of X G a9,
    f10, _, fun_mk (st := s__law_web_of) l10 c10 k10, bd__law_web_of (fun_mk (st := s__law_web_of) l10 c10 k10), PySem.W.mg_of X G a10,
    f11, _, fun_mk (st := s__law_moved) l11 c11 k11, bd__law_moved (fun_mk (st := s__law_moved) l11 c11 k11), PySem.W.mg_of X G a11,
    f12, _, fun_mk (st := s_turned) l12 c12 k12, bd_turned (fun_mk (st := s_turned) l12 c12 k12), PySem.W.mg_of X G a12,
    f13, _, fun_mk (st := s_scaled) l13 c13 k13, bd_scaled (fun_mk (st := s_scaled) l13 c13 k13), PySem.W.mg_of X G a13,
    f14, _, fun_mk (st := s_moved) l14 c14 k14, bd_moved (fun_mk (st := s_moved) l14 c14 k14), PySem.W.mg_of X G a14,
    f15, _, fun_mk (st := s_inverse) l15 c15 k15, bd_inverse (fun_mk (st := s_inverse) l15 c15 k15), PySem.W.mg_of X G a15,
    f16, _, fun_mk (st := s_move_back) l16 c16 k16, bd_move_back (fun_mk (st := s_move_back) l16 c16 k16), PySem.W.mg_of X G a16,
    f17, _, fun_mk (st := s_webs_along) l17 c17 k17, bd_webs_along (fun_mk (st := s_webs_along) l17 c17 k17), PySem.W.mg_of X G a17,
    f18, _, fun_mk (st := s_made_moves) l18 c18 k18, bd_made_moves (fun_mk (st := s_made_moves) l18 c18 k18), PySem.W.mg_of X G a18,
    f19, _, fun_mk (st := s_moves_back) l19 c19 k19, bd_moves_back (fun_mk (st := s_moves_back) l19 c19 k19), PySem.W.mg_of X G a19,
    f20, _, fun_mk (st := s__law_along_right) l20 c20 k20, bd__law_along_right (fun_mk (st := s__law_along_right) l20 c20 k20), PySem.W.mg_of X G a20,
    f21, _, fun_mk (st := s__law_of) l21 c21 k21, bd__law_of (fun_mk (st := s__law_of) l21 c21 k21), PySem.W.mg_of X G a21,
    f22, _, fun_mk (st := s_exchange_moves) l22 c22 k22, bd_exchange_moves (fun_mk (st := s_exchange_moves) l22 c22 k22), PySem.W.mg_of X G a22,
    f23, _, fun_mk (st := s_exchanged) l23 c23 k23, bd_exchanged (fun_mk (st := s_exchanged) l23 c23 k23), PySem.W.mg_of X G a23,
    f24, _, fun_mk (st := s__law_made) l24 c24 k24, bd__law_made (fun_mk (st := s__law_made) l24 c24 k24), PySem.W.mg_of X G a24,
    f25, _, fun_mk (st := s__law_exchange_right) l25 c25 k25, bd__law_exchange_right (fun_mk (st := s__law_exchange_right) l25 c25 k25), PySem.W.mg_of X G a25,
    f26, _, fun_mk (st := s_law) l26 c26 k26, bd_law (fun_mk (st := s_law) l26 c26 k26), PySem.W.mg_of X G a26,
    PySem.W.mg_none_of X G z_abs,
    PySem.W.mg_none_of X G z_enumerate,
    PySem.W.mg_none_of X G z_int,
    PySem.W.mg_none_of X G z_len,
    PySem.W.mg_none_of X G z_list,
    PySem.W.mg_none_of X G z_range,
    PySem.W.mg_none_of X G z_repr,
    PySem.W.mg_none_of X G z_sorted,
    PySem.W.mg_none_of X G z_tuple⟩
theorem all_mk {l : PySem.W.OpenLaw} {w : World} {K : PySem.W.Frag} {h : Heap} {mg : Str → Option Value} {fa : Addr} (X : K.In h) (G : h.Ns mainGlobals mg) (hfa : mg "law" = some (.ref fa))
    {f1 : Addr} {od1 an1 : Option Addr} {sl1 : Array (Option Value)} {oc1 kV1 dc1 pm1 cd1 ct1 : Value}
    {f2 : Addr} {od2 an2 : Option Addr} {sl2 : Array (Option Value)} {oc2 kV2 dc2 pm2 cd2 ct2 : Value}
    {f3 : Addr} {od3 an3 : Option Addr} {sl3 : Array (Option Value)} {oc3 kV3 dc3 pm3 cd3 ct3 : Value}
    {f4 : Addr} {od4 an4 : Option Addr} {sl4 : Array (Option Value)} {oc4 kV4 dc4 pm4 cd4 ct4 : Value}
    {f5 : Addr} {od5 an5 : Option Addr} {sl5 : Array (Option Value)} {oc5 kV5 dc5 pm5 cd5 ct5 : Value}
    {f6 : Addr} {od6 an6 : Option Addr} {sl6 : Array (Option Value)} {oc6 kV6 dc6 pm6 cd6 ct6 : Value}
    {f7 : Addr} {od7 an7 : Option Addr} {sl7 : Array (Option Value)} {oc7 kV7 dc7 pm7 cd7 ct7 : Value}
    {f8 : Addr} {od8 an8 : Option Addr} {sl8 : Array (Option Value)} {oc8 kV8 dc8 pm8 cd8 ct8 : Value}
    {f9 : Addr} {od9 an9 : Option Addr} {sl9 : Array (Option Value)} {oc9 kV9 dc9 pm9 cd9 ct9 : Value}
    {f10 : Addr} {od10 an10 : Option Addr} {sl10 : Array (Option Value)} {oc10 kV10 dc10 pm10 cd10 ct10 : Value}
    {f11 : Addr} {od11 an11 : Option Addr} {sl11 : Array (Option Value)} {oc11 kV11 dc11 pm11 cd11 ct11 : Value}
    {f12 : Addr} {od12 an12 : Option Addr} {sl12 : Array (Option Value)} {oc12 kV12 dc12 pm12 cd12 ct12 : Value}
    {f13 : Addr} {od13 an13 : Option Addr} {sl13 : Array (Option Value)} {oc13 kV13 dc13 pm13 cd13 ct13 : Value}
    {f14 : Addr} {od14 an14 : Option Addr} {sl14 : Array (Option Value)} {oc14 kV14 dc14 pm14 cd14 ct14 : Value}
    {f15 : Addr} {od15 an15 : Option Addr} {sl15 : Array (Option Value)} {oc15 kV15 dc15 pm15 cd15 ct15 : Value}
    {f16 : Addr} {od16 an16 : Option Addr} {sl16 : Array (Option Value)} {oc16 kV16 dc16 pm16 cd16 ct16 : Value}
    {f17 : Addr} {od17 an17 : Option Addr} {sl17 : Array (Option Value)} {oc17 kV17 dc17 pm17 cd17 ct17 : Value}
    {f18 : Addr} {od18 an18 : Option Addr} {sl18 : Array (Option Value)} {oc18 kV18 dc18 pm18 cd18 ct18 : Value}
    {f19 : Addr} {od19 an19 : Option Addr} {sl19 : Array (Option Value)} {oc19 kV19 dc19 pm19 cd19 ct19 : Value}
    {f20 : Addr} {od20 an20 : Option Addr} {sl20 : Array (Option Value)} {oc20 kV20 dc20 pm20 cd20 ct20 : Value}
    {f21 : Addr} {od21 an21 : Option Addr} {sl21 : Array (Option Value)} {oc21 kV21 dc21 pm21 cd21 ct21 : Value}
    {f22 : Addr} {od22 an22 : Option Addr} {sl22 : Array (Option Value)} {oc22 kV22 dc22 pm22 cd22 ct22 : Value}
    {f23 : Addr} {od23 an23 : Option Addr} {sl23 : Array (Option Value)} {oc23 kV23 dc23 pm23 cd23 ct23 : Value}
    {f24 : Addr} {od24 an24 : Option Addr} {sl24 : Array (Option Value)} {oc24 kV24 dc24 pm24 cd24 ct24 : Value}
    {f25 : Addr} {od25 an25 : Option Addr} {sl25 : Array (Option Value)} {oc25 kV25 dc25 pm25 cd25 ct25 : Value}
    {f26 : Addr} {od26 an26 : Option Addr} {sl26 : Array (Option Value)} {oc26 kV26 dc26 pm26 cd26 ct26 : Value}
    (a1 : PySem.W.nsIn K mainGlobals "_law_open_cells" = some (some (.ref f1)))
    (l1 : K.lookup f1 = some ⟨oc1, od1, .func (PySem.W.fnOf "_law_open_cells" "_law_open_cells" (defArgs s__law_open_cells) (defBody s__law_open_cells) (defScope s__law_open_cells) .none kV1 dc1 pm1 an1 cd1 ct1), sl1⟩)
    (c1 : PySem.W.codeIn K cd1 "_law_open_cells" = true) (k1 : PySem.W.keepIn K (.ref f1) = true)
    (a2 : PySem.W.nsIn K mainGlobals "_law_pick" = some (some (.ref f2)))
    (l2 : K.lookup f2 = some ⟨oc2, od2, .func (PySem.W.fnOf "_law_pick" "_law_pick" (defArgs s__law_pick) (defBody s__law_pick) (defScope s__law_pick) .none kV2 dc2 pm2 an2 cd2 ct2), sl2⟩)
    (c2 : PySem.W.codeIn K cd2 "_law_pick" = true) (k2 : PySem.W.keepIn K (.ref f2) = true)
    (a3 : PySem.W.nsIn K mainGlobals "_law_web" = some (some (.ref f3)))
    (l3 : K.lookup f3 = some ⟨oc3, od3, .func (PySem.W.fnOf "_law_web" "_law_web" (defArgs s__law_web) (defBody s__law_web) (defScope s__law_web) .none kV3 dc3 pm3 an3 cd3 ct3), sl3⟩)
    (c3 : PySem.W.codeIn K cd3 "_law_web" = true) (k3 : PySem.W.keepIn K (.ref f3) = true)
    (a4 : PySem.W.nsIn K mainGlobals "_law_table" = some (some (.ref f4)))
    (l4 : K.lookup f4 = some ⟨oc4, od4, .func (PySem.W.fnOf "_law_table" "_law_table" (defArgs s__law_table) (defBody s__law_table) (defScope s__law_table) .none kV4 dc4 pm4 an4 cd4 ct4), sl4⟩)
    (c4 : PySem.W.codeIn K cd4 "_law_table" = true) (k4 : PySem.W.keepIn K (.ref f4) = true)
    (a5 : PySem.W.nsIn K mainGlobals "table_of" = some (some (.ref f5)))
    (l5 : K.lookup f5 = some ⟨oc5, od5, .func (PySem.W.fnOf "table_of" "table_of" (defArgs s_table_of) (defBody s_table_of) (defScope s_table_of) .none kV5 dc5 pm5 an5 cd5 ct5), sl5⟩)
    (c5 : PySem.W.codeIn K cd5 "table_of" = true) (k5 : PySem.W.keepIn K (.ref f5) = true)
    (a6 : PySem.W.nsIn K mainGlobals "web_of" = some (some (.ref f6)))
    (l6 : K.lookup f6 = some ⟨oc6, od6, .func (PySem.W.fnOf "web_of" "web_of" (defArgs s_web_of) (defBody s_web_of) (defScope s_web_of) .none kV6 dc6 pm6 an6 cd6 ct6), sl6⟩)
    (c6 : PySem.W.codeIn K cd6 "web_of" = true) (k6 : PySem.W.keepIn K (.ref f6) = true)
    (a7 : PySem.W.nsIn K mainGlobals "weight_at" = some (some (.ref f7)))
    (l7 : K.lookup f7 = some ⟨oc7, od7, .func (PySem.W.fnOf "weight_at" "weight_at" (defArgs s_weight_at) (defBody s_weight_at) (defScope s_weight_at) .none kV7 dc7 pm7 an7 cd7 ct7), sl7⟩)
    (c7 : PySem.W.codeIn K cd7 "weight_at" = true) (k7 : PySem.W.keepIn K (.ref f7) = true)
    (a8 : PySem.W.nsIn K mainGlobals "tied_to" = some (some (.ref f8)))
    (l8 : K.lookup f8 = some ⟨oc8, od8, .func (PySem.W.fnOf "tied_to" "tied_to" (defArgs s_tied_to) (defBody s_tied_to) (defScope s_tied_to) .none kV8 dc8 pm8 an8 cd8 ct8), sl8⟩)
    (c8 : PySem.W.codeIn K cd8 "tied_to" = true) (k8 : PySem.W.keepIn K (.ref f8) = true)
    (a9 : PySem.W.nsIn K mainGlobals "_law_move" = some (some (.ref f9)))
    (l9 : K.lookup f9 = some ⟨oc9, od9, .func (PySem.W.fnOf "_law_move" "_law_move" (defArgs s__law_move) (defBody s__law_move) (defScope s__law_move) .none kV9 dc9 pm9 an9 cd9 ct9), sl9⟩)
    (c9 : PySem.W.codeIn K cd9 "_law_move" = true) (k9 : PySem.W.keepIn K (.ref f9) = true)
    (a10 : PySem.W.nsIn K mainGlobals "_law_web_of" = some (some (.ref f10)))
    (l10 : K.lookup f10 = some ⟨oc10, od10, .func (PySem.W.fnOf "_law_web_of" "_law_web_of" (defArgs s__law_web_of) (defBody s__law_web_of) (defScope s__law_web_of) .none kV10 dc10 pm10 an10 cd10 ct10), sl10⟩)
    (c10 : PySem.W.codeIn K cd10 "_law_web_of" = true) (k10 : PySem.W.keepIn K (.ref f10) = true)
    (a11 : PySem.W.nsIn K mainGlobals "_law_moved" = some (some (.ref f11)))
    (l11 : K.lookup f11 = some ⟨oc11, od11, .func (PySem.W.fnOf "_law_moved" "_law_moved" (defArgs s__law_moved) (defBody s__law_moved) (defScope s__law_moved) .none kV11 dc11 pm11 an11 cd11 ct11), sl11⟩)
    (c11 : PySem.W.codeIn K cd11 "_law_moved" = true) (k11 : PySem.W.keepIn K (.ref f11) = true)
    (a12 : PySem.W.nsIn K mainGlobals "turned" = some (some (.ref f12)))
    (l12 : K.lookup f12 = some ⟨oc12, od12, .func (PySem.W.fnOf "turned" "turned" (defArgs s_turned) (defBody s_turned) (defScope s_turned) .none kV12 dc12 pm12 an12 cd12 ct12), sl12⟩)
    (c12 : PySem.W.codeIn K cd12 "turned" = true) (k12 : PySem.W.keepIn K (.ref f12) = true)
    (a13 : PySem.W.nsIn K mainGlobals "scaled" = some (some (.ref f13)))
    (l13 : K.lookup f13 = some ⟨oc13, od13, .func (PySem.W.fnOf "scaled" "scaled" (defArgs s_scaled) (defBody s_scaled) (defScope s_scaled) .none kV13 dc13 pm13 an13 cd13 ct13), sl13⟩)
    (c13 : PySem.W.codeIn K cd13 "scaled" = true) (k13 : PySem.W.keepIn K (.ref f13) = true)
    (a14 : PySem.W.nsIn K mainGlobals "moved" = some (some (.ref f14)))
    (l14 : K.lookup f14 = some ⟨oc14, od14, .func (PySem.W.fnOf "moved" "moved" (defArgs s_moved) (defBody s_moved) (defScope s_moved) .none kV14 dc14 pm14 an14 cd14 ct14), sl14⟩)
    (c14 : PySem.W.codeIn K cd14 "moved" = true) (k14 : PySem.W.keepIn K (.ref f14) = true)
    (a15 : PySem.W.nsIn K mainGlobals "inverse" = some (some (.ref f15)))
    (l15 : K.lookup f15 = some ⟨oc15, od15, .func (PySem.W.fnOf "inverse" "inverse" (defArgs s_inverse) (defBody s_inverse) (defScope s_inverse) .none kV15 dc15 pm15 an15 cd15 ct15), sl15⟩)
    (c15 : PySem.W.codeIn K cd15 "inverse" = true) (k15 : PySem.W.keepIn K (.ref f15) = true)
    (a16 : PySem.W.nsIn K mainGlobals "move_back" = some (some (.ref f16)))
    (l16 : K.lookup f16 = some ⟨oc16, od16, .func (PySem.W.fnOf "move_back" "move_back" (defArgs s_move_back) (defBody s_move_back) (defScope s_move_back) .none kV16 dc16 pm16 an16 cd16 ct16), sl16⟩)
    (c16 : PySem.W.codeIn K cd16 "move_back" = true) (k16 : PySem.W.keepIn K (.ref f16) = true)
    (a17 : PySem.W.nsIn K mainGlobals "webs_along" = some (some (.ref f17)))
    (l17 : K.lookup f17 = some ⟨oc17, od17, .func (PySem.W.fnOf "webs_along" "webs_along" (defArgs s_webs_along) (defBody s_webs_along) (defScope s_webs_along) .none kV17 dc17 pm17 an17 cd17 ct17), sl17⟩)
    (c17 : PySem.W.codeIn K cd17 "webs_along" = true) (k17 : PySem.W.keepIn K (.ref f17) = true)
    (a18 : PySem.W.nsIn K mainGlobals "made_moves" = some (some (.ref f18)))
    (l18 : K.lookup f18 = some ⟨oc18, od18, .func (PySem.W.fnOf "made_moves" "made_moves" (defArgs s_made_moves) (defBody s_made_moves) (defScope s_made_moves) .none kV18 dc18 pm18 an18 cd18 ct18), sl18⟩)
    (c18 : PySem.W.codeIn K cd18 "made_moves" = true) (k18 : PySem.W.keepIn K (.ref f18) = true)
    (a19 : PySem.W.nsIn K mainGlobals "moves_back" = some (some (.ref f19)))
    (l19 : K.lookup f19 = some ⟨oc19, od19, .func (PySem.W.fnOf "moves_back" "moves_back" (defArgs s_moves_back) (defBody s_moves_back) (defScope s_moves_back) .none kV19 dc19 pm19 an19 cd19 ct19), sl19⟩)
    (c19 : PySem.W.codeIn K cd19 "moves_back" = true) (k19 : PySem.W.keepIn K (.ref f19) = true)
    (a20 : PySem.W.nsIn K mainGlobals "_law_along_right" = some (some (.ref f20)))
    (l20 : K.lookup f20 = some ⟨oc20, od20, .func (PySem.W.fnOf "_law_along_right" "_law_along_right" (defArgs s__law_along_right) (defBody s__law_along_right) (defScope s__law_along_right) .none kV20 dc20 pm20 an20 cd20 ct20), sl20⟩)
    (c20 : PySem.W.codeIn K cd20 "_law_along_right" = true) (k20 : PySem.W.keepIn K (.ref f20) = true)
    (a21 : PySem.W.nsIn K mainGlobals "_law_of" = some (some (.ref f21)))
    (l21 : K.lookup f21 = some ⟨oc21, od21, .func (PySem.W.fnOf "_law_of" "_law_of" (defArgs s__law_of) (defBody s__law_of) (defScope s__law_of) .none kV21 dc21 pm21 an21 cd21 ct21), sl21⟩)
    (c21 : PySem.W.codeIn K cd21 "_law_of" = true) (k21 : PySem.W.keepIn K (.ref f21) = true)
    (a22 : PySem.W.nsIn K mainGlobals "exchange_moves" = some (some (.ref f22)))
    (l22 : K.lookup f22 = some ⟨oc22, od22, .func (PySem.W.fnOf "exchange_moves" "exchange_moves" (defArgs s_exchange_moves) (defBody s_exchange_moves) (defScope s_exchange_moves) .none kV22 dc22 pm22 an22 cd22 ct22), sl22⟩)
    (c22 : PySem.W.codeIn K cd22 "exchange_moves" = true) (k22 : PySem.W.keepIn K (.ref f22) = true)
    (a23 : PySem.W.nsIn K mainGlobals "exchanged" = some (some (.ref f23)))
    (l23 : K.lookup f23 = some ⟨oc23, od23, .func (PySem.W.fnOf "exchanged" "exchanged" (defArgs s_exchanged) (defBody s_exchanged) (defScope s_exchanged) .none kV23 dc23 pm23 an23 cd23 ct23), sl23⟩)
    (c23 : PySem.W.codeIn K cd23 "exchanged" = true) (k23 : PySem.W.keepIn K (.ref f23) = true)
    (a24 : PySem.W.nsIn K mainGlobals "_law_made" = some (some (.ref f24)))
    (l24 : K.lookup f24 = some ⟨oc24, od24, .func (PySem.W.fnOf "_law_made" "_law_made" (defArgs s__law_made) (defBody s__law_made) (defScope s__law_made) .none kV24 dc24 pm24 an24 cd24 ct24), sl24⟩)
    (c24 : PySem.W.codeIn K cd24 "_law_made" = true) (k24 : PySem.W.keepIn K (.ref f24) = true)
    (a25 : PySem.W.nsIn K mainGlobals "_law_exchange_right" = some (some (.ref f25)))
    (l25 : K.lookup f25 = some ⟨oc25, od25, .func (PySem.W.fnOf "_law_exchange_right" "_law_exchange_right" (defArgs s__law_exchange_right) (defBody s__law_exchange_right) (defScope s__law_exchange_right) .none kV25 dc25 pm25 an25 cd25 ct25), sl25⟩)
    (c25 : PySem.W.codeIn K cd25 "_law_exchange_right" = true) (k25 : PySem.W.keepIn K (.ref f25) = true)
    (a26 : PySem.W.nsIn K mainGlobals "law" = some (some (.ref f26)))
    (l26 : K.lookup f26 = some ⟨oc26, od26, .func (PySem.W.fnOf "law" "law" (defArgs s_law) (defBody s_law) (defScope s_law) .none kV26 dc26 pm26 an26 cd26 ct26), sl26⟩)
    (c26 : PySem.W.codeIn K cd26 "law" = true) (k26 : PySem.W.keepIn K (.ref f26) = true)
    (z_abs : PySem.W.nsIn K mainGlobals "abs" = some none)
    (z_enumerate : PySem.W.nsIn K mainGlobals "enumerate" = some none)
    (z_int : PySem.W.nsIn K mainGlobals "int" = some none)
    (z_len : PySem.W.nsIn K mainGlobals "len" = some none)
    (z_list : PySem.W.nsIn K mainGlobals "list" = some none)
    (z_range : PySem.W.nsIn K mainGlobals "range" = some none)
    (z_repr : PySem.W.nsIn K mainGlobals "repr" = some none)
    (z_sorted : PySem.W.nsIn K mainGlobals "sorted" = some none)
    (z_tuple : PySem.W.nsIn K mainGlobals "tuple" = some none) :
    ∃ fd : FuncData, (∀ (s : Shared) (v : Value), BindsTo s fd ⟨[v], []⟩ [("script", v)]) ∧ ∀ base : Heap, K.In base → base.Ns mainGlobals mg → FnG l.prog w K mg base 5 fa fd ["script"] (spLaw K g_law m_law) := by
  have e := hfa.symm.trans (PySem.W.mg_of X G a26)
  cases e
  exact ⟨_, fun s v => .of_eq rfl, fun base _ _ => ok_law (mkKit X G a1 l1 c1 k1 a2 l2 c2 k2 a3 l3 c3 k3 a4 l4 c4 k4 a5 l5 c5 k5 a6 l6 c6 k6 a7 l7 c7 k7 a8 l8 c8 k8 a9 l9 c9 k9 a10 l10 c10 k10 a11 l11 c11 k11 a12 l12 c12 k12 a13 l13 c13 k13 a14 l14 c14 k14 a15 l15 c15 k15 a16 l16 c16 k16 a17 l17 c17 k17 a18 l18 c18 k18 a19 l19 c19 k19 a20 l20 c20 k20 a21 l21 c21 k21 a22 l22 c22 k22 a23 l23 c23 k23 a24 l24 c24 k24 a25 l25 c25 k25 a26 l26 c26 k26 z_abs z_enumerate z_int z_len z_list z_range z_repr z_sorted z_tuple)⟩
end L2.Ev
open PySem PySem.W PyProof.Rows
set_option maxHeartbeats 0 in
theorem PySem.Challenge.cw_turnedweights_k09_whole_moves_and_ways_b_holds : PySem.Challenge.rw_turnedweights_k09_whole_moves_and_ways_b.Holds := by
  w_on; o_law; k_head; (case hw => w_witness2)
  k_fill
  refine L2.Ev.walk_ofG (l := PySem.Challenge.rw_turnedweights_k09_whole_moves_and_ways_b) (n := 63) (k := 5) (x := "script") (sp := fun K => L2.Ev.spLaw K L2.Ev.g_law L2.Ev.m_law) rfl (by decide) rfl ⟨rfl, by decide, by decide⟩ (fun w h Y => PySem.W.kIn_of Y) ?F (fun K H a ns hl hS => ⟨a, ns, rfl, hS, by omega, (L2.Ev.law_true ns hl).1, (L2.Ev.law_true ns hl).2, fun _ => rfl⟩)
  case F =>
    intro w mg fa h KX G hmg
    refine' L2.Ev.all_mk KX G hmg ?a1 ?l1 ?c1 ?k1 ?a2 ?l2 ?c2 ?k2 ?a3 ?l3 ?c3 ?k3 ?a4 ?l4 ?c4 ?k4 ?a5 ?l5 ?c5 ?k5 ?a6 ?l6 ?c6 ?k6 ?a7 ?l7 ?c7 ?k7 ?a8 ?l8 ?c8 ?k8 ?a9 ?l9 ?c9 ?k9 ?a10 ?l10 ?c10 ?k10 ?a11 ?l11 ?c11 ?k11 ?a12 ?l12 ?c12 ?k12 ?a13 ?l13 ?c13 ?k13 ?a14 ?l14 ?c14 ?k14 ?a15 ?l15 ?c15 ?k15 ?a16 ?l16 ?c16 ?k16 ?a17 ?l17 ?c17 ?k17 ?a18 ?l18 ?c18 ?k18 ?a19 ?l19 ?c19 ?k19 ?a20 ?l20 ?c20 ?k20 ?a21 ?l21 ?c21 ?k21 ?a22 ?l22 ?c22 ?k22 ?a23 ?l23 ?c23 ?k23 ?a24 ?l24 ?c24 ?k24 ?a25 ?l25 ?c25 ?k25 ?a26 ?l26 ?c26 ?k26 ?z_abs ?z_enumerate ?z_int ?z_len ?z_list ?z_range ?z_repr ?z_sorted ?z_tuple
    (case a1 => k_is); (case l1 => k_is); (case c1 => k_is); (case k1 => k_is); (case a2 => k_is); (case l2 => k_is); (case c2 => k_is); (case k2 => k_is); (case a3 => k_is); (case l3 => k_is); (case c3 => k_is); (case k3 => k_is); (case a4 => k_is); (case l4 => k_is); (case c4 => k_is); (case k4 => k_is); (case a5 => k_is); (case l5 => k_is); (case c5 => k_is); (case k5 => k_is); (case a6 => k_is); (case l6 => k_is); (case c6 => k_is); (case k6 => k_is); (case a7 => k_is); (case l7 => k_is); (case c7 => k_is); (case k7 => k_is); (case a8 => k_is); (case l8 => k_is); (case c8 => k_is); (case k8 => k_is); (case a9 => k_is); (case l9 => k_is); (case c9 => k_is); (case k9 => k_is); (case a10 => k_is); (case l10 => k_is); (case c10 => k_is); (case k10 => k_is); (case a11 => k_is); (case l11 => k_is); (case c11 => k_is); (case k11 => k_is); (case a12 => k_is); (case l12 => k_is); (case c12 => k_is); (case k12 => k_is); (case a13 => k_is); (case l13 => k_is); (case c13 => k_is); (case k13 => k_is); (case a14 => k_is); (case l14 => k_is); (case c14 => k_is); (case k14 => k_is); (case a15 => k_is); (case l15 => k_is); (case c15 => k_is); (case k15 => k_is); (case a16 => k_is); (case l16 => k_is); (case c16 => k_is); (case k16 => k_is); (case a17 => k_is); (case l17 => k_is); (case c17 => k_is); (case k17 => k_is); (case a18 => k_is); (case l18 => k_is); (case c18 => k_is); (case k18 => k_is); (case a19 => k_is); (case l19 => k_is); (case c19 => k_is); (case k19 => k_is); (case a20 => k_is); (case l20 => k_is); (case c20 => k_is); (case k20 => k_is); (case a21 => k_is); (case l21 => k_is); (case c21 => k_is); (case k21 => k_is); (case a22 => k_is); (case l22 => k_is); (case c22 => k_is); (case k22 => k_is); (case a23 => k_is); (case l23 => k_is); (case c23 => k_is); (case k23 => k_is); (case a24 => k_is); (case l24 => k_is); (case c24 => k_is); (case k24 => k_is); (case a25 => k_is); (case l25 => k_is); (case c25 => k_is); (case k25 => k_is); (case a26 => k_is); (case l26 => k_is); (case c26 => k_is); (case k26 => k_is); (case z_abs => k_is); (case z_enumerate => k_is); (case z_int => k_is); (case z_len => k_is); (case z_list => k_is); (case z_range => k_is); (case z_repr => k_is); (case z_sorted => k_is); (case z_tuple => k_is)
