import PyProof.Rows.All
import Wide.All
import OpenK.AllK
import Wide.FinOn
import HandS.ForMost
import HandS.ForExc
import HandS.Lambda
import HandS.TupAny
import HandS.TupMul
import HandS.Deep
import HandS.IsInst
import HandS.RaiseMore
import HandS.WideBits
import KE.GoesNew
import HandS.Zip
import HandS.Style
import HandS.ExcInit
import HandS.ExcField
import HandS.ExcIs
import KE.KExcIs
import HandS.EndBits
import HandS.EndTab
import KE.KRevSl
import HandS.TupSets
import HandS.Defaults
import PySem.Challenge.RW_leadcases_k10_whole_any_values_as_books
set_option Elab.async false
set_option linter.all false
set_option maxRecDepth 100000
set_option maxHeartbeats 2000000
/-! DL: data by value over the abstract heap: what a def computes, as a function on data. -/
namespace DL
open PySem L2

abbrev D := PyData

def Ex (H H' : Hp) : Prop := ∀ a o, H a = some o → H' a = some o
theorem Ex.refl (H : Hp) : Ex H H := fun _ _ h => h
theorem Ex.trans {H H1 H2 : Hp} (a : Ex H H1) (b : Ex H1 H2) : Ex H H2 := fun x o h => b x o (a x o h)
theorem Ex.upd {H : Hp} {p : Addr} {o : HO} (h : H p = none) : Ex H (upd H p o) := fun a u e => by
  rw [upd_ne (ne_of_none e h)]; exact e
/-- all stays but the tables of code objects -/
def ExN (H H' : Hp) : Prop := ∀ a o, H a = some o → (∀ ps, o ≠ .tbl ps) → H' a = some o
theorem ExN.refl (H : Hp) : ExN H H := fun _ _ h _ => h
theorem ExN.trans {H H1 H2 : Hp} (a : ExN H H1) (b : ExN H1 H2) : ExN H H2 := fun x o h n => b x o (a x o h n) n
theorem Ex.n {H H' : Hp} (e : Ex H H') : ExN H H' := fun a o h _ => e a o h
theorem ExN.lst {H H' : Hp} (e : ExN H H') {a : Addr} {xs : List V} (h : H a = Option.some (.lst xs)) : H' a = Option.some (.lst xs) := e a _ h fun ps z => by cases z
/-- the heap without the tables -/
def ntb (H : Hp) : Hp := fun a => match H a with
  | some (.tbl _) => none
  | o => o
theorem nt_get {H : Hp} {a : Addr} {o : HO} (h : ntb H a = some o) : H a = some o ∧ ∀ ps, o ≠ .tbl ps := by
  unfold ntb at h
  split at h
  · cases h
  · rename_i o' n
    exact ⟨h, fun ps z => n ps (by rw [h, z])⟩
theorem nt_of {H : Hp} {a : Addr} {o : HO} (h : H a = some o) (n : ∀ ps, o ≠ .tbl ps) : ntb H a = some o := by
  unfold ntb
  split
  · rename_i ps e
    rw [h] at e
    cases e
    exact absurd rfl (n ps)
  · exact h
theorem nt_none {H : Hp} {a : Addr} (h : ntb H a = none) : ∀ o, H a = some o → ∃ ps, o = .tbl ps := fun o e => by
  cases o with
  | tbl ps => exact ⟨ps, rfl⟩
  | _ => rw [nt_of e fun ps z => by cases z] at h; cases h
theorem nt_ne {H : Hp} {a : Addr} (h : ntb H a ≠ none) : H a ≠ none ∧ ∀ ps, H a ≠ some (.tbl ps) := by
  cases q : ntb H a with
  | none => exact absurd q h
  | some o =>
    obtain ⟨e, n⟩ := nt_get q
    exact ⟨by rw [e]; simp, fun ps z => n ps (by rw [e] at z; cases z; rfl)⟩
theorem nt_nn {H : Hp} {a : Addr} (h : H a ≠ none) (n : ∀ ps, H a ≠ some (.tbl ps)) : ntb H a ≠ none := fun z => by
  cases q : H a with
  | none => exact h q
  | some o =>
    obtain ⟨ps, e⟩ := nt_none z o q
    exact n ps (by rw [q, e])
theorem nt_tbl {H : Hp} {a : Addr} (ps) : ntb H a ≠ some (.tbl ps) := fun z => (nt_get z).2 ps rfl
theorem nt_ex {H H' : Hp} (e : ExN (ntb H) H') : ExN H H' := fun a o h n => e a o (nt_of h n) n
theorem ex_nt (H : Hp) : ExN (ntb H) H := fun a o h _ => (nt_get h).1

theorem ex_rd {H H' : Hp} {a : Addr} {u : HO} (e : Ex H H') (h : Rd H a u) : Rd H' a u := by
  rcases h with h | ⟨o, h⟩
  · exact .inl (e a _ h)
  · exact .inr ⟨o, e a _ h⟩
theorem ex_l {K : PySem.W.Frag} {H H' : Hp} {a : Addr} {xs : List V} (e : Ex H H') (h : SqL K H a xs) : SqL K H' a xs := by
  rcases h with h | h
  · exact .inl (ex_rd e h)
  · exact .inr h
theorem ex_t {K : PySem.W.Frag} {H H' : Hp} {a : Addr} {xs : List V} (e : Ex H H') (h : SqT K H a xs) : SqT K H' a xs := by
  rcases h with h | h
  · exact .inl (ex_rd e h)
  · exact .inr h
mutual
theorem dp_ex {K : PySem.W.Frag} {H H' : Hp} (e : Ex H H') : ∀ (d : D) (v : V), Dp K H v d → Dp K H' v d
  | .none, _, h => by cases h; exact .non
  | .bool _, _, h => by cases h; exact .bl _
  | .int _, _, h => by cases h; exact .int _
  | .str _, _, h => by cases h; exact .str _
  | .list ds, _, h => by
    cases h with
    | lst hs ha => exact .lst (ex_l e hs) (dpAll_ex e ds _ ha)
  | .tuple ds, _, h => by
    cases h with
    | tup hs ha => exact .tup (ex_t e hs) (dpAll_ex e ds _ ha)
  | .dict _, _, h => by cases h
theorem dpAll_ex {K : PySem.W.Frag} {H H' : Hp} (e : Ex H H') : ∀ (ds : List D) (vs : List V), DpAll K H vs ds → DpAll K H' vs ds
  | [], _, h => by cases h; exact .nil
  | d :: ds, _, h => by
    cases h with
    | cons h1 h2 => exact .cons (dp_ex e d _ h1) (dpAll_ex e ds _ h2)
end
end DL
namespace L2
open PySem DL
theorem Dp.ex {K : PySem.W.Frag} {H H' : Hp} {v : V} {d : D} (h : Dp K H v d) (e : Ex H H') : Dp K H' v d := dp_ex e d v h
theorem DpAll.ex {K : PySem.W.Frag} {H H' : Hp} {vs : List V} {ds : List D} (h : DpAll K H vs ds) (e : Ex H H') : DpAll K H' vs ds := dpAll_ex e ds vs h

section
variable {K : PySem.W.Frag} {H : Hp}
theorem DpAll.length : ∀ {vs : List V} {ds : List D}, DpAll K H vs ds → vs.length = ds.length
  | _, _, .nil => rfl
  | _, _, .cons _ t => by simp [DpAll.length t]
theorem DpAll.get : ∀ {vs : List V} {ds : List D} {i : Nat} {v : V}, DpAll K H vs ds → vs[i]? = some v → ∃ d, ds[i]? = some d ∧ Dp K H v d
  | _, _, _, _, .nil, e => by simp at e
  | _, _, 0, _, .cons r _, e => by simp at e; subst e; exact ⟨_, rfl, r⟩
  | _, _, i + 1, v, .cons _ t, e => by
    obtain ⟨d, h1, h2⟩ := DpAll.get (i := i) (v := v) t (by simpa using e)
    exact ⟨d, by simpa using h1, h2⟩
theorem DpAll.getD : ∀ {vs : List V} {ds : List D} {i : Nat} {d : D}, DpAll K H vs ds → ds[i]? = some d → ∃ v, vs[i]? = some v ∧ Dp K H v d
  | _, _, _, _, .nil, e => by simp at e
  | _, _, 0, _, .cons r _, e => by simp at e; subst e; exact ⟨_, rfl, r⟩
  | _, _, i + 1, d, .cons _ t, e => by
    obtain ⟨v, h1, h2⟩ := DpAll.getD (i := i) (d := d) t (by simpa using e)
    exact ⟨v, by simpa using h1, h2⟩
theorem DpAll.append : ∀ {vs ws : List V} {ds es : List D}, DpAll K H vs ds → DpAll K H ws es → DpAll K H (vs ++ ws) (ds ++ es)
  | _, _, _, _, .nil, s => s
  | _, _, _, _, .cons r t, s => .cons r (DpAll.append t s)
theorem DpAll.one {v : V} {d : D} (h : Dp K H v d) : DpAll K H [v] [d] := .cons h .nil
theorem DpAll.take : ∀ {vs : List V} {ds : List D} (n : Nat), DpAll K H vs ds → DpAll K H (vs.take n) (ds.take n)
  | _, _, 0, _ => .nil
  | _, _, _ + 1, .nil => .nil
  | _, _, n + 1, .cons r t => .cons r (DpAll.take n t)
theorem DpAll.drop : ∀ {vs : List V} {ds : List D} (n : Nat), DpAll K H vs ds → DpAll K H (vs.drop n) (ds.drop n)
  | _, _, 0, r => r
  | _, _, _ + 1, .nil => .nil
  | _, _, n + 1, .cons _ t => DpAll.drop n t
theorem DpAll.set {v : V} {d : D} (h : Dp K H v d) : ∀ {vs : List V} {ds : List D} (i : Nat), DpAll K H vs ds → DpAll K H (vs.set i v) (ds.set i d)
  | _, _, _, .nil => .nil
  | _, _, 0, .cons _ t => .cons h t
  | _, _, i + 1, .cons q t => .cons q (DpAll.set h i t)
theorem DpAll.eraseIdx : ∀ {vs : List V} {ds : List D} (i : Nat), DpAll K H vs ds → DpAll K H (vs.eraseIdx i) (ds.eraseIdx i)
  | _, _, _, .nil => .nil
  | _, _, 0, .cons _ t => t
  | _, _, i + 1, .cons q t => .cons q (DpAll.eraseIdx i t)
theorem DpAll.reverse {vs : List V} {ds : List D} (h : DpAll K H vs ds) : DpAll K H vs.reverse ds.reverse := by
  induction vs generalizing ds with
  | nil => cases h; exact .nil
  | cons v vs ih =>
    cases h with
    | cons r t => rw [List.reverse_cons, List.reverse_cons]; exact (ih t).append (.one r)
theorem DpAll.rep {vs : List V} {ds : List D} (h : DpAll K H vs ds) : ∀ k : Nat, DpAll K H (List.replicate k vs).flatten (List.replicate k ds).flatten
  | 0 => .nil
  | k + 1 => by rw [List.replicate_succ, List.replicate_succ, List.flatten_cons, List.flatten_cons]; exact h.append (DpAll.rep h k)
theorem DpAll.nil_iff {vs : List V} {ds : List D} (h : DpAll K H vs ds) : vs = [] ↔ ds = [] := by
  cases h with
  | nil => simp
  | cons _ _ => simp
theorem DpAll.cutV {vs : List V} {ds : List D} (h : DpAll K H vs ds) (lo hi : Option Int) : DpAll K H (L2.cutV vs lo hi) ((ds.drop (HT.sIx ds.length 0 lo)).take (HT.sIx ds.length ds.length hi - HT.sIx ds.length 0 lo)) := by
  unfold L2.cutV
  rw [h.length]
  exact (h.drop _).take _
end
end L2

set_option maxRecDepth 100000
set_option maxHeartbeats 2000000
namespace DL
open PySem L2
/-- what stands through it all: the tables of code objects that the lambdas write (T), objects that stay (X), a fact of the data (P) -/
class Tb where
  T : List (Addr × Str)
  X : List (Addr × HO)
  hX : ∀ p ∈ X, (∀ xs, p.2 ≠ .lst xs) ∧ ∀ ps, p.2 ≠ .tbl ps
  P : Hp → Prop
  ea : Addr
  hP : ∀ B B', Ex B B' → P B → P B'
structure TabsOk [Tb] (H : Hp) : Prop where
  t : LamX.Tabs Tb.T H
  x : ∀ p ∈ Tb.X, H p.1 = some p.2
theorem tabs_upd [Tb] {H : Hp} {a : Addr} {o : HO} (t : TabsOk H) (h : H a = none ∨ ∃ xs, H a = some (.lst xs)) : TabsOk (upd H a o) := by
  have ne : ∀ {b : Addr} {u : HO}, H b = some u → (∀ xs, u ≠ .lst xs) → b ≠ a := fun {b u} e n z => by
    rw [z] at e
    rcases h with h | ⟨xs, h⟩
    · rw [h] at e; cases e
    · rw [h] at e; cases e; exact n xs rfl
  refine ⟨fun p hp => ?_, fun p hp => ?_⟩
  · obtain ⟨ps, h1, h2, h3⟩ := t.t p hp
    refine ⟨ps, by rw [upd_ne (ne h1 fun xs z => by cases z)]; exact h1, h2, fun pos cv hc => ?_⟩
    obtain ⟨c, e1, e2⟩ := h3 pos cv hc
    exact ⟨c, e1, by rw [upd_ne (ne e2 fun xs z => by unfold LamX.CodeO at z; cases z)]; exact e2⟩
  · have e := t.x p hp
    rw [upd_ne (ne e (Tb.hX p hp).1)]
    exact e
variable [Tb]

/-! ### values by data -/
inductive Res where
  | val (d : D)
  | new (ds : List D)
def Res.d : Res → D
  | .val d => d
  | .new ds => .list ds
inductive Slot where
  | no
  | val (d : D)
  | own (ds : List D)
  | io (j : Nat) (ds : List D)
  | exc
def Slot.mut : Slot → Bool
  | .own _ => true
  | .io _ _ => true
  | _ => false
abbrev En := List Slot
structure Exc where
  cls : Str
  fs : List (Str × D)

/-- an expression's, a statement's, a call's end -/
inductive EO where
  | fail
  | ok (r : Res) (ρ : En)
  | exc (x : Exc)
inductive SO where
  | fail
  | nx (ρ : En)
  | ret (r : Res) (ρ : En)
  | bk (ρ : En)
  | ct (ρ : En)
  | exc (x : Exc)
inductive FO where
  | fail
  | ok (r : Res) (outs : List (List D))
  | exc (x : Exc)
def EO.bind (m : EO) (k : D → En → EO) : EO := match m with
  | .fail => .fail
  | .ok r ρ => k r.d ρ
  | .exc x => .exc x
def EO.bindS (m : EO) (k : D → En → SO) : SO := match m with
  | .fail => .fail
  | .ok r ρ => k r.d ρ
  | .exc x => .exc x

/-! ### how an environment stands in the abstract heap -/
structure Zt where
  F : Hp
  B0 : Hp
  ins : List Addr

structure MutOk (K : PySem.W.Frag) (Z : Zt) (B H : Hp) (a : Addr) (vs : List V) (ds : List D) : Prop where
  f : Z.F a = none
  b : B a = none
  h : H a = some (.lst vs)
  d : DpAll K B vs ds
def SlotOk (K : PySem.W.Frag) (Z : Zt) (B H : Hp) (s : Slot) (o : Option (Option V)) : Prop := match s with
  | .no => True
  | .val d => ∃ v, o = some (some v) ∧ Dp K B v d
  | .exc => o = some (some (.ref Tb.ea))
  | .own ds => ∃ a vs, o = some (some (.ref a)) ∧ MutOk K Z B H a vs ds ∧ a ∉ Z.ins
  | .io j ds => ∃ a vs, o = some (some (.ref a)) ∧ MutOk K Z B H a vs ds ∧ Z.ins[j]? = some a

structure Rel (K : PySem.W.Frag) (Z : Zt) (B H : Hp) (ρ : En) (σ : St) : Prop where
  len : ρ.length = σ.length
  hF : ExN Z.F H
  zt : ∀ a ps, Z.F a ≠ some (.tbl ps)
  hB : Ex B H
  b0 : Ex Z.B0 B
  gr : ∀ a, Z.F a ≠ none → B a = Z.B0 a
  nt : ∀ a ps, B a ≠ some (.tbl ps)
  tb : TabsOk H
  pb : Tb.P B
  hi : ∀ a ∈ Z.ins, ∃ xs, H a = some (.lst xs)
  sl : ∀ (i : Nat) s, ρ[i]? = some s → SlotOk K Z B H s σ[i]?
  ap : ∀ (i j : Nat) s t a, ρ[i]? = some s → ρ[j]? = some t → s.mut = true → t.mut = true → σ[i]? = some (some (.ref a)) → σ[j]? = some (some (.ref a)) → i = j

def ResOk (K : PySem.W.Frag) (Z : Zt) (B H : Hp) (ρ : En) (σ : St) (r : Res) (v : V) : Prop := match r with
  | .val d => Dp K B v d
  | .new ds => ∃ p vs, v = .ref p ∧ MutOk K Z B H p vs ds ∧ p ∉ Z.ins ∧ ∀ (i : Nat) s, ρ[i]? = some s → s.mut = true → σ[i]? ≠ some (some (.ref p))

section
variable {K : PySem.W.Frag} {Z : Zt} {B B' H H' : Hp} {ρ : En} {σ : St}
theorem MutOk.mono {a : Addr} {vs : List V} {ds : List D} (m : MutOk K Z B H a vs ds) (e : Ex B B') (hb : B' a = none) (hh : H' a = some (.lst vs)) : MutOk K Z B' H' a vs ds := ⟨m.f, hb, hh, m.d.ex e⟩
/-- the mut slots' addresses -/
theorem Rel.mutAt (R : Rel K Z B H ρ σ) {i : Nat} {s : Slot} (h : ρ[i]? = some s) (hm : s.mut = true) : ∃ a vs ds, σ[i]? = some (some (.ref a)) ∧ MutOk K Z B H a vs ds := by
  have q := R.sl i s h
  cases s with
  | no => cases hm
  | exc => cases hm
  | val d => cases hm
  | own ds => obtain ⟨a, vs, e, m, _⟩ := q; exact ⟨a, vs, ds, e, m⟩
  | io j ds => obtain ⟨a, vs, e, m, _⟩ := q; exact ⟨a, vs, ds, e, m⟩
theorem Rel.Fa (R : Rel K Z B H ρ σ) {a : Addr} {o : HO} (h : Z.F a = some o) : H a = some o ∧ ∀ ps, o ≠ .tbl ps := by
  have n : ∀ ps, o ≠ .tbl ps := fun ps z => R.zt a ps (by rw [h, z])
  exact ⟨R.hF a o h n, n⟩
theorem Rel.Fs (R : Rel K Z B H ρ σ) {a : Addr} (h : ∀ o, H a = some o → ∃ ps, o = .tbl ps) : Z.F a = none := by
  cases q : Z.F a with
  | none => rfl
  | some o =>
    obtain ⟨e, n⟩ := R.Fa q
    obtain ⟨ps, z⟩ := h o e
    exact absurd z (n ps)
theorem Rel.Fn (R : Rel K Z B H ρ σ) {a : Addr} (h : H a = none) : Z.F a = none := R.Fs fun o e => by rw [h] at e; cases e
theorem Rel.Fne (R : Rel K Z B H ρ σ) {a : Addr} (h : Z.F a ≠ none) : H a ≠ none ∧ ∀ ps, H a ≠ some (.tbl ps) := by
  cases q : Z.F a with
  | none => exact absurd q h
  | some o =>
    obtain ⟨e, n⟩ := R.Fa q
    exact ⟨by rw [e]; simp, fun ps z => n ps (by rw [e] at z; cases z; rfl)⟩
/-- the step: new base, new heap, same environment -/
theorem Rel.go (R : Rel K Z B H ρ σ) (eb : Ex B B') (eh : Ex B' H') (ef : ExN H H') (gb : ∀ a, H a ≠ none → (∀ ps, H a ≠ some (.tbl ps)) → B' a = B a) (nt : ∀ a ps, B' a ≠ some (.tbl ps)) (tb : TabsOk H') : Rel K Z B' H' ρ σ := by
  refine ⟨R.len, R.hF.trans ef, R.zt, eh, R.b0.trans eb, fun a h => ?_, nt, tb, Tb.hP _ _ eb R.pb, fun a h => ?_, fun i s h => ?_, R.ap⟩
  · rw [gb a (R.Fne h).1 (R.Fne h).2]
    exact R.gr a h
  · obtain ⟨xs, e⟩ := R.hi a h
    exact ⟨xs, ef.lst e⟩
  · have q := R.sl i s h
    have mk : ∀ {a vs ds}, MutOk K Z B H a vs ds → MutOk K Z B' H' a vs ds := fun {a vs ds} m => m.mono eb (by rw [gb a (by rw [m.h]; simp) (fun ps z => by rw [m.h] at z; cases z)]; exact m.b) (ef.lst m.h)
    cases s with
    | no => trivial
    | exc => exact q
    | val d => obtain ⟨v, e, d⟩ := q; exact ⟨v, e, d.ex eb⟩
    | own ds => obtain ⟨a, vs, e, m, n⟩ := q; exact ⟨a, vs, e, mk m, n⟩
    | io j ds => obtain ⟨a, vs, e, m, n⟩ := q; exact ⟨a, vs, e, mk m, n⟩
theorem upd_old {H : Hp} {p : Addr} {o : HO} (n : H p = none) {a : Addr} (h : H a ≠ none) : upd H p o a = H a := upd_ne fun z => h (by rw [z]; exact n)
/-- a new tuple -/
theorem Rel.tup (R : Rel K Z B H ρ σ) {p : Addr} {vs : List V} {ds : List D} (n : H p = none) (d : DpAll K B vs ds) :
    ∃ B', Ex B B' ∧ Rel K Z B' (upd H p (.tup vs)) ρ σ ∧ Dp K B' (.ref p) (.tuple ds) := by
  have nb : B p = none := by
    cases q : B p with
    | none => rfl
    | some o => rw [R.hB p o q] at n; cases n
  refine ⟨upd B p (.tup vs), Ex.upd nb, R.go (Ex.upd nb) (fun a o h => ?_) (Ex.upd n).n (fun a h _ => upd_ne fun z => h (by rw [z]; exact n)) (fun a ps => ?_) (tabs_upd R.tb (.inl n)), .tup (SqT.of upd_same) (d.ex (Ex.upd nb))⟩
  · by_cases e : a = p
    · subst e; rw [upd_same] at h ⊢; exact h
    · rw [upd_ne e] at h ⊢; exact R.hB a o h
  · by_cases e : a = p
    · subst e; rw [upd_same]; intro z; cases z
    · rw [upd_ne e]; exact R.nt a ps
/-- a new list, owned by nobody -/
theorem Rel.lst (R : Rel K Z B H ρ σ) {p : Addr} {vs : List V} {ds : List D} (n : H p = none) (d : DpAll K B vs ds) :
    Rel K Z B (upd H p (.lst vs)) ρ σ ∧ ResOk K Z B (upd H p (.lst vs)) ρ σ (.new ds) (.ref p) := by
  have nb : B p = none := by
    cases q : B p with
    | none => rfl
    | some o => rw [R.hB p o q] at n; cases n
  refine ⟨R.go (Ex.refl _) (R.hB.trans (Ex.upd n)) (Ex.upd n).n (fun _ _ _ => rfl) R.nt (tabs_upd R.tb (.inl n)), p, vs, rfl, ⟨R.Fn n, nb, upd_same, d⟩, fun z => (by obtain ⟨xs, e⟩ := R.hi p z; rw [n] at e; cases e), fun i s h hm z => ?_⟩
  obtain ⟨a, ws, ds', e, m⟩ := R.mutAt h hm
  rw [e] at z
  cases z
  rw [m.h] at n
  cases n
/-- a list that nobody owns is data from now on -/
theorem Rel.freeze (R : Rel K Z B H ρ σ) {r : Res} {v : V} (h : ResOk K Z B H ρ σ r v) : ∃ B', Ex B B' ∧ Rel K Z B' H ρ σ ∧ Dp K B' v r.d := by
  cases r with
  | val d => exact ⟨B, Ex.refl _, R, h⟩
  | new ds =>
    obtain ⟨p, vs, rfl, m, ni, np⟩ := h
    refine ⟨upd B p (.lst vs), Ex.upd m.b, ⟨R.len, R.hF, R.zt, fun a o h => ?_, R.b0.trans (Ex.upd m.b), fun a h => ?_, fun a ps => ?_, R.tb, Tb.hP _ _ (Ex.upd m.b) R.pb, R.hi, fun i s h => ?_, R.ap⟩, .lst (SqL.of upd_same) (m.d.ex (Ex.upd m.b))⟩
    · by_cases e : a = p
      · subst e; rw [upd_same] at h; rw [m.h]; exact h
      · rw [upd_ne e] at h; exact R.hB a o h
    · have e : a ≠ p := fun z => h (by rw [z]; exact m.f)
      rw [upd_ne e]
      exact R.gr a h
    · by_cases e : a = p
      · subst e; rw [upd_same]; intro z; cases z
      · rw [upd_ne e]; exact R.nt a ps
    · have q := R.sl i s h
      have mk : ∀ {a ws es}, s.mut = true → σ[i]? = some (some (.ref a)) → MutOk K Z B H a ws es → MutOk K Z (upd B p (.lst vs)) H a ws es := fun {a ws es} hm e m' => by
        have ne : a ≠ p := fun z => np i s h hm (by rw [e, z])
        exact m'.mono (Ex.upd m.b) (by rw [upd_ne ne]; exact m'.b) m'.h
      cases s with
      | no => trivial
      | exc => exact q
      | val d => obtain ⟨v, e, d⟩ := q; exact ⟨v, e, d.ex (Ex.upd m.b)⟩
      | own ds => obtain ⟨a, ws, e, m', n⟩ := q; exact ⟨a, ws, e, mk rfl e m', n⟩
      | io j ds => obtain ⟨a, ws, e, m', n⟩ := q; exact ⟨a, ws, e, mk rfl e m', n⟩
/-- a slot is set -/
theorem Rel.set (R : Rel K Z B H ρ σ) {i : Nat} {v : V} {d : D} (h : Dp K B v d) : Rel K Z B H (ρ.set i (.val d)) (σ.set i (some v)) := by
  refine ⟨by simp [R.len], R.hF, R.zt, R.hB, R.b0, R.gr, R.nt, R.tb, R.pb, R.hi, fun j s hj => ?_, fun j k s t a hj hk hs ht e1 e2 => ?_⟩
  · by_cases e : j = i
    · subst e
      have hlt : j < ρ.length := by
        have := (List.getElem?_eq_some_iff.mp hj).1
        simpa using this
      rw [List.getElem?_set_self hlt] at hj
      cases hj
      rw [List.getElem?_set_self (by rw [← R.len]; exact hlt)]
      exact ⟨v, rfl, h⟩
    · rw [List.getElem?_set_ne (Ne.symm e)] at hj ⊢
      exact R.sl j s hj
  · have nj : j ≠ i := fun z => by
      subst z
      have hlt : j < ρ.length := by
        have := (List.getElem?_eq_some_iff.mp hj).1
        simpa using this
      rw [List.getElem?_set_self hlt] at hj
      cases hj
      cases hs
    have nk : k ≠ i := fun z => by
      subst z
      have hlt : k < ρ.length := by
        have := (List.getElem?_eq_some_iff.mp hk).1
        simpa using this
      rw [List.getElem?_set_self hlt] at hk
      cases hk
      cases ht
    rw [List.getElem?_set_ne (Ne.symm nj)] at hj e1
    rw [List.getElem?_set_ne (Ne.symm nk)] at hk e2
    exact R.ap j k s t a hj hk hs ht e1 e2
theorem Rel.setOwn (R : Rel K Z B H ρ σ) {i : Nat} {v : V} {ds : List D} (h : ResOk K Z B H ρ σ (.new ds) v) : Rel K Z B H (ρ.set i (.own ds)) (σ.set i (some v)) := by
  obtain ⟨p, vs, rfl, m, ni, np⟩ := h
  have at_i : ∀ {j : Nat} {s : Slot}, (ρ.set i (.own ds))[j]? = some s → (j = i ∧ s = .own ds ∧ i < ρ.length) ∨ (j ≠ i ∧ ρ[j]? = some s) := fun {j s} hj => by
    by_cases e : j = i
    · subst e
      have hlt : j < ρ.length := by
        have := (List.getElem?_eq_some_iff.mp hj).1
        simpa using this
      rw [List.getElem?_set_self hlt] at hj
      cases hj
      exact .inl ⟨rfl, rfl, hlt⟩
    · rw [List.getElem?_set_ne (Ne.symm e)] at hj
      exact .inr ⟨e, hj⟩
  refine ⟨by simp [R.len], R.hF, R.zt, R.hB, R.b0, R.gr, R.nt, R.tb, R.pb, R.hi, fun j s hj => ?_, fun j k s t a hj hk hs ht e1 e2 => ?_⟩
  · rcases at_i hj with ⟨rfl, rfl, hlt⟩ | ⟨e, hj⟩
    · rw [List.getElem?_set_self (by rw [← R.len]; exact hlt)]
      exact ⟨p, vs, rfl, m, ni⟩
    · rw [List.getElem?_set_ne (Ne.symm e)]
      exact R.sl j s hj
  · rcases at_i hj with ⟨rfl, rfl, hlt⟩ | ⟨nj, hj'⟩ <;> rcases at_i hk with ⟨rfl, rfl, hlt'⟩ | ⟨nk, hk'⟩
    · rfl
    · rw [List.getElem?_set_self (by rw [← R.len]; exact hlt)] at e1
      rw [List.getElem?_set_ne (Ne.symm nk)] at e2
      cases e1
      exact absurd e2 (np k t hk' ht)
    · rw [List.getElem?_set_self (by rw [← R.len]; exact hlt')] at e2
      rw [List.getElem?_set_ne (Ne.symm nj)] at e1
      cases e2
      exact absurd e1 (np j s hj' hs)
    · rw [List.getElem?_set_ne (Ne.symm nj)] at e1
      rw [List.getElem?_set_ne (Ne.symm nk)] at e2
      exact R.ap j k s t a hj' hk' hs ht e1 e2
/-- a slot's knowledge is dropped -/
theorem Rel.drop (R : Rel K Z B H ρ σ) {i : Nat} : Rel K Z B H (ρ.set i .no) σ := by
  have at_i : ∀ {j : Nat} {s : Slot}, (ρ.set i .no)[j]? = some s → s = .no ∨ ρ[j]? = some s := fun {j s} hj => by
    by_cases e : j = i
    · subst e
      have hlt : j < ρ.length := by
        have := (List.getElem?_eq_some_iff.mp hj).1
        simpa using this
      rw [List.getElem?_set_self hlt] at hj
      cases hj
      exact .inl rfl
    · rw [List.getElem?_set_ne (Ne.symm e)] at hj
      exact .inr hj
  refine ⟨by simp [R.len], R.hF, R.zt, R.hB, R.b0, R.gr, R.nt, R.tb, R.pb, R.hi, fun j s hj => ?_, fun j k s t a hj hk hs ht e1 e2 => ?_⟩
  · rcases at_i hj with rfl | hj
    · trivial
    · exact R.sl j s hj
  · rcases at_i hj with rfl | hj
    · cases hs
    · rcases at_i hk with rfl | hk
      · cases ht
      · exact R.ap j k s t a hj hk hs ht e1 e2
/-- a list of one's own is taken out of its slot -/
theorem Rel.take (R : Rel K Z B H ρ σ) {i : Nat} {ds : List D} (h : ρ[i]? = some (.own ds)) : ∃ v, σ[i]? = some (some v) ∧ Rel K Z B H (ρ.set i .no) σ ∧ ResOk K Z B H (ρ.set i .no) σ (.new ds) v := by
  obtain ⟨a, vs, e, m, n⟩ := R.sl i _ h
  refine ⟨.ref a, e, R.drop, a, vs, rfl, m, n, fun j s hj hs z => ?_⟩
  by_cases ej : j = i
  · subst ej
    rw [List.getElem?_set_self (List.getElem?_eq_some_iff.mp h).1] at hj
    cases hj
    cases hs
  · rw [List.getElem?_set_ne (Ne.symm ej)] at hj
    exact ej (R.ap j i s _ a hj h hs rfl z e)
/-- the data of a slot -/
theorem Rel.setVal (R : Rel K Z B H ρ σ) {i : Nat} {v : V} {d : D} (hv : σ[i]? = some (some v)) (h : Dp K B v d) : Rel K Z B H (ρ.set i (.val d)) σ := by
  have q := R.set (i := i) h
  have e : σ.set i (some v) = σ := by
    apply List.ext_getElem?
    intro j
    by_cases ej : j = i
    · subst ej
      rw [List.getElem?_set_self (List.getElem?_eq_some_iff.mp hv).1, hv]
    · rw [List.getElem?_set_ne (Ne.symm ej)]
  rw [e] at q
  exact q
/-- .. is data from now on -/
theorem Rel.freezeSlot (R : Rel K Z B H ρ σ) {i : Nat} {ds : List D} (h : ρ[i]? = some (.own ds)) : ∃ v B', σ[i]? = some (some v) ∧ Ex B B' ∧ Rel K Z B' H (ρ.set i (.val (.list ds))) σ ∧ Dp K B' v (.list ds) := by
  obtain ⟨v, hv, R1, r1⟩ := R.take h
  obtain ⟨B', e, R2, d⟩ := R1.freeze r1
  refine ⟨v, B', hv, e, ?_, d⟩
  have q := R2.setVal (i := i) hv d
  rw [List.set_set] at q
  exact q
/-- the list of a mut slot is written -/
def Slot.put (s : Slot) (ds : List D) : Slot := match s with
  | .own _ => .own ds
  | .io j _ => .io j ds
  | s => s
theorem Rel.write (R : Rel K Z B H ρ σ) {i : Nat} {s : Slot} {a : Addr} {vs : List V} {ds : List D} (h : ρ[i]? = some s) (hm : s.mut = true) (e : σ[i]? = some (some (.ref a))) (d : DpAll K B vs ds) : Rel K Z B (upd H a (.lst vs)) (ρ.set i (s.put ds)) σ := by
  obtain ⟨a', ws, es, e', m⟩ := R.mutAt h hm
  rw [e] at e'
  cases e'
  have hlt := (List.getElem?_eq_some_iff.mp h).1
  have at_i : ∀ {j : Nat} {t : Slot}, (ρ.set i (s.put ds))[j]? = some t → (j = i ∧ t = s.put ds) ∨ (j ≠ i ∧ ρ[j]? = some t) := fun {j t} hj => by
    by_cases ej : j = i
    · subst ej
      rw [List.getElem?_set_self hlt] at hj
      cases hj
      exact .inl ⟨rfl, rfl⟩
    · rw [List.getElem?_set_ne (Ne.symm ej)] at hj
      exact .inr ⟨ej, hj⟩
  have pm : (s.put ds).mut = true := by cases s <;> first | exact hm | rfl
  refine ⟨by simp [R.len], fun b o hb nb => ?_, R.zt, fun b o hb => ?_, R.b0, R.gr, R.nt, tabs_upd R.tb (.inr ⟨_, m.h⟩), R.pb, fun b hb => ?_, fun j t hj => ?_, fun j k t u b hj hk ht hu e1 e2 => ?_⟩
  · have ne : b ≠ a := fun z => by rw [z, m.f] at hb; cases hb
    rw [upd_ne ne]
    exact R.hF b o hb nb
  · have ne : b ≠ a := fun z => by rw [z, m.b] at hb; cases hb
    rw [upd_ne ne]
    exact R.hB b o hb
  · by_cases ne : b = a
    · exact ⟨_, by rw [ne, upd_same]⟩
    · rw [upd_ne ne]; exact R.hi b hb
  · rcases at_i hj with ⟨rfl, rfl⟩ | ⟨ej, hj⟩
    · have q := R.sl j s h
      cases s with
      | no => cases hm
      | exc => cases hm
      | val d => cases hm
      | own es =>
        obtain ⟨b, ws, e2, m2, n⟩ := q
        rw [e] at e2
        cases e2
        exact ⟨a, vs, e, ⟨m.f, m.b, upd_same, d⟩, n⟩
      | io k es =>
        obtain ⟨b, ws, e2, m2, n⟩ := q
        rw [e] at e2
        cases e2
        exact ⟨a, vs, e, ⟨m.f, m.b, upd_same, d⟩, n⟩
    · have q := R.sl j t hj
      have mk : ∀ {b ws es}, t.mut = true → σ[j]? = some (some (.ref b)) → MutOk K Z B H b ws es → MutOk K Z B (upd H a (.lst vs)) b ws es := fun {b ws es} ht e2 m2 => by
        have ne : b ≠ a := fun z => ej (R.ap j i t s a hj h ht hm (by rw [e2, z]) e)
        exact ⟨m2.f, m2.b, by rw [upd_ne ne]; exact m2.h, m2.d⟩
      cases t with
      | no => trivial
      | exc => exact q
      | val d => exact q
      | own ds => obtain ⟨b, ws, e2, m2, n⟩ := q; exact ⟨b, ws, e2, mk rfl e2 m2, n⟩
      | io k ds => obtain ⟨b, ws, e2, m2, n⟩ := q; exact ⟨b, ws, e2, mk rfl e2 m2, n⟩
  · have at2 : ∀ {j : Nat} {t : Slot}, (ρ.set i (s.put ds))[j]? = some t → t.mut = true → ∃ t', ρ[j]? = some t' ∧ t'.mut = true := fun {j t} hj ht => by
      rcases at_i hj with ⟨rfl, rfl⟩ | ⟨_, hj⟩
      · exact ⟨s, h, hm⟩
      · exact ⟨t, hj, ht⟩
    obtain ⟨t', h1, h2⟩ := at2 hj ht
    obtain ⟨u', h3, h4⟩ := at2 hk hu
    exact R.ap j k t' u' b h1 h3 h2 h4 e1 e2
end
end DL

set_option maxRecDepth 100000
set_option maxHeartbeats 2000000
namespace DL
open PySem L2
variable [Tb]

/-- an exception's class and attributes -/
def ExcOk (K : PySem.W.Frag) (mg : Str → Option Value) (B H : Hp) (x : Exc) (cls : Value) (d : Option Addr) : Prop :=
  mg x.cls = some cls ∧ (x.fs = [] ∨ ∃ dd fs, d = some dd ∧ H dd = some (.xd fs) ∧ ∀ f e, x.fs.lookup f = some e → ∃ v, fs.lookup f = some v ∧ Dp K B v e)
def XPost (K : PySem.W.Frag) (mg : Str → Option Value) (Z : Zt) (E : XK) (x : Exc) : Prop :=
  ∀ cls d B H, Ex Z.B0 B → Ex B H → ExN Z.F H → (∀ a, Z.F a ≠ none → B a = Z.B0 a) → (∀ a ps, B a ≠ some (.tbl ps)) → TabsOk H → (∀ a ∈ Z.ins, ∃ xs, H a = some (.lst xs)) → ExcOk K mg B H x cls d → E cls d H
def EPost (K : PySem.W.Frag) (mg : Str → Option Value) (Z : Zt) (B : Hp) (σ : St) (E : XK) (Q : VK) : EO → Prop
  | .fail => False
  | .ok r ρ => ∀ v B' H', Ex B B' → Rel K Z B' H' ρ σ → ResOk K Z B' H' ρ σ r v → Q v H'
  | .exc x => XPost K mg Z E x
def TPost (K : PySem.W.Frag) (mg : Str → Option Value) (Z : Zt) (B : Hp) (σ : St) (E : XK) (Q : Bool → Hp → Prop) : EO → Prop
  | .fail => False
  | .ok r ρ => ∃ b, r.d = .bool b ∧ ∀ B' H', Ex B B' → Rel K Z B' H' ρ σ → Q b H'
  | .exc x => XPost K mg Z E x
def SPost (K : PySem.W.Frag) (mg : Str → Option Value) (Z : Zt) (B : Hp) (E : XK) (D : Ends) : SO → Prop
  | .fail => False
  | .nx ρ => ∀ σ B' H', Ex B B' → Rel K Z B' H' ρ σ → D.nx σ H'
  | .bk ρ => ∀ σ B' H', Ex B B' → Rel K Z B' H' ρ σ → D.bk σ H'
  | .ct ρ => ∀ σ B' H', Ex B B' → Rel K Z B' H' ρ σ → D.ct σ H'
  | .ret r ρ => ∀ v σ B' H', Ex B B' → Rel K Z B' H' ρ σ → ResOk K Z B' H' ρ σ r v → D.rt v H'
  | .exc x => XPost K mg Z E x
def tE (K : PySem.W.Frag) (mg : Str → Option Value) (E : XK) (m : En → EO) : TE := fun σ H Q => ∃ Z B ρ, Rel K Z B H ρ σ ∧ EPost K mg Z B σ E Q (m ρ)
def tT (K : PySem.W.Frag) (mg : Str → Option Value) (E : XK) (m : En → EO) : TT := fun σ H Q => ∃ Z B ρ, Rel K Z B H ρ σ ∧ TPost K mg Z B σ E Q (m ρ)
def tS (K : PySem.W.Frag) (mg : Str → Option Value) (E : XK) (m : En → SO) : TS := fun D σ H => ∃ Z B ρ, Rel K Z B H ρ σ ∧ SPost K mg Z B E D (m ρ)

structure JE (X : Cx) (E : XK) (e : Expr) (m : En → EO) : Prop where
  pe : PE X e (tE X.K X.mg E m)
structure JT (X : Cx) (E : XK) (e : Expr) (m : En → EO) : Prop where
  pt : PT X e (tT X.K X.mg E m)
structure JW (X : Cx) (E : XK) (e : Expr) (m : En → EO) : Prop where
  pw : PW X e (tT X.K X.mg E m)
structure JS (X : Cx) (E : XK) (s : Stmt) (m : En → SO) : Prop where
  ps : PS X s (tS X.K X.mg E m)
structure JB (X : Cx) (E : XK) (ss : List Stmt) (m : En → SO) : Prop where
  pss : PSs X ss (tS X.K X.mg E m)

theorem _root_.L2.PE.imp {X : Cx} {e : Expr} {t t' : TE} (h : PE X e t) (i : ∀ σ H Q, t' σ H Q → t σ H Q) : PE X e t' := ⟨fun pins s σ H Q I q => h.run pins s σ H Q I (i σ H Q q)⟩
theorem _root_.L2.PT.imp {X : Cx} {e : Expr} {t t' : TT} (h : PT X e t) (i : ∀ σ H Q, t' σ H Q → t σ H Q) : PT X e t' := ⟨fun pins s σ H Q I q => h.run pins s σ H Q I (i σ H Q q)⟩
theorem _root_.L2.PW.imp {X : Cx} {e : Expr} {t t' : TT} (h : PW X e t) (i : ∀ σ H Q, t' σ H Q → t σ H Q) : PW X e t' := ⟨fun wh pins s σ H Q I q => h.run wh pins s σ H Q I (i σ H Q q)⟩
theorem _root_.L2.PA.imp {X : Cx} {es : List Expr} {t t' : TA} (h : PA X es t) (i : ∀ σ H Q, t' σ H Q → t σ H Q) : PA X es t' := ⟨fun pos pins s σ H Q I q => h.run pos pins s σ H Q I (i σ H Q q)⟩
theorem _root_.L2.PS.imp {X : Cx} {e : Stmt} {t t' : TS} (h : PS X e t) (i : ∀ D σ H, t' D σ H → t D σ H) : PS X e t' := ⟨fun pins s σ H D I q => h.run pins s σ H D I (i D σ H q)⟩
theorem _root_.L2.PSs.imp {X : Cx} {e : List Stmt} {t t' : TS} (h : PSs X e t) (i : ∀ D σ H, t' D σ H → t D σ H) : PSs X e t' := ⟨fun pins s σ H D I q => h.run pins s σ H D I (i D σ H q)⟩

section
variable {K : PySem.W.Frag} {mg : Str → Option Value} {Z : Zt} {B B1 H : Hp} {ρ : En} {σ : St} {E : XK} {Q : VK}
theorem EPost.mono {m : EO} (h : EPost K mg Z B σ E Q m) (e : Ex B B1) : EPost K mg Z B1 σ E Q m := by
  cases m with
  | fail => exact h
  | ok r ρ => exact fun v B' H' e' => h v B' H' (e.trans e')
  | exc x => exact h
theorem EPost.imp {m : EO} {Q' : VK} (h : EPost K mg Z B σ E Q m) (i : ∀ v H, Q v H → Q' v H) : EPost K mg Z B σ E Q' m := by
  cases m with
  | fail => exact h
  | ok r ρ => exact fun v B' H' e' R r => i _ _ (h v B' H' e' R r)
  | exc x => exact h
theorem TPost.mono {m : EO} {Q : Bool → Hp → Prop} (h : TPost K mg Z B σ E Q m) (e : Ex B B1) : TPost K mg Z B1 σ E Q m := by
  cases m with
  | fail => exact h
  | ok r ρ => obtain ⟨b, hb, q⟩ := h; exact ⟨b, hb, fun B' H' e' => q B' H' (e.trans e')⟩
  | exc x => exact h
theorem SPost.mono {m : SO} {D : Ends} (h : SPost K mg Z B E D m) (e : Ex B B1) : SPost K mg Z B1 E D m := by
  cases m with
  | fail => exact h
  | nx ρ => exact fun σ B' H' e' => h σ B' H' (e.trans e')
  | bk ρ => exact fun σ B' H' e' => h σ B' H' (e.trans e')
  | ct ρ => exact fun σ B' H' e' => h σ B' H' (e.trans e')
  | ret r ρ => exact fun v σ B' H' e' => h v σ B' H' (e.trans e')
  | exc x => exact h
/-- one expression, then the rest -/
theorem EPost.bind {m : EO} {k : D → En → EO} {Q' : VK} (h : EPost K mg Z B σ E Q (m.bind k))
    (i : ∀ d ρ1 v B1 H1, Ex B B1 → Rel K Z B1 H1 ρ1 σ → Dp K B1 v d → EPost K mg Z B1 σ E Q (k d ρ1) → Q' v H1) : EPost K mg Z B σ E Q' m := by
  cases m with
  | fail => exact h
  | ok r ρ1 =>
    intro v B1 H1 e1 R1 r1
    obtain ⟨B2, e2, R2, d2⟩ := R1.freeze r1
    exact i r.d ρ1 v B2 H1 (e1.trans e2) R2 d2 (EPost.mono (m := k r.d ρ1) h (e1.trans e2))
  | exc x => exact h
theorem TPost.bind {m : EO} {k : D → En → EO} {Qb : Bool → Hp → Prop} {Q' : VK} (h : TPost K mg Z B σ E Qb (m.bind k))
    (i : ∀ d ρ1 v B1 H1, Ex B B1 → Rel K Z B1 H1 ρ1 σ → Dp K B1 v d → TPost K mg Z B1 σ E Qb (k d ρ1) → Q' v H1) : EPost K mg Z B σ E Q' m := by
  cases m with
  | fail => exact h
  | ok r ρ1 =>
    intro v B1 H1 e1 R1 r1
    obtain ⟨B2, e2, R2, d2⟩ := R1.freeze r1
    exact i r.d ρ1 v B2 H1 (e1.trans e2) R2 d2 (TPost.mono (m := k r.d ρ1) h (e1.trans e2))
  | exc x => exact h
theorem SPost.bind {m : EO} {k : D → En → SO} {D : Ends} {Q' : VK} (h : SPost K mg Z B E D (m.bindS k))
    (i : ∀ d ρ1 v B1 H1, Ex B B1 → Rel K Z B1 H1 ρ1 σ → Dp K B1 v d → SPost K mg Z B1 E D (k d ρ1) → Q' v H1) : EPost K mg Z B σ E Q' m := by
  cases m with
  | fail => exact h
  | ok r ρ1 =>
    intro v B1 H1 e1 R1 r1
    obtain ⟨B2, e2, R2, d2⟩ := R1.freeze r1
    exact i r.d ρ1 v B2 H1 (e1.trans e2) R2 d2 (SPost.mono (m := k r.d ρ1) h (e1.trans e2))
  | exc x => exact h
/-- a test, then the rest -/
abbrev EO.test (m : EO) (k : Bool → En → EO) : EO := m.bind fun d ρ => match d with
  | .bool b => k b ρ
  | _ => .fail
abbrev EO.testS (m : EO) (k : Bool → En → SO) : SO := m.bindS fun d ρ => match d with
  | .bool b => k b ρ
  | _ => .fail
theorem EPost.test {m : EO} {k : Bool → En → EO} {Q' : Bool → Hp → Prop} (h : EPost K mg Z B σ E Q (m.test k))
    (i : ∀ b ρ1 B1 H1, Ex B B1 → Rel K Z B1 H1 ρ1 σ → EPost K mg Z B1 σ E Q (k b ρ1) → Q' b H1) : TPost K mg Z B σ E Q' m := by
  cases m with
  | fail => exact h
  | ok r ρ1 =>
    have h' : EPost K mg Z B σ E Q (match r.d with | .bool b => k b ρ1 | _ => .fail) := h
    cases hd : r.d <;> rw [hd] at h' <;> first | exact h'.elim | skip
    exact ⟨_, hd, fun B1 H1 e1 R1 => i _ ρ1 B1 H1 e1 R1 (EPost.mono h' e1)⟩
  | exc x => exact h
theorem dp_bool {K : PySem.W.Frag} {B : Hp} {v : V} {b : Bool} (h : Dp K B v (.bool b)) : v = .bl b := by cases h; rfl
theorem EPost.testV {m : EO} {k : Bool → En → EO} {Q' : VK} (h : EPost K mg Z B σ E Q (m.test k))
    (i : ∀ b ρ1 B1 H1, Ex B B1 → Rel K Z B1 H1 ρ1 σ → EPost K mg Z B1 σ E Q (k b ρ1) → Q' (.bl b) H1) : EPost K mg Z B σ E Q' m := by
  cases m with
  | fail => exact h
  | ok r ρ1 =>
    have h' : EPost K mg Z B σ E Q (match r.d with | .bool b => k b ρ1 | _ => .fail) := h
    intro v B1 H1 e1 R1 r1
    obtain ⟨B2, e2, R2, d2⟩ := R1.freeze r1
    cases hd : r.d <;> rw [hd] at h' d2 <;> first | exact h'.elim | skip
    rw [dp_bool d2]
    exact i _ ρ1 B2 H1 (e1.trans e2) R2 (EPost.mono h' (e1.trans e2))
  | exc x => exact h
theorem TPost.testV {m : EO} {k : Bool → En → EO} {Qb : Bool → Hp → Prop} {Q' : VK} (h : TPost K mg Z B σ E Qb (m.test k))
    (i : ∀ b ρ1 B1 H1, Ex B B1 → Rel K Z B1 H1 ρ1 σ → TPost K mg Z B1 σ E Qb (k b ρ1) → Q' (.bl b) H1) : EPost K mg Z B σ E Q' m := by
  cases m with
  | fail => exact h
  | ok r ρ1 =>
    have h' : TPost K mg Z B σ E Qb (match r.d with | .bool b => k b ρ1 | _ => .fail) := h
    intro v B1 H1 e1 R1 r1
    obtain ⟨B2, e2, R2, d2⟩ := R1.freeze r1
    cases hd : r.d <;> rw [hd] at h' d2 <;> first | exact h'.elim | skip
    rw [dp_bool d2]
    exact i _ ρ1 B2 H1 (e1.trans e2) R2 (TPost.mono h' (e1.trans e2))
  | exc x => exact h
theorem TPost.test {m : EO} {k : Bool → En → EO} {Q Q' : Bool → Hp → Prop} (h : TPost K mg Z B σ E Q (m.test k))
    (i : ∀ b ρ1 B1 H1, Ex B B1 → Rel K Z B1 H1 ρ1 σ → TPost K mg Z B1 σ E Q (k b ρ1) → Q' b H1) : TPost K mg Z B σ E Q' m := by
  cases m with
  | fail => exact h
  | ok r ρ1 =>
    have h' : TPost K mg Z B σ E Q (match r.d with | .bool b => k b ρ1 | _ => .fail) := h
    cases hd : r.d <;> rw [hd] at h' <;> first | exact h'.elim | skip
    exact ⟨_, hd, fun B1 H1 e1 R1 => i _ ρ1 B1 H1 e1 R1 (TPost.mono h' e1)⟩
  | exc x => exact h
theorem SPost.test {m : EO} {k : Bool → En → SO} {D : Ends} {Q' : Bool → Hp → Prop} (h : SPost K mg Z B E D (m.testS k))
    (i : ∀ b ρ1 B1 H1, Ex B B1 → Rel K Z B1 H1 ρ1 σ → SPost K mg Z B1 E D (k b ρ1) → Q' b H1) : TPost K mg Z B σ E Q' m := by
  cases m with
  | fail => exact h
  | ok r ρ1 =>
    have h' : SPost K mg Z B E D (match r.d with | .bool b => k b ρ1 | _ => .fail) := h
    cases hd : r.d <;> rw [hd] at h' <;> first | exact h'.elim | skip
    exact ⟨_, hd, fun B1 H1 e1 R1 => i _ ρ1 B1 H1 e1 R1 (SPost.mono h' e1)⟩
  | exc x => exact h
end

/-! ### names, constants -/
def mVar (i : Nat) : En → EO := fun ρ => match ρ[i]? with
  | some (.val d) => .ok (.val d) ρ
  | some (.own ds) => .ok (.val (.list ds)) (ρ.set i (.val (.list ds)))
  | _ => .fail
def mC (d : D) : En → EO := fun ρ => .ok (.val d) ρ
section
variable {X : Cx} {E : XK}
theorem je_var (i : Nat) {x : Str} {pos : Pos} (hN : X.N[i]? = some x := by rfl) (hv : Vis X.env.scope x := by first | exact Or.inl rfl | exact Or.inr (Or.inl rfl) | exact Or.inr (Or.inr rfl)) (hd : (x == ("__debug__" : Str)) = false := by decide)
    (hcd : (x == ("__classdict__" : Str)) = false := by decide) : JE X E (.Name x pos) (mVar i) := by
  refine ⟨(pe_var hN hv hd hcd).imp fun σ H Q h => ?_⟩
  obtain ⟨Z, B, ρ, R, h⟩ := h
  unfold mVar at h
  cases hs : ρ[i]? with
  | none => rw [hs] at h; exact h.elim
  | some s =>
    rw [hs] at h
    cases s with
    | no => exact h.elim
    | exc => exact h.elim
    | val d =>
      obtain ⟨v, e, dp⟩ := R.sl i _ hs
      exact ⟨v, e, h v B H (Ex.refl _) R dp⟩
    | own ds =>
      obtain ⟨v, B', e, eb, R', dp⟩ := R.freezeSlot hs
      exact ⟨v, e, h v B' H eb R' dp⟩
    | io j ds => exact h.elim
theorem je_c {e : Expr} {v : V} {d : D} (h : PE X e (tC v)) (hd : ∀ B, Dp X.K B v d) : JE X E e (mC d) := by
  refine ⟨h.imp fun σ H Q h => ?_⟩
  obtain ⟨Z, B, ρ, R, h⟩ := h
  exact h v B H (Ex.refl _) R (hd B)
theorem je_int {i j pos} : JE X E (.Constant (.int i) j pos) (mC (.int i)) := je_c pe_int fun _ => .int _
theorem je_bl {b j pos} : JE X E (.Constant (.bool b) j pos) (mC (.bool b)) := je_c pe_bl fun _ => .bl _
theorem je_non {j pos} : JE X E (.Constant .none j pos) (mC .none) := je_c pe_non fun _ => .non
theorem je_str {x j pos} : JE X E (.Constant (.str x) j pos) (mC (.str x)) := je_c pe_str fun _ => .str _
end

/-! ### operators by value -/
/-- r, on data, is f -/
def VOp (X : Cx) (r : R2) (f : D → D → Option Res) : Prop :=
  ∀ (Z : Zt) (B H : Hp) (ρ : En) (σ : St) (x y : V) (d e : D) (res : Res) (Q : VK), Rel X.K Z B H ρ σ → Dp X.K B x d → Dp X.K B y e → f d e = some res →
    (∀ v B' H', Ex B B' → Rel X.K Z B' H' ρ σ → ResOk X.K Z B' H' ρ σ res v → Q v H') → r x y H Q
def EO.of (o : Option Res) (ρ : En) : EO := match o with
  | some r => .ok r ρ
  | none => .fail
def mOp (f : D → D → Option Res) (ma mb : En → EO) : En → EO := fun ρ => (ma ρ).bind fun d ρ1 => (mb ρ1).bind fun e ρ2 => .of (f d e) ρ2
def VUn (X : Cx) (r : V → Hp → VK → Prop) (f : D → Option Res) : Prop :=
  ∀ (Z : Zt) (B H : Hp) (ρ : En) (σ : St) (x : V) (d : D) (res : Res) (Q : VK), Rel X.K Z B H ρ σ → Dp X.K B x d → f d = some res →
    (∀ v B' H', Ex B B' → Rel X.K Z B' H' ρ σ → ResOk X.K Z B' H' ρ σ res v → Q v H') → r x H Q
def mUn (f : D → Option Res) (ma : En → EO) : En → EO := fun ρ => (ma ρ).bind fun d ρ1 => .of (f d) ρ1
section
variable {X : Cx} {E : XK} {a b c : Expr} {ma mb mc : En → EO} {pos : Pos}
theorem tOp_of {r : R2} {f : D → D → Option Res} (hf : VOp X r f) : ∀ σ H Q, tE X.K X.mg E (mOp f ma mb) σ H Q → tOp r (tE X.K X.mg E ma) (tE X.K X.mg E mb) σ H Q := by
  intro σ H Q ⟨Z, B, ρ, R, h⟩
  refine ⟨Z, B, ρ, R, EPost.bind h fun d ρ1 x B1 H1 e1 R1 dx h1 => ⟨Z, B1, ρ1, R1, EPost.bind h1 fun e ρ2 y B2 H2 e2 R2 dy h2 => ?_⟩⟩
  cases hr : f d e with
  | none => rw [hr] at h2; exact h2.elim
  | some res => rw [hr] at h2; exact hf Z B2 H2 ρ2 σ x y d e res Q R2 (dx.ex e2) dy hr h2
theorem je_op {op : Operator} {r : R2} {f : D → D → Option Res} (ho : OpR X (binaryOp op) r) (hf : VOp X r f) (ha : JE X E a ma) (hb : JE X E b mb) : JE X E (.BinOp a op b pos) (mOp f ma mb) :=
  ⟨(pe_op ho ha.pe hb.pe).imp (tOp_of hf)⟩
theorem je_cmp {op : CmpOp} {r : R2} {f : D → D → Option Res} (ho : OpR X (compareOp op) r) (hf : VOp X r f) (ha : JE X E a ma) (hb : JE X E b mb) (hm : behindInMarks op b = false) : JE X E (.Compare a [op] [b] pos) (mOp f ma mb) :=
  ⟨(pe_cmpR ho ha.pe hb.pe hm).imp (tOp_of hf)⟩
theorem je_un {op : UnaryOp} {r : V → Hp → VK → Prop} {f : D → Option Res} (ho : UnR X (unaryOp op) r) (hf : VUn X r f) (ha : JE X E a ma) : JE X E (.UnaryOp op a pos) (mUn f ma) := by
  refine ⟨(pe_un ho ha.pe).imp fun σ H Q h => ?_⟩
  obtain ⟨Z, B, ρ, R, h⟩ := h
  refine ⟨Z, B, ρ, R, EPost.bind h fun d ρ1 x B1 H1 e1 R1 dx h1 => ?_⟩
  cases hr : f d with
  | none => rw [hr] at h1; exact h1.elim
  | some res => rw [hr] at h1; exact hf Z B1 H1 ρ1 σ x d res Q R1 dx hr h1
theorem je_ix {r : R2} {f : D → D → Option Res} (hr : IxR X r) (hf : VOp X r f) (ha : JE X E a ma) (hb : JE X E b mb) (hs : PlainIx b) : JE X E (.Subscript a b pos) (mOp f ma mb) :=
  ⟨(pe_ix hr ha.pe hb.pe hs).imp (tOp_of hf)⟩

/-! ### tests -/
/-- an expression whose value is a truth value, as a test -/
def mB (m : En → EO) : En → EO := fun ρ => (m ρ).test fun b ρ1 => .ok (.val (.bool b)) ρ1
theorem dp_int {K : PySem.W.Frag} {B : Hp} {v : V} {i : Int} (h : Dp K B v (.int i)) : v = .int i := by cases h; rfl
theorem dp_str {K : PySem.W.Frag} {B : Hp} {v : V} {x : Str} (h : Dp K B v (.str x)) : v = .str x := by cases h; rfl
theorem dp_non {K : PySem.W.Frag} {B : Hp} {v : V} (h : Dp K B v .none) : v = .non := by cases h; rfl
theorem tB_of {te : TE} {m : En → EO} (hi : ∀ σ H Q, tE X.K X.mg E m σ H Q → te σ H Q) : ∀ σ H Q, tT X.K X.mg E (mB m) σ H Q → (fun σ H (Q : Bool → Hp → Prop) => te σ H fun x H' => ∃ k, x = .bl k ∧ Q k H') σ H Q := by
  intro σ H Q ⟨Z, B, ρ, R, h⟩
  refine hi σ H _ ⟨Z, B, ρ, R, TPost.testV h fun b ρ1 B1 H1 e1 R1 h1 => ?_⟩
  obtain ⟨b', hb, q⟩ := h1
  cases hb
  exact ⟨b, rfl, q B1 H1 (Ex.refl _) R1⟩
theorem jt_val {e : Expr} {m : En → EO} (h : JE X E e m) (he : ∀ whole, isTrue e X.env whole = (do let v ← whole; standAt e.pos; holding [v] (truthy v)) := by intro _; rfl) : JT X E e (mB m) :=
  ⟨(pt_val h.pe he).imp (tB_of fun _ _ _ q => q)⟩
theorem jt_cmp {op : CmpOp} {r : R2} {f : D → D → Option Res} (ho : OpR X (compareOp op) r) (hf : VOp X r f) (ha : JE X E a ma) (hb : JE X E b mb) (hm : behindInMarks op b = false) : JT X E (.Compare a [op] [b] pos) (mB (mOp f ma mb)) :=
  ⟨(pt_cmpR ho ha.pe hb.pe hm).imp (tB_of (tOp_of hf))⟩
def mNot (m : En → EO) : En → EO := fun ρ => (m ρ).test fun b ρ1 => .ok (.val (.bool (!b))) ρ1
theorem jt_not (ha : JT X E a ma) : JT X E (.UnaryOp .Not a pos) (mNot ma) := by
  refine ⟨(pt_not ha.pt).imp fun σ H Q h => ?_⟩
  obtain ⟨Z, B, ρ, R, h⟩ := h
  refine ⟨Z, B, ρ, R, TPost.test h fun b ρ1 B1 H1 e1 R1 h1 => ?_⟩
  obtain ⟨b', hb, q⟩ := h1
  cases hb
  exact q B1 H1 (Ex.refl _) R1
/-- not, as a value -/
theorem je_not (ha : JE X E a ma) : JE X E (.UnaryOp .Not a pos) (mNot ma) := by
  refine ⟨(pe_not ha.pe).imp fun σ H Q h => ?_⟩
  obtain ⟨Z, B, ρ, R, h⟩ := h
  refine ⟨Z, B, ρ, R, EPost.testV h fun b ρ1 B1 H1 e1 R1 h1 => ?_⟩
  exact ⟨_, rfl, h1 _ B1 H1 (Ex.refl _) R1 (.bl _)⟩
def mAnd (ma mb : En → EO) : En → EO := fun ρ => (ma ρ).test fun b ρ1 => if b = true then mb ρ1 else .ok (.val (.bool false)) ρ1
def mOr (ma mb : En → EO) : En → EO := fun ρ => (ma ρ).test fun b ρ1 => if b = true then .ok (.val (.bool true)) ρ1 else mb ρ1
variable {rest : List Expr}
theorem jw_and1 (ha : JT X E a ma) : JW X E (.BoolOp .And [a] pos) ma := ⟨pw_and1 ha.pt⟩
theorem jw_or1 (ha : JT X E a ma) : JW X E (.BoolOp .Or [a] pos) ma := ⟨pw_or1 ha.pt⟩
theorem jw_and (ha : JT X E a ma) (hb : JW X E (.BoolOp .And (b :: rest) pos) mb) : JW X E (.BoolOp .And (a :: b :: rest) pos) (mAnd ma mb) := by
  refine ⟨(pw_and ha.pt hb.pw).imp fun σ H Q h => ?_⟩
  obtain ⟨Z, B, ρ, R, h⟩ := h
  refine ⟨Z, B, ρ, R, TPost.test h fun b ρ1 B1 H1 e1 R1 h1 => ?_⟩
  cases b with
  | true => exact ⟨Z, B1, ρ1, R1, h1⟩
  | false =>
    obtain ⟨b', hb, q⟩ := h1
    cases hb
    exact q B1 H1 (Ex.refl _) R1
theorem jw_or (ha : JT X E a ma) (hb : JW X E (.BoolOp .Or (b :: rest) pos) mb) : JW X E (.BoolOp .Or (a :: b :: rest) pos) (mOr ma mb) := by
  refine ⟨(pw_or ha.pt hb.pw).imp fun σ H Q h => ?_⟩
  obtain ⟨Z, B, ρ, R, h⟩ := h
  refine ⟨Z, B, ρ, R, TPost.test h fun b ρ1 B1 H1 e1 R1 h1 => ?_⟩
  cases b with
  | false => exact ⟨Z, B1, ρ1, R1, h1⟩
  | true =>
    obtain ⟨b', hb, q⟩ := h1
    cases hb
    exact q B1 H1 (Ex.refl _) R1
theorem JW.jt {e : Expr} {m : En → EO} (h : JW X E e m) : JT X E e m := ⟨h.pw.pt⟩
/-- and, or as values (of truth values; the last may be anything) -/
theorem je_one {op} (h : JE X E a ma) : JE X E (.BoolOp op [a] pos) ma := ⟨pe_one h.pe⟩
theorem je_and (ha : JE X E a ma) (hb : JE X E (.BoolOp .And (b :: rest) pos) mb) : JE X E (.BoolOp .And (a :: b :: rest) pos) (mAnd ma mb) := by
  refine ⟨(pe_and ha.pe hb.pe).imp fun σ H Q h => ?_⟩
  obtain ⟨Z, B, ρ, R, h⟩ := h
  refine ⟨Z, B, ρ, R, EPost.testV h fun c ρ1 B1 H1 e1 R1 h1 => ?_⟩
  refine ⟨c, rfl, ?_⟩
  cases c with
  | true => exact ⟨Z, B1, ρ1, R1, h1⟩
  | false => exact h1 _ B1 H1 (Ex.refl _) R1 (.bl _)
theorem je_or (ha : JE X E a ma) (hb : JE X E (.BoolOp .Or (b :: rest) pos) mb) : JE X E (.BoolOp .Or (a :: b :: rest) pos) (mOr ma mb) := by
  refine ⟨(pe_or ha.pe hb.pe).imp fun σ H Q h => ?_⟩
  obtain ⟨Z, B, ρ, R, h⟩ := h
  refine ⟨Z, B, ρ, R, EPost.testV h fun c ρ1 B1 H1 e1 R1 h1 => ?_⟩
  refine ⟨c, rfl, ?_⟩
  cases c with
  | false => exact ⟨Z, B1, ρ1, R1, h1⟩
  | true => exact h1 _ B1 H1 (Ex.refl _) R1 (.bl _)
def mIf (mc ma mb : En → EO) : En → EO := fun ρ => (mc ρ).test fun b ρ1 => if b = true then ma ρ1 else mb ρ1
theorem je_ifExp (hc : JT X E c mc) (ha : JE X E a ma) (hb : JE X E b mb) : JE X E (.IfExp c a b pos) (mIf mc ma mb) := by
  refine ⟨(pe_ifExp hc.pt ha.pe hb.pe).imp fun σ H Q h => ?_⟩
  obtain ⟨Z, B, ρ, R, h⟩ := h
  refine ⟨Z, B, ρ, R, EPost.test h fun b ρ1 B1 H1 e1 R1 h1 => ?_⟩
  cases b with
  | true => exact ⟨Z, B1, ρ1, R1, h1⟩
  | false => exact ⟨Z, B1, ρ1, R1, h1⟩
/-- a < b < c -/
def mChain (f g : D → D → Option Res) (ma mb mc : En → EO) : En → EO := fun ρ => (ma ρ).bind fun d ρ1 => (mb ρ1).bind fun e ρ2 => match f d e with
  | some (.val (.bool true)) => (mc ρ2).bind fun h ρ3 => .of (g e h) ρ3
  | some (.val (.bool false)) => .ok (.val (.bool false)) ρ2
  | _ => .fail
theorem tChain_of {r r' : R2} {f g : D → D → Option Res} (hf : VOp X r f) (hg : VOp X r' g) (hfe : ∀ x y d e H Q B b, Dp X.K B x d → Dp X.K B y e → f d e = some (.val (.bool b)) → Q (.bl b) H → r x y H Q) :
    ∀ σ H Q, tE X.K X.mg E (mChain f g ma mb mc) σ H Q → tChain r r' (tE X.K X.mg E ma) (tE X.K X.mg E mb) (tE X.K X.mg E mc) σ H Q := by
  intro σ H Q ⟨Z, B, ρ, R, h⟩
  refine ⟨Z, B, ρ, R, EPost.bind h fun d ρ1 x B1 H1 e1 R1 dx h1 => ⟨Z, B1, ρ1, R1, EPost.bind h1 fun e ρ2 y B2 H2 e2 R2 dy h2 => ?_⟩⟩
  cases hr : f d e with
  | none => rw [hr] at h2; exact h2.elim
  | some res =>
    rw [hr] at h2
    cases res with
    | new ds => exact h2.elim
    | val q =>
      cases q <;> first | exact h2.elim | skip
      rename_i b
      refine hfe x y d e H2 _ B2 b (dx.ex e2) dy hr ⟨b, rfl, ?_⟩
      cases b with
      | true =>
        refine ⟨Z, B2, ρ2, R2, EPost.bind h2 fun h ρ3 z B3 H3 e3 R3 dz h3 => ?_⟩
        cases hr' : g e h with
        | none => rw [hr'] at h3; exact h3.elim
        | some res => rw [hr'] at h3; exact hg Z B3 H3 ρ3 σ y z e h res Q R3 (dy.ex e3) dz hr' h3
      | false => exact h2 _ B2 H2 (Ex.refl _) R2 (.bl _)
end
end DL

set_option maxRecDepth 100000
set_option maxHeartbeats 2000000
namespace DL
open PySem L2
variable [Tb]

/-! ### argument lists -/
inductive AR where
  | val (d : D)
  | io (i : Nat)
inductive AO where
  | fail
  | ok (as : List AR) (ρ : En)
  | exc (x : Exc)
def ArgV (K : PySem.W.Frag) (B : Hp) (σ : St) : AR → V → Prop
  | .val d, v => Dp K B v d
  | .io i, v => σ[i]? = some (some v)
inductive ArgsV (K : PySem.W.Frag) (B : Hp) (σ : St) : List AR → List V → Prop
  | nil : ArgsV K B σ [] []
  | cons {a : AR} {v : V} {as : List AR} {vs : List V} : ArgV K B σ a v → ArgsV K B σ as vs → ArgsV K B σ (a :: as) (v :: vs)
def APost (K : PySem.W.Frag) (mg : Str → Option Value) (Z : Zt) (B : Hp) (σ : St) (E : XK) (Q : List V → Hp → Prop) : AO → Prop
  | .fail => False
  | .ok as ρ => ∀ vs B' H', Ex B B' → Rel K Z B' H' ρ σ → ArgsV K B' σ as vs → Q vs H'
  | .exc x => XPost K mg Z E x
def tA (K : PySem.W.Frag) (mg : Str → Option Value) (E : XK) (m : En → AO) : TA := fun σ H Q => ∃ Z B ρ, Rel K Z B H ρ σ ∧ APost K mg Z B σ E Q (m ρ)
structure JA (X : Cx) (E : XK) (es : List Expr) (m : En → AO) : Prop where
  pa : PA X es (tA X.K X.mg E m)
theorem ArgV.ex {K : PySem.W.Frag} {B B' : Hp} {σ : St} {a : AR} {v : V} (h : ArgV K B σ a v) (e : Ex B B') : ArgV K B' σ a v := by
  cases a with
  | val d => exact Dp.ex h e
  | io i => exact h
def mANil : En → AO := fun ρ => .ok [] ρ
def mACons (me : En → EO) (mr : En → AO) : En → AO := fun ρ => match me ρ with
  | .fail => .fail
  | .exc x => .exc x
  | .ok r ρ1 => match mr ρ1 with
    | .ok as ρ2 => .ok (.val r.d :: as) ρ2
    | o => o
def mAIo (i : Nat) (mr : En → AO) : En → AO := fun ρ => match (ρ[i]?).map Slot.mut with
  | some true => match mr ρ with
    | .ok as ρ2 => .ok (.io i :: as) ρ2
    | o => o
  | _ => .fail
def vals : List AR → Option (List D)
  | [] => some []
  | .val d :: as => (vals as).map (d :: ·)
  | .io _ :: _ => none
theorem ArgsV.dpAll {K : PySem.W.Frag} {B : Hp} {σ : St} : ∀ {as : List AR} {vs : List V} {ds : List D}, ArgsV K B σ as vs → vals as = some ds → DpAll K B vs ds
  | [], _, _, .nil, e => by cases e; exact .nil
  | .val d :: as, _, ds, .cons h t, e => by
    unfold vals at e
    cases q : vals as with
    | none => rw [q] at e; cases e
    | some es => rw [q] at e; cases e; exact .cons h (ArgsV.dpAll t q)
  | .io i :: as, _, _, .cons h t, e => by cases e
section
variable {X : Cx} {E : XK} {e : Expr} {es : List Expr} {me : En → EO} {mr : En → AO} {pos : Pos}
theorem ja_nil : JA X E [] mANil := by
  refine ⟨pa_nil.imp fun σ H Q h => ?_⟩
  obtain ⟨Z, B, ρ, R, h⟩ := h
  exact h [] B H (Ex.refl _) R .nil
theorem APost.mono {K : PySem.W.Frag} {mg : Str → Option Value} {Z : Zt} {B B1 : Hp} {σ : St} {Q : List V → Hp → Prop} {m : AO} (h : APost K mg Z B σ E Q m) (e : Ex B B1) : APost K mg Z B1 σ E Q m := by
  cases m with
  | fail => exact h
  | ok r ρ => exact fun v B' H' e' => h v B' H' (e.trans e')
  | exc x => exact h
theorem ja_cons (he : JE X E e me) (hr : JA X E es mr) (hs : starEach (e :: es) X.env = (false, eval e X.env) :: starEach es X.env := by rfl) : JA X E (e :: es) (mACons me mr) := by
  refine ⟨(pa_cons he.pe hr.pa hs).imp fun σ H Q h => ?_⟩
  obtain ⟨Z, B, ρ, R, h⟩ := h
  refine ⟨Z, B, ρ, R, ?_⟩
  unfold mACons at h
  cases hm : me ρ with
  | fail => rw [hm] at h; exact h.elim
  | exc x => rw [hm] at h; exact h
  | ok r ρ1 =>
    rw [hm] at h
    intro v B1 H1 e1 R1 r1
    obtain ⟨B2, e2, R2, d2⟩ := R1.freeze r1
    refine ⟨Z, B2, ρ1, R2, ?_⟩
    cases hm2 : mr ρ1 with
    | fail => simp only [hm2] at h; exact h.elim
    | exc x => simp only [hm2] at h; exact h
    | ok as ρ2 =>
      simp only [hm2] at h
      exact fun vs B' H' e' R' a' => h (v :: vs) B' H' ((e1.trans e2).trans e') R' (.cons (Dp.ex d2 e') a')
theorem ja_io (i : Nat) {x : Str} {p : Pos} (hr : JA X E es mr) (hN : X.N[i]? = some x := by rfl) (hv : Vis X.env.scope x := by first | exact Or.inl rfl | exact Or.inr (Or.inl rfl) | exact Or.inr (Or.inr rfl)) (hd : (x == ("__debug__" : Str)) = false := by decide)
    (hcd : (x == ("__classdict__" : Str)) = false := by decide) (hs : starEach (.Name x p :: es) X.env = (false, eval (.Name x p) X.env) :: starEach es X.env := by rfl) : JA X E (.Name x p :: es) (mAIo i mr) := by
  refine ⟨(pa_cons (pe_var (i := i) hN hv hd hcd) hr.pa hs).imp fun σ H Q h => ?_⟩
  obtain ⟨Z, B, ρ, R, h⟩ := h
  unfold mAIo at h
  cases hs : ρ[i]? with
  | none => simp only [hs] at h; exact h.elim
  | some s =>
    cases hm : s.mut with
    | false => simp only [hs, Option.map, hm] at h; exact h.elim
    | true =>
      obtain ⟨a, vs, ds, ea, m⟩ := R.mutAt hs hm
      simp only [hs, Option.map, hm] at h
      refine ⟨.ref a, ea, Z, B, ρ, R, ?_⟩
      cases hm2 : mr ρ with
      | fail => simp only [hm2] at h; exact h.elim
      | exc x => simp only [hm2] at h; exact h
      | ok as ρ2 =>
        simp only [hm2] at h
        exact fun vs B' H' e' R' a' => h (.ref a :: vs) B' H' e' R' (.cons ea a')

/-! ### displays, built-ins -/
def AO.call (m : AO) (f : List D → Option Res) : EO := match m with
  | .fail => .fail
  | .exc x => .exc x
  | .ok as ρ => match vals as with
    | some ds => .of (f ds) ρ
    | none => .fail
def mCall (f : List D → Option Res) (ma : En → AO) : En → EO := fun ρ => (ma ρ).call f
def VCall (X : Cx) (r : List V → Hp → VK → Prop) (f : List D → Option Res) : Prop :=
  ∀ (Z : Zt) (B H : Hp) (ρ : En) (σ : St) (vs : List V) (ds : List D) (res : Res) (Q : VK), Rel X.K Z B H ρ σ → DpAll X.K B vs ds → f ds = some res →
    (∀ v B' H', Ex B B' → Rel X.K Z B' H' ρ σ → ResOk X.K Z B' H' ρ σ res v → Q v H') → r vs H Q
theorem tCB_of {r : List V → Hp → VK → Prop} {f : List D → Option Res} {ma : En → AO} (hf : VCall X r f) : ∀ σ H Q, tE X.K X.mg E (mCall f ma) σ H Q → tCB r (tA X.K X.mg E ma) σ H Q := by
  intro σ H Q ⟨Z, B, ρ, R, h⟩
  refine ⟨Z, B, ρ, R, ?_⟩
  unfold mCall AO.call at h
  cases hm : ma ρ with
  | fail => rw [hm] at h; exact h.elim
  | exc x => rw [hm] at h; exact h
  | ok as ρ1 =>
    simp only [hm] at h
    intro vs B1 H1 e1 R1 a1
    cases hv : vals as with
    | none => simp only [hv] at h; exact h.elim
    | some ds =>
      simp only [hv] at h
      cases hr : f ds with
      | none => simp only [hr] at h; exact h.elim
      | some res => simp only [hr] at h; exact hf Z B1 H1 ρ1 σ vs ds res Q R1 (a1.dpAll hv) hr fun v B' H' e' => h v B' H' (e1.trans e')
def fTup (ds : List D) : Option Res := if ds.length ≤ 100000 then some (.val (.tuple ds)) else none
def fLst (ds : List D) : Option Res := if ds.length ≤ 100000 then some (.new ds) else none
theorem sz {n : Nat} (h : n ≤ 100000) : n ≤ sizeLine := Nat.le_trans h (by decide)
theorem je_tup {x1} {ma : En → AO} (h : JA X E es ma) : JE X E (.Tuple es x1 pos) (mCall fTup ma) := by
  refine ⟨(pe_tup h.pa).imp ?_⟩
  refine tCB_of (r := fun xs H Q => xs.length ≤ sizeLine ∧ ∀ p, H p = none → Q (.ref p) (upd H p (.tup xs))) fun Z B H ρ σ vs ds res Q R d hf q => ?_
  unfold fTup at hf
  split at hf
  · rename_i hl
    cases hf
    refine ⟨by rw [d.length]; exact sz hl, fun p hp => ?_⟩
    obtain ⟨B', e, R', d'⟩ := R.tup hp d
    exact q _ B' _ e R' d'
  · cases hf
theorem je_lst {ma : En → AO} (h : JA X E es ma) : JE X E (.List es pos) (mCall fLst ma) := by
  refine ⟨(pe_lst h.pa).imp ?_⟩
  refine tCB_of (r := fun xs H Q => xs.length ≤ sizeLine ∧ ∀ p, H p = none → Q (.ref p) (upd H p (.lst xs))) fun Z B H ρ σ vs ds res Q R d hf q => ?_
  unfold fLst at hf
  split at hf
  · rename_i hl
    cases hf
    refine ⟨by rw [d.length]; exact sz hl, fun p hp => ?_⟩
    obtain ⟨R', r'⟩ := R.lst hp d
    exact q _ B _ (Ex.refl _) R' r'
  · cases hf
theorem je_callB {x : Str} {id : String} {p : Pos} {r : List V → Hp → VK → Prop} {f : List D → Option Res} {ma : En → AO} (hc : CallR X (.builtin id) r) (hf : VCall X r f) (hm : X.mg x = none) (ha : JA X E (e :: es) ma) (hv : bootBuiltins x = some (.builtin id) := by decide +kernel) (hg : Gl X x := by rfl) (hn : x ≠ "__name__" := by decide) (hdb : (x == ("__debug__" : Str)) = false := by decide)
    (he : starEach (e :: es) X.env = (false, eval e X.env) :: starEach es X.env := by rfl) (hpl : (backTo pos (starEach es X.env)).any (·.1) = false := by rfl) : JE X E (.Call (.Name x p) (e :: es) [] pos) (mCall f ma) :=
  ⟨(pe_callB hc hg hm hv ha.pa hn hdb he hpl).imp (tCB_of hf)⟩
theorem je_callTy {x : Str} {T : String} {p : Pos} {r : List V → Hp → VK → Prop} {f : List D → Option Res} {ma : En → AO} (hc : CallR X (.type T) r) (hf : VCall X r f) (hm : X.mg x = none) (ha : JA X E (e :: es) ma) (hv : bootBuiltins x = some (.type T) := by decide +kernel) (hg : Gl X x := by rfl) (hn : x ≠ "__name__" := by decide) (hdb : (x == ("__debug__" : Str)) = false := by decide)
    (he : starEach (e :: es) X.env = (false, eval e X.env) :: starEach es X.env := by rfl) (hpl : (backTo pos (starEach es X.env)).any (·.1) = false := by rfl) : JE X E (.Call (.Name x p) (e :: es) [] pos) (mCall f ma) :=
  ⟨(pe_callTy hc hg hm hv ha.pa hn hdb he hpl).imp (tCB_of hf)⟩
end

/-! ### statements -/
section
variable {X : Cx} {E : XK} {e c : Expr} {me mc : En → EO} {s : Stmt} {ss bs os : List Stmt} {m m1 m2 : En → SO} {pos : Pos}
def SO.bind (o : SO) (k : En → SO) : SO := match o with
  | .nx ρ => k ρ
  | o => o
def mNext : En → SO := fun ρ => .nx ρ
def mSeq (m1 m2 : En → SO) : En → SO := fun ρ => (m1 ρ).bind m2
theorem jb_nil : JB X E [] mNext := by
  refine ⟨pss_nil.imp fun D σ H h => ?_⟩
  obtain ⟨Z, B, ρ, R, h⟩ := h
  exact h σ B H (Ex.refl _) R
theorem jb_one (h : JS X E s m) : JB X E [s] m := ⟨pss_one h.ps⟩
theorem jb_cons (h1 : JS X E s m1) (h2 : JB X E ss m2) : JB X E (s :: ss) (mSeq m1 m2) := by
  refine ⟨(pss_cons h1.ps h2.pss).imp fun D σ H h => ?_⟩
  obtain ⟨Z, B, ρ, R, h⟩ := h
  refine ⟨Z, B, ρ, R, ?_⟩
  unfold mSeq SO.bind at h
  cases hm : m1 ρ with
  | nx ρ1 => rw [hm] at h; exact fun σ1 B1 H1 e1 R1 => ⟨Z, B1, ρ1, R1, SPost.mono h e1⟩
  | fail => rw [hm] at h; exact h
  | bk ρ1 => rw [hm] at h; exact h
  | ct ρ1 => rw [hm] at h; exact h
  | ret r ρ1 => rw [hm] at h; exact h
  | exc x => rw [hm] at h; exact h
theorem js_pass : JS X E (.Pass pos) mNext := by
  refine ⟨ps_pass.imp fun D σ H h => ?_⟩
  obtain ⟨Z, B, ρ, R, h⟩ := h
  exact h σ B H (Ex.refl _) R
theorem js_break : JS X E (.Break pos) (fun ρ => .bk ρ) := by
  refine ⟨ps_break.imp fun D σ H h => ?_⟩
  obtain ⟨Z, B, ρ, R, h⟩ := h
  exact h σ B H (Ex.refl _) R
theorem js_continue : JS X E (.Continue pos) (fun ρ => .ct ρ) := by
  refine ⟨ps_continue.imp fun D σ H h => ?_⟩
  obtain ⟨Z, B, ρ, R, h⟩ := h
  exact h σ B H (Ex.refl _) R
def mDrop (me : En → EO) : En → SO := fun ρ => match me ρ with
  | .fail => .fail
  | .exc x => .exc x
  | .ok _ ρ1 => .nx ρ1
theorem js_expr (h : JE X E e me) (hs : swapsWith e none pos.line X.env = pure false := by rfl) : JS X E (.Expr e pos) (mDrop me) := by
  refine ⟨(ps_expr h.pe hs).imp fun D σ H h => ?_⟩
  obtain ⟨Z, B, ρ, R, h⟩ := h
  refine ⟨Z, B, ρ, R, ?_⟩
  unfold mDrop at h
  cases hm : me ρ with
  | fail => rw [hm] at h; exact h
  | exc x => rw [hm] at h; exact h
  | ok r ρ1 => rw [hm] at h; exact fun v B1 H1 e1 R1 _ => h σ B1 H1 e1 R1
/-- return x of a list of one's own hands it on -/
def mRet (me : En → EO) : En → SO := fun ρ => match me ρ with
  | .fail => .fail
  | .exc x => .exc x
  | .ok r ρ1 => .ret r ρ1
theorem js_ret (h : JE X E e me) : JS X E (.Return (some e) pos) (mRet me) := by
  refine ⟨(ps_ret h.pe).imp fun D σ H h => ?_⟩
  obtain ⟨Z, B, ρ, R, h⟩ := h
  refine ⟨Z, B, ρ, R, ?_⟩
  unfold mRet at h
  cases hm : me ρ with
  | fail => rw [hm] at h; exact h
  | exc x => rw [hm] at h; exact h
  | ok r ρ1 => rw [hm] at h; exact fun v B1 H1 e1 R1 r1 => h v σ B1 H1 e1 R1 r1
theorem js_retN : JS X E (.Return none pos) (fun ρ => .ret (.val .none) ρ) := by
  refine ⟨ps_retN.imp fun D σ H h => ?_⟩
  obtain ⟨Z, B, ρ, R, h⟩ := h
  exact h .non σ B H (Ex.refl _) R .non
def mMove (i : Nat) : En → EO := fun ρ => match ρ[i]? with
  | some (.val d) => .ok (.val d) ρ
  | some (.own ds) => .ok (.new ds) (ρ.set i .no)
  | _ => .fail
/-- x, for the last time: a list of one's own is handed on -/
theorem je_move (i : Nat) {x : Str} {pos : Pos} (hN : X.N[i]? = some x := by rfl) (hv : Vis X.env.scope x := by first | exact Or.inl rfl | exact Or.inr (Or.inl rfl) | exact Or.inr (Or.inr rfl)) (hd : (x == ("__debug__" : Str)) = false := by decide)
    (hcd : (x == ("__classdict__" : Str)) = false := by decide) : JE X E (.Name x pos) (mMove i) := by
  refine ⟨(pe_var hN hv hd hcd).imp fun σ H Q h => ?_⟩
  obtain ⟨Z, B, ρ, R, h⟩ := h
  unfold mMove at h
  cases hs : ρ[i]? with
  | none => rw [hs] at h; exact h.elim
  | some s =>
    rw [hs] at h
    cases s with
    | no => exact h.elim
    | exc => exact h.elim
    | val d =>
      obtain ⟨v, e, dp⟩ := R.sl i _ hs
      exact ⟨v, e, h v B H (Ex.refl _) R dp⟩
    | own ds =>
      obtain ⟨v, e, R', r'⟩ := R.take hs
      exact ⟨v, e, h v B H (Ex.refl _) R' r'⟩
    | io j ds => exact h.elim
def mIfS (mc : En → EO) (m1 m2 : En → SO) : En → SO := fun ρ => (mc ρ).testS fun b ρ1 => if b = true then m1 ρ1 else m2 ρ1
theorem js_if (hc : JT X E c mc) (h1 : JB X E bs m1) (h2 : JB X E os m2) : JS X E (.If c bs os pos) (mIfS mc m1 m2) := by
  refine ⟨(ps_if hc.pt h1.pss h2.pss).imp fun D σ H h => ?_⟩
  obtain ⟨Z, B, ρ, R, h⟩ := h
  refine ⟨Z, B, ρ, R, SPost.test h fun b ρ1 B1 H1 e1 R1 h1 => ?_⟩
  cases b with
  | true => exact ⟨Z, B1, ρ1, R1, h1⟩
  | false => exact ⟨Z, B1, ρ1, R1, h1⟩
/-- a name is stored -/
def setRes (i : Nat) (r : Res) (ρ : En) : SO := match ρ[i]? with
  | some (.io _ _) => .fail
  | none => .fail
  | _ => match r with
    | .val d => .nx (ρ.set i (.val d))
    | .new ds => .nx (ρ.set i (.own ds))
def mAsg (i : Nat) (me : En → EO) : En → SO := fun ρ => match me ρ with
  | .fail => .fail
  | .exc x => .exc x
  | .ok r ρ1 => setRes i r ρ1
theorem setRes_ok {K : PySem.W.Frag} {mg : Str → Option Value} {Z : Zt} {B B1 H1 : Hp} {ρ : En} {σ : St} {D : Ends} {i : Nat} {r : Res} {v : V} (h : SPost K mg Z B E D (setRes i r ρ)) (e : Ex B B1) (R : Rel K Z B1 H1 ρ σ) (rv : ResOk K Z B1 H1 ρ σ r v) : D.nx (σ.set i (some v)) H1 := by
  have go : (match r with | .val d => SPost K mg Z B E D (.nx (ρ.set i (.val d))) | .new ds => SPost K mg Z B E D (.nx (ρ.set i (.own ds)))) := by
    unfold setRes at h
    split at h
    · exact h.elim
    · exact h.elim
    · cases r <;> exact h
  cases r with
  | val d => exact go _ B1 H1 e (R.set rv)
  | new ds => exact go _ B1 H1 e (R.setOwn rv)
theorem js_set {i : Nat} {x : Str} {pos' : Pos} (hN : X.N.Nodup) (h : JE X E e me) (hi : X.N[i]? = some x := by rfl) (hx : Loc X.env.scope x := by first | exact Or.inl rfl | exact Or.inr rfl) (hs : swapsWith e (some (.Name x pos')) pos.line X.env = pure false := by rfl) (hf : X.fn x = true ∨ X.env.scope.names.lookup x = some .local := by first | exact .inl rfl | exact .inr rfl) :
    JS X E (.Assign [.Name x pos'] e pos) (mAsg i me) := by
  refine ⟨(ps_set (i := i) hN hi hx h.pe hs hf).imp fun D σ H h => ?_⟩
  obtain ⟨Z, B, ρ, R, h⟩ := h
  refine ⟨Z, B, ρ, R, ?_⟩
  unfold mAsg at h
  cases hm : me ρ with
  | fail => rw [hm] at h; exact h
  | exc x => rw [hm] at h; exact h
  | ok r ρ1 =>
    simp only [hm] at h
    exact fun v B1 H1 e1 R1 r1 => setRes_ok h e1 R1 r1
end
end DL

set_option maxRecDepth 100000
set_option maxHeartbeats 2000000
/-! calls of defs -/
namespace DL
open PySem L2
variable [Tb]

/-- a def's promise (g: where no repr runs around) -/
structure FnM (g : Bool) (P : Program) (w : World) (K : PySem.W.Frag) (mg : Str → Option Value) (base : Heap) (k : Nat) (f : Addr) (fd : FuncData) (ps : List Str) (sp : Sp) : Prop where
  len : ∀ vs H Q E, sp vs H Q E → vs.length = ps.length
  run : ∀ (A : Around) (outer : List Env) (s : Shared) (H : Hp) (args : Args) (us : List Value) (vs : List V) (Q : VK) (E : XK), Room k A → (g = true → A.guards = some []) → Env0 P w K mg base A outer s H → BindsTo s fd args (ps.zip us) → Vals vs us → sp vs H Q E →
    codeAny (model P w) A (.call (.ref f) args) (CR (L2.CX P w) outer P w H s Q E) s
theorem FnM.mono {g : Bool} {P : Program} {w : World} {K : PySem.W.Frag} {mg : Str → Option Value} {base : Heap} {j k : Nat} {f : Addr} {fd : FuncData} {ps : List Str} {sp : Sp} (F : FnM g P w K mg base j f fd ps sp) (h : j ≤ k) :
    FnM g P w K mg base k f fd ps sp := ⟨F.len, fun A outer s H args us vs Q E hr => F.run A outer s H args us vs Q E (hr.mono h)⟩

inductive Arg where
  | val (d : D)
  | io (ds : List D)
inductive ArgsOk (K : PySem.W.Frag) (B H : Hp) : List Arg → List V → List Addr → Prop
  | nil : ArgsOk K B H [] [] []
  | val {v : V} {d : D} {as : List Arg} {vs : List V} {ins : List Addr} : Dp K B v d → ArgsOk K B H as vs ins → ArgsOk K B H (.val d :: as) (v :: vs) ins
  | io {a : Addr} {ws : List V} {ds : List D} {as : List Arg} {vs : List V} {ins : List Addr} : B a = none → H a = some (.lst ws) → DpAll K B ws ds → ArgsOk K B H as vs ins → ArgsOk K B H (.io ds :: as) (.ref a :: vs) (a :: ins)
inductive OutsOk (K : PySem.W.Frag) (B H : Hp) : List Addr → List (List D) → Prop
  | nil : OutsOk K B H [] []
  | cons {a : Addr} {ws : List V} {ds : List D} {ins : List Addr} {outs : List (List D)} : B a = none → H a = some (.lst ws) → DpAll K B ws ds → OutsOk K B H ins outs → OutsOk K B H (a :: ins) (ds :: outs)
def Fr (H H' : Hp) (ins : List Addr) : Prop := ∀ a o, H a = some o → a ∉ ins → (∀ ps, o ≠ .tbl ps) → H' a = some o
def RetOk (K : PySem.W.Frag) (B H H' : Hp) (r : Res) (v : V) : Prop := match r with
  | .val d => Dp K B v d
  | .new ds => ∃ p vs, v = .ref p ∧ (∀ o, H p = some o → ∃ ps, o = .tbl ps) ∧ B p = none ∧ H' p = some (.lst vs) ∧ DpAll K B vs ds
def FPost (K : PySem.W.Frag) (mg : Str → Option Value) (B H : Hp) (ins : List Addr) (Q : VK) (E : XK) : FO → Prop
  | .fail => False
  | .ok r outs => ∀ v B' H', Ex B B' → Ex B' H' → (∀ a ps, B' a ≠ some (.tbl ps)) → Fr H H' ins → (∀ a, H a ≠ none → (∀ ps, H a ≠ some (.tbl ps)) → B' a = B a) → TabsOk H' → OutsOk K B' H' ins outs → RetOk K B' H H' r v → Q v H'
  | .exc x => ∀ cls d B' H', Ex B B' → Ex B' H' → (∀ a ps, B' a ≠ some (.tbl ps)) → Fr H H' ins → (∀ a, H a ≠ none → (∀ ps, H a ≠ some (.tbl ps)) → a ∉ ins → B' a = B a) → TabsOk H' → (∀ a ∈ ins, ∃ xs, H' a = some (.lst xs)) → ExcOk K mg B' H' x cls d → E cls d H'
/-- the promise: as mf says -/
def spM (K : PySem.W.Frag) (mg : Str → Option Value) (n : Nat) (mf : List Arg → FO) : Sp := fun vs H Q E =>
  vs.length = n ∧ ∃ B args ins, Ex B H ∧ (∀ a ps, B a ≠ some (.tbl ps)) ∧ TabsOk H ∧ Tb.P B ∧ ArgsOk K B H args vs ins ∧ ins.Nodup ∧ FPost K mg B H ins Q E (mf args)

/-! ### from the body -/
def slotsOf : List Arg → Nat → En
  | [], _ => []
  | .val d :: as, j => .val d :: slotsOf as j
  | .io ds :: as, j => .io j ds :: slotsOf as (j + 1)
/-- the lists of the parameters that are written, at the end -/
def outsOf : List Arg → Nat → En → Option (List (List D))
  | [], _, _ => some []
  | .val _ :: as, j, ρ => outsOf as j ρ.tail
  | .io _ :: as, j, ρ => match ρ with
    | .io k ds :: r => if k = j then (outsOf as (j + 1) r).map (ds :: ·) else none
    | _ => none
def mDef (n N : Nat) (mb : En → SO) : List Arg → FO := fun args =>
  match mb (slotsOf args 0 ++ List.replicate (N - n) .no) with
    | .nx ρ => match outsOf args 0 ρ with
      | some outs => .ok (.val .none) outs
      | none => .fail
    | .ret r ρ => match outsOf args 0 ρ with
      | some outs => .ok r outs
      | none => .fail
    | .exc x => .exc x
    | _ => .fail
section
variable {K : PySem.W.Frag}
theorem ArgsOk.len {B H : Hp} : ∀ {as : List Arg} {vs : List V} {ins : List Addr}, ArgsOk K B H as vs ins → as.length = vs.length
  | _, _, _, .nil => rfl
  | _, _, _, .val _ t => by simp [ArgsOk.len t]
  | _, _, _, .io _ _ _ t => by simp [ArgsOk.len t]
theorem slotsOf_len : ∀ (as : List Arg) (j : Nat), (slotsOf as j).length = as.length
  | [], _ => rfl
  | .val _ :: as, j => by simp [slotsOf, slotsOf_len as j]
  | .io _ :: as, j => by simp [slotsOf, slotsOf_len as (j + 1)]
/-- where the io slots of slotsOf stand -/
theorem slotsOf_get {B H : Hp} : ∀ {as : List Arg} {vs : List V} {ins : List Addr} {j i : Nat} {s : Slot}, ArgsOk K B H as vs ins → (slotsOf as j)[i]? = some s →
    (∃ v d, vs[i]? = some v ∧ s = .val d ∧ Dp K B v d) ∨ ∃ a ws ds m, vs[i]? = some (.ref a) ∧ s = .io (j + m) ds ∧ ins[m]? = some a ∧ B a = none ∧ H a = some (.lst ws) ∧ DpAll K B ws ds
  | _, _, _, _, i, s, .nil, e => by simp [slotsOf] at e
  | _, _, _, _, 0, s, .val h _, e => by
    simp [slotsOf] at e; subst e; exact .inl ⟨_, _, rfl, rfl, h⟩
  | _, _, _, _, i + 1, s, .val _ t, e => by
    simp only [slotsOf, List.getElem?_cons_succ] at e
    simpa using slotsOf_get t e
  | _, _, _, j, 0, s, .io hb hh hd _, e => by
    simp [slotsOf] at e; subst e; exact .inr ⟨_, _, _, 0, rfl, rfl, rfl, hb, hh, hd⟩
  | _, _, _, j, i + 1, s, .io _ _ _ t, e => by
    simp only [slotsOf, List.getElem?_cons_succ] at e
    rcases slotsOf_get t e with h | ⟨a, ws, ds, m, h1, h2, h3, h4⟩
    · exact .inl (by simpa using h)
    · exact .inr ⟨a, ws, ds, m + 1, by simpa using h1, by rw [h2]; congr 1; omega, by simpa using h3, h4⟩
theorem ArgsOk.ins_at {B H : Hp} : ∀ {as : List Arg} {vs : List V} {ins : List Addr}, ArgsOk K B H as vs ins → ∀ a ∈ ins, B a = none ∧ ∃ xs, H a = some (.lst xs)
  | _, _, _, .nil, _, h => by cases h
  | _, _, _, .val _ t, a, h => t.ins_at a h
  | _, _, _, .io hb hh _ t, a, h => by
    rcases List.mem_cons.mp h with rfl | h
    · exact ⟨hb, _, hh⟩
    · exact t.ins_at a h
/-- the start -/
theorem Rel.start {B H : Hp} {args : List Arg} {vs : List V} {ins : List Addr} {N : List Str} (eb : Ex B H) (nt' : ∀ a ps, B a ≠ some (.tbl ps)) (tb : TabsOk H) (pb : Tb.P B) (ha : ArgsOk K B H args vs ins) (nd : ins.Nodup) :
    Rel K ⟨fun a => if a ∈ ins then none else ntb H a, B, ins⟩ B H (slotsOf args 0 ++ List.replicate (N.length - vs.length) .no) (L2.start N vs) := by
  have hl := ha.len
  have at_ : ∀ {i : Nat} {s : Slot}, (slotsOf args 0 ++ List.replicate (N.length - vs.length) .no)[i]? = some s → s = .no ∨ ((slotsOf args 0)[i]? = some s ∧ (L2.start N vs)[i]? = (vs[i]?).map some) := fun {i s} h => by
    by_cases hi : i < vs.length
    · rw [List.getElem?_append_left (by rw [slotsOf_len, hl]; exact hi)] at h
      refine .inr ⟨h, ?_⟩
      unfold L2.start
      rw [List.getElem?_append_left (by simpa using hi), List.getElem?_map]
    · rw [List.getElem?_append_right (by rw [slotsOf_len, hl]; omega), List.getElem?_replicate] at h
      split at h
      · cases h; exact .inl rfl
      · cases h
  refine ⟨?_, fun a o h _ => ?_, fun a ps h => ?_, eb, Ex.refl _, fun a h => rfl, nt', tb, pb, fun a h => (ha.ins_at a h).2, fun i s h => ?_, fun i j s t a h1 h2 hs ht e1 e2 => ?_⟩
  · unfold L2.start
    rw [List.length_append, slotsOf_len, hl, List.length_replicate, List.length_append, List.length_map, List.length_replicate]
  · have h' : (if a ∈ ins then none else ntb H a) = some o := h
    split at h'
    · cases h'
    · exact (nt_get h').1
  · have h' : (if a ∈ ins then none else ntb H a) = some (.tbl ps) := h
    split at h'
    · cases h'
    · exact nt_tbl ps h'
  · rcases at_ h with rfl | ⟨h, e⟩
    · trivial
    · rcases slotsOf_get ha h with ⟨v, d, h1, rfl, h2⟩ | ⟨a, ws, ds, m, h1, rfl, h2, h3, h4, h5⟩
      · exact ⟨v, by rw [e, h1]; rfl, h2⟩
      · exact ⟨a, ws, by rw [e, h1]; rfl, ⟨if_pos (List.mem_of_getElem? h2), h3, h4, h5⟩, by rw [Nat.zero_add]; exact h2⟩
  · rcases at_ h1 with rfl | ⟨h1, q1⟩
    · cases hs
    rcases at_ h2 with rfl | ⟨h2, q2⟩
    · cases ht
    have main : ∀ {as : List Arg} {vs : List V} {ins : List Addr} {n i j : Nat} {s t : Slot} {a : Addr}, ArgsOk K B H as vs ins → ins.Nodup → (slotsOf as n)[i]? = some s → (slotsOf as n)[j]? = some t → s.mut = true → t.mut = true → vs[i]? = some (.ref a) → vs[j]? = some (.ref a) → i = j := by
      intro as vs ins n i j s t a ha
      induction ha generalizing n i j s t a with
      | nil => intro _ h; simp [slotsOf] at h
      | @val v d as vs ins _ _ ih =>
        intro nd h1 h2 hs ht e1 e2
        cases i with
        | zero => simp [slotsOf] at h1; subst h1; cases hs
        | succ i =>
          cases j with
          | zero => simp [slotsOf] at h2; subst h2; cases ht
          | succ j =>
            simp only [slotsOf, List.getElem?_cons_succ] at h1 h2 e1 e2
            rw [ih nd h1 h2 hs ht e1 e2]
      | @io b ws ds as vs ins hb hh hd t' ih =>
        intro nd h1 h2 hs ht e1 e2
        have nb : ∀ {i : Nat} {s : Slot}, (slotsOf as (n + 1))[i]? = some s → s.mut = true → vs[i]? = some (.ref b) → False := fun {i s} h hs e => by
          rcases slotsOf_get t' h with ⟨v, d, q1, rfl, q2⟩ | ⟨a, ws, ds, m, q1, rfl, q2, _⟩
          · cases hs
          · rw [e] at q1; cases q1
            exact (List.nodup_cons.mp nd).1 (List.mem_of_getElem? q2)
        cases i with
        | zero =>
          cases j with
          | zero => rfl
          | succ j =>
            simp only [slotsOf, List.getElem?_cons_succ, List.getElem?_cons_zero] at h2 e1 e2
            cases e1
            exact (nb h2 ht e2).elim
        | succ i =>
          cases j with
          | zero =>
            simp only [slotsOf, List.getElem?_cons_succ, List.getElem?_cons_zero] at h1 e1 e2
            cases e2
            exact (nb h1 hs e1).elim
          | succ j =>
            simp only [slotsOf, List.getElem?_cons_succ] at h1 h2 e1 e2
            rw [ih (List.nodup_cons.mp nd).2 h1 h2 hs ht e1 e2]
    have m1 : vs[i]? = some (.ref a) := by
      rw [q1] at e1
      cases q : vs[i]? with
      | none => rw [q] at e1; cases e1
      | some v => rw [q] at e1; cases e1; rfl
    have m2 : vs[j]? = some (.ref a) := by
      rw [q2] at e2
      cases q : vs[j]? with
      | none => rw [q] at e2; cases e2
      | some v => rw [q] at e2; cases e2; rfl
    exact main ha nd h1 h2 hs ht m1 m2
/-- the ends -/
theorem outs_ok {Z : Zt} {B' H' : Hp} {ρ0 : En} {σ : St} (R : Rel K Z B' H' ρ0 σ) {B H : Hp} : ∀ {as : List Arg} {vs : List V} {ins : List Addr} {outs : List (List D)} {ρ : En} {n j : Nat}, ArgsOk K B H as vs ins →
    (∀ (i : Nat) s, ρ[i]? = some s → ρ0[n + i]? = some s) → (∀ (i : Nat) a, ins[i]? = some a → Z.ins[j + i]? = some a) → outsOf as j ρ = some outs → OutsOk K B' H' ins outs
  | _, _, _, outs, ρ, n, j, .nil, hρ, hz, h => by
    simp [outsOf] at h; subst h; exact .nil
  | _, _, _, outs, ρ, n, j, .val _ t, hρ, hz, h => by
    simp only [outsOf] at h
    refine outs_ok R (ρ := ρ.tail) (n := n + 1) (j := j) t (fun i s q => ?_) hz h
    have e := hρ (i + 1) s (by cases ρ with
      | nil => simp at q
      | cons x r => simpa using q)
    rw [show n + 1 + i = n + (i + 1) by omega]
    exact e
  | _, _, _, outs, ρ, n, j, .io (a := a) (ins := ins) hb hh hd t, hρ, hz, h => by
    cases ρ with
    | nil => simp [outsOf] at h
    | cons x r =>
      cases x with
      | io k ds =>
        simp only [outsOf] at h
        split at h
        · rename_i ek
          subst ek
          cases q : outsOf _ (k + 1) r with
          | none => rw [q] at h; cases h
          | some os =>
            rw [q] at h
            cases h
            obtain ⟨b, ws, e1, m, e2⟩ := R.sl n _ (hρ 0 _ rfl)
            have e3 := hz 0 a rfl
            rw [Nat.add_zero] at e3
            rw [e3] at e2
            cases e2
            refine .cons m.b m.h m.d (outs_ok R (ρ := r) (n := n + 1) (j := k + 1) t (fun i s q => ?_) (fun i b q => ?_) q)
            · rw [show n + 1 + i = n + (i + 1) by omega]
              exact hρ (i + 1) s (by simpa using q)
            · rw [show k + 1 + i = k + (i + 1) by omega]
              exact hz (i + 1) b (by simpa using q)
        · cases h
      | no => simp [outsOf] at h
      | exc => simp [outsOf] at h
      | val d => simp [outsOf] at h
      | own ds => simp [outsOf] at h
theorem OutsOk.free {B H : Hp} : ∀ {ins : List Addr} {outs : List (List D)}, OutsOk K B H ins outs → ∀ a ∈ ins, B a = none
  | _, _, .nil, _, h => by cases h
  | _, _, .cons hb _ _ t, a, h => by
    rcases List.mem_cons.mp h with rfl | h
    · exact hb
    · exact t.free a h
end

section
variable {P : Program} {w : World} {K : PySem.W.Frag} {mg : Str → Option Value} {base : Heap}
/-- what holds of the context of a body -/
structure Ctx (g : Bool) (X : Cx) (E : XK) (k : Nat) : Prop where
  calm : X.calm = true
  nd : X.N.Nodup
  room : Room k X.A
  gd : g = true → X.A.guards = some []
  tk : Takes X (fun cls d _ H => E cls d H)
  po : PassesOwn (model X.prog X.w) X.A X.env X.xe
theorem Ctx.ps {g : Bool} {X : Cx} {E : XK} {k : Nat} (c : Ctx g X E k) : Passes (L2.CX X.prog X.w) X E := passes_call c.tk fun _ _ _ _ h => h
/-- THE RULE for a def: its body -/
theorem fnM_of {g : Bool} {k : Nat} {f : Addr} {name qual : Str} {params : Arguments} {body : List Stmt} {scope : Scope} {dV kV doc pm cdv ct oc : Value} {an od : Option Addr}
    {osl : Array (Option Value)} {N ps : List Str} {mb : En → SO} (lk : K.lookup f = some ⟨oc, od, .func (PySem.W.fnOf name qual params body scope dV kV doc pm an cdv ct), osl⟩) (hcd : PySem.W.codeIn K cdv qual = true) (S : FnScope N ps scope)
    (hbody : ∀ (A : Around) (outer : List Env) (s : Shared) (H : Hp) (E : XK), Ctx g (cxOf (L2.CX P w) P w K mg base N qual scope f cdv A outer s H E) E k → JB (cxOf (L2.CX P w) P w K mg base N qual scope f cdv A outer s H E) E body mb) :
    FnM g P w K mg base (k + 1) f (PySem.W.fnOf name qual params body scope dV kV doc pm an cdv ct) ps (spM K mg ps.length (mDef ps.length N.length mb)) := by
  refine ⟨fun vs H Q E h => h.1, fun A outer s H args us vs Q E hr hg e0 hb r hsp => ?_⟩
  obtain ⟨hl, B, as, ins, eb, nt', tb, pb, ha, nd, hp⟩ := hsp
  have KX : K.In s.heap := e0.mod.kin.keeps fun b o e => (e0.bs b o e).1
  have lim : s.heap.NoLimit := e0.mod.nolimit.keeps fun b o e => (e0.bs b o e).1
  have hkind : ∀ y ∈ ps.zip us, scope.names.lookup y.1 = some .local ∨ (scope.names.lookup y.1 = some .cell ∧ ((cellsFrom (s.heap.objs.size + 1) scope.names []).lookup y.1).isSome = true) := fun ⟨n, v⟩ hy => by
    rcases S.par n (List.of_mem_zip hy).1 with q | q
    · exact .inl q
    · exact .inr ⟨q, PySem.W.cellsFrom_some _ _ _ (.inl q)⟩
  refine codeAny_call_function hr.depth (KX _ _ lk) rfl S.co S.gen rfl (PySem.W.codeRec_of KX hcd) (hb _ _ _ _ ?_)
  refine wpAny_newFunctionEnv_cells S.kind hkind fun env he s1 x => ?_
  subst he
  refine ⟨lim.keeps x.toInCall.keep, codeAny_func ?_⟩
  have I : Inv (cxOf (L2.CX P w) P w K mg base N qual scope f cdv A outer s H E) [] (L2.start N vs) H s1 := inv_start S hr.hd e0 hl r x
  have cx : Ctx g (cxOf (L2.CX P w) P w K mg base N qual scope f cdv A outer s H E) E k :=
    ⟨rfl, S.nd, hr.deeper _, hg, takes_of rfl rfl rfl rfl, passes_of rfl⟩
  have ht := hbody A outer s H E cx
  have R := Rel.start (N := N) eb nt' tb pb ha nd
  have hfr : ∀ {H' : Hp}, ExN (fun a => if a ∈ ins then none else ntb H a) H' → Fr H H' ins := fun {H'} e a o h n nT => e a o (by show (if a ∈ ins then none else ntb H a) = some o; rw [if_neg n]; exact nt_of h nT) nT
  have ntn : ∀ {a : Addr}, H a ≠ none → (∀ ps, H a ≠ some (.tbl ps)) → ntb H a ≠ none := fun {a} h n z => by
    cases q : H a with
    | none => exact h q
    | some o =>
      obtain ⟨ps, e⟩ := nt_none z o q
      exact n ps (by rw [q, e])
  have hgr : ∀ {B' : Hp}, (∀ a, (if a ∈ ins then none else ntb H a) ≠ none → B' a = B a) → ∀ a, H a ≠ none → (∀ ps, H a ≠ some (.tbl ps)) → a ∉ ins → B' a = B a := fun {B'} g a h nT n => g a (by rw [if_neg n]; exact ntn h nT)
  have post : SPost K mg ⟨fun a => if a ∈ ins then none else ntb H a, B, ins⟩ B E { nx := fun _ H' => Q .non H', rt := Q } (mb (slotsOf as 0 ++ List.replicate (N.length - vs.length) .no)) := by
    unfold mDef at hp
    rw [hl]
    have fin : ∀ {ρ : En} {σ : St} {B' H' : Hp} {r : Res} {v : V} {outs : List (List D)}, outsOf as 0 ρ = some outs → Ex B B' → Rel K ⟨fun a => if a ∈ ins then none else ntb H a, B, ins⟩ B' H' ρ σ → ResOk K ⟨fun a => if a ∈ ins then none else ntb H a, B, ins⟩ B' H' ρ σ r v →
        FPost K mg B H ins Q E (.ok r outs) → Q v H' := fun {ρ σ B' H' r v outs} ho e R' r' h => by
      have hO := outs_ok R' (n := 0) (j := 0) ha (fun i s q => by rw [Nat.zero_add]; exact q) (fun i a q => by rw [Nat.zero_add]; exact q) ho
      refine h v B' H' e R'.hB R'.nt (hfr R'.hF) (fun a n nT => ?_) R'.tb hO ?_
      · by_cases hi : a ∈ ins
        · rw [hO.free a hi, (ha.ins_at a hi).1]
        · exact hgr R'.gr a n nT hi
      · cases r with
        | val d => exact r'
        | new ds =>
          obtain ⟨p, ws, e1, m, n1, n2⟩ := r'
          refine ⟨p, ws, e1, ?_, m.b, m.h, m.d⟩
          have q : (if p ∈ ins then none else ntb H p) = none := m.f
          rw [if_neg n1] at q
          exact nt_none q
    cases hm : mb (slotsOf as 0 ++ List.replicate (N.length - ps.length) .no) with
    | fail => rw [hm] at hp; exact hp.elim
    | bk ρ => rw [hm] at hp; exact hp.elim
    | ct ρ => rw [hm] at hp; exact hp.elim
    | nx ρ =>
      simp only [hm] at hp
      intro σ B' H' e R'
      cases ho : outsOf as 0 ρ with
      | none => simp only [ho] at hp; exact hp.elim
      | some outs => simp only [ho] at hp; exact fin (r := .val .none) ho e R' .non hp
    | ret r ρ =>
      simp only [hm] at hp
      intro v σ B' H' e R' r'
      cases ho : outsOf as 0 ρ with
      | none => simp only [ho] at hp; exact hp.elim
      | some outs => simp only [ho] at hp; exact fin ho e R' r' hp
    | exc x =>
      rw [hm] at hp
      exact fun cls d B' H' e1 e2 e3 e4 e5 et ei e6 => hp cls d B' H' e1 e2 e5 (hfr e3) (hgr e4) et ei e6
  refine wpAny_mono (ht.pss.run [] s1 (L2.start N vs) H _ I ⟨_, B, _, R, post⟩) (fun fl s' hs => ?_) fun e s' hs => hs
  have fin : ∀ {σ' : St} {H' : Hp} {v : V} {u : Value}, Inv (cxOf (L2.CX P w) P w K mg base N qual scope f cdv A outer s H E) [] σ' H' s' → RelV v u → Q v H' → CE outer P w H s Q u s' :=
    fun {σ' H' v u} J rv q => ⟨v, H', J.os, J.bare, J.base, J.hok, rv, q⟩
  cases fl with
  | ret u =>
    obtain ⟨v, σ', H', J, rv, q⟩ := hs
    exact fin J rv q
  | next =>
    obtain ⟨σ', H', J, q⟩ := hs
    exact fin (v := V.non) (u := Value.none) J rfl q
  | brk =>
    obtain ⟨_, _, _, q⟩ := hs
    exact False.elim q
  | cont =>
    obtain ⟨_, _, _, q⟩ := hs
    exact False.elim q
end
end DL

set_option maxRecDepth 100000
set_option maxHeartbeats 2000000
/-! a def is called -/
namespace DL
open PySem L2
variable [Tb]

structure DefOk (g : Bool) (P : Program) (w : World) (K : PySem.W.Frag) (mg : Str → Option Value) (base : Heap) (k : Nat) (x : Str) (n : Nat) (mf : List Arg → FO) : Prop where
  ex : ∃ f fd ps, FnM g P w K mg base k f fd ps (spM K mg n mf) ∧ mg x = some (.ref f) ∧ PySem.W.keepIn K (.ref f) = true ∧ Binds K fd ps []
theorem DefOk.mono {g : Bool} {P : Program} {w : World} {K : PySem.W.Frag} {mg : Str → Option Value} {base : Heap} {j k : Nat} {x : Str} {n : Nat} {mf : List Arg → FO} (F : DefOk g P w K mg base j x n mf) (h : j ≤ k) : DefOk g P w K mg base k x n mf := by
  obtain ⟨f, fd, ps, h1, h2⟩ := F.ex
  exact ⟨f, fd, ps, h1.mono h, h2⟩
def Slot.data : Slot → Option (List D)
  | .own ds => some ds
  | .io _ ds => some ds
  | _ => none
def argsAt (ρ : En) : List AR → Option (List Arg)
  | [] => some []
  | .val d :: as => (argsAt ρ as).map (.val d :: ·)
  | .io i :: as => match (ρ[i]?).bind Slot.data with
    | some ds => (argsAt ρ as).map (.io ds :: ·)
    | none => none
def ios : List AR → List Nat
  | [] => []
  | .val _ :: as => ios as
  | .io i :: as => i :: ios as
def putOuts : List Nat → List (List D) → En → En
  | i :: is, o :: os, ρ => putOuts is os (match ρ[i]? with | some s => ρ.set i (s.put o) | none => ρ)
  | _, _, ρ => ρ
def AO.fun (m : AO) (n : Nat) (mf : List Arg → FO) : EO := match m with
  | .fail => .fail
  | .exc x => .exc x
  | .ok as ρ => if as.length = n ∧ (ios as).Nodup then
      match argsAt ρ as with
      | none => .fail
      | some args => match mf args with
        | .fail => .fail
        | .exc x => .exc x
        | .ok r outs => .ok r (putOuts (ios as) outs ρ)
    else .fail
def mFun (n : Nat) (mf : List Arg → FO) (ma : En → AO) : En → EO := fun ρ => (ma ρ).fun n mf

theorem putOuts_get : ∀ {is : List Nat} {os : List (List D)} {ρ : En} {j : Nat} {s : Slot}, is.Nodup → is.length = os.length → (putOuts is os ρ)[j]? = some s →
    (j ∉ is ∧ ρ[j]? = some s) ∨ ∃ (m : Nat) (ds : List D) (s0 : Slot), is[m]? = some j ∧ os[m]? = some ds ∧ ρ[j]? = some s0 ∧ s = s0.put ds
  | [], [], ρ, j, s, _, _, h => .inl ⟨by simp, h⟩
  | [], _ :: _, _, _, _, _, hl, _ => by cases hl
  | _ :: _, [], _, _, _, _, hl, _ => by cases hl
  | i :: is, o :: os, ρ, j, s, nd, hl, h => by
    obtain ⟨hi, nd'⟩ := List.nodup_cons.mp nd
    have hl' : is.length = os.length := by simpa using hl
    have h' : (putOuts is os (match ρ[i]? with | some s => ρ.set i (s.put o) | none => ρ))[j]? = some s := h
    have step : ∀ {s : Slot}, (match ρ[i]? with | some s => ρ.set i (s.put o) | none => ρ)[j]? = some s → (j ≠ i ∧ ρ[j]? = some s) ∨ (j = i ∧ ∃ s0, ρ[i]? = some s0 ∧ s = s0.put o) := fun {s} q => by
      cases hs : ρ[i]? with
      | none =>
        simp only [hs] at q
        refine .inl ⟨fun z => ?_, q⟩
        rw [z, hs] at q
        cases q
      | some s0 =>
        simp only [hs] at q
        by_cases e : j = i
        · subst e
          rw [List.getElem?_set_self (List.getElem?_eq_some_iff.mp hs).1] at q
          cases q
          exact .inr ⟨rfl, s0, rfl, rfl⟩
        · rw [List.getElem?_set_ne (Ne.symm e)] at q
          exact .inl ⟨e, q⟩
    rcases putOuts_get nd' hl' h' with ⟨n, q⟩ | ⟨m, ds, s0, q1, q2, q3, q4⟩
    · rcases step q with ⟨e, q⟩ | ⟨e, s0, q5, q6⟩
      · exact .inl ⟨by simp [e, n], q⟩
      · exact .inr ⟨0, o, s0, by simp [e], rfl, by rw [e]; exact q5, q6⟩
    · have ne : j ≠ i := fun z => hi (by rw [← z]; exact List.mem_of_getElem? q1)
      rcases step q3 with ⟨e, q⟩ | ⟨e, _⟩
      · exact .inr ⟨m + 1, ds, s0, by simpa using q1, by simpa using q2, q, q4⟩
      · exact absurd e ne
theorem putOuts_len : ∀ {is : List Nat} {os : List (List D)} {ρ : En}, (putOuts is os ρ).length = ρ.length
  | [], _, _ => by simp [putOuts]
  | _ :: _, [], _ => by simp [putOuts]
  | i :: is, o :: os, ρ => by
    show (putOuts is os _).length = _
    rw [putOuts_len]
    split
    · simp
    · rfl
section
variable {K : PySem.W.Frag} {Z : Zt} {B B' H H' : Hp} {ρ : En} {σ : St}
theorem OutsOk.len : ∀ {ins : List Addr} {outs : List (List D)}, OutsOk K B H ins outs → ins.length = outs.length
  | _, _, .nil => rfl
  | _, _, .cons _ _ _ t => by simp [OutsOk.len t]
theorem OutsOk.at : ∀ {ins : List Addr} {outs : List (List D)} {m : Nat} {a : Addr} {ds : List D}, OutsOk K B H ins outs → ins[m]? = some a → outs[m]? = some ds → B a = none ∧ ∃ ws, H a = some (.lst ws) ∧ DpAll K B ws ds
  | _, _, m, _, _, .nil, h, _ => by simp at h
  | _, _, 0, _, _, .cons h1 h2 h3 _, e1, e2 => by simp at e1 e2; subst e1; subst e2; exact ⟨h1, _, h2, h3⟩
  | _, _, m + 1, _, _, .cons _ _ _ t, e1, e2 => OutsOk.at (m := m) t (by simpa using e1) (by simpa using e2)
/-- behind a call -/
theorem Rel.after (R : Rel K Z B H ρ σ) {is : List Nat} {ins : List Addr} {outs : List (List D)} (nd : is.Nodup) (hl : is.length = ins.length)
    (hat : ∀ (m : Nat) i, is[m]? = some i → ∃ s a, ρ[i]? = some s ∧ s.mut = true ∧ σ[i]? = some (some (.ref a)) ∧ ins[m]? = some a)
    (eb : Ex B B') (eh : Ex B' H') (nt : ∀ a ps, B' a ≠ some (.tbl ps)) (tb : TabsOk H') (fr : Fr H H' ins) (gb : ∀ a, H a ≠ Option.none → (∀ ps, H a ≠ Option.some (.tbl ps)) → B' a = B a) (oo : OutsOk K B' H' ins outs) : Rel K Z B' H' (putOuts is outs ρ) σ := by
  have hlo : is.length = outs.length := hl.trans oo.len
  have inF : ∀ a ∈ ins, Z.F a = none := fun a ha => by
    obtain ⟨m, hm⟩ := List.getElem?_of_mem ha
    have hlt : m < is.length := by rw [hl]; exact (List.getElem?_eq_some_iff.mp hm).1
    obtain ⟨s, a', h1, h2, h3, h4⟩ := hat m is[m] (by simp [hlt])
    rw [hm] at h4
    cases h4
    obtain ⟨b, vs, ds, e, mo⟩ := R.mutAt h1 h2
    rw [h3] at e
    cases e
    exact mo.f
  have mutput : ∀ (s : Slot) ds, (s.put ds).mut = s.mut := fun s ds => by cases s <;> rfl
  refine ⟨by rw [putOuts_len]; exact R.len, fun a o h _ => ?_, R.zt, eh, R.b0.trans eb, fun a h => ?_, nt, tb, Tb.hP _ _ eb R.pb, fun a h => ?_, fun i s h => ?_, fun i j s t a h1 h2 hs ht e1 e2 => ?_⟩
  · have na : a ∉ ins := fun z => by rw [inF a z] at h; cases h
    obtain ⟨q, nT⟩ := R.Fa h
    exact fr a o q na nT
  · rw [gb a (R.Fne h).1 (R.Fne h).2]
    exact R.gr a h
  · by_cases hi : a ∈ ins
    · obtain ⟨m, hm⟩ := List.getElem?_of_mem hi
      have hlt : m < outs.length := by rw [← oo.len]; exact (List.getElem?_eq_some_iff.mp hm).1
      obtain ⟨_, ws, q, _⟩ := oo.at hm (show outs[m]? = some outs[m] by simp [hlt])
      exact ⟨ws, q⟩
    · obtain ⟨xs, q⟩ := R.hi a h
      exact ⟨xs, fr a _ q hi fun ps z => by cases z⟩
  · rcases putOuts_get nd hlo h with ⟨n, q⟩ | ⟨m, ds, s0, q1, q2, q3, q4⟩
    · have sq := R.sl i s q
      have mk : ∀ {a vs ds}, s.mut = true → σ[i]? = some (some (.ref a)) → MutOk K Z B H a vs ds → MutOk K Z B' H' a vs ds := fun {a vs ds} hm e m => by
        have na : a ∉ ins := fun z => by
          obtain ⟨m, hm'⟩ := List.getElem?_of_mem z
          have hlt : m < is.length := by rw [hl]; exact (List.getElem?_eq_some_iff.mp hm').1
          obtain ⟨s', a', h1, h2, h3, h4⟩ := hat m is[m] (by simp [hlt])
          rw [hm'] at h4
          cases h4
          have e3 := R.ap i is[m] s s' a q h1 hm h2 e h3
          exact n (by rw [e3]; exact List.getElem_mem _)
        exact m.mono eb (by rw [gb a (by rw [m.h]; simp) (fun ps z => by rw [m.h] at z; cases z)]; exact m.b) (fr a _ m.h na fun ps z => by cases z)
      cases s with
      | no => trivial
      | exc => exact sq
      | val d => obtain ⟨v, e, d⟩ := sq; exact ⟨v, e, d.ex eb⟩
      | own ds => obtain ⟨a, vs, e, m, n⟩ := sq; exact ⟨a, vs, e, mk rfl e m, n⟩
      | io j ds => obtain ⟨a, vs, e, m, n⟩ := sq; exact ⟨a, vs, e, mk rfl e m, n⟩
    · subst q4
      obtain ⟨s', a, h1, h2, h3, h4⟩ := hat m i q1
      rw [q3] at h1
      cases h1
      obtain ⟨ob, ws, oh, od⟩ := oo.at h4 q2
      have sq := R.sl i s0 q3
      cases s0 with
      | no => cases h2
      | exc => cases h2
      | val d => cases h2
      | own es =>
        obtain ⟨b, vs, e, m, n⟩ := sq
        rw [h3] at e
        cases e
        exact ⟨a, ws, h3, ⟨m.f, ob, oh, od⟩, n⟩
      | io j es =>
        obtain ⟨b, vs, e, m, n⟩ := sq
        rw [h3] at e
        cases e
        exact ⟨a, ws, h3, ⟨m.f, ob, oh, od⟩, n⟩
  · have back : ∀ {i : Nat} {s : Slot}, (putOuts is outs ρ)[i]? = some s → s.mut = true → ∃ s0, ρ[i]? = some s0 ∧ s0.mut = true := fun {i s} h hs => by
      rcases putOuts_get nd hlo h with ⟨n, q⟩ | ⟨m, ds, s0, q1, q2, q3, q4⟩
      · exact ⟨s, q, hs⟩
      · exact ⟨s0, q3, by rw [q4, mutput] at hs; exact hs⟩
    obtain ⟨s0, a1, a2⟩ := back h1 hs
    obtain ⟨t0, b1, b2⟩ := back h2 ht
    exact R.ap i j s0 t0 a a1 b1 a2 b2 e1 e2
/-- the arguments, for the callee -/
theorem args_ok (R : Rel K Z B H ρ σ) : ∀ {as : List AR} {vs : List V} {args : List Arg}, ArgsV K B σ as vs → argsAt ρ as = some args → ∃ ins, ArgsOk K B H args vs ins ∧ (ios as).length = ins.length ∧
    ∀ (m : Nat) i, (ios as)[m]? = some i → ∃ s a, ρ[i]? = some s ∧ s.mut = true ∧ σ[i]? = some (some (.ref a)) ∧ ins[m]? = some a
  | [], _, _, .nil, h => by simp [argsAt] at h; subst h; exact ⟨[], .nil, rfl, fun m i h => by simp [ios] at h⟩
  | .val d :: as, _, _, .cons hv t, h => by
    simp only [argsAt] at h
    cases q : argsAt ρ as with
    | none => rw [q] at h; cases h
    | some args =>
      rw [q] at h
      cases h
      obtain ⟨ins, h1, h2, h3⟩ := args_ok R t q
      exact ⟨ins, .val hv h1, h2, h3⟩
  | .io i :: as, _, _, .cons hv t, h => by
    simp only [argsAt] at h
    cases hs : ρ[i]? with
    | none => simp only [hs, Option.bind] at h; cases h
    | some s =>
      cases hd : s.data with
      | none => simp only [hs, Option.bind, hd] at h; cases h
      | some ds =>
        simp only [hs, Option.bind, hd] at h
        cases q : argsAt ρ as with
        | none => rw [q] at h; cases h
        | some args =>
          rw [q] at h
          cases h
          obtain ⟨ins, h1, h2, h3⟩ := args_ok R t q
          have hm : s.mut = true := by cases s <;> first | rfl | cases hd
          have fin : ∃ a ws, σ[i]? = some (some (.ref a)) ∧ MutOk K Z B H a ws ds := by
            have sq := R.sl i s hs
            cases s with
            | no => cases hd
            | exc => cases hd
            | val d => cases hd
            | own es => cases hd; obtain ⟨a, ws, e, m, _⟩ := sq; exact ⟨a, ws, e, m⟩
            | io j es => cases hd; obtain ⟨a, ws, e, m, _⟩ := sq; exact ⟨a, ws, e, m⟩
          obtain ⟨a, ws, e, m⟩ := fin
          have e' : σ[i]? = some (some _) := hv
          rw [e] at e'
          cases e'
          refine ⟨a :: ins, .io m.b m.h m.d h1, by simp [ios, h2], fun n j hj => ?_⟩
          cases n with
          | zero => simp [ios] at hj; subst hj; exact ⟨s, a, hs, hm, e, rfl⟩
          | succ n => simpa using h3 n j (by simpa [ios] using hj)
theorem nodup_ins (R : Rel K Z B H ρ σ) {is : List Nat} {ins : List Addr} (nd : is.Nodup) (hl : is.length = ins.length)
    (hat : ∀ (m : Nat) i, is[m]? = some i → ∃ s a, ρ[i]? = some s ∧ s.mut = true ∧ σ[i]? = some (some (.ref a)) ∧ ins[m]? = some a) : ins.Nodup := by
  rw [List.nodup_iff_pairwise_ne, List.pairwise_iff_getElem]
  intro m n hm hn hmn e
  have hm' : m < is.length := by omega
  have hn' : n < is.length := by omega
  obtain ⟨s, a, h1, h2, h3, h4⟩ := hat m is[m] (by simp [hm'])
  obtain ⟨t, b, g1, g2, g3, g4⟩ := hat n is[n] (by simp [hn'])
  have e1 : a = b := by
    have z1 := List.getElem?_eq_some_iff.mp h4
    have z2 := List.getElem?_eq_some_iff.mp g4
    obtain ⟨_, z1⟩ := z1
    obtain ⟨_, z2⟩ := z2
    rw [← z1, ← z2]
    exact e
  subst e1
  have q := R.ap _ _ s t a h1 g1 h2 g2 h3 g3
  have : m = n := (List.getElem_inj nd).mp q
  omega
end

section
variable {X : Cx} {E : XK} {e : Expr} {es : List Expr} {ma : En → AO} {pos p : Pos} {k n : Nat} {x : Str} {mf : List Arg → FO}
/-- the callee's promise, at the arguments -/
theorem sp_of {Z : Zt} {B B1 H1 : Hp} {ρ1 : En} {σ : St} {as : List AR} {vs : List V} {Q : VK} (R : Rel X.K Z B1 H1 ρ1 σ) (eb : Ex B B1) (a1 : ArgsV X.K B1 σ as vs) (h : EPost X.K X.mg Z B σ E Q (AO.fun (.ok as ρ1) n mf)) : spM X.K X.mg n mf vs H1 Q E := by
  unfold AO.fun at h
  by_cases hc : as.length = n ∧ (ios as).Nodup
  · simp only [if_pos hc] at h
    cases ha : argsAt ρ1 as with
    | none => simp only [ha] at h; exact h.elim
    | some args =>
      simp only [ha] at h
      obtain ⟨ins, h1, h2, h3⟩ := args_ok R a1 ha
      have lv : vs.length = as.length := by
        have : ∀ {as : List AR} {vs : List V}, ArgsV X.K B1 σ as vs → vs.length = as.length := by
          intro as vs h
          induction h with
          | nil => rfl
          | cons _ _ ih => simp [ih]
        exact this a1
      refine ⟨lv.trans hc.1, B1, args, ins, R.hB, R.nt, R.tb, R.pb, h1, nodup_ins R hc.2 h2 h3, ?_⟩
      cases hm : mf args with
      | fail => simp only [hm] at h; exact h.elim
      | exc x =>
        simp only [hm] at h
        have inF : ∀ a ∈ ins, Z.F a = none := fun a ha => by
          obtain ⟨m, hm⟩ := List.getElem?_of_mem ha
          have hlt : m < (ios as).length := by rw [h2]; exact (List.getElem?_eq_some_iff.mp hm).1
          obtain ⟨s, a', q1, q2, q3, q4⟩ := h3 m (ios as)[m] (by simp [hlt])
          rw [hm] at q4
          cases q4
          obtain ⟨b, vs, ds, e, mo⟩ := R.mutAt q1 q2
          rw [q3] at e
          cases e
          exact mo.f
        intro cls d B' H' e1 e2 nt fr gb tb hi' xo
        refine h cls d B' H' (R.b0.trans e1) e2 (fun a o ho nT => ?_) (fun a ho => ?_) nt tb (fun a ha => ?_) xo
        · exact fr a o (R.Fa ho).1 (fun z => by rw [inF a z] at ho; cases ho) nT
        · rw [gb a (R.Fne ho).1 (R.Fne ho).2 fun z => ho (inF a z)]
          exact R.gr a ho
        · by_cases hm' : a ∈ ins
          · exact hi' a hm'
          · obtain ⟨xs, q⟩ := R.hi a ha
            exact ⟨xs, fr a _ q hm' fun ps z => by cases z⟩
      | ok r outs =>
        simp only [hm] at h
        intro v B' H' e1 e2 nt fr gb tb oo rr
        have R' := R.after hc.2 h2 h3 e1 e2 nt tb fr gb oo
        refine h v B' H' (eb.trans e1) R' ?_
        cases r with
        | val d => exact rr
        | new ds =>
          obtain ⟨q, ws, rfl, n1, n2, n3, n4⟩ := rr
          refine ⟨q, ws, rfl, ⟨R.Fs n1, n2, n3, n4⟩, fun z => (by obtain ⟨xs, e⟩ := R.hi q z; obtain ⟨ps, e2⟩ := n1 _ e; cases e2), fun i s hi hs z => ?_⟩
          have hl2 : (ios as).length = outs.length := h2.trans oo.len
          have back : ∃ s0, ρ1[i]? = some s0 ∧ s0.mut = true := by
            rcases putOuts_get hc.2 hl2 hi with ⟨n, q⟩ | ⟨m, ds, s0, q1, q2, q3, q4⟩
            · exact ⟨s, q, hs⟩
            · refine ⟨s0, q3, ?_⟩
              rw [q4] at hs
              cases s0 <;> first | rfl | exact hs
          obtain ⟨s0, b1, b2⟩ := back
          obtain ⟨a, vs', ds', e, mo⟩ := R.mutAt b1 b2
          rw [e] at z
          cases z
          obtain ⟨ps, e2⟩ := n1 _ mo.h
          cases e2
  · simp only [if_neg hc] at h
    exact h.elim
theorem run_fnM {f : Addr} {fd : FuncData} {ps : List Str} {sp : Sp} {pins : List (Addr × Obj)} {σ : St} {H : Hp} {s : Shared} {Q : VK} {us : List Value} {vs : List V} (F : FnM g X.prog X.w X.K X.mg X.base k f fd ps sp) (cx : Ctx g X E k) (hb : Binds X.K fd ps [])
    (I : Inv X pins σ H s) (r : Vals vs us) (h : sp vs H Q E) : wpAny (model X.prog X.w) X.A (call (.ref f) us) (EP X pins σ Q) X.xe s := by
  have hl : us.length = ps.length := by rw [← r.length]; exact F.len _ _ _ _ h
  have hb' := hb s us I.kIn (by rw [List.append_nil]; exact hl)
  rw [List.append_nil] at hb'
  refine wpAny_call (codeAny_mono (F.run X.A X.stack s H ⟨us, []⟩ us vs Q E cx.room cx.gd I.env0 hb' r h) fun r s' hq => ?_)
  cases r with
  | error e => exact cx.ps pins σ H s e s' I hq
  | ok fl =>
    cases fl with
    | ret u => exact I.after hq
    | next => exact False.elim hq
    | brk => exact False.elim hq
    | cont => exact False.elim hq
theorem je_call (C : DefOk g X.prog X.w X.K X.mg X.base k x n mf) (cx : Ctx g X E k) (ha : JA X E (e :: es) ma) (hg : Gl X x := by rfl) (hdb : (x == ("__debug__" : Str)) = false := by decide)
    (he : starEach (e :: es) X.env = (false, eval e X.env) :: starEach es X.env := by rfl) (hpl : (backTo pos (starEach es X.env)).any (·.1) = false := by rfl) : JE X E (.Call (.Name x p) (e :: es) [] pos) (mFun n mf ma) := by
  obtain ⟨f, fd, ps, F, hm, hk, hb⟩ := C.ex
  refine ⟨⟨fun pins s σ H Q I h => ?_⟩⟩
  refine wpAny_Call_Name_kw (ld_glob I hg hm ?_ hdb)
  obtain ⟨Z, B, ρ, R, h⟩ := h
  have hA : tA X.K X.mg E ma σ H (fun vs H1 => spM X.K X.mg n mf vs H1 Q E) := by
    refine ⟨Z, B, ρ, R, ?_⟩
    unfold mFun at h
    cases hma : ma ρ with
    | fail => rw [hma] at h; exact h
    | exc x => rw [hma] at h; exact h
    | ok as ρ1 => rw [hma] at h; exact fun vs B1 H1 e1 R1 a1 => sp_of R1 e1 a1 h
  refine PySem.W.callWith_K (h₀ := X.base) I.ok.mod.kin hk (thn (ha.pa.run pos pins s σ H _ I hA) fun us s1 ⟨vs, H1, I1, r, q⟩ => ⟨I1.kIn, ?_⟩) he hpl
  exact run_fnM F cx hb I1 r q
theorem je_call0 (C : DefOk g X.prog X.w X.K X.mg X.base k x n mf) (cx : Ctx g X E k) (hg : Gl X x := by rfl) (hdb : (x == ("__debug__" : Str)) = false := by decide) : JE X E (.Call (.Name x p) [] [] pos) (mFun n mf mANil) := by
  obtain ⟨f, fd, ps, F, hm, hk, hb⟩ := C.ex
  refine ⟨⟨fun pins s σ H Q I h => ?_⟩⟩
  refine wpAny_Call_Name_kw (ld_glob I hg hm ?_ hdb)
  obtain ⟨Z, B, ρ, R, h⟩ := h
  exact PySem.W.callWith_K0 I.kIn hk (run_fnM (us := []) F cx hb I .nil (sp_of R (Ex.refl _) .nil h))
end
end DL

set_option maxRecDepth 100000
set_option maxHeartbeats 2000000
/-! operators and built-ins on data -/
namespace DL
open PySem L2 PySem.Spec PyProof.Rows
variable [Tb]

theorem dp_tup {K : PySem.W.Frag} {B : Hp} {v : V} {ds : List D} (h : Dp K B v (.tuple ds)) : ∃ a xs, v = .ref a ∧ SqT K B a xs ∧ DpAll K B xs ds := by cases h with | tup h1 h2 => exact ⟨_, _, rfl, h1, h2⟩
theorem dp_lst {K : PySem.W.Frag} {B : Hp} {v : V} {ds : List D} (h : Dp K B v (.list ds)) : ∃ a xs, v = .ref a ∧ SqL K B a xs ∧ DpAll K B xs ds := by cases h with | lst h1 h2 => exact ⟨_, _, rfl, h1, h2⟩
theorem sz2 {n m : Nat} (h : n + m ≤ 100000) : n + m ≤ sizeLine := Nat.le_trans h (by decide)

/-! ### + -/
theorem list_add_any (l : Addr) (items : Array Value) (n : Nat) (b : Addr) (items2 : Array Value) (n2 : Nat) (sl sl2 : Array (Option Value)) (hc0 : items.size + items2.size ≤ sizeLine) :
    Meets (Builtin.«list.__add__» ⟨[.ref l, .ref b], []⟩) (fun _ R s => s.heap.get? l = some { cls := .type "list", dict := none, data := .seq items n, slots := sl } ∧ s.heap.get? b = some { cls := .type "list", dict := none, data := .seq items2 n2, slots := sl2 } ∧ R (.ok (.ret (Value.ref s.heap.objs.size))) { s with heap := s.heap.push { cls := Value.type "list", data := Data.seq (items ++ items2) }, toks := s.toks }) :=
  .of_wp fun prog w A R s h => by obtain ⟨hp, g, d, tk, os⟩ := s; obtain ⟨hl, hb, h⟩ := h; have f1 := AutoSeq1.idx_int; have f2 := AutoSeq1.sub_tuple_tuple; have f3 := AutoSeq1.sub_list_list; have f4 := AutoSeq1.sub_tuple_list; have f5 := AutoSeq1.sub_list_tuple; wp_walk using AutoSeq1.wpAny_loadPart' hl, AutoSeq1.wpAny_loadPart' hb; exact ⟨_, rfl, h⟩
def rCatL (K : PySem.W.Frag) : R2 := fun x y H Q => ∃ l b xs zs, x = .ref l ∧ y = .ref b ∧ SqL K H l xs ∧ SqL K H b zs ∧ xs.length + zs.length ≤ sizeLine ∧ ∀ p, H p = none → Q (.ref p) (upd H p (.lst (xs ++ zs)))
theorem op_catL {X : Cx} : OpR X (binaryOp .Add) (rCatL X.K) := by
  intro pins s σ H x y v u Q I rx ry h
  obtain ⟨l, b, xs, zs, rfl, rfl, hH, hB, hz, q⟩ := h
  cases rx
  cases ry
  obtain ⟨its, r, ⟨⟨cls, dd, data, sls⟩, n, ho, hc, hdn, hdt⟩, _⟩ := I.list hH
  obtain ⟨its2, r2, ⟨⟨cls2, dd2, data2, sls2⟩, n2, ho2, hc2, hdn2, hdt2⟩, _⟩ := I.list hB
  simp only at hc hdt hdn hc2 hdt2 hdn2
  subst hc hdt hdn hc2 hdt2 hdn2
  have l1 := r.length
  have l2 := r2.length
  refine concat_meets ⟨_, ho, rfl⟩ ⟨_, ho2, rfl⟩ PySem.noFill_list_add PySem.seq_list_add F.slot_list_add F.entry_list_add (F.args_list_add_2 _ _) (list_add_any l its.toArray n b its2.toArray n2 sls sls2 (by rw [List.size_toArray, List.size_toArray]; omega)) ⟨ho, ho2, ?_⟩
  have ea : its.toArray ++ its2.toArray = (its ++ its2).toArray := by simp
  rw [ea]
  exact ⟨.ref _, _, I.lnew (t' := s.toks) (r.append r2) (by rw [List.length_append]; omega), rfl, q _ I.fresh⟩
def fAdd : D → D → Option Res
  | .int i, .int j => some (.val (.int (i + j)))
  | .str x, .str y => if x.length + y.length ≤ 100000 then some (.val (.str (x ++ y))) else none
  | .tuple xs, .tuple ys => if xs.length + ys.length ≤ 100000 then some (.val (.tuple (xs ++ ys))) else none
  | .list xs, .list ys => if xs.length + ys.length ≤ 100000 then some (.new (xs ++ ys)) else none
  | _, _ => none
def rAdd (K : PySem.W.Frag) : R2 := fun x y H Q => (rI0 fun i j => .int (i + j)) x y H Q ∨ (∃ i j, x = .str i ∧ y = .str j ∧ i.length + j.length ≤ sizeLine ∧ Q (.str (i ++ j)) H) ∨ rCatA K x y H Q ∨ rCatL K x y H Q
theorem op_addD {X : Cx} : OpR X (binaryOp .Add) (rAdd X.K) := L2.op_add.or (L2.op_add_str.or (op_catA.or op_catL))
section
variable {X : Cx}
theorem Rel.sqT {K : PySem.W.Frag} {Z : Zt} {B H : Hp} {ρ : En} {σ : L2.St} (R : Rel K Z B H ρ σ) {a : Addr} {xs : List V} (h : SqT K B a xs) : SqT K H a xs := ex_t R.hB h
theorem Rel.sqL {K : PySem.W.Frag} {Z : Zt} {B H : Hp} {ρ : En} {σ : L2.St} (R : Rel K Z B H ρ σ) {a : Addr} {xs : List V} (h : SqL K B a xs) : SqL K H a xs := ex_l R.hB h
/-- a tuple made: the very one, or a new one -/
theorem vAdd : VOp X (rAdd X.K) fAdd := by
  intro Z B H ρ σ x y d e res Q R hx hy hf q
  have fin : ∀ v {d : D}, Dp X.K B v d → res = .val d → Q v H := fun v d h e => q v B H (Ex.refl _) R (by rw [e]; exact h)
  cases d <;> cases e <;> first | (cases hf; done) | skip
  · cases hf
    exact .inl ⟨_, _, dp_int hx, dp_int hy, fin _ (.int _) rfl⟩
  · rename_i i j
    simp only [fAdd] at hf
    split at hf
    · rename_i hl
      cases hf
      exact .inr (.inl ⟨_, _, dp_str hx, dp_str hy, sz hl, fin _ (.str _) rfl⟩)
    · cases hf
  · rename_i xs ys
    simp only [fAdd] at hf
    split at hf
    · rename_i hl
      cases hf
      obtain ⟨a, vs, rfl, h1, d1⟩ := dp_lst hx
      obtain ⟨b, ws, rfl, h2, d2⟩ := dp_lst hy
      refine .inr (.inr (.inr ⟨a, b, vs, ws, rfl, rfl, R.sqL h1, R.sqL h2, by rw [d1.length, d2.length]; exact sz hl, fun p hp => ?_⟩))
      obtain ⟨R', r'⟩ := R.lst hp (d1.append d2)
      exact q _ B _ (Ex.refl _) R' r'
    · cases hf
  · rename_i xs ys
    simp only [fAdd] at hf
    split at hf
    · rename_i hl
      cases hf
      obtain ⟨a, vs, rfl, h1, d1⟩ := dp_tup hx
      obtain ⟨b, ws, rfl, h2, d2⟩ := dp_tup hy
      refine .inr (.inr (.inl ⟨a, b, vs, ws, rfl, rfl, R.sqT h1, R.sqT h2, by rw [d1.length, d2.length]; exact sz hl, fun e => ?_, fun _ e => ?_, fun _ _ p hp => ?_⟩))
      · have e' := d1.nil_iff.mp e
        subst e'
        exact fin _ hy rfl
      · have e' := d2.nil_iff.mp e
        subst e'
        exact fin _ hx (by rw [List.append_nil])
      · obtain ⟨B', eb, R', d'⟩ := R.tup hp (d1.append d2)
        exact q _ B' _ eb R' d'
    · cases hf

/-! ### numbers -/
def fI (g : Int → Int → Int) : D → D → Option Res
  | .int i, .int j => some (.val (.int (g i j)))
  | _, _ => none
def fIc (c : Int → Int → Bool) (g : Int → Int → Int) : D → D → Option Res
  | .int i, .int j => if c i j = true then some (.val (.int (g i j))) else none
  | _, _ => none
theorem vI {g : Int → Int → Int} : VOp X (rI0 fun i j => .int (g i j)) (fI g) := by
  intro Z B H ρ σ x y d e res Q R hx hy hf q
  cases d <;> cases e <;> first | (cases hf; done) | skip
  cases hf
  exact ⟨_, _, dp_int hx, dp_int hy, q _ B H (Ex.refl _) R (.int _)⟩
theorem vIc {C : Int → Int → Prop} {c : Int → Int → Bool} {g : Int → Int → Int} (hc : ∀ i j, c i j = true → C i j) : VOp X (rI C fun i j => .int (g i j)) (fIc c g) := by
  intro Z B H ρ σ x y d e res Q R hx hy hf q
  cases d <;> cases e <;> first | (cases hf; done) | skip
  rename_i i j
  simp only [fIc] at hf
  split at hf
  · rename_i h
    cases hf
    exact ⟨_, _, dp_int hx, dp_int hy, hc _ _ h, q _ B H (Ex.refl _) R (.int _)⟩
  · cases hf
abbrev fSub := fI fun i j => i - j
def cMul (i j : Int) : Bool := decide (-(2 ^ 64) < i ∧ i < 2 ^ 64) || decide (-(2 ^ 64) < j ∧ j < 2 ^ 64)
theorem cMul_ok (i j : Int) (h : cMul i j = true) : CMul i j := by
  unfold cMul at h
  rw [Bool.or_eq_true, decide_eq_true_eq, decide_eq_true_eq] at h
  exact h
def cMod (_ j : Int) : Bool := decide (0 < j)
def cDiv (_ j : Int) : Bool := decide (0 < j ∧ j < 1073741824)
def cPow (i j : Int) : Bool := decide (0 ≤ j ∧ j ≤ 1000000 ∧ i.natAbs < 2 ^ 64)
abbrev fMod := fIc cMod fun i j => i % j
abbrev fDiv := fIc cDiv fun i j => i / j
abbrev fPow := fIc cPow fun i j => i ^ j.toNat
theorem vMod : VOp X (rI (fun _ j => 0 < j) fun i j => .int (i % j)) fMod := vIc fun _ _ h => of_decide_eq_true h
theorem vDiv : VOp X (rI CDiv fun i j => .int (i / j)) fDiv := vIc fun i j h => (of_decide_eq_true h : 0 < j ∧ j < 1073741824)
theorem vPow : VOp X (rI CPow fun i j => .int (i ^ j.toNat)) fPow := vIc fun i j h => (of_decide_eq_true h : 0 ≤ j ∧ j ≤ 1000000 ∧ i.natAbs < 2 ^ 64)

end

/-! ### * -/
theorem tuple_mul_same (l : Addr) (items : Array Value) (n : Nat) (dd : Option Addr) (sl : Array (Option Value)) (x : Int) (u : Tok) (c0 : (decide (x < -(2 ^ 63)) || decide (x ≥ 2 ^ 63)) = false) (c1 : (items.isEmpty || x == 1) = true) :
    Meets (Builtin.«tuple.__mul__» ⟨[.ref l, .int x u], []⟩) (fun _ R s => s.heap.get? l = some { cls := .type "tuple", dict := dd, data := .seq items n, slots := sl } ∧ R (.ok (.ret (Value.ref l))) s) :=
  .of_wp fun prog w A R s h => by
    obtain ⟨hp, g, d, tk, os⟩ := s
    obtain ⟨hl, h⟩ := h
    have f1 := AutoSeq1.idx_int
    wp_walk using AutoSeq1.wpAny_loadPart' hl
    repeat (first
      | (refine wpAny_ite_false (decide_eq_false (by rw [c0]; exact Bool.false_ne_true)) ?_; wp_walk using AutoSeq1.wpAny_loadPart' hl)
      | (refine wpAny_ite_true (decide_eq_true c1) ?_; wp_walk using AutoSeq1.wpAny_loadPart' hl))
    exact ⟨_, rfl, h⟩
theorem tuple_mul_none (l : Addr) (items : Array Value) (n : Nat) (dd : Option Addr) (sl : Array (Option Value)) (x : Int) (u : Tok) (c0 : (decide (x < -(2 ^ 63)) || decide (x ≥ 2 ^ 63)) = false) (c1 : (items.isEmpty || x == 1) = false) (c2 : (decide (x ≤ 0) || items.isEmpty) = true) :
    Meets (Builtin.«tuple.__mul__» ⟨[.ref l, .int x u], []⟩) (fun _ R s => s.heap.get? l = some { cls := .type "tuple", dict := dd, data := .seq items n, slots := sl } ∧
      R (.ok (.ret (Value.ref s.heap.objs.size))) { s with heap := s.heap.push { cls := Value.type "tuple", data := Data.seq #[] }, toks := s.toks }) :=
  .of_wp fun prog w A R s h => by
    obtain ⟨hp, g, d, tk, os⟩ := s
    obtain ⟨hl, h⟩ := h
    have f1 := AutoSeq1.idx_int
    wp_walk using AutoSeq1.wpAny_loadPart' hl
    repeat (first
      | (refine wpAny_ite_false (decide_eq_false (by rw [c0]; exact Bool.false_ne_true)) ?_; wp_walk using AutoSeq1.wpAny_loadPart' hl)
      | (refine wpAny_ite_false (decide_eq_false (by rw [c1]; exact Bool.false_ne_true)) ?_; wp_walk using AutoSeq1.wpAny_loadPart' hl)
      | (refine wpAny_ite_true (decide_eq_true c2) ?_; wp_walk using AutoSeq1.wpAny_loadPart' hl))
    exact ⟨_, rfl, h⟩
def rRepTA (K : PySem.W.Frag) : R2 := fun x y H Q => ∃ l k xs, x = .ref l ∧ y = .int k ∧ SqT K H l xs ∧ -1000 ≤ k ∧ k ≤ 1000 ∧ xs.length ≤ 1000 ∧ (xs = [] ∨ k = 1 → Q (.ref l) H) ∧ (¬ (xs = [] ∨ k = 1) → ∀ p, H p = none → Q (.ref p) (upd H p (.tup (List.replicate k.toNat xs).flatten)))
theorem op_repTA {X : Cx} : OpR X (binaryOp .Mult) (rRepTA X.K) := by
  intro pins s σ H x y v u Q I rx ry h
  obtain ⟨l, k, xs, rfl, rfl, hT, h1, h2, hz, q1, q2⟩ := h
  by_cases hs : xs = [] ∨ k = 1
  · cases rx
    obtain ⟨t, rfl⟩ := ry
    obtain ⟨its, r, ⟨⟨cls, dd, data, sl⟩, ho, hc, n, hd⟩, _⟩ := I.tuple hT
    simp only at hc hd
    subst hc hd
    have c0 : (decide (k < -(2 ^ 63)) || decide (k ≥ 2 ^ 63)) = false := by
      rw [decide_eq_false (by omega), decide_eq_false (by omega)] <;> rfl
    have c1 : (its.toArray.isEmpty || k == 1) = true := by
      rcases hs with e | e
      · subst e; cases r; rfl
      · subst e; simp
    refine wpAny_binaryOp_repeat_ref (T := "tuple") (U := "int") (by decide) ⟨_, ho, rfl⟩ (fun s' => typeIs_int s' k t) noFill_tuple_mul F.fills_int_mul F.slot_int_rmul repeat_tuple F.slot_int_index.lookup
      (call_meets F.slot_int_rmul (typeIs_int s k t) F.entry_int_rmul (F.args_int_rmul_2 _ _) (int_rmul_tuple k t l its.toArray n dd sl)
        ⟨ho, rfl, ⟨_, ho, rfl⟩, call_meets F.slot_tuple_mul ⟨_, ho, rfl⟩ F.entry_tuple_mul (F.args_tuple_mul_2 _ _) (tuple_mul_same l its.toArray n dd sl k t c0 c1) ⟨ho, ?_⟩⟩)
    exact ⟨.ref l, H, I, rfl, q1 hs⟩
  · have hne : xs ≠ [] := fun e => hs (.inl e)
    have hk : k ≠ 1 := fun e => hs (.inr e)
    by_cases hp : 2 ≤ k
    · exact op_repT pins s σ H _ _ v u Q I rx ry ⟨l, k, xs, rfl, rfl, hT, hne, hp, h2, hz, q2 hs⟩
    · cases rx
      obtain ⟨t, rfl⟩ := ry
      obtain ⟨its, r, ⟨⟨cls, dd, data, sl⟩, ho, hc, n, hd⟩, _⟩ := I.tuple hT
      simp only at hc hd
      subst hc hd
      have c0 : (decide (k < -(2 ^ 63)) || decide (k ≥ 2 ^ 63)) = false := by
        rw [decide_eq_false (by omega), decide_eq_false (by omega)] <;> rfl
      have c1 : (its.toArray.isEmpty || k == 1) = false := by
        rw [beq_eq_false_iff_ne.mpr hk, Bool.or_false]
        cases r with
        | nil => exact absurd rfl hne
        | cons _ _ => rfl
      have c2 : (decide (k ≤ 0) || its.toArray.isEmpty) = true := by
        rw [decide_eq_true (show k ≤ 0 by omega), Bool.true_or]
      have ek : k.toNat = 0 := by omega
      refine wpAny_binaryOp_repeat_ref (T := "tuple") (U := "int") (by decide) ⟨_, ho, rfl⟩ (fun s' => typeIs_int s' k t) noFill_tuple_mul F.fills_int_mul F.slot_int_rmul repeat_tuple F.slot_int_index.lookup
        (call_meets F.slot_int_rmul (typeIs_int s k t) F.entry_int_rmul (F.args_int_rmul_2 _ _) (int_rmul_tuple k t l its.toArray n dd sl)
          ⟨ho, rfl, ⟨_, ho, rfl⟩, call_meets F.slot_tuple_mul ⟨_, ho, rfl⟩ F.entry_tuple_mul (F.args_tuple_mul_2 _ _) (tuple_mul_none l its.toArray n dd sl k t c0 c1 c2) ⟨ho, ?_⟩⟩)
      have q := q2 hs
      rw [ek] at q
      refine ⟨.ref s.heap.objs.size, _, I.laid (t' := s.toks) (o := .tup []) (fun b ob q => Heap.get?_push_of_some _ q) (Nat.le_refl _) ?_, rfl, q _ (I.hok.fresh (Nat.le_refl _))⟩
      exact ⟨Nat.zero_le _, [], .nil, IsTup.new _ _⟩
theorem int_rmul_list_any (a : Int) (t : Tok) (l : Addr) (items : Array Value) (n : Nat) (sl : Array (Option Value)) :
    Meets (Builtin.«int.__rmul__» ⟨[.int a t, .ref l], []⟩) (fun _ R s => s.heap.get? l = some { cls := .type "list", dict := none, data := .seq items n, slots := sl } ∧ R (.ok (.ret Value.notImplemented)) s) :=
  .of_wp fun prog w A R s h => by obtain ⟨hp, g, d, tk, os⟩ := s; obtain ⟨hl, h⟩ := h; wp_walk using AutoSeq1.wpAny_loadPart' hl; exact ⟨_, rfl, h⟩
theorem list_mul_any (l : Addr) (items : Array Value) (n : Nat) (sl : Array (Option Value)) (x : Int) (u : Tok) (hc0 : ¬(!Builtin.List.listFitsIndex x) = true) (hc1 : ¬items.size * x.toNat > (2 ^ 63 - 1) / 8) (hc2 : ¬Builtin.List.listTooLong (items.size * x.toNat) = true)
    (hsz : (List.foldl (fun x1 x2 => x1 ++ x2) #[] (List.replicate (if items.isEmpty = true then 0 else x.toNat) items)).size ≤ sizeLine) :
    Meets (Builtin.«list.__mul__» ⟨[.ref l, .int x u], []⟩) (fun _ R s => s.heap.get? l = some { cls := .type "list", dict := none, data := .seq items n, slots := sl } ∧ R (.ok (.ret (Value.ref s.heap.objs.size))) { s with heap := s.heap.push { cls := Value.type "list", data := Data.seq (List.foldl (fun x1 x2 => x1 ++ x2) #[] (List.replicate (if items.isEmpty = true then 0 else x.toNat) items)) }, toks := s.toks }) :=
  .of_wp fun prog w A R s h => by
    obtain ⟨hp, g, d, tk, os⟩ := s; obtain ⟨hl, h⟩ := h
    wp_walk using AutoSeq1.wpAny_loadPart' hl; refine wpAny_ite_false (decide_eq_false (Nat.not_lt.mpr hsz)) ?_; wp_walk; exact ⟨_, rfl, h⟩
def rRepL (K : PySem.W.Frag) : R2 := fun x y H Q => ∃ l k xs, x = .ref l ∧ y = .int k ∧ SqL K H l xs ∧ -1000 ≤ k ∧ k ≤ 1000 ∧ xs.length ≤ 1000 ∧ ∀ p, H p = none → Q (.ref p) (upd H p (.lst (List.replicate k.toNat xs).flatten))
theorem op_repL {X : Cx} : OpR X (binaryOp .Mult) (rRepL X.K) := by
  intro pins s σ H x y v u Q I rx ry h
  obtain ⟨l, k, xs, rfl, rfl, hH, h1, h2, hz, q⟩ := h
  cases rx
  obtain ⟨t, rfl⟩ := ry
  obtain ⟨its, r, ⟨⟨cls, dd, data, sls⟩, n, ho, hc, hdn, hdt⟩, _⟩ := I.list hH
  simp only at hc hdt hdn
  subst hc hdt hdn
  have hl := r.length
  have hlen : its.toArray.size * k.toNat ≤ 1000000 := by
    rw [List.size_toArray, ← hl]
    have a1 : xs.length * k.toNat ≤ 1000 * 1000 := Nat.mul_le_mul hz (by omega)
    omega
  have hcap : ¬ its.toArray.size * k.toNat > (2 ^ 63 - 1) / 8 := by omega
  have hfit : ¬ (!Builtin.List.listFitsIndex k) = true := by
    rw [fitsIndex_both (by omega) (by omega)]
    exact Bool.false_ne_true
  have hlong : ¬ Builtin.List.listTooLong (its.toArray.size * k.toNat) = true := by
    rw [notLongL (by rw [sizeLine_eq]; omega)]
    exact Bool.false_ne_true
  have hnew : List.foldl (fun x1 x2 => x1 ++ x2) #[] (List.replicate (if its.toArray.isEmpty = true then 0 else k.toNat) its.toArray) = (List.replicate k.toNat its).flatten.toArray := by
    have f0 : ∀ m : Nat, List.foldl (fun x1 x2 => x1 ++ x2) #[] (List.replicate m its.toArray) = (List.replicate m its).flatten.toArray := fun m => by
      have := foldl_rep its m []
      rw [List.nil_append] at this
      exact this
    rw [f0]
    cases its with
    | nil => simp
    | cons a r' => rw [if_neg (by simp)]
  have flen : (List.replicate k.toNat its).flatten.length ≤ 1000000 := by
    rw [PyProof.Rows.lm_len_rep_flat, ← hl]
    have a1 : k.toNat * xs.length ≤ 1000 * 1000 := Nat.mul_le_mul (by omega) hz
    omega
  refine wpAny_binaryOp_repeat_ref (T := "list") (U := "int") (by decide) ⟨_, ho, rfl⟩ (fun s' => typeIs_int s' k t) noFill_list_mul F.fills_int_mul F.slot_int_rmul repeat_list F.slot_int_index.lookup
    (call_meets F.slot_int_rmul (typeIs_int s k t) F.entry_int_rmul (F.args_int_rmul_2 _ _) (int_rmul_list_any k t l its.toArray n sls)
      ⟨ho, rfl, ⟨_, ho, rfl⟩, call_meets F.slot_list_mul ⟨_, ho, rfl⟩ F.entry_list_mul (F.args_list_mul_2 _ _) (list_mul_any l its.toArray n sls k t hfit hcap hlong (by rw [hnew, List.size_toArray, sizeLine_eq]; omega)) ⟨ho, ?_⟩⟩)
  rw [hnew]
  exact ⟨.ref _, _, I.lnew (t' := s.toks) (r.rep k.toNat) (by rw [PyProof.Rows.lm_len_rep_flat, sizeLine_eq]; rw [PyProof.Rows.lm_len_rep_flat, ← hl] at flen; omega), rfl, q _ I.fresh⟩
/-- * -/
def fMul : D → D → Option Res
  | .int i, .int j => if cMul i j = true then some (.val (.int (i * j))) else none
  | .tuple xs, .int k => if -1000 ≤ k ∧ k ≤ 1000 ∧ xs.length ≤ 1000 then some (.val (.tuple (List.replicate k.toNat xs).flatten)) else none
  | .list xs, .int k => if -1000 ≤ k ∧ k ≤ 1000 ∧ xs.length ≤ 1000 then some (.new (List.replicate k.toNat xs).flatten) else none
  | _, _ => none
def rMul (K : PySem.W.Frag) : R2 := fun x y H Q => (rI CMul fun i j => .int (i * j)) x y H Q ∨ rRepTA K x y H Q ∨ rRepL K x y H Q
theorem op_mulD {X : Cx} : OpR X (binaryOp .Mult) (rMul X.K) := L2.op_mul.or (op_repTA.or op_repL)
theorem vMul {X : Cx} : VOp X (rMul X.K) fMul := by
  intro Z B H ρ σ x y d e res Q R hx hy hf q
  have fin : ∀ v {d : D}, Dp X.K B v d → res = .val d → Q v H := fun v d h e => q v B H (Ex.refl _) R (by rw [e]; exact h)
  cases d <;> cases e <;> first | (cases hf; done) | skip
  · rename_i i j
    simp only [fMul] at hf
    split at hf
    · rename_i h
      cases hf
      exact .inl ⟨_, _, dp_int hx, dp_int hy, cMul_ok _ _ h, fin _ (.int _) rfl⟩
    · cases hf
  · rename_i xs k
    simp only [fMul] at hf
    split at hf
    · rename_i hl
      cases hf
      obtain ⟨a, vs, rfl, h1, d1⟩ := dp_lst hx
      refine .inr (.inr ⟨a, k, vs, rfl, dp_int hy, R.sqL h1, hl.1, hl.2.1, by rw [d1.length]; exact hl.2.2, fun p hp => ?_⟩)
      obtain ⟨R', r'⟩ := R.lst hp (d1.rep k.toNat)
      exact q _ B _ (Ex.refl _) R' r'
    · cases hf
  · rename_i xs k
    simp only [fMul] at hf
    split at hf
    · rename_i hl
      cases hf
      obtain ⟨a, vs, rfl, h1, d1⟩ := dp_tup hx
      refine .inr (.inl ⟨a, k, vs, rfl, dp_int hy, R.sqT h1, hl.1, hl.2.1, by rw [d1.length]; exact hl.2.2, fun e => ?_, fun _ p hp => ?_⟩)
      · rcases e with e | e
        · have e' := d1.nil_iff.mp e
          subst e'
          exact fin _ hx (by congr 2; cases k.toNat <;> simp)
        · subst e
          exact fin _ hx (by congr 2; simp)
      · obtain ⟨B', eb, R', d'⟩ := R.tup hp (d1.rep k.toNat)
        exact q _ B' _ eb R' d'
    · cases hf
end DL

set_option maxRecDepth 100000
set_option maxHeartbeats 2000000
/-! comparisons, items, slices, built-ins -/
namespace DL
open PySem L2 PySem.Spec PyProof.Rows
variable [Tb]
section
variable {X : Cx} {E : XK}
/-! ### comparisons -/
def shaped (d : D) : Bool := SeqAt.shaped d
def fEq (d e : D) : Option Res := if shaped d = true ∧ shaped e = true then some (.val (.bool (PyData.eqv d e))) else none
def fNe (d e : D) : Option Res := if shaped d = true ∧ shaped e = true then some (.val (.bool (!PyData.eqv d e))) else none
theorem vEq : VOp X (rEqD X.K) fEq := by
  intro Z B H ρ σ x y d e res Q R hx hy hf q
  unfold fEq at hf
  split at hf
  · rename_i h
    cases hf
    exact ⟨d, e, hx.ex R.hB, hy.ex R.hB, h.1, h.2, q _ B H (Ex.refl _) R (.bl _)⟩
  · cases hf
theorem vNe : VOp X (rNeD X.K) fNe := by
  intro Z B H ρ σ x y d e res Q R hx hy hf q
  unfold fNe at hf
  split at hf
  · rename_i h
    cases hf
    exact ⟨d, e, hx.ex R.hB, hy.ex R.hB, h.1, h.2, q _ B H (Ex.refl _) R (.bl _)⟩
  · cases hf
def fC (g : Int → Int → Bool) : D → D → Option Res
  | .int i, .int j => some (.val (.bool (g i j)))
  | _, _ => none
theorem vC {g : Int → Int → Bool} : VOp X (rI0 fun i j => .bl (g i j)) (fC g) := by
  intro Z B H ρ σ x y d e res Q R hx hy hf q
  cases d <;> cases e <;> first | (cases hf; done) | skip
  cases hf
  exact ⟨_, _, dp_int hx, dp_int hy, q _ B H (Ex.refl _) R (.bl _)⟩
abbrev fLt := fC fun i j => decide (i < j)
abbrev fLe := fC fun i j => decide (i ≤ j)
abbrev fGt := fC fun i j => decide (j < i)
abbrev fGe := fC fun i j => decide (j ≤ i)
theorem feC {g : Int → Int → Bool} : ∀ x y d e H Q B b, Dp X.K B x d → Dp X.K B y e → fC g d e = some (.val (.bool b)) → Q (.bl b) H → (rI0 fun i j => .bl (g i j)) x y H Q := by
  intro x y d e H Q B b hx hy hf q
  cases d <;> cases e <;> first | (cases hf; done) | skip
  cases hf
  exact ⟨_, _, dp_int hx, dp_int hy, q⟩
/-- is None -/
def isNon : D → Bool
  | .none => true
  | _ => false
def fIsN : D → D → Option Res
  | d, .none => some (.val (.bool (isNon d)))
  | _, _ => none
def fNotN : D → D → Option Res
  | d, .none => some (.val (.bool (!isNon d)))
  | _, _ => none
theorem dec_non {K : PySem.W.Frag} {B : Hp} {v : V} {d : D} (h : Dp K B v d) : decide (v = .non) = isNon d := by
  cases d <;> cases h <;> rfl
theorem vIsN : VOp X (fun x y H Q => y = .non ∧ Q (.bl (decide (x = .non))) H) fIsN := by
  intro Z B H ρ σ x y d e res Q R hx hy hf q
  cases e <;> first | (cases hf; done) | skip
  cases hf
  refine ⟨dp_non hy, ?_⟩
  rw [dec_non hx]
  exact q _ B H (Ex.refl _) R (.bl _)
theorem vNotN : VOp X (fun x y H Q => y = .non ∧ Q (.bl (!decide (x = .non))) H) fNotN := by
  intro Z B H ρ σ x y d e res Q R hx hy hf q
  cases e <;> first | (cases hf; done) | skip
  cases hf
  refine ⟨dp_non hy, ?_⟩
  rw [dec_non hx]
  exact q _ B H (Ex.refl _) R (.bl _)
/-- x in xs: a list, a tuple of any data -/
def seqOf : D → Option (List D)
  | .list ds => some ds
  | .tuple ds => some ds
  | _ => none
def fIn (d e : D) : Option Res := match seqOf e with
  | some ds => if shaped d = true ∧ shaped e = true then some (.val (.bool (ds.any fun z => PyData.eqv z d))) else none
  | none => none
def fNotIn (d e : D) : Option Res := match seqOf e with
  | some ds => if shaped d = true ∧ shaped e = true then some (.val (.bool (!ds.any fun z => PyData.eqv z d))) else none
  | none => none
def rInS (K : PySem.W.Frag) (neg : Bool) : R2 := fun x y H Q => ∃ d e ds, Dp K H x d ∧ Dp K H y e ∧ seqOf e = some ds ∧ SeqAt.shaped d = true ∧ SeqAt.shaped e = true ∧ Q (.bl (if neg = true then !(ds.any fun z => PyData.eqv z d) else (ds.any fun z => PyData.eqv z d))) H
theorem room_in {A : Around} {d : PyData} {ds : List PyData} (h : SeqAt.shaped d = true) (hu : A.units + 65 < cLine) : A.units + 1 + min (PyData.depthAll ds) d.depth < cLine := by
  have h1 := SeqAt.depth_of_shaped h
  have h2 : min (PyData.depthAll ds) d.depth ≤ d.depth := Nat.min_le_right _ _
  omega
theorem op_inS (hu : X.A.units + 65 < cLine) : OpR X (compareOp .In) (rInS X.K false) := by
  intro pins s σ H x y v u Q I rx ry h
  obtain ⟨d, e, ds, hd, he, hs, sd, se, q⟩ := h
  obtain ⟨as, r1⟩ := Dp.reads I d x v hd rx
  obtain ⟨bs, r2⟩ := Dp.reads I e y u he ry
  cases e <;> cases hs
  · exact SeqAt.in_list_reads r2 r1 (SeqAt.canLay_of_shaped se) (SeqAt.canLay_of_shaped sd) (room_in sd hu) ⟨.bl _, H, I, rfl, q⟩
  · exact SeqAt.in_tuple_reads r2 r1 (SeqAt.canLay_of_shaped se) (SeqAt.canLay_of_shaped sd) (room_in sd hu) ⟨.bl _, H, I, rfl, q⟩
theorem op_notInS (hu : X.A.units + 65 < cLine) : OpR X (compareOp .NotIn) (rInS X.K true) := by
  intro pins s σ H x y v u Q I rx ry h
  obtain ⟨d, e, ds, hd, he, hs, sd, se, q⟩ := h
  obtain ⟨as, r1⟩ := Dp.reads I d x v hd rx
  obtain ⟨bs, r2⟩ := Dp.reads I e y u he ry
  cases e <;> cases hs
  · exact SeqAt.notIn_list_reads r2 r1 (SeqAt.canLay_of_shaped se) (SeqAt.canLay_of_shaped sd) (room_in sd hu) ⟨.bl _, H, I, rfl, q⟩
  · exact SeqAt.notIn_tuple_reads r2 r1 (SeqAt.canLay_of_shaped se) (SeqAt.canLay_of_shaped sd) (room_in sd hu) ⟨.bl _, H, I, rfl, q⟩
theorem vIn : VOp X (rInS X.K false) fIn := by
  intro Z B H ρ σ x y d e res Q R hx hy hf q
  unfold fIn at hf
  cases hs : seqOf e with
  | none => simp only [hs] at hf; cases hf
  | some ds =>
    simp only [hs] at hf
    split at hf
    · rename_i h
      cases hf
      exact ⟨d, e, ds, hx.ex R.hB, hy.ex R.hB, hs, h.1, h.2, q _ B H (Ex.refl _) R (.bl _)⟩
    · cases hf
theorem vNotIn : VOp X (rInS X.K true) fNotIn := by
  intro Z B H ρ σ x y d e res Q R hx hy hf q
  unfold fNotIn at hf
  cases hs : seqOf e with
  | none => simp only [hs] at hf; cases hf
  | some ds =>
    simp only [hs] at hf
    split at hf
    · rename_i h
      cases hf
      exact ⟨d, e, ds, hx.ex R.hB, hy.ex R.hB, hs, h.1, h.2, q _ B H (Ex.refl _) R (.bl _)⟩
    · cases hf

/-! ### items, slices -/
def fIx (d e : D) : Option Res := match d, e with
  | .list ds, .int i => (atI ds i).map .val
  | .tuple ds, .int i => (atI ds i).map .val
  | .str z, .int i => if z.length ≤ 100000 then (atI z.cps.toList i).map fun c => .val (.str ⟨#[c]⟩) else none
  | _, _ => none
theorem atI_dp {K : PySem.W.Frag} {B : Hp} {vs : List V} {ds : List D} {i : Int} {d : D} (h : DpAll K B vs ds) (e : atI ds i = some d) : ∃ v, atI vs i = some v ∧ Dp K B v d := by
  unfold atI at e ⊢
  rw [h.length]
  cases q : ixN ds.length i with
  | none => rw [q] at e; cases e
  | some j => rw [q] at e; exact h.getD e
theorem vIx : VOp X (rIx X.K) fIx := by
  intro Z B H ρ σ x y d e res Q R hx hy hf q
  cases d <;> cases e <;> first | (cases hf; done) | skip
  · rename_i z i
    simp only [fIx] at hf
    split at hf
    · rename_i hl
      cases hc : atI z.cps.toList i with
      | none => rw [hc] at hf; cases hf
      | some c =>
        rw [hc] at hf
        cases hf
        exact .inr (.inr ⟨z, i, c, dp_str hx, dp_int hy, sz hl, hc, q _ B H (Ex.refl _) R (.str _)⟩)
    · cases hf
  · rename_i ds i
    simp only [fIx] at hf
    cases hc : atI ds i with
    | none => rw [hc] at hf; cases hf
    | some c =>
      rw [hc] at hf
      cases hf
      obtain ⟨a, vs, rfl, h1, d1⟩ := dp_lst hx
      obtain ⟨v, hv, dv⟩ := atI_dp d1 hc
      exact .inl ⟨a, vs, i, v, rfl, dp_int hy, R.sqL h1, hv, q _ B H (Ex.refl _) R dv⟩
  · rename_i ds i
    simp only [fIx] at hf
    cases hc : atI ds i with
    | none => rw [hc] at hf; cases hf
    | some c =>
      rw [hc] at hf
      cases hf
      obtain ⟨a, vs, rfl, h1, d1⟩ := dp_tup hx
      obtain ⟨v, hv, dv⟩ := atI_dp d1 hc
      exact .inr (.inl ⟨a, vs, i, v, rfl, dp_int hy, R.sqT h1, hv, q _ B H (Ex.refl _) R dv⟩)
variable {a b : Expr} {ma mb : En → EO} {pos : Pos}
theorem je_item (ha : JE X E a ma) (hb : JE X E b mb) (hs : PlainIx b := by intro _ _; rfl) : JE X E (.Subscript a b pos) (mOp fIx ma mb) := je_ix ix_seq vIx ha hb hs
/-- parts of a slice -/
def cutD (ds : List D) (lo hi : Option Int) : List D := (ds.drop (HT.sIx ds.length 0 lo)).take (HT.sIx ds.length ds.length hi - HT.sIx ds.length 0 lo)
def fSl (d : D) (lo hi : Option Int) : Option Res := match d with
  | .list ds => some (.new (cutD ds lo hi))
  | .tuple ds => some (.val (.tuple (cutD ds lo hi)))
  | _ => none
def EO.bindI (m : EO) (k : Int → En → EO) : EO := m.bind fun d ρ => match d with
  | .int i => k i ρ
  | _ => .fail
def mPart (m : Option (En → EO)) (ρ : En) (k : Option Int → En → EO) : EO := match m with
  | none => k none ρ
  | some m => (m ρ).bindI fun i ρ1 => k (some i) ρ1
def mSl (ma : En → EO) (lo hi : Option (En → EO)) : En → EO := fun ρ => (ma ρ).bind fun d ρ1 => mPart lo ρ1 fun l ρ2 => mPart hi ρ2 fun h ρ3 => .of (fSl d l h) ρ3
structure JO (X : Cx) (E : XK) (e : Option Expr) (m : Option (En → EO)) : Prop where
  po : PO X e (fun σ H Q => ∃ Z B ρ Qe k, Rel X.K Z B H ρ σ ∧ EPost X.K X.mg Z B σ E Qe (mPart m ρ k) ∧ ∀ o ρ1 B1 H1, Ex B B1 → Rel X.K Z B1 H1 ρ1 σ → EPost X.K X.mg Z B1 σ E Qe (k o ρ1) → Q o H1)
theorem po_imp {e : Option Expr} {t t' : TO} (h : PO X e t) (i : ∀ σ H Q, t' σ H Q → t σ H Q) : PO X e t' := ⟨fun pins s σ H Q I q => h.run pins s σ H Q I (i σ H Q q)⟩
theorem jo_none : JO X E none none := by
  refine ⟨po_imp po_none fun σ H Q h => ?_⟩
  obtain ⟨Z, B, ρ, Qe, k, R, h, i⟩ := h
  exact i none ρ B H (Ex.refl _) R h
theorem jo_some (ha : JE X E a ma) : JO X E (some a) (some ma) := by
  refine ⟨po_imp (po_some ha.pe) fun σ H Q h => ?_⟩
  obtain ⟨Z, B, ρ, Qe, k, R, h, i⟩ := h
  refine ⟨Z, B, ρ, R, EPost.bind (k := fun d ρ => match d with | .int i => k (some i) ρ | _ => .fail) h fun d ρ1 x B1 H1 e1 R1 dx h1 => ?_⟩
  cases d <;> first | exact h1.elim | skip
  exact ⟨_, dp_int dx, i _ ρ1 B1 H1 e1 R1 h1⟩
theorem mPart_mono {Z : Zt} {B B1 : Hp} {σ : L2.St} {Q : VK} {m : EO} (h : EPost X.K X.mg Z B σ E Q m) (e : Ex B B1) : EPost X.K X.mg Z B1 σ E Q m := h.mono e
theorem je_slice {lo hi : Option Expr} {ml mh : Option (En → EO)} {p2 : Pos} (ha : JE X E a ma) (hl : JO X E lo ml) (hh : JO X E hi mh) : JE X E (.Subscript a (.Slice lo hi none p2) pos) (mSl ma ml mh) := by
  refine ⟨(pe_slice (sl_list.or sl_tupA) ha.pe hl.po hh.po).imp fun σ H Q h => ?_⟩
  obtain ⟨Z, B, ρ, R, h⟩ := h
  refine ⟨Z, B, ρ, R, EPost.bind h fun d ρ1 x B1 H1 e1 R1 dx h1 => ⟨Z, B1, ρ1, Q, _, R1, h1, fun l ρ2 B2 H2 e2 R2 h2 => ⟨Z, B2, ρ2, Q, _, R2, h2, fun u ρ3 B3 H3 e3 R3 h3 => ?_⟩⟩⟩
  have dx3 := (dx.ex e2).ex e3
  cases d <;> first | (exact h3.elim) | skip
  · rename_i ds
    obtain ⟨a, vs, rfl, q1, d1⟩ := dp_lst dx3
    refine .inl ⟨a, vs, rfl, R3.sqL q1, fun p hp => ?_⟩
    obtain ⟨R', r'⟩ := R3.lst hp (d1.cutV l u)
    exact h3 _ B3 _ (Ex.refl _) R' r'
  · rename_i ds
    obtain ⟨a, vs, rfl, q1, d1⟩ := dp_tup dx3
    refine .inr ⟨a, vs, rfl, R3.sqT q1, fun ew => ?_, fun _ p hp => ?_⟩
    · rw [d1.length] at ew
      have e : cutD ds l u = ds := by
        unfold cutD
        rw [ew.1, ew.2]
        simp
      have h3' : EPost X.K X.mg Z B3 σ E Q (.ok (.val (.tuple (cutD ds l u))) ρ3) := h3
      rw [e] at h3'
      exact h3' _ B3 H3 (Ex.refl _) R3 dx3
    · obtain ⟨B', eb, R', d'⟩ := R3.tup hp (d1.cutV l u)
      exact h3 _ B' _ eb R' d'
end
end DL

set_option maxRecDepth 100000
set_option maxHeartbeats 2000000
/-! built-in functions -/
namespace DL
open PySem L2 PySem.Spec PyProof.Rows
variable [Tb]
section
variable {X : Cx} {E : XK}
theorem dpAll1 {K : PySem.W.Frag} {B : Hp} {vs : List V} {d : D} (h : DpAll K B vs [d]) : ∃ v, vs = [v] ∧ Dp K B v d := by
  cases h with
  | cons h1 h2 => cases h2; exact ⟨_, rfl, h1⟩
theorem dpAll2 {K : PySem.W.Frag} {B : Hp} {vs : List V} {d e : D} (h : DpAll K B vs [d, e]) : ∃ v w, vs = [v, w] ∧ Dp K B v d ∧ Dp K B w e := by
  cases h with
  | cons h1 h2 => cases h2 with | cons h2 h3 => cases h3; exact ⟨_, _, rfl, h1, h2⟩
def f1 (f : D → Option Res) : List D → Option Res
  | [d] => f d
  | _ => none
def f2 (f : D → D → Option Res) : List D → Option Res
  | [d, e] => f d e
  | _ => none
/-- one argument -/
theorem v1 {r : List V → Hp → VK → Prop} {f : D → Option Res} (h : VUn X (fun x H Q => r [x] H Q) f) : VCall X r (f1 f) := by
  intro Z B H ρ σ vs ds res Q R d hf q
  match ds, hf with
  | [a], hf =>
    obtain ⟨v, rfl, dv⟩ := dpAll1 d
    exact h Z B H ρ σ v a res Q R dv hf q
theorem v2 {r : List V → Hp → VK → Prop} {f : D → D → Option Res} (h : VOp X (fun x y H Q => r [x, y] H Q) f) : VCall X r (f2 f) := by
  intro Z B H ρ σ vs ds res Q R d hf q
  match ds, hf with
  | [a, b], hf =>
    obtain ⟨v, w, rfl, dv, dw⟩ := dpAll2 d
    exact h Z B H ρ σ v w a b res Q R dv dw hf q
/-! len -/
def fLen : D → Option Res
  | .list ds => some (.val (.int ds.length))
  | .tuple ds => some (.val (.int ds.length))
  | .str z => if z.length ≤ 100000 then some (.val (.int z.length)) else none
  | _ => none
def rLen (K : PySem.W.Frag) : List V → Hp → VK → Prop := fun xs H Q => (∃ p ys, xs = [.ref p] ∧ (SqL K H p ys ∨ SqT K H p ys) ∧ Q (.int ys.length) H) ∨ (∃ z, xs = [.str z] ∧ z.length ≤ sizeLine ∧ Q (.int z.length) H)
theorem call_lenD : CallR X (.builtin "len") (rLen X.K) := call_len_seq.or call_len_str
theorem vLen : VCall X (rLen X.K) (f1 fLen) := v1 fun Z B H ρ σ x d res Q R hx hf q => by
  cases d <;> first | (cases hf; done) | skip
  · simp only [fLen] at hf
    split at hf
    · rename_i hl
      cases hf
      exact .inr ⟨_, by rw [dp_str hx], sz hl, q _ B H (Ex.refl _) R (.int _)⟩
    · cases hf
  · cases hf
    obtain ⟨a, vs, rfl, h1, d1⟩ := dp_lst hx
    refine .inl ⟨a, vs, rfl, .inl (R.sqL h1), ?_⟩
    rw [d1.length]
    exact q _ B H (Ex.refl _) R (.int _)
  · cases hf
    obtain ⟨a, vs, rfl, h1, d1⟩ := dp_tup hx
    refine .inl ⟨a, vs, rfl, .inr (R.sqT h1), ?_⟩
    rw [d1.length]
    exact q _ B H (Ex.refl _) R (.int _)
/-! tuple, list -/
def fTuple : D → Option Res
  | .list ds => some (.val (.tuple ds))
  | .tuple ds => some (.val (.tuple ds))
  | _ => none
theorem vTuple : VCall X (fun xs H Q => ∃ p ys, xs = [.ref p] ∧ ((SqL X.K H p ys ∧ ∀ l, H l = none → Q (.ref l) (upd H l (.tup ys))) ∨ (SqT X.K H p ys ∧ Q (.ref p) H))) (f1 fTuple) := v1 fun Z B H ρ σ x d res Q R hx hf q => by
  cases d <;> first | (cases hf; done) | skip
  · cases hf
    obtain ⟨a, vs, rfl, h1, d1⟩ := dp_lst hx
    refine ⟨a, vs, rfl, .inl ⟨R.sqL h1, fun p hp => ?_⟩⟩
    obtain ⟨B', e, R', d'⟩ := R.tup hp d1
    exact q _ B' _ e R' d'
  · cases hf
    obtain ⟨a, vs, rfl, h1, d1⟩ := dp_tup hx
    exact ⟨a, vs, rfl, .inr ⟨R.sqT h1, q _ B H (Ex.refl _) R hx⟩⟩
def fList : D → Option Res
  | .list ds => some (.new ds)
  | .tuple ds => some (.new ds)
  | _ => none
theorem vList : VCall X (fun xs H Q => ∃ p ys, xs = [.ref p] ∧ (SqL X.K H p ys ∨ SqT X.K H p ys) ∧ ∀ l, H l = none → Q (.ref l) (upd H l (.lst ys))) (f1 fList) := v1 fun Z B H ρ σ x d res Q R hx hf q => by
  cases d <;> first | (cases hf; done) | skip
  · cases hf
    obtain ⟨a, vs, rfl, h1, d1⟩ := dp_lst hx
    refine ⟨a, vs, rfl, .inl (R.sqL h1), fun p hp => ?_⟩
    obtain ⟨R', r'⟩ := R.lst hp d1
    exact q _ B _ (Ex.refl _) R' r'
  · cases hf
    obtain ⟨a, vs, rfl, h1, d1⟩ := dp_tup hx
    refine ⟨a, vs, rfl, .inr (R.sqT h1), fun p hp => ?_⟩
    obtain ⟨R', r'⟩ := R.lst hp d1
    exact q _ B _ (Ex.refl _) R' r'
/-! numbers -/
def fInt : D → Option Res
  | .int i => some (.val (.int i))
  | .bool b => some (.val (.int (if b then 1 else 0)))
  | _ => none
theorem vInt : VCall X (fun xs H Q => (∃ i, xs = [.int i] ∧ Q (.int i) H) ∨ ∃ k, xs = [.bl k] ∧ Q (.int (if k then 1 else 0)) H) (f1 fInt) := v1 fun Z B H ρ σ x d res Q R hx hf q => by
  cases d <;> first | (cases hf; done) | skip
  · cases hf; exact .inr ⟨_, by rw [dp_bool hx], q _ B H (Ex.refl _) R (.int _)⟩
  · cases hf; exact .inl ⟨_, by rw [dp_int hx], q _ B H (Ex.refl _) R (.int _)⟩
def fAbs : D → Option Res
  | .int i => some (.val (.int (if i < 0 then -i else i)))
  | _ => none
theorem vAbs : VCall X (fun xs H Q => ∃ i, xs = [.int i] ∧ Q (.int (if i < 0 then -i else i)) H) (f1 fAbs) := v1 fun Z B H ρ σ x d res Q R hx hf q => by
  cases d <;> first | (cases hf; done) | skip
  cases hf; exact ⟨_, by rw [dp_int hx], q _ B H (Ex.refl _) R (.int _)⟩
abbrev fMax := fI fun i j => if j > i then j else i
abbrev fMin := fI fun i j => if j < i then j else i
theorem vMax : VCall X (fun xs H Q => ∃ i j, xs = [.int i, .int j] ∧ Q (.int (if j > i then j else i)) H) (f2 fMax) := v2 fun Z B H ρ σ x y d e res Q R hx hy hf q => by
  cases d <;> cases e <;> first | (cases hf; done) | skip
  cases hf; exact ⟨_, _, by rw [dp_int hx, dp_int hy], q _ B H (Ex.refl _) R (.int _)⟩
theorem vMin : VCall X (fun xs H Q => ∃ i j, xs = [.int i, .int j] ∧ Q (.int (if j < i then j else i)) H) (f2 fMin) := v2 fun Z B H ρ σ x y d e res Q R hx hy hf q => by
  cases d <;> cases e <;> first | (cases hf; done) | skip
  cases hf; exact ⟨_, _, by rw [dp_int hx, dp_int hy], q _ B H (Ex.refl _) R (.int _)⟩
def fStrI : D → Option Res
  | .int i => if i.natAbs.log2 < 1920 then some (.val (.str (toString i))) else none
  | _ => none
theorem vStrI : VCall X (fun xs H Q => ∃ i, xs = [.int i] ∧ i.natAbs.log2 < 1920 ∧ Q (.str (toString i)) H) (f1 fStrI) := v1 fun Z B H ρ σ x d res Q R hx hf q => by
  cases d <;> first | (cases hf; done) | skip
  simp only [fStrI] at hf
  split at hf
  · rename_i hl
    cases hf; exact ⟨_, by rw [dp_int hx], hl, q _ B H (Ex.refl _) R (.str _)⟩
  · cases hf
def fDivmod : D → D → Option Res
  | .int i, .int j => if cDiv i j = true then some (.val (.tuple [.int (i / j), .int (i % j)])) else none
  | _, _ => none
theorem vDivmod : VCall X (fun xs H Q => ∃ i j, xs = [.int i, .int j] ∧ CDiv i j ∧ ∀ p, H p = none → Q (.ref p) (upd H p (.tup [.int (i / j), .int (i % j)]))) (f2 fDivmod) := v2 fun Z B H ρ σ x y d e res Q R hx hy hf q => by
  cases d <;> cases e <;> first | (cases hf; done) | skip
  rename_i i j
  simp only [fDivmod] at hf
  split at hf
  · rename_i hl
    cases hf
    refine ⟨i, j, by rw [dp_int hx, dp_int hy], (of_decide_eq_true hl : 0 < j ∧ j < 1073741824), fun p hp => ?_⟩
    obtain ⟨B', eb, R', d'⟩ := R.tup hp (ds := [.int (i / j), .int (i % j)]) (.cons (.int _) (.cons (.int _) .nil))
    exact q _ B' _ eb R' d'
  · cases hf
/-! all, any -/
def bools : List D → Option (List Bool)
  | [] => some []
  | .bool b :: ds => (bools ds).map (b :: ·)
  | _ => none
theorem bools_ok {K : PySem.W.Frag} {B : Hp} : ∀ {vs : List V} {ds : List D} {bs : List Bool}, DpAll K B vs ds → bools ds = some bs → vs = bs.map V.bl
  | _, [], bs, .nil, h => by cases h; rfl
  | _, d :: ds, bs, .cons hd ht, h => by
    cases d <;> first | (cases h; done) | skip
    rename_i b
    simp only [bools] at h
    cases q : bools ds with
    | none => rw [q] at h; cases h
    | some cs => rw [q] at h; cases h; rw [dp_bool hd, bools_ok ht q]; rfl
def fAll : D → Option Res
  | .list ds => (bools ds).map fun bs => .val (.bool (bs.all id))
  | _ => none
def fAny : D → Option Res
  | .list ds => (bools ds).map fun bs => .val (.bool (bs.any id))
  | _ => none
theorem vAll : VCall X (rAll X.K) (f1 fAll) := v1 fun Z B H ρ σ x d res Q R hx hf q => by
  cases d <;> first | (cases hf; done) | skip
  rename_i ds
  simp only [fAll] at hf
  cases hb : bools ds with
  | none => rw [hb] at hf; cases hf
  | some bs =>
    rw [hb] at hf
    cases hf
    obtain ⟨a, vs, rfl, h1, d1⟩ := dp_lst hx
    rw [bools_ok d1 hb] at h1
    exact ⟨a, bs, rfl, R.sqL h1, q _ B H (Ex.refl _) R (.bl _)⟩
theorem vAny : VCall X (rAny X.K) (f1 fAny) := v1 fun Z B H ρ σ x d res Q R hx hf q => by
  cases d <;> first | (cases hf; done) | skip
  rename_i ds
  simp only [fAny] at hf
  cases hb : bools ds with
  | none => rw [hb] at hf; cases hf
  | some bs =>
    rw [hb] at hf
    cases hf
    obtain ⟨a, vs, rfl, h1, d1⟩ := dp_lst hx
    rw [bools_ok d1 hb] at h1
    exact ⟨a, bs, rfl, R.sqL h1, q _ B H (Ex.refl _) R (.bl _)⟩
/-! repr -/
def fRepr (d : D) : Option Res := if d.showable = true ∧ d.depth ≤ 64 ∧ d.hasDict = false ∧ d.shown.length ≤ 1000000 then some (.val (.str d.shown)) else none
def rRepr (K : PySem.W.Frag) : List V → Hp → VK → Prop := fun xs H Q => ∃ x d, xs = [x] ∧ Dp K H x d ∧ d.showable = true ∧ d.depth ≤ 64 ∧ d.hasDict = false ∧ d.shown.length ≤ sizeLine ∧ Q (.str d.shown) H
theorem call_reprD (hg : X.A.guards = some []) (hu : X.A.units + 65 < cLine) : CallR X (.builtin "repr") (rRepr X.K) := by
  intro pins s σ H xs us Q I r h
  obtain ⟨x, d, rfl, hd, h1, h2, h3, h4, q⟩ := h
  obtain ⟨u, rfl, ru⟩ := vals1 r
  obtain ⟨as, rd⟩ := Dp.reads I d x u hd ru
  have k : ∀ {o : Str} {t tk : Nat}, o = d.shown → EP X pins σ Q (.str o t) { s with toks := tk } := fun {o t tk} e => ⟨.str d.shown, H, I.tok _, ⟨t, by rw [e]⟩, q⟩
  cases hd with
  | non => cases ru; exact PySem.P.repr_of_none (k rfl)
  | bl b => cases ru; exact PySem.P.repr_of_bool (k rfl)
  | int i => obtain ⟨t, rfl⟩ := ru; exact PySem.P.repr_of_int (by simpa [PyData.showable] using h1) (k rfl)
  | str z => obtain ⟨t, rfl⟩ := ru; exact PySem.P.repr_of_str (k rfl) h4
  | lst _ _ => cases ru; exact repr_of_reads' rd h1 (PyData.noDict_hsm h3) hg (by omega) (fun _ _ e => e) (fun h' t tk hk => ⟨.str _, H, I.kept hk, ⟨_, rfl⟩, q⟩) h4
  | tup _ _ => cases ru; exact repr_of_reads' rd h1 (PyData.noDict_hsm h3) hg (by omega) (fun _ _ e => e) (fun h' t tk hk => ⟨.str _, H, I.kept hk, ⟨_, rfl⟩, q⟩) h4
theorem vRepr : VCall X (rRepr X.K) (f1 fRepr) := v1 fun Z B H ρ σ x d res Q R hx hf q => by
  unfold fRepr at hf
  split at hf
  · rename_i h
    cases hf
    exact ⟨x, d, rfl, hx.ex R.hB, h.1, h.2.1, h.2.2.1, Nat.le_trans h.2.2.2 (by decide), q _ B H (Ex.refl _) R (.str _)⟩
  · cases hf
/-! isinstance with built-in types -/
def tyName : D → String
  | .none => "NoneType"
  | .bool _ => "bool"
  | .int _ => "int"
  | .str _ => "str"
  | .list _ => "list"
  | .tuple _ => "tuple"
  | .dict _ => "dict"
theorem tyX_of {K : PySem.W.Frag} {H : Hp} {v : V} {d : D} (h : Dp K H v d) : TyX K H v (.type (tyName d)) := by
  cases h with
  | non => exact .base .non
  | bl b => exact .base (.bl b)
  | int i => exact .base (.int i)
  | str x => exact .base (.str x)
  | lst hs _ =>
    rcases hs with (h | ⟨o, h⟩) | ⟨o, its, n, hk, hc, _⟩
    · exact .base (.lst h)
    · exact .base (.frz h)
    · exact .kList hk hc
  | tup hs _ =>
    rcases hs with (h | ⟨o, h⟩) | ⟨o, its, n, hk, hc, _⟩
    · exact .base (.tup h)
    · exact .fTuple h
    · exact .kTuple hk hc
def isT (a t : String) : Bool := a == t || (a == "bool" && t == "int")
def isTy (t : String) (d : D) : Bool := isT (tyName d) t
def tyList : List String := ["int", "bool", "str", "list", "tuple"]
def okTy (t : String) : Bool := tyList.contains t
theorem kitTab : ∀ a ∈ ["NoneType", "bool", "int", "str", "list", "tuple"], ∀ t ∈ tyList, kitB a t = some (isT a t) := by decide +kernel
theorem kit_dp {K : PySem.W.Frag} {H : Hp} {v : V} {d : D} (h : Dp K H v d) : ∀ t, okTy t = true → kitB (tyName d) t = some (isTy t d) := by
  intro t ht
  have ht' : t ∈ tyList := List.contains_iff_mem.mp ht
  refine kitTab _ ?_ t ht'
  cases h <;> simp [tyName]
def mIsi (ts : List String) (ma : En → EO) : En → EO := mUn (fun d => some (.val (.bool (ts.any fun t => isTy t d)))) ma
variable {e : Expr} {me : En → EO} {p p1 p2 pos : Pos} {x : Str}
theorem je_isi {t : String} (hm : X.mg "isinstance" = none) (he : JE X E e me) (ht : okTy t = true) (hmt : X.mg x = none) (hv : bootBuiltins x = some (.type t) := by decide +kernel) (hg : Gl X "isinstance" := by rfl) (hgt : Gl X x := by rfl) (hn : x ≠ "__name__" := by decide) (hdb : (x == ("__debug__" : Str)) = false := by decide)
    (hs : starEach [e, .Name x p2] X.env = (false, eval e X.env) :: starEach [.Name x p2] X.env := by rfl) (hs2 : starEach [.Name x p2] X.env = (false, eval (.Name x p2) X.env) :: starEach [] X.env := by rfl) (hpl : (backTo pos (starEach [.Name x p2] X.env)).any (·.1) = false := by rfl) :
    JE X E (.Call (.Name "isinstance" p) [e, .Name x p2] [] pos) (mIsi [t] me) := by
  refine ⟨(pe_callB call_isi hg hm (by decide +kernel) (pa_cons he.pe (pa_cons (pe_bltn (v := .ty t) hgt hmt hv rfl hn hdb) pa_nil hs2) hs) (he := hs) (hpl := hpl)).imp fun σ H Q h => ?_⟩
  obtain ⟨Z, B, ρ, R, h⟩ := h
  refine ⟨Z, B, ρ, R, EPost.bind (k := fun d ρ1 => .of (some (.val (.bool ([t].any fun t => isTy t d)))) ρ1) h fun d ρ1 v B1 H1 e1 R1 dx h1 => ?_⟩
  have dx' := dx.ex R1.hB
  refine ⟨v, .ty t, _, _, isTy t d, rfl, .ty t, tyX_of dx', kit_ty (kit_dp dx' t ht), ?_⟩
  have q := h1 (.bl _) B1 H1 (Ex.refl _) R1 (.bl _)
  simp only [List.any_cons, List.any_nil, Bool.or_false] at q
  exact q
theorem je_isi2 {t t' : String} {x' : Str} {p3 : Pos} {x1} (hm : X.mg "isinstance" = none) (he : JE X E e me) (ht : okTy t = true) (ht' : okTy t' = true) (hmt : X.mg x = none) (hmt' : X.mg x' = none) (hv : bootBuiltins x = some (.type t) := by decide +kernel) (hv' : bootBuiltins x' = some (.type t') := by decide +kernel)
    (hg : Gl X "isinstance" := by rfl) (hgt : Gl X x := by rfl) (hgt' : Gl X x' := by rfl) (hn : x ≠ "__name__" := by decide) (hdb : (x == ("__debug__" : Str)) = false := by decide) (hn' : x' ≠ "__name__" := by decide) (hdb' : (x' == ("__debug__" : Str)) = false := by decide)
    (hs : starEach [e, .Tuple [.Name x p2, .Name x' p3] x1 p1] X.env = (false, eval e X.env) :: starEach [.Tuple [.Name x p2, .Name x' p3] x1 p1] X.env := by rfl) (hs2 : starEach [.Tuple [.Name x p2, .Name x' p3] x1 p1] X.env = (false, eval (.Tuple [.Name x p2, .Name x' p3] x1 p1) X.env) :: starEach [] X.env := by rfl)
    (hs3 : starEach [.Name x p2, .Name x' p3] X.env = (false, eval (.Name x p2) X.env) :: starEach [.Name x' p3] X.env := by rfl) (hs4 : starEach [.Name x' p3] X.env = (false, eval (.Name x' p3) X.env) :: starEach [] X.env := by rfl)
    (hpl : (backTo pos (starEach [.Tuple [.Name x p2, .Name x' p3] x1 p1] X.env)).any (·.1) = false := by rfl) :
    JE X E (.Call (.Name "isinstance" p) [e, .Tuple [.Name x p2, .Name x' p3] x1 p1] [] pos) (mIsi [t, t'] me) := by
  refine ⟨(pe_callB call_isiT hg hm (by decide +kernel) (pa_cons he.pe (pa_cons (pe_tup (pa_cons (pe_bltn (v := .ty t) hgt hmt hv rfl hn hdb) (pa_cons (pe_bltn (v := .ty t') hgt' hmt' hv' rfl hn' hdb') pa_nil hs4) hs3)) pa_nil hs2) hs) (he := hs) (hpl := hpl)).imp fun σ H Q h => ?_⟩
  obtain ⟨Z, B, ρ, R, h⟩ := h
  refine ⟨Z, B, ρ, R, EPost.bind (k := fun d ρ1 => .of (some (.val (.bool ([t, t'].any fun t => isTy t d)))) ρ1) h fun d ρ1 v B1 H1 e1 R1 dx h1 => ⟨by show 2 ≤ sizeLine; decide, fun tp hp => ?_⟩⟩
  have dx' := dx.ex (R1.hB.trans (Ex.upd (o := .tup [.ty t, .ty t']) hp))
  refine ⟨v, tp, [.ty t, .ty t'], _, [.type t, .type t'], isTy t d || isTy t' d, rfl, upd_same, .cons (.ty _) (.cons (.ty _) .nil), tyX_of dx', ?_, ?_⟩
  · refine kitAny_cons (kit_ty (kit_dp dx' t ht)) (fun hf => ?_) (fun hb => by rw [hb, Bool.true_or])
    rw [hf, Bool.false_or]
    exact kitAny_cons (kit_ty (kit_dp dx' t' ht')) (fun hf' => by rw [hf']; exact kitAny_nil) (fun hb => hb)
  · have R2 : Rel X.K Z B1 (upd H1 tp (.tup [.ty t, .ty t'])) ρ1 σ := R1.go (Ex.refl _) (R1.hB.trans (Ex.upd hp)) (Ex.upd hp).n (fun _ _ _ => rfl) R1.nt (tabs_upd R1.tb (.inl hp))
    have q := h1 (.bl _) B1 _ (Ex.refl _) R2 (.bl _)
    simp only [List.any_cons, List.any_nil, Bool.or_false] at q
    exact q
end
end DL

set_option maxRecDepth 100000
set_option maxHeartbeats 4000000
/-! walks over lists and tuples, mixed: enumerate, zip of two, zip of three -/
namespace DL
open PySem L2 PySem.Spec PyProof.Rows

theorem vals3 {x y z : V} {us : List Value} (r : Vals [x, y, z] us) : ∃ u v w, us = [u, v, w] ∧ RelV x u ∧ RelV y v ∧ RelV z w := by
  cases r with
  | cons r1 t => cases t with | cons r2 t => cases t with | cons r3 t => cases t; exact ⟨_, _, _, rfl, r1, r2, r3⟩
inductive Kd where
  | l | t
def Sq (k : Kd) (K : PySem.W.Frag) (H : Hp) (a : Addr) (xs : List V) : Prop := match k with
  | .l => SqL K H a xs
  | .t => SqT K H a xs
def ItAt (k : Kd) (h : Heap) (it a : Addr) (i : Nat) : Prop := match k with
  | .l => h.IsListIter it a i
  | .t => h.IsTupleIter it a i
def SeAt (k : Kd) (h : Heap) (a : Addr) (its : Array Value) : Prop := match k with
  | .l => h.IsList a its
  | .t => h.IsTuple a its
def itObj (k : Kd) (a : Addr) : Obj := match k with
  | .l => { cls := .type "list_iterator", data := .fields #[.ref a, .int 0 0] }
  | .t => { cls := .type "tuple_iterator", data := .fields #[.ref a, .int 0 0] }
theorem begins_kd (k : Kd) (a : Addr) (its : Array Value) : Begins (.ref a) (itObj k a) (fun h => SeAt k h a its) := by
  cases k with
  | l => exact begins_list a its
  | t => exact begins_tuple a its
theorem itAt_new (k : Kd) {h : Heap} {it a : Addr} (e : h.get? it = some (itObj k a)) : ItAt k h it a 0 := by
  cases k with
  | l => exact ⟨_, e, rfl, rfl⟩
  | t => exact ⟨_, e, rfl, rfl⟩
theorem draws_kd {prog : Program} {w : World} {A : Around} (hh : A.handled = none) (k : Kd) (it a : Addr) (hne : a ≠ it) (its : Array Value) :
    Draws prog w A it [it, a] its.size (fun i v => its[i]? = some v) (fun i h => ItAt k h it a i ∧ SeAt k h a its) := by
  cases k with
  | l => exact Draws.list hh it a hne its
  | t => exact Draws.tuple hh it a hne its
theorem ItAt.at {k : Kd} {h h' : Heap} {it a : Addr} {i : Nat} (x : ItAt k h it a i) (e : ∀ o, h.get? it = some o → h'.get? it = some o) : ItAt k h' it a i := by
  cases k with
  | l => exact Heap.IsListIter.at x fun o q => e o q
  | t => exact Heap.IsTupleIter.at x fun o q => e o q
theorem ItAt.obj {k : Kd} {h : Heap} {it a : Addr} {i : Nat} (x : ItAt k h it a i) : ∃ o, h.get? it = some o ∧ ∀ v, o.data ≠ .cell v := by
  cases k with
  | l => obtain ⟨o, h1, _, h2⟩ := x; exact ⟨o, h1, fun v q => by rw [h2] at q; cases q⟩
  | t => obtain ⟨o, h1, _, h2⟩ := x; exact ⟨o, h1, fun v q => by rw [h2] at q; cases q⟩
section
variable {X : Cx} {pins : List (Addr × Obj)} {σ : L2.St} {H : Hp} {s : Shared} {a : Addr} {xs ys : List V} {k : Kd}
theorem inv_sq (I : L2.Inv X pins σ H s) (h : Sq k X.K H a xs) : ∃ its : List Value, Vals xs its ∧ SeAt k s.heap a its.toArray ∧ a < s.heap.objs.size := by
  cases k with
  | l =>
    obtain ⟨its, r, p, _⟩ := I.list h
    exact ⟨its, r, p.isList, p.lt⟩
  | t =>
    obtain ⟨its, r, p, _⟩ := I.tuple h
    exact ⟨its, r, p, p.lt⟩
theorem inv_sq_inj (I : L2.Inv X pins σ H s) (h : Sq k X.K H a xs) (h' : Sq k X.K H a ys) : xs = ys := by
  cases k with
  | l => exact I.list_inj h h'
  | t => exact I.tuple_inj h h'
end

/-! ### enumerate -/
def IteK (k : Kd) (K : PySem.W.Frag) (a : Addr) : It :=
  ⟨fun i H => ∃ (xs : List V) (x : V), Sq k K H a xs ∧ xs[i]? = some x, fun i H v H' => ∃ T x, v = .ref T ∧ H T = none ∧ H' = upd H T (.tup [.int (i : Nat), x]) ∧ ∀ xs, Sq k K H a xs → xs[i]? = some x, fun i H => ∃ xs : List V, Sq k K H a xs ∧ xs.length = i⟩
theorem turn_enumK {P : Program} {w : World} {K : PySem.W.Frag} {elts : List Expr} {kk : Nat} {tpos : Pos} (k : Kd) (a e it : Addr) (ha : a ≠ e ∧ a ≠ it) :
    Turn P w K (.Tuple elts kk tpos) (IteK k K a) [e, it] e (fun i h => (∃ old, IsEnum h e it ((i : Nat) : Int) old) ∧ ItAt k h it a i ∧ e ≠ it) where
  mem := by simp
  obj := fun i h st b hb => by
    obtain ⟨⟨old, he⟩, hit, _⟩ := st
    have e' : b = e ∨ b = it := by simpa using hb
    rcases e' with z | z
    · rw [z]; exact ⟨_, he, fun v q => nomatch q⟩
    · rw [z]; exact hit.obj
  keep := fun i h h' st k => let ⟨⟨old, he⟩, hi, hne⟩ := st; ⟨⟨old, k e (by simp) _ he⟩, hi.at fun o q => k it (by simp) o q, hne⟩
  item := by
    intro X hP hw hK hc i pins s σ H E I hf st hg
    subst hP hw hK
    obtain ⟨⟨old, he⟩, hit, hne⟩ := st
    obtain ⟨xs, x, hq, hx⟩ := hg
    obtain ⟨its, rv, p, hal⟩ := inv_sq I hq
    obtain ⟨u, hu, ru⟩ := rv.get hx
    have G := GoesN.enumFrom (prog := X.prog) (w := X.w) (A := X.A) (elts := elts) (x1 := kk) (pos := tpos) 0 (draws_kd (A := X.A.in1) (by exact I.ok.hd hc) k it a ha.2 its.toArray) e hne (by simp [hne, ha.1.symm]) (by simp)
    have hi : i < its.toArray.size := by
      have := (List.getElem?_eq_some_iff.mp hu).1
      simpa using this
    refine wpAny_mono (G.goes i s _ E hi ⟨⟨old, by rw [Int.zero_add]; exact he⟩, hit, p⟩ fun v h' tk hY st' hk htk => ?_) (fun r s1 q => q) (fun _ _ q => q)
    obtain ⟨T, t, y, rfl, hT, hy, hTup⟩ := hY
    obtain ⟨⟨old', he'⟩, hit', _⟩ := st'
    have ey : y = u := by
      have : its.toArray[i]? = some u := by simpa using hu
      rw [this] at hy
      exact (Option.some.inj hy).symm
    subst ey
    have new : ObjOk X.prog X.w (upd H T (.tup [.int (i : Nat), x])) h' T (.tup [.int (i : Nat), x]) := by
      obtain ⟨o, ho, hcl, n, hd⟩ := hTup
      refine ⟨by show 2 ≤ sizeLine; decide, [.int (0 + (i : Int)) t, y], .cons ⟨t, by rw [Int.zero_add]⟩ (.cons ru .nil), o, ho, hcl, n, by simpa using hd⟩
    have I1 : L2.Inv X pins σ (upd H T (.tup [.int (i : Nat), x])) { s with heap := h', toks := tk } :=
      I.turnedNew (ch := [e, it]) hk hf hT new
    refine ⟨.ref T, _, I1, rfl, ⟨T, x, rfl, I.hok.fresh hT, rfl, fun ys hy' => by rw [inv_sq_inj I hy' hq]; exact hx⟩, ⟨⟨old', by rw [Int.zero_add] at he'; exact he'⟩, hit', hne⟩, fun b hb => ?_⟩
    have hb' : b < s.heap.objs.size := by
      have e' : b = e ∨ b = it := by simpa using hb
      rcases e' with z | z
      · rw [z]; exact Heap.lt_size he
      · rw [z]; obtain ⟨o, q, _⟩ := hit.obj; exact Heap.lt_size q
    rw [upd_ne (Nat.ne_of_lt (Nat.lt_of_lt_of_le hb' hT))]
    exact (hf b hb).1
  done := by
    intro X hP hw hK hc i pins s σ H E I hf st hg
    subst hP hw hK
    obtain ⟨⟨old, he⟩, hit, hne⟩ := st
    obtain ⟨xs, hq, hx⟩ := hg
    obtain ⟨its, rv, p, hal⟩ := inv_sq I hq
    have G := GoesN.enumFrom (prog := X.prog) (w := X.w) (A := X.A) (elts := elts) (x1 := kk) (pos := tpos) 0 (draws_kd (A := X.A.in1) (by exact I.ok.hd hc) k it a ha.2 its.toArray) e hne (by simp [hne, ha.1.symm]) (by simp)
    have ei : its.toArray.size = i := by rw [List.size_toArray, ← rv.length]; exact hx
    subst ei
    exact G.stops s _ E ⟨⟨old, by rw [Int.zero_add]; exact he⟩, hit, p⟩ fun h' tk hk htk => I.turnedL (ch := [e, it]) hk hf
  self := fun A i s Q E st h => let ⟨⟨_, he⟩, _⟩ := st; wpAny_pyIter_enum he h
set_option maxHeartbeats 1000000 in
theorem meets_enumerate_newB1 {v : Value} {o : Obj} {H : Heap → Prop} (B : Begins v o H) :
    Meets (Builtin.«enumerate.__new__» ⟨[.type "enumerate", v], []⟩) (fun _ R s => H s.heap ∧
      R (.ok (.ret (.ref (s.heap.push o).objs.size))) { s with heap := (s.heap.push o).push { cls := .type "enumerate", data := .fields #[.none, .bool false, .ref s.heap.objs.size, rawInt 0, .none, .none] } }) :=
  .of_wp fun prog w A R s h => by
    obtain ⟨hp, g, d, tk, os⟩ := s; obtain ⟨h1, h⟩ := h
    have hsub := sub_enumerate
    have q1 : ∀ {A' : Around} {E : Value → Shared → Prop} {Q : Value → Shared → Prop}, Q (.ref hp.objs.size) ⟨hp.push o, g, d, tk, os⟩ → wpAny (model prog w) A' (pyIter v) Q E ⟨hp, g, d, tk, os⟩ :=
      fun q => B.iter prog w _ _ ⟨hp, g, d, tk, os⟩ _ h1 q
    wp_walk using q1
    refine wpAny_stack_any fun st => wpAny_pure ?_
    split
    · rename_i c _ _ _ _ _
      cases (c == Value.type "enumerate")
      · wp_walk using q1
        exact ⟨_, rfl, h⟩
      · wp_walk using q1
        exact ⟨_, rfl, h⟩
    · wp_walk using q1
      exact ⟨_, rfl, h⟩
theorem enum_begins1 {prog : Program} {w : World} {A : Around} {E : Value → Shared → Prop} {s : Shared} {v : Value} {o : Obj} {H : Heap → Prop} {Q : Value → Shared → Prop} (B : Begins v o H) (h1 : H s.heap)
    (h : ∀ h', IsEnum h' (s.heap.objs.size + 1) s.heap.objs.size 0 .none → h'.get? s.heap.objs.size = some o → h'.objs.size = s.heap.objs.size + 2 →
      (∀ b o, s.heap.get? b = some o → h'.get? b = some o) → Q (.ref (s.heap.objs.size + 1)) { s with heap := h' }) :
    wpAny (model prog w) A (call (.type "enumerate") [v]) Q E s := by
  refine callType_new F.called_enumerate (by decide) (F.typeCall_enumerate_1 _) (F.newCall_enumerate_1 _) (fun obj => F.args_object_init_2 obj _) F.entry_enumerate_new
    (meets_enumerate_newB1 B) ⟨h1, ?_⟩
  have hz : (s.heap.push o).objs.size = s.heap.objs.size + 1 := Heap.size_push ..
  show _ ∧ _
  rw [hz]
  have he : IsEnum ((s.heap.push o).push { cls := .type "enumerate", data := .fields #[.none, .bool false, .ref s.heap.objs.size, rawInt 0, .none, .none] }) (s.heap.objs.size + 1) s.heap.objs.size 0 .none := by
    have := Heap.get?_push_size (s.heap.push o) (o := { cls := .type "enumerate", data := .fields #[.none, .bool false, .ref s.heap.objs.size, rawInt 0, .none, .none] }) rfl
    rw [hz] at this; exact this
  refine ⟨⟨_, he, rfl⟩, h _ he (Heap.get?_push_of_some _ (Heap.get?_push_size _ B.free)) (by rw [Heap.size_push, hz]) fun b o x => Heap.get?_push_of_some _ (Heap.get?_push_of_some _ x)⟩
def iEnumK (K : PySem.W.Frag) (ta : TA) : TI := fun σ H R => ta σ H fun vs H1 => ∃ k a xs, vs = [.ref a] ∧ Sq k K H1 a xs ∧ R (IteK k K a) H1
theorem pi_enumK {X : Cx} {e : Expr} {ta : TA} {p pos tpos : Pos} {elts : List Expr} {kk : Nat} (hg : Gl X "enumerate") (hm : X.mg "enumerate" = none) (ha : PA X [e] ta) (hs : starEach [e] X.env = [(false, eval e X.env)] := by rfl) :
    PI X (.Tuple elts kk tpos) (.Call (.Name "enumerate" p) [e] [] pos) (iEnumK X.K ta) := by
  refine ⟨fun pins s σ H R I h => ?_⟩
  refine Call_ (ld_blt I hg hm boot_enumerate (PyProof.Rows.callWith_type1 (thn (ha.run pos pins s σ H _ I h) fun us s1 ⟨vs, H1, I1, r1, q1⟩ => ?_) hs rfl))
  obtain ⟨k, a, xs, ex, hq, q⟩ := q1
  subst ex
  cases r1 with
  | cons r rr =>
    cases rr
    cases r
    obtain ⟨its, rv, p', hal⟩ := inv_sq I1 hq
    refine enum_begins1 (begins_kd k a its.toArray) p' fun h' he hit hsz hk => wpAny_pyIter_enum he ?_
    have I2 : L2.Inv X pins σ H1 { s1 with heap := h' } := I1.kept (t' := s1.toks) hk
    refine ⟨s1.heap.objs.size + 1, [s1.heap.objs.size + 1, s1.heap.objs.size], _, _, H1, rfl, I2, turn_enumK k a (s1.heap.objs.size + 1) s1.heap.objs.size ⟨Nat.ne_of_lt (Nat.lt_succ_of_lt hal), Nat.ne_of_lt hal⟩, ⟨⟨.none, he⟩, itAt_new k hit, Nat.succ_ne_self _⟩, fun b hb => ?_, q⟩
    have e' : b = s1.heap.objs.size + 1 ∨ b = s1.heap.objs.size := by simpa using hb
    have hle : s1.heap.objs.size ≤ b := by
      rcases e' with z | z
      · rw [z]; exact Nat.le_add_right _ _
      · rw [z]; exact Nat.le_refl _
    exact I1.fpOk hle (I1.hok.fresh hle)
/-! ### zip of 2 -/
def ItzK2 (k1 k2 : Kd) (K : PySem.W.Frag) (a1 a2 : Addr) : It :=
  ⟨fun i H => ∃ (xs1 xs2 : List V) (x1 x2 : V), Sq k1 K H a1 xs1 ∧ Sq k2 K H a2 xs2 ∧ xs1[i]? = some x1 ∧ xs2[i]? = some x2, fun i H v H' => ∃ T x1 x2, v = .ref T ∧ H T = none ∧ H' = upd H T (.tup [x1, x2]) ∧ (∀ xs, Sq k1 K H a1 xs → xs[i]? = some x1) ∧ (∀ xs, Sq k2 K H a2 xs → xs[i]? = some x2), fun i H => ∃ xs1 xs2 : List V, Sq k1 K H a1 xs1 ∧ Sq k2 K H a2 xs2 ∧ min (xs1.length) xs2.length = i⟩
theorem turn_zipK2 {P : Program} {w : World} {K : PySem.W.Frag} {elts : List Expr} {kk : Nat} {tpos : Pos} (k1 k2 : Kd) {a1 a2 z TI TO i1 i2 : Addr} (S : ZipSep2 z TI TO i1 i2 [i1, a1] [i2, a2]) (ne : a1 ≠ i1 ∧ a2 ≠ i2) :
    Turn P w K (.Tuple elts kk tpos) (ItzK2 k1 k2 K a1 a2) [z, TI, TO, i1, i2] z (fun i h => IsZip h z TI TO .none ∧ IsTupOf2 h TI (.ref i1) (.ref i2) ∧ (∃ c1 c2, IsTupOf2 h TO c1 c2) ∧ ItAt k1 h i1 a1 i ∧ ItAt k2 h i2 a2 i) where
  mem := by simp
  obj := fun i h st c hc => by
    obtain ⟨hz, hTI, ⟨c1, c2, hTO⟩, h1, h2⟩ := st
    have e' : c = z ∨ c = TI ∨ c = TO ∨ c = i1 ∨ c = i2 := by simpa using hc
    rcases e' with q | q | q | q | q
    · rw [q]; exact ⟨_, hz, fun v q => nomatch q⟩
    · rw [q]; exact ⟨_, hTI, fun v q => nomatch q⟩
    · rw [q]; exact ⟨_, hTO, fun v q => nomatch q⟩
    · rw [q]; exact h1.obj
    · rw [q]; exact h2.obj
  keep := fun i h h' st k => by
    obtain ⟨hz, hTI, ⟨c1, c2, hTO⟩, h1, h2⟩ := st
    exact ⟨k z (by simp) _ hz, k TI (by simp) _ hTI, ⟨c1, c2, k TO (by simp) _ hTO⟩, h1.at fun o q => k i1 (by simp) o q, h2.at fun o q => k i2 (by simp) o q⟩
  item := by
    intro X hP hw hK hc i pins s σ H E I hf st hg
    subst hP hw hK
    obtain ⟨hz, hTI, ⟨c1, c2, hTO⟩, h1, h2⟩ := st
    obtain ⟨xs1, xs2, x1, x2, hq1, hq2, hx1, hx2⟩ := hg
    obtain ⟨its1, rv1, p1, _⟩ := inv_sq I hq1
    obtain ⟨u1, hu1, ru1⟩ := rv1.get hx1
    obtain ⟨its2, rv2, p2, _⟩ := inv_sq I hq2
    obtain ⟨u2, hu2, ru2⟩ := rv2.get hx2
    have G := GoesN.zip2 (prog := X.prog) (w := X.w) (A := X.A) (elts := elts) (x1 := kk) (pos := tpos) S (draws_kd (A := X.A.in1) (by exact I.ok.hd hc) k1 i1 a1 ne.1 its1.toArray) (draws_kd (A := X.A.in1) (by exact I.ok.hd hc) k2 i2 a2 ne.2 its2.toArray)
    have hi : i < min (its1.toArray.size) its2.toArray.size := by
      have z1 := (List.getElem?_eq_some_iff.mp hu1).1
      have z2 := (List.getElem?_eq_some_iff.mp hu2).1
      simp only [List.size_toArray]
      omega
    refine wpAny_mono (G.goes i s _ E hi ⟨hz, hTI, ⟨c1, c2, hTO⟩, ⟨h1, p1⟩, ⟨h2, p2⟩⟩ fun v h' tk hY st' hk htk => ?_) (fun r s1 q => q) (fun _ _ q => q)
    obtain ⟨T, y1, y2, rfl, hT, hy1, hy2, hTup⟩ := hY
    obtain ⟨hz', hTI', hTO', ⟨h1', _⟩, ⟨h2', _⟩⟩ := st'
    have ey1 : y1 = u1 := by
      have e : its1.toArray[i]? = some u1 := by simpa using hu1
      rw [e] at hy1
      exact (Option.some.inj hy1).symm
    subst ey1
    have ey2 : y2 = u2 := by
      have e : its2.toArray[i]? = some u2 := by simpa using hu2
      rw [e] at hy2
      exact (Option.some.inj hy2).symm
    subst ey2
    have new : ObjOk X.prog X.w (upd H T (.tup [x1, x2])) h' T (.tup [x1, x2]) := by
      obtain ⟨o, ho, hcl, n, hd⟩ := hTup
      exact ⟨by show 2 ≤ sizeLine; decide, [y1, y2], .cons ru1 (.cons ru2 .nil), o, ho, hcl, n, by simpa using hd⟩
    have I1 : L2.Inv X pins σ (upd H T (.tup [x1, x2])) { s with heap := h', toks := tk } :=
      I.turnedNew (ch := [z, TI, TO, i1, i2]) (fun b o hb q => hk b o (fun z => hb (by simp only [List.mem_cons, List.not_mem_nil, or_false] at z ⊢; rcases z with z | z | z | z <;> simp [z])) q) hf hT new
    refine ⟨.ref T, _, I1, rfl, ⟨T, x1, x2, rfl, I.hok.fresh hT, rfl, fun ys hy => by rw [inv_sq_inj I hy hq1]; exact hx1, fun ys hy => by rw [inv_sq_inj I hy hq2]; exact hx2⟩, ⟨hz', hTI', hTO', h1', h2'⟩, fun b hb => ?_⟩
    have hb' : b < s.heap.objs.size := by
      have e' : b = z ∨ b = TI ∨ b = TO ∨ b = i1 ∨ b = i2 := by simpa using hb
      rcases e' with q | q | q | q | q
      · rw [q]; exact Heap.lt_size hz
      · rw [q]; exact Heap.lt_size hTI
      · rw [q]; exact Heap.lt_size hTO
      · rw [q]; obtain ⟨o, q, _⟩ := h1.obj; exact Heap.lt_size q
      · rw [q]; obtain ⟨o, q, _⟩ := h2.obj; exact Heap.lt_size q
    rw [upd_ne (Nat.ne_of_lt (Nat.lt_of_lt_of_le hb' hT))]
    exact (hf b hb).1
  done := by
    intro X hP hw hK hc i pins s σ H E I hf st hg
    subst hP hw hK
    obtain ⟨hz, hTI, ⟨c1, c2, hTO⟩, h1, h2⟩ := st
    obtain ⟨xs1, xs2, hq1, hq2, hx⟩ := hg
    obtain ⟨its1, rv1, p1, _⟩ := inv_sq I hq1
    have l1 := rv1.length
    obtain ⟨its2, rv2, p2, _⟩ := inv_sq I hq2
    have l2 := rv2.length
    have G := GoesN.zip2 (prog := X.prog) (w := X.w) (A := X.A) (elts := elts) (x1 := kk) (pos := tpos) S (draws_kd (A := X.A.in1) (by exact I.ok.hd hc) k1 i1 a1 ne.1 its1.toArray) (draws_kd (A := X.A.in1) (by exact I.ok.hd hc) k2 i2 a2 ne.2 its2.toArray)
    have ei : min (its1.toArray.size) its2.toArray.size = i := by
      simp only [List.size_toArray]
      omega
    subst ei
    exact G.stops s _ E ⟨hz, hTI, ⟨c1, c2, hTO⟩, ⟨h1, p1⟩, ⟨h2, p2⟩⟩ fun h' tk hk htk => I.turnedL (ch := [z, TI, TO, i1, i2]) (fun b o hb q => hk b o (fun z => hb (by simp only [List.mem_cons, List.not_mem_nil, or_false] at z ⊢; rcases z with z | z | z | z <;> simp [z])) q) hf
  self := fun A i s Q E st h => wpAny_pyIter_zip st.1 h
def iZipK2 (K : PySem.W.Frag) (ta : TA) : TI := fun σ H R => ta σ H fun vs H1 => ∃ k1 k2 a1 a2 xs1 xs2, vs = [.ref a1, .ref a2] ∧ Sq k1 K H1 a1 xs1 ∧ Sq k2 K H1 a2 xs2 ∧ R (ItzK2 k1 k2 K a1 a2) H1
theorem pi_zipK2 {X : Cx} {e1 e2 : Expr} {ta : TA} {p pos tpos : Pos} {elts : List Expr} {kk : Nat} (hg : Gl X "zip") (hm : X.mg "zip" = none) (ha : PA X [e1, e2] ta)
    (hs : starEach [e1, e2] X.env = (false, eval e1 X.env) :: starEach [e2] X.env := by rfl) (hpl : (backTo pos (starEach [e2] X.env)).any (·.1) = false := by rfl) :
    PI X (.Tuple elts kk tpos) (.Call (.Name "zip" p) [e1, e2] [] pos) (iZipK2 X.K ta) := by
  refine ⟨fun pins s σ H R I h => ?_⟩
  refine Call_ (ld_blt I hg hm PyProof.Rows.boot_zip (PyProof.Rows.callWith_type1 (thn (ha.run pos pins s σ H _ I h) fun us s1 ⟨vs, H1, I1, r1, q1⟩ => ?_) hs hpl))
  obtain ⟨k1, k2, a1, a2, xs1, xs2, ex, hq1, hq2, q⟩ := q1
  subst ex
  obtain ⟨u1, u2, rfl, rr1, rr2⟩ := vals2 r1
  cases rr1
  cases rr2
  obtain ⟨its1, rv1, p1, l1⟩ := inv_sq I1 hq1
  obtain ⟨its2, rv2, p2, l2⟩ := inv_sq I1 hq2
  refine zip_begins2 (begins_kd k1 a1 its1.toArray) (begins_kd k2 a2 its2.toArray) p1 p2 ?_
  intro h' hz hTI hTO h1 h2 hsz hk
  refine wpAny_pyIter_zip hz ?_
  have I2 : L2.Inv X pins σ H1 { s1 with heap := h' } := I1.kept (t' := s1.toks) hk
  refine ⟨s1.heap.objs.size + 4, [s1.heap.objs.size + 4, s1.heap.objs.size + 2, s1.heap.objs.size + 3, s1.heap.objs.size, s1.heap.objs.size + 1], _, _, H1, rfl, I2, turn_zipK2 k1 k2 (zip_sep2 (N := s1.heap.objs.size) (by intro b hb; simp only [List.mem_singleton] at hb; subst hb; exact l1) (by intro b hb; simp only [List.mem_singleton] at hb; subst hb; exact l2)) ⟨Nat.ne_of_lt (Nat.lt_of_lt_of_le l1 (Nat.le_add_right _ 0)), Nat.ne_of_lt (Nat.lt_of_lt_of_le l2 (Nat.le_add_right _ 1))⟩, ⟨hz, hTI, ⟨_, _,  hTO⟩, itAt_new k1 h1, itAt_new k2 h2⟩, fun c hcm => ?_, q⟩
  have e' : c = s1.heap.objs.size + 4 ∨ c = s1.heap.objs.size + 2 ∨ c = s1.heap.objs.size + 3 ∨ c = s1.heap.objs.size ∨ c = s1.heap.objs.size + 1 := by simpa using hcm
  have hle : s1.heap.objs.size ≤ c := by
    rcases e' with z | z | z | z | z <;> rw [z] <;> first | exact Nat.le_add_right _ _ | exact Nat.le_refl _
  exact I1.fpOk hle (I1.hok.fresh hle)
/-! ### zip of 3 -/
def ItzK3 (k1 k2 k3 : Kd) (K : PySem.W.Frag) (a1 a2 a3 : Addr) : It :=
  ⟨fun i H => ∃ (xs1 xs2 xs3 : List V) (x1 x2 x3 : V), Sq k1 K H a1 xs1 ∧ Sq k2 K H a2 xs2 ∧ Sq k3 K H a3 xs3 ∧ xs1[i]? = some x1 ∧ xs2[i]? = some x2 ∧ xs3[i]? = some x3, fun i H v H' => ∃ T x1 x2 x3, v = .ref T ∧ H T = none ∧ H' = upd H T (.tup [x1, x2, x3]) ∧ (∀ xs, Sq k1 K H a1 xs → xs[i]? = some x1) ∧ (∀ xs, Sq k2 K H a2 xs → xs[i]? = some x2) ∧ (∀ xs, Sq k3 K H a3 xs → xs[i]? = some x3), fun i H => ∃ xs1 xs2 xs3 : List V, Sq k1 K H a1 xs1 ∧ Sq k2 K H a2 xs2 ∧ Sq k3 K H a3 xs3 ∧ min (min (xs1.length) xs2.length) xs3.length = i⟩
theorem turn_zipK3 {P : Program} {w : World} {K : PySem.W.Frag} {elts : List Expr} {kk : Nat} {tpos : Pos} (k1 k2 k3 : Kd) {a1 a2 a3 z TI TO i1 i2 i3 : Addr} (S : ZipSep3 z TI TO i1 i2 i3 [i1, a1] [i2, a2] [i3, a3]) (ne : a1 ≠ i1 ∧ a2 ≠ i2 ∧ a3 ≠ i3) :
    Turn P w K (.Tuple elts kk tpos) (ItzK3 k1 k2 k3 K a1 a2 a3) [z, TI, TO, i1, i2, i3] z (fun i h => IsZip h z TI TO .none ∧ IsTupOf3 h TI (.ref i1) (.ref i2) (.ref i3) ∧ (∃ c1 c2 c3, IsTupOf3 h TO c1 c2 c3) ∧ ItAt k1 h i1 a1 i ∧ ItAt k2 h i2 a2 i ∧ ItAt k3 h i3 a3 i) where
  mem := by simp
  obj := fun i h st c hc => by
    obtain ⟨hz, hTI, ⟨c1, c2, c3, hTO⟩, h1, h2, h3⟩ := st
    have e' : c = z ∨ c = TI ∨ c = TO ∨ c = i1 ∨ c = i2 ∨ c = i3 := by simpa using hc
    rcases e' with q | q | q | q | q | q
    · rw [q]; exact ⟨_, hz, fun v q => nomatch q⟩
    · rw [q]; exact ⟨_, hTI, fun v q => nomatch q⟩
    · rw [q]; exact ⟨_, hTO, fun v q => nomatch q⟩
    · rw [q]; exact h1.obj
    · rw [q]; exact h2.obj
    · rw [q]; exact h3.obj
  keep := fun i h h' st k => by
    obtain ⟨hz, hTI, ⟨c1, c2, c3, hTO⟩, h1, h2, h3⟩ := st
    exact ⟨k z (by simp) _ hz, k TI (by simp) _ hTI, ⟨c1, c2, c3, k TO (by simp) _ hTO⟩, h1.at fun o q => k i1 (by simp) o q, h2.at fun o q => k i2 (by simp) o q, h3.at fun o q => k i3 (by simp) o q⟩
  item := by
    intro X hP hw hK hc i pins s σ H E I hf st hg
    subst hP hw hK
    obtain ⟨hz, hTI, ⟨c1, c2, c3, hTO⟩, h1, h2, h3⟩ := st
    obtain ⟨xs1, xs2, xs3, x1, x2, x3, hq1, hq2, hq3, hx1, hx2, hx3⟩ := hg
    obtain ⟨its1, rv1, p1, _⟩ := inv_sq I hq1
    obtain ⟨u1, hu1, ru1⟩ := rv1.get hx1
    obtain ⟨its2, rv2, p2, _⟩ := inv_sq I hq2
    obtain ⟨u2, hu2, ru2⟩ := rv2.get hx2
    obtain ⟨its3, rv3, p3, _⟩ := inv_sq I hq3
    obtain ⟨u3, hu3, ru3⟩ := rv3.get hx3
    have G := GoesN.zip3 (prog := X.prog) (w := X.w) (A := X.A) (elts := elts) (x1 := kk) (pos := tpos) S (draws_kd (A := X.A.in1) (by exact I.ok.hd hc) k1 i1 a1 ne.1 its1.toArray) (draws_kd (A := X.A.in1) (by exact I.ok.hd hc) k2 i2 a2 ne.2.1 its2.toArray) (draws_kd (A := X.A.in1) (by exact I.ok.hd hc) k3 i3 a3 ne.2.2 its3.toArray)
    have hi : i < min (min (its1.toArray.size) its2.toArray.size) its3.toArray.size := by
      have z1 := (List.getElem?_eq_some_iff.mp hu1).1
      have z2 := (List.getElem?_eq_some_iff.mp hu2).1
      have z3 := (List.getElem?_eq_some_iff.mp hu3).1
      simp only [List.size_toArray]
      omega
    refine wpAny_mono (G.goes i s _ E hi ⟨hz, hTI, ⟨c1, c2, c3, hTO⟩, ⟨h1, p1⟩, ⟨h2, p2⟩, ⟨h3, p3⟩⟩ fun v h' tk hY st' hk htk => ?_) (fun r s1 q => q) (fun _ _ q => q)
    obtain ⟨T, y1, y2, y3, rfl, hT, hy1, hy2, hy3, hTup⟩ := hY
    obtain ⟨hz', hTI', hTO', ⟨h1', _⟩, ⟨h2', _⟩, ⟨h3', _⟩⟩ := st'
    have ey1 : y1 = u1 := by
      have e : its1.toArray[i]? = some u1 := by simpa using hu1
      rw [e] at hy1
      exact (Option.some.inj hy1).symm
    subst ey1
    have ey2 : y2 = u2 := by
      have e : its2.toArray[i]? = some u2 := by simpa using hu2
      rw [e] at hy2
      exact (Option.some.inj hy2).symm
    subst ey2
    have ey3 : y3 = u3 := by
      have e : its3.toArray[i]? = some u3 := by simpa using hu3
      rw [e] at hy3
      exact (Option.some.inj hy3).symm
    subst ey3
    have new : ObjOk X.prog X.w (upd H T (.tup [x1, x2, x3])) h' T (.tup [x1, x2, x3]) := by
      obtain ⟨o, ho, hcl, n, hd⟩ := hTup
      exact ⟨by show 3 ≤ sizeLine; decide, [y1, y2, y3], .cons ru1 (.cons ru2 (.cons ru3 .nil)), o, ho, hcl, n, by simpa using hd⟩
    have I1 : L2.Inv X pins σ (upd H T (.tup [x1, x2, x3])) { s with heap := h', toks := tk } :=
      I.turnedNew (ch := [z, TI, TO, i1, i2, i3]) (fun b o hb q => hk b o (fun z => hb (by simp only [List.mem_cons, List.not_mem_nil, or_false] at z ⊢; rcases z with z | z | z | z | z <;> simp [z])) q) hf hT new
    refine ⟨.ref T, _, I1, rfl, ⟨T, x1, x2, x3, rfl, I.hok.fresh hT, rfl, fun ys hy => by rw [inv_sq_inj I hy hq1]; exact hx1, fun ys hy => by rw [inv_sq_inj I hy hq2]; exact hx2, fun ys hy => by rw [inv_sq_inj I hy hq3]; exact hx3⟩, ⟨hz', hTI', hTO', h1', h2', h3'⟩, fun b hb => ?_⟩
    have hb' : b < s.heap.objs.size := by
      have e' : b = z ∨ b = TI ∨ b = TO ∨ b = i1 ∨ b = i2 ∨ b = i3 := by simpa using hb
      rcases e' with q | q | q | q | q | q
      · rw [q]; exact Heap.lt_size hz
      · rw [q]; exact Heap.lt_size hTI
      · rw [q]; exact Heap.lt_size hTO
      · rw [q]; obtain ⟨o, q, _⟩ := h1.obj; exact Heap.lt_size q
      · rw [q]; obtain ⟨o, q, _⟩ := h2.obj; exact Heap.lt_size q
      · rw [q]; obtain ⟨o, q, _⟩ := h3.obj; exact Heap.lt_size q
    rw [upd_ne (Nat.ne_of_lt (Nat.lt_of_lt_of_le hb' hT))]
    exact (hf b hb).1
  done := by
    intro X hP hw hK hc i pins s σ H E I hf st hg
    subst hP hw hK
    obtain ⟨hz, hTI, ⟨c1, c2, c3, hTO⟩, h1, h2, h3⟩ := st
    obtain ⟨xs1, xs2, xs3, hq1, hq2, hq3, hx⟩ := hg
    obtain ⟨its1, rv1, p1, _⟩ := inv_sq I hq1
    have l1 := rv1.length
    obtain ⟨its2, rv2, p2, _⟩ := inv_sq I hq2
    have l2 := rv2.length
    obtain ⟨its3, rv3, p3, _⟩ := inv_sq I hq3
    have l3 := rv3.length
    have G := GoesN.zip3 (prog := X.prog) (w := X.w) (A := X.A) (elts := elts) (x1 := kk) (pos := tpos) S (draws_kd (A := X.A.in1) (by exact I.ok.hd hc) k1 i1 a1 ne.1 its1.toArray) (draws_kd (A := X.A.in1) (by exact I.ok.hd hc) k2 i2 a2 ne.2.1 its2.toArray) (draws_kd (A := X.A.in1) (by exact I.ok.hd hc) k3 i3 a3 ne.2.2 its3.toArray)
    have ei : min (min (its1.toArray.size) its2.toArray.size) its3.toArray.size = i := by
      simp only [List.size_toArray]
      omega
    subst ei
    exact G.stops s _ E ⟨hz, hTI, ⟨c1, c2, c3, hTO⟩, ⟨h1, p1⟩, ⟨h2, p2⟩, ⟨h3, p3⟩⟩ fun h' tk hk htk => I.turnedL (ch := [z, TI, TO, i1, i2, i3]) (fun b o hb q => hk b o (fun z => hb (by simp only [List.mem_cons, List.not_mem_nil, or_false] at z ⊢; rcases z with z | z | z | z | z <;> simp [z])) q) hf
  self := fun A i s Q E st h => wpAny_pyIter_zip st.1 h
def iZipK3 (K : PySem.W.Frag) (ta : TA) : TI := fun σ H R => ta σ H fun vs H1 => ∃ k1 k2 k3 a1 a2 a3 xs1 xs2 xs3, vs = [.ref a1, .ref a2, .ref a3] ∧ Sq k1 K H1 a1 xs1 ∧ Sq k2 K H1 a2 xs2 ∧ Sq k3 K H1 a3 xs3 ∧ R (ItzK3 k1 k2 k3 K a1 a2 a3) H1
theorem pi_zipK3 {X : Cx} {e1 e2 e3 : Expr} {ta : TA} {p pos tpos : Pos} {elts : List Expr} {kk : Nat} (hg : Gl X "zip") (hm : X.mg "zip" = none) (ha : PA X [e1, e2, e3] ta)
    (hs : starEach [e1, e2, e3] X.env = (false, eval e1 X.env) :: starEach [e2, e3] X.env := by rfl) (hpl : (backTo pos (starEach [e2, e3] X.env)).any (·.1) = false := by rfl) :
    PI X (.Tuple elts kk tpos) (.Call (.Name "zip" p) [e1, e2, e3] [] pos) (iZipK3 X.K ta) := by
  refine ⟨fun pins s σ H R I h => ?_⟩
  refine Call_ (ld_blt I hg hm PyProof.Rows.boot_zip (PyProof.Rows.callWith_type1 (thn (ha.run pos pins s σ H _ I h) fun us s1 ⟨vs, H1, I1, r1, q1⟩ => ?_) hs hpl))
  obtain ⟨k1, k2, k3, a1, a2, a3, xs1, xs2, xs3, ex, hq1, hq2, hq3, q⟩ := q1
  subst ex
  obtain ⟨u1, u2, u3, rfl, rr1, rr2, rr3⟩ := vals3 r1
  cases rr1
  cases rr2
  cases rr3
  obtain ⟨its1, rv1, p1, l1⟩ := inv_sq I1 hq1
  obtain ⟨its2, rv2, p2, l2⟩ := inv_sq I1 hq2
  obtain ⟨its3, rv3, p3, l3⟩ := inv_sq I1 hq3
  refine zip_begins3 (begins_kd k1 a1 its1.toArray) (begins_kd k2 a2 its2.toArray) (begins_kd k3 a3 its3.toArray) p1 p2 p3 ?_
  intro h' hz hTI hTO h1 h2 h3 hsz hk
  refine wpAny_pyIter_zip hz ?_
  have I2 : L2.Inv X pins σ H1 { s1 with heap := h' } := I1.kept (t' := s1.toks) hk
  refine ⟨s1.heap.objs.size + 5, [s1.heap.objs.size + 5, s1.heap.objs.size + 3, s1.heap.objs.size + 4, s1.heap.objs.size, s1.heap.objs.size + 1, s1.heap.objs.size + 2], _, _, H1, rfl, I2, turn_zipK3 k1 k2 k3 (zip_sep3 (N := s1.heap.objs.size) (by intro b hb; simp only [List.mem_singleton] at hb; subst hb; exact l1) (by intro b hb; simp only [List.mem_singleton] at hb; subst hb; exact l2) (by intro b hb; simp only [List.mem_singleton] at hb; subst hb; exact l3)) ⟨Nat.ne_of_lt (Nat.lt_of_lt_of_le l1 (Nat.le_add_right _ 0)), Nat.ne_of_lt (Nat.lt_of_lt_of_le l2 (Nat.le_add_right _ 1)), Nat.ne_of_lt (Nat.lt_of_lt_of_le l3 (Nat.le_add_right _ 2))⟩, ⟨hz, hTI, ⟨_, _, _,  hTO⟩, itAt_new k1 h1, itAt_new k2 h2, itAt_new k3 h3⟩, fun c hcm => ?_, q⟩
  have e' : c = s1.heap.objs.size + 5 ∨ c = s1.heap.objs.size + 3 ∨ c = s1.heap.objs.size + 4 ∨ c = s1.heap.objs.size ∨ c = s1.heap.objs.size + 1 ∨ c = s1.heap.objs.size + 2 := by simpa using hcm
  have hle : s1.heap.objs.size ≤ c := by
    rcases e' with z | z | z | z | z | z <;> rw [z] <;> first | exact Nat.le_add_right _ _ | exact Nat.le_refl _
  exact I1.fpOk hle (I1.hok.fresh hle)
end DL

set_option maxRecDepth 100000
set_option maxHeartbeats 2000000
/-! targets, iterators, for, comprehensions, while -/
namespace DL
open PySem L2 PySem.Spec PyProof.Rows
variable [Tb]

/-! ### targets -/
def Diff (ixs : List Nat) (σ σ' : L2.St) : Prop := σ'.length = σ.length ∧ ∀ i, i ∉ ixs → σ'[i]? = σ[i]?
theorem Diff.refl {ixs : List Nat} (σ : L2.St) : Diff ixs σ σ := ⟨rfl, fun _ _ => rfl⟩
theorem Diff.trans {ixs : List Nat} {σ σ1 σ2 : L2.St} (a : Diff ixs σ σ1) (b : Diff ixs σ1 σ2) : Diff ixs σ σ2 := ⟨b.1.trans a.1, fun i h => (b.2 i h).trans (a.2 i h)⟩
theorem Diff.mono {ixs iys : List Nat} {σ σ1 : L2.St} (a : Diff ixs σ σ1) (h : ∀ i ∈ ixs, i ∈ iys) : Diff iys σ σ1 := ⟨a.1, fun i n => a.2 i fun z => n (h i z)⟩
def tG (K : PySem.W.Frag) (g : D → En → Option En) (ixs : List Nat) : TG := fun v σ H Q =>
  ∃ Z B ρ d ρ', Rel K Z B H ρ σ ∧ Dp K B v d ∧ g d ρ = some ρ' ∧ ∀ σ' B' H', Ex B B' → Rel K Z B' H' ρ' σ' → Diff ixs σ σ' → Q σ' H'
structure JG (X : Cx) (tg : Expr) (g : D → En → Option En) (ixs : List Nat) : Prop where
  pg : PG X tg (tG X.K g ixs)
structure JGs (X : Cx) (tgs : List Expr) (g : List D → En → Option En) (ixs : List Nat) : Prop where
  pgs : PGs X tgs (fun vs σ H Q => ∃ Z B ρ ds ρ', Rel X.K Z B H ρ σ ∧ DpAll X.K B vs ds ∧ g ds ρ = some ρ' ∧ ∀ σ' B' H', Ex B B' → Rel X.K Z B' H' ρ' σ' → Diff ixs σ σ' → Q σ' H')
theorem pg_imp {X : Cx} {tg : Expr} {t t' : TG} (h : PG X tg t) (i : ∀ v σ H Q, t' v σ H Q → t v σ H Q) : PG X tg t' := ⟨fun pins s σ H v u Q I r q => h.run pins s σ H v u Q I r (i v σ H Q q)⟩
theorem pgs_imp {X : Cx} {tg : List Expr} {t t' : TGs} (h : PGs X tg t) (i : ∀ v σ H Q, t' v σ H Q → t v σ H Q) : PGs X tg t' := ⟨fun pins s σ H v u Q I r q => h.run pins s σ H v u Q I r (i v σ H Q q)⟩
def gSet (i : Nat) : D → En → Option En := fun d ρ => match ρ[i]? with
  | some (.io _ _) => none
  | none => none
  | _ => some (ρ.set i (.val d))
section
variable {X : Cx} {pos : Pos}
theorem set_diff (σ : L2.St) (i : Nat) (v : Option V) : Diff [i] σ (σ.set i v) := ⟨by simp, fun j h => by
  rw [List.getElem?_set_ne]
  intro e
  exact h (by simp [e])⟩
theorem jg_name {i : Nat} {x : Str} (hN : X.N.Nodup) (hi : X.N[i]? = some x := by rfl) (hx : Loc X.env.scope x := by first | exact Or.inl rfl | exact Or.inr rfl) (hf : X.fn x = true ∨ X.env.scope.names.lookup x = some .local := by first | exact .inl rfl | exact .inr rfl) : JG X (.Name x pos) (gSet i) [i] := by
  refine ⟨pg_imp (pg_name (i := i) hN hi hx hf) fun v σ H Q h => ?_⟩
  obtain ⟨Z, B, ρ, d, ρ', R, dv, hg, q⟩ := h
  have go : ρ' = ρ.set i (.val d) := by
    unfold gSet at hg
    split at hg <;> first | (cases hg; done) | exact (Option.some.inj hg).symm
  subst go
  exact q _ B H (Ex.refl _) (R.set dv) (set_diff _ _ _)
def gsNil : List D → En → Option En := fun ds ρ => match ds with
  | [] => some ρ
  | _ => none
def gsCons (g : D → En → Option En) (gs : List D → En → Option En) : List D → En → Option En := fun ds ρ => match ds with
  | d :: ds => (g d ρ).bind fun ρ1 => gs ds ρ1
  | [] => none
theorem jgs_nil : JGs X [] gsNil [] := by
  refine ⟨pgs_imp pgs_nil fun vs σ H Q h => ?_⟩
  obtain ⟨Z, B, ρ, ds, ρ', R, dv, hg, q⟩ := h
  cases dv with
  | nil => cases hg; exact ⟨rfl, q _ B H (Ex.refl _) R (Diff.refl _)⟩
  | cons _ _ => cases hg
theorem jgs_cons {e : Expr} {es : List Expr} {g : D → En → Option En} {gs : List D → En → Option En} {ixs iys : List Nat} (h1 : JG X e g ixs) (h2 : JGs X es gs iys) (hs : (assignEach (e :: es) X.env).map (·.2) = assign e X.env :: (assignEach es X.env).map (·.2) := by rfl) : JGs X (e :: es) (gsCons g gs) (ixs ++ iys) := by
  refine ⟨pgs_imp (pgs_cons h1.pg h2.pgs hs) fun vs σ H Q h => ?_⟩
  obtain ⟨Z, B, ρ, ds, ρ', R, dv, hg, q⟩ := h
  cases dv with
  | nil => cases hg
  | cons d1 dr =>
    rename_i v vr d dr'
    simp only [gsCons] at hg
    cases q1 : g d ρ with
    | none => rw [q1] at hg; cases hg
    | some ρ1 =>
      rw [q1] at hg
      exact ⟨_, _, rfl, Z, B, ρ, d, ρ1, R, d1, q1, fun σ' B' H' e1 R1 df1 => ⟨Z, B', ρ1, _, ρ', R1, dr.ex e1, hg, fun σ2 B2 H2 e2 R2 df2 => q σ2 B2 H2 (e1.trans e2) R2 ((df1.mono fun i h => List.mem_append_left _ h).trans (df2.mono fun i h => List.mem_append_right _ h))⟩⟩
def gTupD (n : Nat) (gs : List D → En → Option En) : D → En → Option En := fun d ρ => match d with
  | .tuple ds => if ds.length = n then gs ds ρ else none
  | _ => none
theorem jg_tup {es : List Expr} {k n : Nat} {gs : List D → En → Option En} {ixs : List Nat} (hc : X.calm = true) (h : JGs X es gs ixs) (hn : (assignEach es X.env).length = n := by rfl) (hst : (assignEach es X.env).findIdx? (·.1) = none := by rfl) : JG X (.Tuple es k pos) (gTupD n gs) ixs := by
  refine ⟨pg_imp (pg_tup hc h.pgs hn hst) fun v σ H Q h => ?_⟩
  obtain ⟨Z, B, ρ, d, ρ', R, dv, hg, q⟩ := h
  cases d <;> first | (cases hg; done) | skip
  rename_i ds
  obtain ⟨a, xs, rfl, h1, d1⟩ := dp_tup dv
  simp only [gTupD] at hg
  split at hg
  · rename_i hl
    exact ⟨a, xs, rfl, R.sqT h1, by rw [d1.length]; exact hl, Z, B, ρ, ds, ρ', R, d1, hg, q⟩
  · cases hg
/-- x[k] = v, x a list of one's own -/
def putAt (k : Int) (d : D) (ds : List D) : Option (List D) := (ixN ds.length k).map fun j => ds.set j d
def gIx (i : Nat) (k : Int) : D → En → Option En := fun d ρ => match ρ[i]? with
  | some s => match s.data with
    | some ds => (putAt k d ds).map fun es => ρ.set i (s.put es)
    | none => none
  | none => none
theorem Slot.mut_of {s : Slot} {ds : List D} (h : s.data = some ds) : s.mut = true := by cases s <;> first | rfl | cases h
theorem Rel.dataAt {K : PySem.W.Frag} {Z : Zt} {B H : Hp} {ρ : En} {σ : L2.St} (R : Rel K Z B H ρ σ) {i : Nat} {s : Slot} {ds : List D} (h : ρ[i]? = some s) (hd : s.data = some ds) : ∃ a vs, σ[i]? = some (some (.ref a)) ∧ H a = some (.lst vs) ∧ DpAll K B vs ds ∧ MutOk K Z B H a vs ds := by
  have q := R.sl i s h
  cases s with
  | no => cases hd
  | exc => cases hd
  | val d => cases hd
  | own es => cases hd; obtain ⟨a, vs, e, m, _⟩ := q; exact ⟨a, vs, e, m.h, m.d, m⟩
  | io j es => cases hd; obtain ⟨a, vs, e, m, _⟩ := q; exact ⟨a, vs, e, m.h, m.d, m⟩
theorem jg_ix {i : Nat} {k : Int} {x : Str} {p1 p2 : Pos} {kk : Nat} (hN : X.N[i]? = some x := by rfl) (hv : Vis X.env.scope x := by first | exact Or.inl rfl | exact Or.inr (Or.inl rfl) | exact Or.inr (Or.inr rfl)) (hd : (x == ("__debug__" : Str)) = false := by decide)
    (hcd : (x == ("__classdict__" : Str)) = false := by decide) : JG X (.Subscript (.Name x p1) (.Constant (.int k) kk p2) pos) (gIx i k) [] := by
  refine ⟨pg_imp (pg_sub (pe_var hN hv hd hcd) pe_int set_list) fun v σ H Q h => ?_⟩
  obtain ⟨Z, B, ρ, d, ρ', R, dv, hg, q⟩ := h
  unfold gIx at hg
  cases hs : ρ[i]? with
  | none => simp only [hs] at hg; cases hg
  | some s =>
    cases hds : s.data with
    | none => simp only [hs, hds] at hg; cases hg
    | some ds =>
      simp only [hs, hds] at hg
      cases hp : putAt k d ds with
      | none => rw [hp] at hg; cases hg
      | some es =>
        rw [hp] at hg
        cases hg
        obtain ⟨a, vs, ea, eh, dvs, _⟩ := R.dataAt hs hds
        unfold putAt at hp
        cases hj : ixN ds.length k with
        | none => rw [hj] at hp; cases hp
        | some j =>
          rw [hj] at hp
          cases hp
          refine ⟨.ref a, ea, a, vs, k, j, rfl, rfl, eh, by rw [dvs.length]; exact hj, ?_⟩
          exact q _ B _ (Ex.refl _) (R.write hs (Slot.mut_of hds) ea (dvs.set dv j)) (Diff.refl _)
end

/-! ### statements with targets -/
section
variable {X : Cx} {E : XK} {e : Expr} {me : En → EO} {pos : Pos}
def mAsgG (g : D → En → Option En) (me : En → EO) : En → SO := fun ρ => (me ρ).bindS fun d ρ1 => match g d ρ1 with
  | some ρ2 => .nx ρ2
  | none => .fail
theorem js_asg {tg : Expr} {g : D → En → Option En} {ixs : List Nat} (he : JE X E e me) (hg : JG X tg g ixs) (hs : swapsWithSole [tg] e pos.line X.env = pure false := by rfl) (hw : swappedStores [tg] e X.env = pure none := by rfl)
    (h1 : (assignEach [tg] X.env).map (·.2) = [assign tg X.env] := by rfl) :
    JS X E (.Assign [tg] e pos) (mAsgG g me) := by
  refine ⟨(ps_asg he.pe hg.pg hs hw h1).imp fun D σ H h => ?_⟩
  obtain ⟨Z, B, ρ, R, h⟩ := h
  refine ⟨Z, B, ρ, R, SPost.bind h fun d ρ1 x B1 H1 e1 R1 dx h1 => ?_⟩
  cases hgd : g d ρ1 with
  | none => simp only [hgd] at h1; exact h1.elim
  | some ρ2 => simp only [hgd] at h1; exact ⟨Z, B1, ρ1, d, ρ2, R1, dx, hgd, fun σ' B' H' e' R' _ => h1 σ' B' H' e' R'⟩
end
end DL

set_option maxRecDepth 100000
set_option maxHeartbeats 2000000
/-! iterators, for, while -/
namespace DL
open PySem L2 PySem.Spec PyProof.Rows
variable [Tb]

structure ItOk (K : PySem.W.Frag) (Bs : Hp) (J : It) (ds : List D) : Prop where
  go : ∀ i H, Ex Bs H → i < ds.length → J.go i H
  stop : ∀ H, Ex Bs H → J.stop ds.length H
  yld : ∀ Z B H ρ σ i x H', Rel K Z B H ρ σ → Ex Bs B → i < ds.length → J.yld i H x H' → ∃ B' d, Ex B B' ∧ Rel K Z B' H' ρ σ ∧ ds[i]? = some d ∧ Dp K B' x d
inductive WO where
  | fail
  | ok (ds : List D) (ρ : En)
  | exc (x : Exc)
def IPost (K : PySem.W.Frag) (mg : Str → Option Value) (Z : Zt) (B : Hp) (σ : L2.St) (E : XK) (R : It → Hp → Prop) : WO → Prop
  | .fail => False
  | .ok ds ρ => ∀ J B' H', Ex B B' → Rel K Z B' H' ρ σ → ItOk K B' J ds → R J H'
  | .exc x => XPost K mg Z E x
def tI (K : PySem.W.Frag) (mg : Str → Option Value) (E : XK) (m : En → WO) : TI := fun σ H R => ∃ Z B ρ, Rel K Z B H ρ σ ∧ IPost K mg Z B σ E R (m ρ)
structure JI (X : Cx) (E : XK) (tg iter : Expr) (m : En → WO) : Prop where
  pi : PI X tg iter (tI X.K X.mg E m)
theorem _root_.L2.PI.imp {X : Cx} {tg e : Expr} {t t' : TI} (h : PI X tg e t) (i : ∀ σ H Q, t' σ H Q → t σ H Q) : PI X tg e t' := ⟨fun pins s σ H Q I q => h.run pins s σ H Q I (i σ H Q q)⟩
theorem IPost.mono {K : PySem.W.Frag} {mg : Str → Option Value} {Z : Zt} {B B1 : Hp} {σ : L2.St} {E : XK} {R : It → Hp → Prop} {m : WO} (h : IPost K mg Z B σ E R m) (e : Ex B B1) : IPost K mg Z B1 σ E R m := by
  cases m with
  | fail => exact h
  | ok r ρ => exact fun v B' H' e' => h v B' H' (e.trans e')
  | exc x => exact h

/-- lists and tuples -/
def mWalk (me : En → EO) : En → WO := fun ρ => match me ρ with
  | .fail => .fail
  | .exc x => .exc x
  | .ok r ρ1 => match seqOf r.d with
    | some ds => .ok ds ρ1
    | none => .fail
def Itk (k : Kd) (K : PySem.W.Frag) (a : Addr) : It := match k with
  | .l => Itl K a
  | .t => Itt K a
theorem kd_sq {k : Kd} {K : PySem.W.Frag} {B H : Hp} {a : Addr} {xs : List V} (h : Sq k K B a xs) (e : Ex B H) : Sq k K H a xs := by
  cases k with
  | l => exact ex_l e h
  | t => exact ex_t e h
theorem seq_of {K : PySem.W.Frag} {B : Hp} {v : V} {d : D} {ds : List D} (h : Dp K B v d) (hs : seqOf d = some ds) : ∃ k a vs, v = .ref a ∧ Sq k K B a vs ∧ DpAll K B vs ds := by
  cases d <;> first | (cases hs; done) | skip
  · cases hs
    obtain ⟨a, vs, rfl, h1, d1⟩ := dp_lst h
    exact ⟨.l, a, vs, rfl, h1, d1⟩
  · cases hs
    obtain ⟨a, vs, rfl, h1, d1⟩ := dp_tup h
    exact ⟨.t, a, vs, rfl, h1, d1⟩
theorem itk_ok {K : PySem.W.Frag} {B : Hp} {k : Kd} {a : Addr} {vs : List V} {ds : List D} (h : Sq k K B a vs) (dv : DpAll K B vs ds) : ItOk K B (Itk k K a) ds := by
  have hl := dv.length
  refine ⟨fun i H e hi => ?_, fun H e => ?_, fun Z B1 H ρ σ i x H' R e hi y => ?_⟩
  · have h2 := kd_sq h e
    cases k <;> exact ⟨vs, vs[i], h2, by simp [show i < vs.length by omega]⟩
  · have h2 := kd_sq h e
    cases k <;> exact ⟨vs, h2, by omega⟩
  · have h2 := kd_sq h (e.trans R.hB)
    obtain ⟨v, hv⟩ : ∃ v, vs[i]? = some v := ⟨vs[i], by simp [show i < vs.length by omega]⟩
    obtain ⟨d, hd, dp⟩ := dv.get hv
    cases k <;> (obtain ⟨rfl, y⟩ := y; have y' := y vs h2; rw [hv] at y'; cases y'; exact ⟨B1, d, Ex.refl _, R, hd, dp.ex e⟩)
section
variable {X : Cx} {E : XK} {tg : Expr} {pos : Pos}
theorem pi_seq {l : Expr} {tl : TE} (hl : PE X l tl) : PI X tg l (fun σ H R => tl σ H fun x H1 => ∃ k a xs, x = .ref a ∧ Sq k X.K H1 a xs ∧ R (Itk k X.K a) H1) := by
  refine ⟨fun pins s σ H R I h => ?_⟩
  refine thn (hl.run pins s σ H _ I h) fun v s1 ⟨x, H1, I1, r1, q1⟩ => ?_
  obtain ⟨k, a, xs, e, hq, q⟩ := q1
  subst e
  cases r1
  cases k with
  | l =>
    obtain ⟨its, rv, p, hz⟩ := I1.list hq
    refine wpAny_pyIter_list p.isList ?_
    refine ⟨s1.heap.objs.size, [s1.heap.objs.size], _, _, H1, rfl, I1.kept (t' := s1.toks) fun b o e => Heap.get?_push_of_some _ e, turn_list a _, ⟨_, Heap.get?_push_size _ rfl, rfl, rfl⟩, fun b hb => ?_, q⟩
    have e : b = s1.heap.objs.size := by simpa using hb
    subst e
    exact I1.fpOk (Nat.le_refl _) (I1.hok.fresh (Nat.le_refl _))
  | t =>
    obtain ⟨its, rv, p, hz⟩ := I1.tuple hq
    refine wpAny_pyIter_tuple (show s1.heap.IsTuple a its.toArray from p) ?_
    refine ⟨s1.heap.objs.size, [s1.heap.objs.size], _, _, H1, rfl, I1.kept (t' := s1.toks) fun b o e => Heap.get?_push_of_some _ e, turn_tuple a _, ⟨_, Heap.get?_push_size _ rfl, rfl, rfl⟩, fun b hb => ?_, q⟩
    have e : b = s1.heap.objs.size := by simpa using hb
    subst e
    exact I1.fpOk (Nat.le_refl _) (I1.hok.fresh (Nat.le_refl _))
theorem ji_seq {l : Expr} {me : En → EO} (hl : JE X E l me) : JI X E tg l (mWalk me) := by
  refine ⟨(pi_seq hl.pe).imp fun σ H Q h => ?_⟩
  obtain ⟨Z, B, ρ, R, h⟩ := h
  refine ⟨Z, B, ρ, R, ?_⟩
  unfold mWalk at h
  cases hm : me ρ with
  | fail => rw [hm] at h; exact h.elim
  | exc x => rw [hm] at h; exact h
  | ok r ρ1 =>
    rw [hm] at h
    intro v B1 H1 e1 R1 r1
    obtain ⟨B2, e2, R2, d2⟩ := R1.freeze r1
    cases hs : seqOf r.d with
    | none => simp only [hs] at h; exact h.elim
    | some ds =>
      simp only [hs] at h
      obtain ⟨k, a, vs, rfl, sq, dv⟩ := seq_of d2 hs
      exact ⟨k, a, vs, rfl, kd_sq sq R2.hB, h _ B2 H1 (e1.trans e2) R2 (itk_ok sq dv)⟩

/-- from an argument list -/
def mWA (f : List D → Option (List D)) (ma : En → AO) : En → WO := fun ρ => match ma ρ with
  | .fail => .fail
  | .exc x => .exc x
  | .ok as ρ1 => match (vals as).bind f with
    | some ds => .ok ds ρ1
    | none => .fail
theorem tI_of {f : List D → Option (List D)} {ma : En → AO} {σ : L2.St} {H : Hp} {R : It → Hp → Prop} (h : tI X.K X.mg E (mWA f ma) σ H R) :
    tA X.K X.mg E ma σ H (fun vs H1 => ∃ Z B ρ ds es, Rel X.K Z B H1 ρ σ ∧ DpAll X.K B vs ds ∧ f ds = some es ∧ ∀ J, ItOk X.K B J es → R J H1) := by
  obtain ⟨Z, B, ρ, RR, h⟩ := h
  refine ⟨Z, B, ρ, RR, ?_⟩
  unfold mWA at h
  cases hm : ma ρ with
  | fail => rw [hm] at h; exact h.elim
  | exc x => rw [hm] at h; exact h
  | ok as ρ1 =>
    rw [hm] at h
    intro vs B1 H1 e1 R1 r1
    cases hv : vals as with
    | none => simp only [hv, Option.bind] at h; exact h.elim
    | some ds =>
      cases hf : f ds with
      | none => simp only [hv, Option.bind, hf] at h; exact h.elim
      | some es =>
        simp only [hv, Option.bind, hf] at h
        exact ⟨Z, B1, ρ1, ds, es, R1, r1.dpAll hv, hf, fun J ok => h J B1 H1 e1 R1 ok⟩
end
def wRng1 : List D → Option (List D)
  | [.int j] => if -(2 ^ 62) ≤ j ∧ j < 2 ^ 62 then some ((List.range j.toNat).map fun (i : Nat) => .int (i : Int)) else none
  | _ => none
def wRng2 : List D → Option (List D)
  | [.int i, .int j] => if -(2 ^ 62) ≤ i ∧ i < 2 ^ 62 ∧ -(2 ^ 62) ≤ j ∧ j < 2 ^ 62 then some ((List.range (j - i).toNat).map fun (k : Nat) => .int (i + (k : Int))) else none
  | _ => none
theorem itr_ok {K : PySem.W.Frag} {B : Hp} {lo : Int} {n : Nat} : ItOk K B (Itr lo n) ((List.range n).map fun (k : Nat) => .int (lo + (k : Int))) := by
  refine ⟨fun i H e hi => by simpa [Itr] using hi, fun H e => by simp [Itr], fun Z B1 H ρ σ i x H' R e hi y => ?_⟩
  obtain ⟨rfl, rfl⟩ := y
  have hi' : i < n := by simpa using hi
  exact ⟨B1, .int (lo + i), Ex.refl _, R, by simp [hi'], .int _⟩
def wEnum : List D → Option (List D)
  | [d] => (seqOf d).map fun ds => ds.mapIdx fun i d => .tuple [.int (i : Int), d]
  | _ => none
def wZip2 : List D → Option (List D)
  | [a, b] => match seqOf a, seqOf b with
    | some xs, some ys => some (List.zipWith (fun x y => .tuple [x, y]) xs ys)
    | _, _ => none
  | _ => none
def wZip3 : List D → Option (List D)
  | [a, b, c] => match seqOf a, seqOf b, seqOf c with
    | some xs, some ys, some zs => some (List.zipWith (fun p z => .tuple [p.1, p.2, z]) (List.zipWith Prod.mk xs ys) zs)
    | _, _, _ => none
  | _ => none
theorem ite_ok {K : PySem.W.Frag} {B : Hp} {k : Kd} {a : Addr} {vs : List V} {ds : List D} (h : Sq k K B a vs) (dv : DpAll K B vs ds) : ItOk K B (IteK k K a) (ds.mapIdx fun i d => .tuple [.int (i : Int), d]) := by
  have hl := dv.length
  refine ⟨fun i H e hi => ?_, fun H e => ?_, fun Z B1 H ρ σ i x H' R e hi y => ?_⟩
  · have hi' : i < ds.length := by simpa using hi
    exact ⟨vs, vs[i], kd_sq h e, by simp [show i < vs.length by omega]⟩
  · exact ⟨vs, kd_sq h e, by simp [hl]⟩
  · have hi' : i < ds.length := by simpa using hi
    have h2 := kd_sq h (e.trans R.hB)
    obtain ⟨T, u, rfl, hT, rfl, y⟩ := y
    have y' := y vs h2
    obtain ⟨d, hd, dp⟩ := dv.get y'
    obtain ⟨B', eb, R', dT⟩ := R.tup (ds := [.int (i : Int), d]) hT (.cons (.int _) (.cons (dp.ex e) .nil))
    exact ⟨B', _, eb, R', by simp [hd], dT⟩
theorem itz2_ok {K : PySem.W.Frag} {B : Hp} {k1 k2 : Kd} {a1 a2 : Addr} {vs1 vs2 : List V} {ds1 ds2 : List D} (h1 : Sq k1 K B a1 vs1) (d1 : DpAll K B vs1 ds1) (h2 : Sq k2 K B a2 vs2) (d2 : DpAll K B vs2 ds2) :
    ItOk K B (ItzK2 k1 k2 K a1 a2) (List.zipWith (fun x y => .tuple [x, y]) ds1 ds2) := by
  have l1 := d1.length
  have l2 := d2.length
  refine ⟨fun i H e hi => ?_, fun H e => ?_, fun Z B1 H ρ σ i x H' R e hi y => ?_⟩
  · have hi' : i < ds1.length ∧ i < ds2.length := by simpa [List.length_zipWith, Nat.lt_min] using hi
    exact ⟨vs1, vs2, vs1[i], vs2[i], kd_sq h1 e, kd_sq h2 e, by simp [show i < vs1.length by omega], by simp [show i < vs2.length by omega]⟩
  · exact ⟨vs1, vs2, kd_sq h1 e, kd_sq h2 e, by simp [l1, l2, List.length_zipWith]⟩
  · obtain ⟨T, x1, x2, rfl, hT, rfl, y1, y2⟩ := y
    obtain ⟨e1, he1, p1⟩ := d1.get (y1 vs1 (kd_sq h1 (e.trans R.hB)))
    obtain ⟨e2, he2, p2⟩ := d2.get (y2 vs2 (kd_sq h2 (e.trans R.hB)))
    obtain ⟨B', eb, R', dT⟩ := R.tup (ds := [e1, e2]) hT (.cons (p1.ex e) (.cons (p2.ex e) .nil))
    exact ⟨B', _, eb, R', by simp [List.getElem?_zipWith, he1, he2], dT⟩
theorem itz3_ok {K : PySem.W.Frag} {B : Hp} {k1 k2 k3 : Kd} {a1 a2 a3 : Addr} {vs1 vs2 vs3 : List V} {ds1 ds2 ds3 : List D} (h1 : Sq k1 K B a1 vs1) (d1 : DpAll K B vs1 ds1) (h2 : Sq k2 K B a2 vs2) (d2 : DpAll K B vs2 ds2) (h3 : Sq k3 K B a3 vs3) (d3 : DpAll K B vs3 ds3) :
    ItOk K B (ItzK3 k1 k2 k3 K a1 a2 a3) (List.zipWith (fun p z => .tuple [p.1, p.2, z]) (List.zipWith Prod.mk ds1 ds2) ds3) := by
  have l1 := d1.length
  have l2 := d2.length
  have l3 := d3.length
  refine ⟨fun i H e hi => ?_, fun H e => ?_, fun Z B1 H ρ σ i x H' R e hi y => ?_⟩
  · have hi' : i < ds1.length ∧ i < ds2.length ∧ i < ds3.length := by simpa [List.length_zipWith, Nat.lt_min] using hi
    exact ⟨vs1, vs2, vs3, vs1[i], vs2[i], vs3[i], kd_sq h1 e, kd_sq h2 e, kd_sq h3 e, by simp [show i < vs1.length by omega], by simp [show i < vs2.length by omega], by simp [show i < vs3.length by omega]⟩
  · exact ⟨vs1, vs2, vs3, kd_sq h1 e, kd_sq h2 e, kd_sq h3 e, by simp [l1, l2, l3, List.length_zipWith]⟩
  · obtain ⟨T, x1, x2, x3, rfl, hT, rfl, y1, y2, y3⟩ := y
    obtain ⟨e1, he1, p1⟩ := d1.get (y1 vs1 (kd_sq h1 (e.trans R.hB)))
    obtain ⟨e2, he2, p2⟩ := d2.get (y2 vs2 (kd_sq h2 (e.trans R.hB)))
    obtain ⟨e3, he3, p3⟩ := d3.get (y3 vs3 (kd_sq h3 (e.trans R.hB)))
    obtain ⟨B', eb, R', dT⟩ := R.tup (ds := [e1, e2, e3]) hT (.cons (p1.ex e) (.cons (p2.ex e) (.cons (p3.ex e) .nil)))
    exact ⟨B', _, eb, R', by simp [List.getElem?_zipWith, he1, he2, he3], dT⟩

theorem tA_imp {K : PySem.W.Frag} {mg : Str → Option Value} {E : XK} {ma : En → AO} {σ : L2.St} {H : Hp} {Q Q' : List V → Hp → Prop} (h : tA K mg E ma σ H Q) (i : ∀ vs H, Q vs H → Q' vs H) : tA K mg E ma σ H Q' := by
  obtain ⟨Z, B, ρ, R, h⟩ := h
  refine ⟨Z, B, ρ, R, ?_⟩
  cases hm : ma ρ with
  | fail => rw [hm] at h; exact h.elim
  | exc x => rw [hm] at h; exact h
  | ok as ρ1 => rw [hm] at h; exact fun vs B' H' e R' a => i _ _ (h vs B' H' e R' a)
section
variable {X : Cx} {E : XK} {tg : Expr} {pos p tpos : Pos} {ma : En → AO}
theorem ji_range1 {a : Expr} (ha : JA X E [a] ma) (hg : Gl X "range" := by rfl) (hm : X.mg "range" = none := by rfl) (hs : starEach [a] X.env = [(false, eval a X.env)] := by rfl) : JI X E tg (.Call (.Name "range" p) [a] [] pos) (mWA wRng1 ma) := by
  refine ⟨(pi_range1 hg hm ha.pa hs).imp fun σ H R h => tA_imp (tI_of h) fun vs H1 ⟨Z, B, ρ, ds, es, RR, dv, hf, k⟩ => ?_⟩
  unfold wRng1 at hf
  split at hf
  · rename_i j
    split at hf
    · rename_i hj
      cases hf
      cases dv with
      | cons d1 dr =>
        cases dr
        cases d1
        refine ⟨j, rfl, hj.1, hj.2, k _ ?_⟩
        have q := itr_ok (K := X.K) (B := B) (lo := 0) (n := j.toNat)
        simpa using q
    · cases hf
  · cases hf
theorem ji_range2 {a b : Expr} (ha : JA X E [a, b] ma) (hg : Gl X "range" := by rfl) (hm : X.mg "range" = none := by rfl) (hs : starEach [a, b] X.env = [(false, eval a X.env), (false, eval b X.env)] := by rfl) (hs2 : starEach [b] X.env = [(false, eval b X.env)] := by rfl) : JI X E tg (.Call (.Name "range" p) [a, b] [] pos) (mWA wRng2 ma) := by
  refine ⟨(pi_range2 hg hm ha.pa hs hs2).imp fun σ H R h => tA_imp (tI_of h) fun vs H1 ⟨Z, B, ρ, ds, es, RR, dv, hf, k⟩ => ?_⟩
  unfold wRng2 at hf
  split at hf
  · rename_i i j
    split at hf
    · rename_i hj
      cases hf
      cases dv with
      | cons d1 dr =>
        cases dr with
        | cons d2 dr =>
          cases dr
          cases d1
          cases d2
          exact ⟨i, j, rfl, hj, k _ itr_ok⟩
    · cases hf
  · cases hf
theorem ji_enum {e : Expr} {elts : List Expr} {kk : Nat} (ha : JA X E [e] ma) (hg : Gl X "enumerate" := by rfl) (hm : X.mg "enumerate" = none := by rfl) (hs : starEach [e] X.env = [(false, eval e X.env)] := by rfl) : JI X E (.Tuple elts kk tpos) (.Call (.Name "enumerate" p) [e] [] pos) (mWA wEnum ma) := by
  refine ⟨(pi_enumK hg hm ha.pa hs).imp fun σ H R h => tA_imp (tI_of h) fun vs H1 ⟨Z, B, ρ, ds, es, RR, dv, hf, k⟩ => ?_⟩
  unfold wEnum at hf
  split at hf
  · rename_i d
    cases hs : seqOf d with
    | none => rw [hs] at hf; cases hf
    | some xs =>
      rw [hs] at hf
      cases hf
      cases dv with
      | cons d1 dr =>
        cases dr
        obtain ⟨kd, a, vs, rfl, sq, dv⟩ := seq_of d1 hs
        exact ⟨kd, a, vs, rfl, kd_sq sq RR.hB, k _ (ite_ok sq dv)⟩
  · cases hf
theorem ji_zip2 {e1 e2 : Expr} {elts : List Expr} {kk : Nat} (ha : JA X E [e1, e2] ma) (hg : Gl X "zip" := by rfl) (hm : X.mg "zip" = none := by rfl)
    (hs : starEach [e1, e2] X.env = (false, eval e1 X.env) :: starEach [e2] X.env := by rfl) (hpl : (backTo pos (starEach [e2] X.env)).any (·.1) = false := by rfl) : JI X E (.Tuple elts kk tpos) (.Call (.Name "zip" p) [e1, e2] [] pos) (mWA wZip2 ma) := by
  refine ⟨(pi_zipK2 hg hm ha.pa hs hpl).imp fun σ H R h => tA_imp (tI_of h) fun vs H1 ⟨Z, B, ρ, ds, es, RR, dv, hf, k⟩ => ?_⟩
  unfold wZip2 at hf
  split at hf
  · rename_i d e
    split at hf
    · rename_i xs ys h1 h2
      cases hf
      cases dv with
      | cons q1 dr =>
        cases dr with
        | cons q2 dr =>
          cases dr
          obtain ⟨k1, a1, vs1, rfl, s1, v1⟩ := seq_of q1 h1
          obtain ⟨k2, a2, vs2, rfl, s2, v2⟩ := seq_of q2 h2
          exact ⟨k1, k2, a1, a2, vs1, vs2, rfl, kd_sq s1 RR.hB, kd_sq s2 RR.hB, k _ (itz2_ok s1 v1 s2 v2)⟩
    · cases hf
  · cases hf
theorem ji_zip3 {e1 e2 e3 : Expr} {elts : List Expr} {kk : Nat} (ha : JA X E [e1, e2, e3] ma) (hg : Gl X "zip" := by rfl) (hm : X.mg "zip" = none := by rfl)
    (hs : starEach [e1, e2, e3] X.env = (false, eval e1 X.env) :: starEach [e2, e3] X.env := by rfl) (hpl : (backTo pos (starEach [e2, e3] X.env)).any (·.1) = false := by rfl) : JI X E (.Tuple elts kk tpos) (.Call (.Name "zip" p) [e1, e2, e3] [] pos) (mWA wZip3 ma) := by
  refine ⟨(pi_zipK3 hg hm ha.pa hs hpl).imp fun σ H R h => tA_imp (tI_of h) fun vs H1 ⟨Z, B, ρ, ds, es, RR, dv, hf, k⟩ => ?_⟩
  unfold wZip3 at hf
  split at hf
  · rename_i d e f
    split at hf
    · rename_i xs ys zs h1 h2 h3
      cases hf
      cases dv with
      | cons q1 dr =>
        cases dr with
        | cons q2 dr =>
          cases dr with
          | cons q3 dr =>
            cases dr
            obtain ⟨k1, a1, vs1, rfl, s1, v1⟩ := seq_of q1 h1
            obtain ⟨k2, a2, vs2, rfl, s2, v2⟩ := seq_of q2 h2
            obtain ⟨k3, a3, vs3, rfl, s3, v3⟩ := seq_of q3 h3
            exact ⟨k1, k2, k3, a1, a2, a3, vs1, vs2, vs3, rfl, kd_sq s1 RR.hB, kd_sq s2 RR.hB, kd_sq s3 RR.hB, k _ (itz3_ok s1 v1 s2 v2 s3 v3)⟩
    · cases hf
  · cases hf

/-! ### for -/
def loopS (g : D → En → Option En) (mb : En → SO) : List D → En → SO
  | [], ρ => .nx ρ
  | d :: ds, ρ => match g d ρ with
    | none => .fail
    | some ρ1 => match mb ρ1 with
      | .nx ρ2 => loopS g mb ds ρ2
      | .ct ρ2 => loopS g mb ds ρ2
      | .bk ρ2 => .nx ρ2
      | .ret r ρ2 => .ret r ρ2
      | .exc x => .exc x
      | .fail => .fail
def mFor (mi : En → WO) (g : D → En → Option En) (mb : En → SO) : En → SO := fun ρ => match mi ρ with
  | .fail => .fail
  | .exc x => .exc x
  | .ok ds ρ1 => loopS g mb ds ρ1
theorem js_for {iter : Expr} {body : List Stmt} {mi : En → WO} {g : D → En → Option En} {ixs : List Nat} {mb : En → SO} (hp : PassesOwn (model X.prog X.w) X.A X.env X.xe) (hc : X.calm = true) (hi : JI X E tg iter mi) (hg : JG X tg g ixs) (hb : JB X E body mb)
    (hs : ∀ x, foldedSetIterable iter X.env x = pure x := by intro _; rfl) : JS X E (.For tg iter body [] pos) (mFor mi g mb) := by
  refine ⟨(ps_for hp hc hi.pi hg.pg hb.pss hs).imp fun D σ H h => ?_⟩
  obtain ⟨Z, B, ρ, R, h⟩ := h
  refine ⟨Z, B, ρ, R, ?_⟩
  unfold mFor at h
  cases hm : mi ρ with
  | fail => rw [hm] at h; exact h.elim
  | exc x => rw [hm] at h; exact h
  | ok ds ρ1 =>
    rw [hm] at h
    intro J B1 H1 e1 R1 ok
    refine ⟨fun i m σ H => m = ds.length - i ∧ i ≤ ds.length ∧ ∃ B' ρ', Ex B1 B' ∧ Rel X.K Z B' H ρ' σ ∧ SPost X.K X.mg Z B' E D (loopS g mb (ds.drop i) ρ'), ⟨ds.length, rfl, Nat.zero_le _, B1, ρ1, Ex.refl _, R1, SPost.mono h e1⟩, ?_⟩
    rintro i m σ2 H2 ⟨rfl, hi', B2, ρ2, e2, R2, h2⟩
    by_cases hlt : i < ds.length
    · refine .inr ⟨ok.go i H2 (e2.trans R2.hB) hlt, fun σ H => ∃ B' ρ', Ex B1 B' ∧ Rel X.K Z B' H ρ' σ ∧ SPost X.K X.mg Z B' E D (loopS g mb (ds.drop (i + 1)) ρ'), fun σ' H' n => ⟨ds.length - (i + 1), by omega, rfl, hlt, n⟩, fun x H3 y => ?_⟩
      obtain ⟨B3, d, e3, R3, hd, dp⟩ := ok.yld Z B2 H2 ρ2 σ2 i x H3 R2 e2 hlt y
      have hdr : ds.drop i = d :: ds.drop (i + 1) := by
        rw [List.drop_eq_getElem_cons hlt]
        congr 1
        rw [List.getElem?_eq_getElem hlt] at hd
        exact Option.some.inj hd
      rw [hdr] at h2
      unfold loopS at h2
      cases hgd : g d ρ2 with
      | none => rw [hgd] at h2; exact h2.elim
      | some ρ3 =>
        rw [hgd] at h2
        refine ⟨Z, B3, ρ2, d, ρ3, R3, dp, hgd, fun σ4 B4 H4 e4 R4 _ => ⟨Z, B4, ρ3, R4, ?_⟩⟩
        have h3 := SPost.mono h2 (e3.trans e4)
        have e14 := (e2.trans e3).trans e4
        cases hmb : mb ρ3 with
        | fail => simp only [hmb] at h3; exact h3.elim
        | exc x => simp only [hmb] at h3; exact h3
        | nx ρ5 => simp only [hmb] at h3; exact fun σ5 B5 H5 e5 R5 => ⟨B5, ρ5, e14.trans e5, R5, SPost.mono h3 e5⟩
        | ct ρ5 => simp only [hmb] at h3; exact fun σ5 B5 H5 e5 R5 => ⟨B5, ρ5, e14.trans e5, R5, SPost.mono h3 e5⟩
        | bk ρ5 => simp only [hmb] at h3; exact h3
        | ret r ρ5 => simp only [hmb] at h3; exact h3
    · have e : i = ds.length := by omega
      subst e
      rw [List.drop_length] at h2
      exact .inl ⟨ok.stop H2 (e2.trans R2.hB), h2 σ2 B2 H2 (Ex.refl _) R2⟩

/-! ### while -/
def whileF (mc : En → EO) (mb : En → SO) : Nat → En → SO
  | 0, _ => .fail
  | n + 1, ρ => (mc ρ).testS fun b ρ1 => if b = true then
      match mb ρ1 with
      | .nx ρ2 => whileF mc mb n ρ2
      | .ct ρ2 => whileF mc mb n ρ2
      | .bk ρ2 => .nx ρ2
      | .ret r ρ2 => .ret r ρ2
      | .exc x => .exc x
      | .fail => .fail
    else .nx ρ1
theorem js_while {c : Expr} {body : List Stmt} {mc : En → EO} {mb : En → SO} (fuel : Nat) (hp : PassesOwn (model X.prog X.w) X.A X.env X.xe) (hc : JT X E c mc) (hb : JB X E body mb) : JS X E (.While c body [] pos) (whileF mc mb fuel) := by
  refine ⟨(ps_while hp hc.pt hb.pss).imp fun D σ H h => ?_⟩
  obtain ⟨Z, B, ρ, R, h⟩ := h
  refine ⟨fun m σ H => ∃ B' ρ', Rel X.K Z B' H ρ' σ ∧ SPost X.K X.mg Z B' E D (whileF mc mb m ρ'), ⟨fuel, B, ρ, R, h⟩, ?_⟩
  rintro m σ1 H1 ⟨B1, ρ1, R1, h1⟩
  cases m with
  | zero => exact h1.elim
  | succ m =>
    unfold whileF at h1
    refine ⟨Z, B1, ρ1, R1, SPost.test h1 fun b ρ2 B2 H2 e2 R2 h2 => ?_⟩
    cases b with
    | false => exact h2 σ1 B2 H2 (Ex.refl _) R2
    | true =>
      rw [if_pos rfl] at h2 ⊢
      refine ⟨fun σ H => ∃ B' ρ', Rel X.K Z B' H ρ' σ ∧ SPost X.K X.mg Z B' E D (whileF mc mb m ρ'), fun σ' H' n => ⟨m, by omega, n⟩, Z, B2, ρ2, R2, ?_⟩
      cases hmb : mb ρ2 with
      | fail => rw [hmb] at h2; exact h2.elim
      | exc x => rw [hmb] at h2; exact h2
      | nx ρ5 => rw [hmb] at h2; exact fun σ5 B5 H5 e5 R5 => ⟨B5, ρ5, R5, SPost.mono h2 e5⟩
      | ct ρ5 => rw [hmb] at h2; exact fun σ5 B5 H5 e5 R5 => ⟨B5, ρ5, R5, SPost.mono h2 e5⟩
      | bk ρ5 => rw [hmb] at h2; exact h2
      | ret r ρ5 => rw [hmb] at h2; exact h2
end
end DL

set_option maxRecDepth 100000
set_option maxHeartbeats 2000000
/-! list comprehensions -/
namespace DL
open PySem L2 PySem.Spec PyProof.Rows
variable [Tb]

def wipeE (ρ : En) : List Nat → En
  | [] => ρ
  | v :: vs => (wipeE ρ vs).set v .no
def backF (ρ1 : En) : List Nat → En → En
  | [], ρ => ρ
  | v :: vs, ρ => backF ρ1 vs (match ρ1[v]? with
    | some (.val d) => ρ.set v (.val d)
    | _ => ρ)
section
variable {K : PySem.W.Frag} {Z : Zt} {B B' H H' : Hp} {ρ ρ1 : En} {σ : L2.St}
theorem Rel.forget (R : Rel K Z B H ρ σ) {i : Nat} {o : Option V} : Rel K Z B H (ρ.set i .no) (σ.set i o) := by
  have at_i : ∀ {j : Nat} {s : Slot}, (ρ.set i .no)[j]? = some s → s = .no ∨ (j ≠ i ∧ ρ[j]? = some s) := fun {j s} hj => by
    by_cases e : j = i
    · subst e
      have hlt : j < ρ.length := by
        have := (List.getElem?_eq_some_iff.mp hj).1
        simpa using this
      rw [List.getElem?_set_self hlt] at hj
      cases hj
      exact .inl rfl
    · rw [List.getElem?_set_ne (Ne.symm e)] at hj
      exact .inr ⟨e, hj⟩
  refine ⟨by simp [R.len], R.hF, R.zt, R.hB, R.b0, R.gr, R.nt, R.tb, R.pb, R.hi, fun j s hj => ?_, fun j k s t a hj hk hs ht e1 e2 => ?_⟩
  · rcases at_i hj with rfl | ⟨ne, hj⟩
    · trivial
    · rw [List.getElem?_set_ne (Ne.symm ne)]
      exact R.sl j s hj
  · rcases at_i hj with rfl | ⟨nj, hj⟩
    · cases hs
    · rcases at_i hk with rfl | ⟨nk, hk⟩
      · cases ht
      · rw [List.getElem?_set_ne (Ne.symm nj)] at e1
        rw [List.getElem?_set_ne (Ne.symm nk)] at e2
        exact R.ap j k s t a hj hk hs ht e1 e2
theorem Rel.wipe (R : Rel K Z B H ρ σ) : ∀ vs : List Nat, Rel K Z B H (wipeE ρ vs) (L2.wipe σ vs)
  | [] => R
  | v :: vs => (R.wipe vs).forget
theorem wipeE_get {i : Nat} {s : Slot} : ∀ {vs : List Nat}, (wipeE ρ vs)[i]? = some s → s = .no ∨ (i ∉ vs ∧ ρ[i]? = some s)
  | [], h => .inr ⟨by simp, h⟩
  | v :: vs, h => by
    unfold wipeE at h
    by_cases hi : i = v
    · subst hi
      have hlt : i < (wipeE ρ vs).length := by
        have := (List.getElem?_eq_some_iff.mp h).1
        simpa using this
      rw [List.getElem?_set_self hlt] at h
      cases h
      exact .inl rfl
    · rw [List.getElem?_set_ne (Ne.symm hi)] at h
      rcases wipeE_get h with e | ⟨n, e⟩
      · exact .inl e
      · exact .inr ⟨by simp only [List.mem_cons, not_or]; exact ⟨hi, n⟩, e⟩
theorem wipe_get {i : Nat} : ∀ {vs : List Nat}, i ∉ vs → (L2.wipe σ vs)[i]? = σ[i]?
  | [], h => rfl
  | v :: vs, h => by
    simp only [List.mem_cons, not_or] at h
    unfold L2.wipe
    rw [List.getElem?_set_ne (Ne.symm h.1)]
    exact wipe_get h.2
theorem Rel.unwipe {vs : List Nat} (R : Rel K Z B H (wipeE ρ vs) (L2.wipe σ vs)) : Rel K Z B H (wipeE ρ vs) σ := by
  have at_ : ∀ {j : Nat} {s : Slot}, (wipeE ρ vs)[j]? = some s → s ≠ .no → (L2.wipe σ vs)[j]? = σ[j]? := fun {j s} hj h => by
    rcases wipeE_get hj with rfl | ⟨n, _⟩
    · exact absurd rfl h
    · exact wipe_get n
  refine ⟨by rw [R.len, wipe_length], R.hF, R.zt, R.hB, R.b0, R.gr, R.nt, R.tb, R.pb, R.hi, fun j s hj => ?_, fun j k s t a hj hk hs ht e1 e2 => ?_⟩
  · have q := R.sl j s hj
    cases s with
    | no => trivial
    | exc => rw [at_ hj (by simp)] at q; exact q
    | val d => rw [at_ hj (by simp)] at q; exact q
    | own ds => rw [at_ hj (by simp)] at q; exact q
    | io n ds => rw [at_ hj (by simp)] at q; exact q
  · exact R.ap j k s t a hj hk hs ht (by rw [at_ hj (by intro z; rw [z] at hs; cases hs)]; exact e1) (by rw [at_ hk (by intro z; rw [z] at ht; cases ht)]; exact e2)
theorem Rel.back (hv : ∀ (i : Nat) d, ρ1[i]? = some (.val d) → ∃ v, σ[i]? = some (some v) ∧ Dp K B v d) : ∀ {vs : List Nat} {ρ : En}, Rel K Z B H ρ σ → Rel K Z B H (backF ρ1 vs ρ) σ
  | [], _, R => R
  | v :: vs, ρ, R => by
    unfold backF
    refine Rel.back hv ?_
    split
    · rename_i d hd
      obtain ⟨x, hx, dx⟩ := hv v d hd
      exact R.setVal hx dx
    · exact R
/-- the growing list is the frame's -/
def Zp (Z : Zt) (p : Addr) (vs : List V) : Zt := ⟨upd Z.F p (.lst vs), Z.B0, Z.ins⟩
theorem Rel.withP (R : Rel K Z B H ρ σ) {p : Addr} {ds : List D} (r : ResOk K Z B H ρ σ (.new ds) (.ref p)) : ∃ vs, Rel K (Zp Z p vs) B H ρ σ ∧ DpAll K B vs ds := by
  obtain ⟨p', vs, e, m, ni, np⟩ := r
  cases e
  have b0 : Z.B0 p = none := by
    cases q : Z.B0 p with
    | none => rfl
    | some o => have mb := m.b; rw [R.b0 p o q] at mb; cases mb
  refine ⟨vs, ⟨R.len, fun a o h nT => ?_, fun a ps h => ?_, R.hB, R.b0, fun a h => ?_, R.nt, R.tb, R.pb, R.hi, fun i s h => ?_, R.ap⟩, m.d⟩
  · by_cases e : a = p
    · subst e
      have h' : upd Z.F a (.lst vs) a = some o := h
      rw [upd_same] at h'
      cases h'
      exact m.h
    · have h' : upd Z.F p (.lst vs) a = some o := h
      rw [upd_ne e] at h'
      exact R.hF a o h' nT
  · have h' : upd Z.F p (.lst vs) a = some (.tbl ps) := h
    by_cases e : a = p
    · rw [e, upd_same] at h'
      cases h'
    · rw [upd_ne e] at h'
      exact R.zt a ps h'
  · by_cases e : a = p
    · subst e; rw [m.b]; exact b0.symm
    · have h' : upd Z.F p (.lst vs) a ≠ none := h
      rw [upd_ne e] at h'
      exact R.gr a h'
  · have q := R.sl i s h
    have mk : ∀ {a ws es}, s.mut = true → σ[i]? = some (some (.ref a)) → MutOk K Z B H a ws es → MutOk K (Zp Z p vs) B H a ws es := fun {a ws es} hm e m' =>
      ⟨by show upd Z.F p (.lst vs) a = none; rw [upd_ne fun z => np i s h hm (by rw [e, z])]; exact m'.f, m'.b, m'.h, m'.d⟩
    cases s with
    | no => trivial
    | exc => exact q
    | val d => exact q
    | own ds => obtain ⟨a, ws, e, m', n⟩ := q; exact ⟨a, ws, e, mk rfl e m', n⟩
    | io j ds => obtain ⟨a, ws, e, m', n⟩ := q; exact ⟨a, ws, e, mk rfl e m', n⟩
theorem Rel.outP {p : Addr} {vs : List V} {ds : List D} (R : Rel K (Zp Z p vs) B H ρ σ) (hf : Z.F p = none) (hb : Z.B0 p = none) (hi : p ∉ Z.ins) (dv : DpAll K B vs ds) : Rel K Z B H ρ σ ∧ ResOk K Z B H ρ σ (.new ds) (.ref p) ∧ H p = some (.lst vs) := by
  have fs : (Zp Z p vs).F p = some (.lst vs) := upd_same
  have hp : H p = some (.lst vs) := R.hF.lst fs
  have bp : B p = none := by rw [R.gr p (by rw [fs]; simp)]; exact hb
  have mk : ∀ {a ws es}, MutOk K (Zp Z p vs) B H a ws es → a ≠ p ∧ MutOk K Z B H a ws es := fun {a ws es} m => by
    have ne : a ≠ p := fun z => by have := m.f; rw [z, fs] at this; cases this
    have f' : upd Z.F p (.lst vs) a = none := m.f
    rw [upd_ne ne] at f'
    exact ⟨ne, f', m.b, m.h, m.d⟩
  refine ⟨⟨R.len, fun a o h nT => ?_, fun a ps h => ?_, R.hB, R.b0, fun a h => ?_, R.nt, R.tb, R.pb, R.hi, fun i s h => ?_, R.ap⟩, ⟨p, vs, rfl, ⟨hf, bp, hp, dv⟩, hi, fun i s h hm e => ?_⟩, hp⟩
  · have ne : a ≠ p := fun z => by rw [z, hf] at h; cases h
    exact R.hF a o (by show upd Z.F p (.lst vs) a = some o; rw [upd_ne ne]; exact h) nT
  · have ne : a ≠ p := fun z => by rw [z, hf] at h; cases h
    exact R.zt a ps (by show upd Z.F p (.lst vs) a = some (.tbl ps); rw [upd_ne ne]; exact h)
  · have ne : a ≠ p := fun z => by rw [z] at h; exact h hf
    exact R.gr a (by show upd Z.F p (.lst vs) a ≠ none; rw [upd_ne ne]; exact h)
  · have q := R.sl i s h
    cases s with
    | no => trivial
    | exc => exact q
    | val d => exact q
    | own ds => obtain ⟨a, ws, e, m', n⟩ := q; exact ⟨a, ws, e, (mk m').2, n⟩
    | io j ds => obtain ⟨a, ws, e, m', n⟩ := q; exact ⟨a, ws, e, (mk m').2, n⟩
  · obtain ⟨a, ws, es, e', m⟩ := R.mutAt h hm
    rw [e'] at e
    cases e
    exact (mk m).1 rfl
/-- a list that nobody owns is written -/
theorem Rel.upd (R : Rel K Z B H ρ σ) {p : Addr} {ds es : List D} {ws : List V} (r : ResOk K Z B H ρ σ (.new ds) (.ref p)) (dv : DpAll K B ws es) : Rel K Z B (L2.upd H p (.lst ws)) ρ σ ∧ ResOk K Z B (L2.upd H p (.lst ws)) ρ σ (.new es) (.ref p) := by
  obtain ⟨p', vs, e, m, ni, np⟩ := r
  cases e
  have mk : ∀ {i : Nat} {s : Slot} {a ws' es}, ρ[i]? = some s → s.mut = true → σ[i]? = some (some (.ref a)) → MutOk K Z B H a ws' es → MutOk K Z B (L2.upd H p (.lst ws)) a ws' es := fun {i s a ws' es} h hm e m' =>
    ⟨m'.f, m'.b, by rw [upd_ne fun z => np i s h hm (by rw [e, z])]; exact m'.h, m'.d⟩
  refine ⟨⟨R.len, fun a o h nT => ?_, R.zt, fun a o h => ?_, R.b0, R.gr, R.nt, tabs_upd R.tb (.inr ⟨_, m.h⟩), R.pb, fun a h => ?_, fun i s h => ?_, R.ap⟩, p, ws, rfl, ⟨m.f, m.b, upd_same, dv⟩, ni, np⟩
  · have ne : a ≠ p := fun z => by rw [z, m.f] at h; cases h
    rw [upd_ne ne]
    exact R.hF a o h nT
  · have ne : a ≠ p := fun z => by rw [z, m.b] at h; cases h
    rw [upd_ne ne]
    exact R.hB a o h
  · by_cases ne : a = p
    · exact ⟨_, by rw [ne, upd_same]⟩
    · rw [upd_ne ne]; exact R.hi a h
  · have q := R.sl i s h
    cases s with
    | no => trivial
    | exc => exact q
    | val d => exact q
    | own ds => obtain ⟨a, ws, e, m', n⟩ := q; exact ⟨a, ws, e, mk h rfl e m', n⟩
    | io j ds => obtain ⟨a, ws, e, m', n⟩ := q; exact ⟨a, ws, e, mk h rfl e m', n⟩
end
theorem wipe_diff {ixs : List Nat} {σ σ' : L2.St} : ∀ {vs : List Nat}, Diff ixs (L2.wipe σ vs) σ' → (∀ i ∈ ixs, i ∈ vs) → L2.wipe σ' vs = L2.wipe σ vs := by
  intro vs d hs
  apply List.ext_getElem?
  intro i
  by_cases hi : i ∈ vs
  · have nn : ∀ (τ : L2.St) (ws : List Nat), i ∈ ws → i < τ.length → (L2.wipe τ ws)[i]? = some none := by
      intro τ ws
      induction ws with
      | nil => intro h; cases h
      | cons v ws ih =>
        intro h hl
        unfold L2.wipe
        by_cases e : i = v
        · subst e
          rw [List.getElem?_set_self (by rw [wipe_length]; exact hl)]
        · rw [List.getElem?_set_ne (Ne.symm e)]
          exact ih (by rcases List.mem_cons.mp h with z | z; exact absurd z e; exact z) hl
    have hlen : σ'.length = σ.length := by rw [d.1, wipe_length]
    by_cases hl : i < σ.length
    · rw [nn σ' vs hi (by rw [hlen]; exact hl), nn σ vs hi hl]
    · rw [List.getElem?_eq_none (by rw [wipe_length, hlen]; omega), List.getElem?_eq_none (by rw [wipe_length]; omega)]
  · rw [wipe_get hi, wipe_get hi, d.2 i fun z => hi (hs i z), wipe_get hi]

def compL (g : D → En → Option En) (mt me : En → EO) (vs : List Nat) : List D → En → Option (List D × En)
  | [], ρ => some ([], ρ)
  | d :: ds, ρ => match g d (wipeE ρ vs) with
    | none => none
    | some ρ1 => match mt ρ1 with
      | .ok r ρ2 => match r.d with
        | .bool true => match me ρ2 with
          | .ok r ρ3 => (compL g mt me vs ds ρ3).map fun p => (r.d :: p.1, p.2)
          | _ => none
        | .bool false => compL g mt me vs ds ρ2
        | _ => none
      | _ => none
def mLc (mi : En → WO) (g : D → En → Option En) (mt me : En → EO) (vs : List Nat) : En → EO := fun ρ => match mi ρ with
  | .fail => .fail
  | .exc x => .exc x
  | .ok ds ρ1 => if ds.length ≤ 100000 then
      match compL g mt me vs ds ρ1 with
      | some (out, ρ2) => .ok (.new out) (backF ρ1 vs (wipeE ρ2 vs))
      | none => .fail
    else .fail
structure JTs (X : Cx) (E : XK) (ifs : List Expr) (m : En → EO) : Prop where
  pts : PTs X ifs (tT X.K X.mg E m)
theorem pts_imp {X : Cx} {ifs : List Expr} {t t' : TT} (h : PTs X ifs t) (i : ∀ σ H Q, t' σ H Q → t σ H Q) : PTs X ifs t' := ⟨fun pins s σ H Q I q => h.run pins s σ H Q I (i σ H Q q)⟩
theorem jts_nil {X : Cx} {E : XK} : JTs X E [] (mC (.bool true)) := by
  refine ⟨pts_imp pts_nil fun σ H Q h => ?_⟩
  obtain ⟨Z, B, ρ, R, b, hb, h⟩ := h
  cases hb
  exact h B H (Ex.refl _) R
theorem jts_one {X : Cx} {E : XK} {c : Expr} {m : En → EO} (h : JT X E c m) : JTs X E [c] m := ⟨pts_one h.pt⟩
def EB : XK := fun _ _ _ => False
theorem lc_post {K : PySem.W.Frag} {mg : Str → Option Value} {E : XK} {mi : En → WO} {g : D → En → Option En} {mt me : En → EO} {vs ixs : List Nat} (hix : ∀ i ∈ ixs, i ∈ vs) {σ : L2.St} {H : Hp} {Q : VK} (h : tE K mg E (mLc mi g mt me vs) σ H Q) :
    tLc (tI K mg E mi) (tG K g ixs) (tT K mg EB mt) (tE K mg EB me) vs σ H Q := by
  obtain ⟨Z, B, ρ, R, h⟩ := h
  refine ⟨Z, B, ρ, R, ?_⟩
  unfold mLc at h
  cases hm : mi ρ with
  | fail => rw [hm] at h; exact h.elim
  | exc x => rw [hm] at h; exact h
  | ok ds ρ1 =>
    simp only [hm] at h
    split at h
    · rename_i hlen
      intro J B1 H1 e1 R1 ok p hp
      cases hc : compL g mt me vs ds ρ1 with
      | none => simp only [hc] at h; exact h.elim
      | some q =>
        obtain ⟨out, ρe⟩ := q
        simp only [hc] at h
        have h1 := EPost.mono h e1
        obtain ⟨R2, r2⟩ := R1.lst (ds := []) hp (.nil : DpAll K B1 [] [])
        obtain ⟨p', vs', ee, m2, ni, np⟩ := r2
        cases ee
        have hb0 : Z.B0 p = none := by
          cases q : Z.B0 p with
          | none => rfl
          | some o => have := R1.hB p o (R1.b0 p o q); rw [hp] at this; cases this
        have hF : Z.F p = none := R1.Fn hp
        have hv : ∀ (i : Nat) d, ρ1[i]? = some (.val d) → ∃ v, σ[i]? = some (some v) ∧ Dp K B1 v d := fun i d hi => by
          obtain ⟨v, e, dv⟩ := R1.sl i _ hi
          exact ⟨v, e, dv⟩
        refine ⟨fun i m H => m = ds.length - i ∧ i ≤ ds.length ∧ ∃ B' ρ' acc as rest, Ex B1 B' ∧ Rel K Z B' H (wipeE ρ' vs) (L2.wipe σ vs) ∧ ResOk K Z B' H (wipeE ρ' vs) (L2.wipe σ vs) (.new as) (.ref p) ∧ H p = some (.lst acc) ∧ DpAll K B' acc as ∧ acc.length ≤ i ∧
          compL g mt me vs (ds.drop i) ρ' = some (rest, ρe) ∧ out = as ++ rest, ⟨ds.length, rfl, Nat.zero_le _, B1, ρ1, [], [], out, Ex.refl _, R2.wipe vs, ?_, upd_same, .nil, Nat.le_refl _, hc, rfl⟩, ?_⟩
        · refine ⟨p, [], rfl, ⟨hF, m2.b, upd_same, .nil⟩, ni, fun i s h hm z => ?_⟩
          obtain ⟨a, ws, es, e, m⟩ := (R1.wipe vs).mutAt h hm
          rw [e] at z
          cases z
          rw [m.h] at hp
          cases hp
        rintro i m H2 ⟨rfl, hi', B2, ρ2, acc, as, rest, e2, R3, r3, hpa, dv, hl, hcc, ho⟩
        by_cases hlt : i < ds.length
        · refine .inr ⟨ok.go i H2 (e2.trans R3.hB) hlt, fun H => ∃ B' ρ' acc as rest, Ex B1 B' ∧ Rel K Z B' H (wipeE ρ' vs) (L2.wipe σ vs) ∧ ResOk K Z B' H (wipeE ρ' vs) (L2.wipe σ vs) (.new as) (.ref p) ∧ H p = some (.lst acc) ∧ DpAll K B' acc as ∧ acc.length ≤ i + 1 ∧
            compL g mt me vs (ds.drop (i + 1)) ρ' = some (rest, ρe) ∧ out = as ++ rest, fun H' n => ⟨ds.length - (i + 1), by omega, rfl, hlt, n⟩, fun x H3 y => ?_⟩
          obtain ⟨acc', R4, dv'⟩ := R3.withP r3
          have ea : acc' = acc := by
            have := R4.hF.lst (a := p) (xs := acc') upd_same
            rw [hpa] at this
            cases this
            rfl
          subst ea
          obtain ⟨B3, d, e3, R5, hd, dp⟩ := ok.yld (Zp Z p acc') B2 H2 (wipeE ρ2 vs) (L2.wipe σ vs) i x H3 R4 e2 hlt y
          have hdr : ds.drop i = d :: ds.drop (i + 1) := by
            rw [List.drop_eq_getElem_cons hlt]
            congr 1
            rw [List.getElem?_eq_getElem hlt] at hd
            exact Option.some.inj hd
          rw [hdr] at hcc
          unfold compL at hcc
          cases hgd : g d (wipeE ρ2 vs) with
          | none => rw [hgd] at hcc; cases hcc
          | some ρ3 =>
            simp only [hgd] at hcc
            refine ⟨Zp Z p acc', B3, wipeE ρ2 vs, d, ρ3, R5, dp, hgd, fun σ4 B4 H4 e4 R6 df => ?_⟩
            have hw := wipe_diff df hix
            refine ⟨hw, Zp Z p acc', B4, ρ3, R6, ?_⟩
            cases hmt : mt ρ3 with
            | fail => simp only [hmt] at hcc; cases hcc
            | exc x => simp only [hmt] at hcc; cases hcc
            | ok r ρ4 =>
              simp only [hmt] at hcc
              have more : ∀ {B' H' ρ' as' acc'' rest'}, Ex B4 B' → Rel K Z B' H' ρ' σ4 → ResOk K Z B' H' ρ' σ4 (.new as') (.ref p) → H' p = some (.lst acc'') → DpAll K B' acc'' as' → acc''.length ≤ i + 1 → compL g mt me vs (ds.drop (i + 1)) ρ' = some (rest', ρe) → out = as' ++ rest' →
                  ∃ B' ρ' acc as rest, Ex B1 B' ∧ Rel K Z B' H' (wipeE ρ' vs) (L2.wipe σ vs) ∧ ResOk K Z B' H' (wipeE ρ' vs) (L2.wipe σ vs) (.new as) (.ref p) ∧ H' p = some (.lst acc) ∧ DpAll K B' acc as ∧ acc.length ≤ i + 1 ∧ compL g mt me vs (ds.drop (i + 1)) ρ' = some (rest, ρe) ∧ out = as ++ rest := by
                intro B' H' ρ' as' acc'' rest' e5 R7 r7 h7 dv7 l7 c7 o7
                refine ⟨B', ρ', acc'', as', rest', ((e2.trans e3).trans e4).trans e5, by rw [← hw]; exact R7.wipe vs, ?_, h7, dv7, l7, c7, o7⟩
                obtain ⟨p1, vs1, ee1, m1, ni1, np1⟩ := r7
                cases ee1
                refine ⟨p, vs1, rfl, m1, ni1, fun j s hj hm z => ?_⟩
                rcases wipeE_get hj with rfl | ⟨n, hj⟩
                · cases hm
                · rw [← hw, wipe_get n] at z
                  exact np1 j s hj hm z
              have outP : ∀ {B' H' ρ' ds'}, Ex B4 B' → Rel K (Zp Z p acc') B' H' ρ' σ4 → DpAll K B' acc' ds' → Rel K Z B' H' ρ' σ4 ∧ ResOk K Z B' H' ρ' σ4 (.new ds') (.ref p) ∧ H' p = some (.lst acc') := fun {B' H' ρ' ds'} e R dd => R.outP hF hb0 ni dd
              cases hrd : r.d <;> simp only [hrd] at hcc <;> first | (cases hcc; done) | skip
              rename_i b
              refine ⟨b, hrd, fun B5 H5 e5 R7 => ?_⟩
              cases b with
              | false =>
                rw [if_neg Bool.false_ne_true]
                obtain ⟨R8, r8, h8⟩ := outP e5 R7 (dv.ex ((e3.trans e4).trans e5))
                exact more e5 R8 r8 h8 (dv.ex ((e3.trans e4).trans e5)) (by omega) hcc ho
              | true =>
                rw [if_pos rfl]
                refine ⟨Zp Z p acc', B5, ρ4, R7, ?_⟩
                cases hme : me ρ4 with
                | fail => simp only [hme] at hcc; cases hcc
                | exc x => simp only [hme] at hcc; cases hcc
                | ok r' ρ5 =>
                  simp only [hme] at hcc
                  intro v B6 H6 e6 R8 r8
                  obtain ⟨B7, e7, R9, d9⟩ := R8.freeze r8
                  have e47 := (e5.trans e6).trans e7
                  have e27 := (e3.trans e4).trans e47
                  obtain ⟨R10, r10, h10⟩ := outP e47 R9 (dv.ex e27)
                  have dn : DpAll K B7 (acc' ++ [v]) (as ++ [r'.d]) := (dv.ex e27).append (.cons d9 .nil)
                  obtain ⟨R11, r11⟩ := R10.upd r10 dn
                  cases hc2 : compL g mt me vs (ds.drop (i + 1)) ρ5 with
                  | none => rw [hc2] at hcc; cases hcc
                  | some q =>
                    rw [hc2] at hcc
                    have hcc' : (r'.d :: q.1, q.2) = (rest, ρe) := Option.some.inj hcc
                    cases hcc'
                    exact ⟨acc', h10, Nat.lt_of_lt_of_le (Nat.lt_of_lt_of_le (Nat.lt_of_le_of_lt hl hlt) hlen) (by decide), more e47 R11 r11 upd_same dn (by simp; omega) (by rw [hc2]) (by rw [ho]; simp)⟩
        · have e : i = ds.length := by omega
          subst e
          rw [List.drop_length] at hcc
          cases hcc
          refine .inl ⟨ok.stop H2 (e2.trans R3.hB), ?_⟩
          have hoa : out = as := by rw [ho]; simp
          subst hoa
          have RR : Rel K Z B2 H2 (backF ρ1 vs (wipeE ρe vs)) σ := Rel.back (fun i d hi => by
            obtain ⟨v, e, dv⟩ := hv i d hi
            exact ⟨v, e, dv.ex e2⟩) R3.unwipe
          refine h1 (.ref p) B2 H2 e2 RR ?_
          obtain ⟨p1, vs1, ee1, m1, ni1, np1⟩ := r3
          cases ee1
          refine ⟨p, vs1, rfl, m1, ni1, fun j s hj hm z => ?_⟩
          have bk : ∀ {ws : List Nat} {ρ : En} {s : Slot}, (backF ρ1 ws ρ)[j]? = some s → s.mut = true → ρ[j]? = some s := by
            intro ws
            induction ws with
            | nil => intro ρ s h _; exact h
            | cons v ws ih =>
              intro ρ s h hm
              unfold backF at h
              have h' := ih h hm
              split at h'
              · by_cases e : j = v
                · subst e
                  have hlt : j < ρ.length := by
                    have := (List.getElem?_eq_some_iff.mp h').1
                    simpa using this
                  rw [List.getElem?_set_self hlt] at h'
                  cases h'
                  cases hm
                · rw [List.getElem?_set_ne (Ne.symm e)] at h'
                  exact h'
              · exact h'
          have hj' := bk hj hm
          rcases wipeE_get hj' with rfl | ⟨n, hj2⟩
          · cases hm
          · exact np1 j s hj' hm (by rw [wipe_get n]; exact z)
    · exact h.elim
section
variable {X : Cx} {E : XK} {elt tg iter : Expr} {ifs : List Expr} {scope : Scope} {own : List (Str × Nat)} {pos : Pos} {mi : En → WO} {g : D → En → Option En} {ixs : List Nat} {mt me : En → EO}
theorem je_lc (own : List (Str × Nat)) (hc : X.calm = true) (hN : X.N.Nodup) (hi : JI X E tg iter mi)
    (hg : ∀ (s : Shared) (H : Hp) (C : Addr) (cl : List (Str × Addr)) (fp : List Addr), JG (X.blk s H scope (compEnvC scope cl C X.env) fp) tg g ixs)
    (ht : ∀ (s : Shared) (H : Hp) (C : Addr) (cl : List (Str × Addr)) (fp : List Addr), JTs (X.blk s H scope (compEnvC scope cl C X.env) fp) EB ifs mt)
    (he : ∀ (s : Shared) (H : Hp) (C : Addr) (cl : List (Str × Addr)) (fp : List Addr), JE (X.blk s H scope (compEnvC scope cl C X.env) fp) EB elt me)
    (hok : blkC X.N X.env.scope scope own = true := by first | decide +kernel | kernel_rfl | rfl) (hix : (ixs.all fun i => (own.map (·.2)).contains i) = true := by decide) (hs : ∀ x, foldedSetIterable iter X.env x = pure x := by intro _; rfl) :
    JE X E (.ListComp elt [⟨tg, iter, ifs, 0⟩] scope pos) (mLc mi g mt me (own.map (·.2))) := by
  have hix' : ∀ i ∈ ixs, i ∈ own.map (·.2) := fun i h => by
    have := List.all_eq_true.mp hix i h
    simpa using this
  exact ⟨(pe_lc hc hN hi.pi (blkOk_by hok) (fun s H C cl fp => (hg s H C cl fp).pg) (fun s H C cl fp => (ht s H C cl fp).pts) (fun s H C cl fp => (he s H C cl fp).pe) hs).imp fun σ H Q h => lc_post hix' h⟩
end
end DL

set_option maxRecDepth 100000
set_option maxHeartbeats 2000000
/-! lists that are read and written where they stand; stores of several names; constants of the module -/
namespace DL
open PySem L2 PySem.Spec PyProof.Rows
variable [Tb]

def Zk (B H : Hp) : Zt := ⟨ntb H, B, []⟩
def noE (n : Nat) : En := List.replicate n .no
def pkD : Slot → Option D
  | .val d => some d
  | .own ds => some (.list ds)
  | .io _ ds => some (.list ds)
  | .no => none
  | .exc => none
def Res.scal : Res → Bool
  | .val .none => true
  | .val (.bool _) => true
  | .val (.int _) => true
  | .val (.str _) => true
  | _ => false
section
variable {K : PySem.W.Frag} {Z : Zt} {B B' H H' : Hp} {ρ ρ1 : En} {σ : L2.St}
theorem noE_get {n i : Nat} {s : Slot} (h : (noE n)[i]? = some s) : s = .no := by
  unfold noE at h
  rw [List.getElem?_replicate] at h
  split at h
  · exact (Option.some.inj h).symm
  · cases h
/-- a slot read in passing: its data for a while, then back -/
theorem Rel.peek (R : Rel K Z B H ρ σ) {i : Nat} {s : Slot} {d : D} (h : ρ[i]? = some s) (hd : pkD s = some d) :
    ∃ v Bt, σ[i]? = some (some v) ∧ Ex B Bt ∧ Dp K Bt v d ∧ Rel K (Zk Bt H) Bt H (noE ρ.length) σ ∧ ∀ B' H', Ex Bt B' → Rel K (Zk Bt H) B' H' (noE ρ.length) σ → ∃ B'', Ex B B'' ∧ Rel K Z B'' H' ρ σ := by
  have main : ∀ (a : Addr) (o : Option Addr) (Bt : Hp), (∀ b, Bt b = B b ∨ (o = some b ∧ B b = none ∧ Bt b = H b ∧ ∃ vs, H b = some (.lst vs))) → Ex B Bt ∧ Rel K (Zk Bt H) Bt H (noE ρ.length) σ ∧ ∀ B' H', Ex Bt B' → Rel K (Zk Bt H) B' H' (noE ρ.length) σ → ∃ B'', Ex B B'' ∧ Rel K Z B'' H' ρ σ := by
    intro _ o Bt hBt
    have e0 : Ex B Bt := fun b q hb => by
      rcases hBt b with e | ⟨_, e, _⟩
      · rw [e]; exact hb
      · rw [e] at hb; cases hb
    refine ⟨e0, ⟨by simp [noE, R.len], ex_nt H, fun b ps => nt_tbl ps, fun b q hb => ?_, Ex.refl _, fun b _ => rfl, fun b ps hb => ?_, R.tb, Tb.hP _ _ e0 R.pb, fun b hb => (by cases hb), fun j t hj => ?_, fun j k t u b hj _ ht _ _ _ => ?_⟩, fun B' H' e Rt => ?_⟩
    · rcases hBt b with e | ⟨_, _, e, _⟩
      · rw [e] at hb; exact R.hB b q hb
      · rw [e] at hb; exact hb
    · rcases hBt b with e | ⟨_, _, e, vs, ev⟩
      · rw [e] at hb; exact R.nt b ps hb
      · rw [e, ev] at hb; cases hb
    · rw [noE_get hj]; trivial
    · rw [noE_get hj] at ht; cases ht
    · have c1 : ∀ {b q}, B b = some q → ¬ (o = some b ∧ B b = none) := fun {b q} hb z => by rw [z.2] at hb; cases hb
      have eB : Ex B (fun b => if o = some b ∧ B b = none then none else B' b) := fun b q hb => by
        show (if o = some b ∧ B b = none then none else B' b) = some q
        rw [if_neg (c1 hb)]
        exact e b q (e0 b q hb)
      have ge : ∀ {b q}, (if o = some b ∧ B b = none then none else B' b) = some q → B' b = some q := fun {b q} hb => by
        split at hb
        · cases hb
        · exact hb
      refine ⟨_, eB, R.go eB (fun b q hb => Rt.hB b q (ge hb)) (nt_ex Rt.hF) (fun b hb hT => ?_) (fun b ps hb => Rt.nt b ps (ge hb)) Rt.tb⟩
      show (if o = some b ∧ B b = none then none else B' b) = B b
      by_cases c : o = some b ∧ B b = none
      · rw [if_pos c, c.2]
      · rw [if_neg c]
        have g : B' b = Bt b := Rt.gr b (nt_nn hb hT)
        rw [g]
        rcases hBt b with e | ⟨e1, e2, _⟩
        · exact e
        · exact absurd ⟨e1, e2⟩ c
  cases s with
  | no => cases hd
  | exc => cases hd
  | val d' =>
    cases hd
    obtain ⟨v, ev, dv⟩ := R.sl i _ h
    obtain ⟨m1, m2, m3⟩ := main 0 none B fun b => .inl rfl
    exact ⟨v, B, ev, m1, dv, m2, m3⟩
  | own ds =>
    cases hd
    obtain ⟨a, vs, ea, eh, dv, m⟩ := R.dataAt h rfl
    obtain ⟨m1, m2, m3⟩ := main a (some a) (L2.upd B a (.lst vs)) fun b => by
      by_cases e : b = a
      · subst e; exact .inr ⟨rfl, m.b, by rw [upd_same, eh], vs, eh⟩
      · exact .inl (upd_ne e)
    exact ⟨.ref a, _, ea, m1, .lst (SqL.of upd_same) (dv.ex m1), m2, m3⟩
  | io j ds =>
    cases hd
    obtain ⟨a, vs, ea, eh, dv, m⟩ := R.dataAt h rfl
    obtain ⟨m1, m2, m3⟩ := main a (some a) (L2.upd B a (.lst vs)) fun b => by
      by_cases e : b = a
      · subst e; exact .inr ⟨rfl, m.b, by rw [upd_same, eh], vs, eh⟩
      · exact .inl (upd_ne e)
    exact ⟨.ref a, _, ea, m1, .lst (SqL.of upd_same) (dv.ex m1), m2, m3⟩
theorem scal_ok {Z' : Zt} {ρ' : En} {r : Res} {v : V} (hs : r.scal = true) (h : ResOk K Z' B' H' ρ' σ r v) : ∀ {Z B H ρ}, ResOk K Z B H ρ σ r v := by
  intro Z B H ρ
  cases r with
  | new ds => cases hs
  | val d =>
    have h' : Dp K B' v d := h
    cases d <;> first | (cases hs; done) | skip
    · rw [dp_non h']; exact .non
    · rw [dp_bool h']; exact .bl _
    · rw [dp_int h']; exact .int _
    · rw [dp_str h']; exact .str _
end
/-- the left operand is a name, read in passing -/
def pkOk (f : Option Res) (ρ : En) : EO := match f with
  | some r => if r.scal = true then .ok r ρ else .fail
  | none => .fail
def mPkL (i : Nat) (f : D → D → Option Res) (mb : En → EO) : En → EO := fun ρ => match (ρ[i]?).bind pkD with
  | none => .fail
  | some _ => (mb ρ).bind fun e ρ1 => match (ρ1[i]?).bind pkD with
    | none => .fail
    | some d => pkOk (f d e) ρ1
def mPkR (i : Nat) (f : D → D → Option Res) (ma : En → EO) : En → EO := fun ρ => (ma ρ).bind fun e ρ1 => match (ρ1[i]?).bind pkD with
    | none => .fail
    | some d => pkOk (f e d) ρ1
def mPkU (i : Nat) (f : D → Option Res) : En → EO := fun ρ => match (ρ[i]?).bind pkD with
    | none => .fail
    | some d => pkOk (f d) ρ
def mPkIx (i : Nat) (mb : En → EO) : En → EO := fun ρ => match (ρ[i]?).bind pkD with
  | none => .fail
  | some _ => (mb ρ).bind fun e ρ1 => match (ρ1[i]?).bind pkD with
    | none => .fail
    | some d => .of (fIx d e) ρ1
theorem slot_bind {ρ : En} {i : Nat} {d : D} (h : (ρ[i]?).bind pkD = some d) : ∃ s, ρ[i]? = some s ∧ pkD s = some d := by
  cases q : ρ[i]? with
  | none => rw [q] at h; cases h
  | some s => rw [q] at h; exact ⟨s, rfl, h⟩
section
variable {X : Cx} {E : XK} {a b e : Expr} {ma mb : En → EO} {pos p : Pos} {x : Str} {i : Nat}
theorem pk_fin {K : PySem.W.Frag} {mg : Str → Option Value} {Z : Zt} {B H : Hp} {ρ : En} {σ : L2.St} {Q : VK} {o : Option Res} {v : V} {s : Slot} {d : D} (R : Rel K Z B H ρ σ) (hs : ρ[i]? = some s) (hd : pkD s = some d) (h : EPost K mg Z B σ E Q (pkOk o ρ))
    (ri : Hp → VK → Prop) (hf : ∀ res, o = some res → ∀ Bt, Ex B Bt → Rel K (Zk Bt H) Bt H (noE ρ.length) σ → ∀ v, σ[i]? = some (some v) → Dp K Bt v d → (∀ v B' H', Ex Bt B' → Rel K (Zk Bt H) B' H' (noE ρ.length) σ → ResOk K (Zk Bt H) B' H' (noE ρ.length) σ res v → Q v H') → ri H Q) : ri H Q := by
  unfold pkOk at h
  cases o with
  | none => exact h.elim
  | some res =>
    simp only at h
    split at h
    · rename_i hsc
      obtain ⟨v, Bt, hv, e, dv, Rt, back⟩ := R.peek hs hd
      exact hf res rfl Bt e Rt v hv dv fun v' B' H' e' R' r' => by
        obtain ⟨B'', e'', R''⟩ := back B' H' e' R'
        exact h v' B'' H' e'' R'' (scal_ok hsc r')
    · exact h.elim
theorem mPkL_of {r : R2} {f : D → D → Option Res} (hf : VOp X r f) : ∀ σ H Q, tE X.K X.mg E (mPkL i f mb) σ H Q → tOp r (tVar i) (tE X.K X.mg E mb) σ H Q := by
  intro σ H Q ⟨Z, B, ρ, R, h⟩
  unfold mPkL at h
  cases hb : (ρ[i]?).bind pkD with
  | none => rw [hb] at h; exact h.elim
  | some d0 =>
    simp only [hb] at h
    obtain ⟨s0, hs0, hd0⟩ := slot_bind hb
    obtain ⟨v0, _, hv0, _⟩ := R.peek hs0 hd0
    refine ⟨v0, hv0, Z, B, ρ, R, EPost.bind h fun e ρ1 y B1 H1 e1 R1 dy h1 => ?_⟩
    cases hb1 : (ρ1[i]?).bind pkD with
    | none => simp only [hb1] at h1; exact h1.elim
    | some d =>
      simp only [hb1] at h1
      obtain ⟨s, hs, hd⟩ := slot_bind hb1
      refine pk_fin (i := i) (v := v0) R1 hs hd h1 (fun H Q => r v0 y H Q) fun res hr Bt eb Rt v hv dv q => ?_
      rw [hv0] at hv
      cases hv
      exact hf _ Bt H1 _ σ v0 y d e res Q Rt dv (dy.ex eb) hr q
theorem mPkR_of {r : R2} {f : D → D → Option Res} (hf : VOp X r f) : ∀ σ H Q, tE X.K X.mg E (mPkR i f ma) σ H Q → tOp r (tE X.K X.mg E ma) (tVar i) σ H Q := by
  intro σ H Q ⟨Z, B, ρ, R, h⟩
  refine ⟨Z, B, ρ, R, EPost.bind (k := fun e ρ1 => match (ρ1[i]?).bind pkD with | none => .fail | some d => pkOk (f e d) ρ1) h fun e ρ1 y B1 H1 e1 R1 dy h1 => ?_⟩
  cases hb1 : (ρ1[i]?).bind pkD with
  | none => simp only [hb1] at h1; exact h1.elim
  | some d =>
    simp only [hb1] at h1
    obtain ⟨s, hs, hd⟩ := slot_bind hb1
    obtain ⟨v0, _, hv0, _⟩ := R1.peek hs hd
    refine ⟨v0, hv0, ?_⟩
    refine pk_fin (i := i) (v := v0) R1 hs hd h1 (fun H Q => r y v0 H Q) fun res hr Bt eb Rt v hv dv q => ?_
    rw [hv0] at hv
    cases hv
    exact hf _ Bt H1 _ σ y v0 e d res Q Rt (dy.ex eb) dv hr q
theorem je_pkCmp (i : Nat) {op : CmpOp} {r : R2} {f : D → D → Option Res} (ho : OpR X (compareOp op) r) (hf : VOp X r f) (hb : JE X E b mb) (hm : behindInMarks op b = false := by rfl)
    (hN : X.N[i]? = some x := by rfl) (hv : Vis X.env.scope x := by first | exact Or.inl rfl | exact Or.inr (Or.inl rfl) | exact Or.inr (Or.inr rfl)) (hd : (x == ("__debug__" : Str)) = false := by decide) (hcd : (x == ("__classdict__" : Str)) = false := by decide) :
    JE X E (.Compare (.Name x p) [op] [b] pos) (mPkL i f mb) :=
  ⟨(pe_cmpR ho (pe_var (i := i) hN hv hd hcd) hb.pe hm).imp (mPkL_of hf)⟩
theorem jt_pkCmp (i : Nat) {op : CmpOp} {r : R2} {f : D → D → Option Res} (ho : OpR X (compareOp op) r) (hf : VOp X r f) (hb : JE X E b mb) (hm : behindInMarks op b = false := by rfl)
    (hN : X.N[i]? = some x := by rfl) (hv : Vis X.env.scope x := by first | exact Or.inl rfl | exact Or.inr (Or.inl rfl) | exact Or.inr (Or.inr rfl)) (hd : (x == ("__debug__" : Str)) = false := by decide) (hcd : (x == ("__classdict__" : Str)) = false := by decide) :
    JT X E (.Compare (.Name x p) [op] [b] pos) (mB (mPkL i f mb)) :=
  ⟨(pt_cmpR ho (pe_var (i := i) hN hv hd hcd) hb.pe hm).imp (tB_of (mPkL_of hf))⟩
theorem je_pkIn (i : Nat) {op : CmpOp} {r : R2} {f : D → D → Option Res} (ho : OpR X (compareOp op) r) (hf : VOp X r f) (ha : JE X E a ma) (hm : behindInMarks op (.Name x p) = false := by rfl)
    (hN : X.N[i]? = some x := by rfl) (hv : Vis X.env.scope x := by first | exact Or.inl rfl | exact Or.inr (Or.inl rfl) | exact Or.inr (Or.inr rfl)) (hd : (x == ("__debug__" : Str)) = false := by decide) (hcd : (x == ("__classdict__" : Str)) = false := by decide) :
    JE X E (.Compare a [op] [.Name x p] pos) (mPkR i f ma) :=
  ⟨(pe_cmpR ho ha.pe (pe_var (i := i) hN hv hd hcd) hm).imp (mPkR_of hf)⟩
theorem jt_pkIn (i : Nat) {op : CmpOp} {r : R2} {f : D → D → Option Res} (ho : OpR X (compareOp op) r) (hf : VOp X r f) (ha : JE X E a ma) (hm : behindInMarks op (.Name x p) = false := by rfl)
    (hN : X.N[i]? = some x := by rfl) (hv : Vis X.env.scope x := by first | exact Or.inl rfl | exact Or.inr (Or.inl rfl) | exact Or.inr (Or.inr rfl)) (hd : (x == ("__debug__" : Str)) = false := by decide) (hcd : (x == ("__classdict__" : Str)) = false := by decide) :
    JT X E (.Compare a [op] [.Name x p] pos) (mB (mPkR i f ma)) :=
  ⟨(pt_cmpR ho ha.pe (pe_var (i := i) hN hv hd hcd) hm).imp (tB_of (mPkR_of hf))⟩
/-- x[k] -/
theorem je_pkIx (i : Nat) (hb : JE X E b mb) (hs : PlainIx b := by intro _ _; rfl)
    (hN : X.N[i]? = some x := by rfl) (hv : Vis X.env.scope x := by first | exact Or.inl rfl | exact Or.inr (Or.inl rfl) | exact Or.inr (Or.inr rfl)) (hd : (x == ("__debug__" : Str)) = false := by decide) (hcd : (x == ("__classdict__" : Str)) = false := by decide) :
    JE X E (.Subscript (.Name x p) b pos) (mPkIx i mb) := by
  refine ⟨(pe_ix ix_seq (pe_var (i := i) hN hv hd hcd) hb.pe hs).imp fun σ H Q h => ?_⟩
  obtain ⟨Z, B, ρ, R, h⟩ := h
  unfold mPkIx at h
  cases hb : (ρ[i]?).bind pkD with
  | none => rw [hb] at h; exact h.elim
  | some d0 =>
    simp only [hb] at h
    obtain ⟨s0, hs0, hd0⟩ := slot_bind hb
    obtain ⟨v0, _, hv0, _⟩ := R.peek hs0 hd0
    refine ⟨v0, hv0, Z, B, ρ, R, EPost.bind h fun e ρ1 y B1 H1 e1 R1 dy h1 => ?_⟩
    cases hb1 : (ρ1[i]?).bind pkD with
    | none => simp only [hb1] at h1; exact h1.elim
    | some d =>
      simp only [hb1] at h1
      obtain ⟨s, hs, hd⟩ := slot_bind hb1
      cases hr : fIx d e with
      | none => rw [hr] at h1; exact h1.elim
      | some res =>
        rw [hr] at h1
        have own : ∀ {ds : List D}, s.data = some ds → d = .list ds → rIx X.K v0 y H1 Q := fun {ds} hsd ed => by
          subst ed
          obtain ⟨a, vs, ea, eh, dv, m⟩ := R1.dataAt hs hsd
          rw [hv0] at ea
          cases ea
          cases e <;> first | (cases hr; done) | skip
          rename_i k
          simp only [fIx] at hr
          cases hc : atI ds k with
          | none => rw [hc] at hr; cases hr
          | some c =>
            rw [hc] at hr
            cases hr
            obtain ⟨v, hv, dc⟩ := atI_dp dv hc
            exact .inl ⟨a, vs, k, v, rfl, dp_int dy, SqL.of eh, hv, h1 _ B1 H1 (Ex.refl _) R1 dc⟩
        cases s with
        | no => cases hd
        | exc => cases hd
        | val d' =>
          cases hd
          obtain ⟨v, ev, dv⟩ := R1.sl i _ hs
          rw [hv0] at ev
          cases ev
          exact vIx Z B1 H1 ρ1 σ v0 y d e res Q R1 dv dy hr fun v B' H' e' => h1 v B' H' e'
        | own ds => cases hd; exact own rfl rfl
        | io j ds => cases hd; exact own rfl rfl
/-- len(x) -/
theorem je_pkCall (i : Nat) {y : Str} {id : String} {q : Pos} {r : List V → Hp → VK → Prop} {f : D → Option Res} (hc : CallR X (.builtin id) r) (hf : VCall X r (f1 f)) (hm : X.mg y = none := by rfl) (hb : bootBuiltins y = some (.builtin id) := by decide +kernel) (hg : Gl X y := by rfl) (hn : y ≠ "__name__" := by decide) (hdb : (y == ("__debug__" : Str)) = false := by decide)
    (he : starEach [.Name x p] X.env = (false, eval (.Name x p) X.env) :: starEach [] X.env := by rfl) (hpl : (backTo pos (starEach [] X.env)).any (·.1) = false := by rfl)
    (hN : X.N[i]? = some x := by rfl) (hv : Vis X.env.scope x := by first | exact Or.inl rfl | exact Or.inr (Or.inl rfl) | exact Or.inr (Or.inr rfl)) (hd : (x == ("__debug__" : Str)) = false := by decide) (hcd : (x == ("__classdict__" : Str)) = false := by decide) :
    JE X E (.Call (.Name y q) [.Name x p] [] pos) (mPkU i f) := by
  refine ⟨(pe_callB hc hg hm hb (pa_cons (pe_var (i := i) hN hv hd hcd) pa_nil he) hn hdb he hpl).imp fun σ H Q h => ?_⟩
  obtain ⟨Z, B, ρ, R, h⟩ := h
  unfold mPkU at h
  cases hb : (ρ[i]?).bind pkD with
  | none => rw [hb] at h; exact h.elim
  | some d =>
    simp only [hb] at h
    obtain ⟨s, hs, hd⟩ := slot_bind hb
    obtain ⟨v0, _, hv0, _⟩ := R.peek hs hd
    refine ⟨v0, hv0, ?_⟩
    refine pk_fin (i := i) (v := v0) R hs hd h (fun H Q => r [v0] H Q) fun res hr Bt eb Rt v hv dv q => ?_
    rw [hv0] at hv
    cases hv
    exact hf _ Bt H _ σ [v0] [d] res Q Rt (.cons dv .nil) hr q
end

/-! ### methods of lists -/
theorem list_extend_any (l : Addr) (items : Array Value) (n : Nat) (b : Addr) (items2 : Array Value) (n2 : Nat) (sl2 : Array (Option Value)) (hc0 : ¬(!items.isEmpty && Builtin.List.listTooLong (items.size + items2.size)) = true) (hc1 : items.size ≤ sizeLine) (hs2 : items.size + items2.size ≤ sizeLine + 1) :
    Meets (Builtin.«list.extend» ⟨[.ref l, .ref b], []⟩) (fun _ R s => s.heap.get? l = some { cls := .type "list", dict := none, data := .seq items n, slots := #[] } ∧ s.heap.get? b = some { cls := .type "list", dict := none, data := .seq items2 n2, slots := sl2 } ∧ R (.ok (.ret Value.none)) { s with heap := s.heap.update l (Obj.mapSeq fun x => x ++ items2), toks := s.toks }) :=
  .of_wp fun prog w A R s h => by
    obtain ⟨hp, g, d, tk, os⟩ := s; obtain ⟨hl, hb, h⟩ := h; have f1 := AutoSeq1.idx_int; have f2 := AutoSeq1.sub_tuple_tuple; have f3 := AutoSeq1.sub_list_list; have f4 := AutoSeq1.sub_tuple_list; have f5 := AutoSeq1.sub_list_tuple;
    have hz' : (items ++ items2).size ≤ sizeLine + 1 := by rw [Array.size_append]; exact hs2
    wp_walk using (wpAny_updateSeq hl rfl (hz := hc1) (_hz' := hz')), AutoSeq1.wpAny_loadPart' hl, AutoSeq1.wpAny_loadPart' hb; exact ⟨_, rfl, h⟩
def rExtendS (K : PySem.W.Frag) : V → List V → Hp → VK → Prop := fun x vs H Q => ∃ l b xs zs, x = .ref l ∧ vs = [.ref b] ∧ H l = some (.lst xs) ∧ SqL K H b zs ∧ xs.length + zs.length ≤ sizeLine ∧ Q .non (upd H l (.lst (xs ++ zs)))
theorem mt_extendS {X : Cx} : MtM X "list.extend" (rExtendS X.K) := by
  intro pins s σ H x vs v us Q I rx rv h
  obtain ⟨l, b, xs, zs, rfl, rfl, hH, hB, hz, q⟩ := h
  cases rx
  obtain ⟨u, rfl, ru⟩ := rv.one
  cases ru
  obtain ⟨z, its, n, r, hl, e⟩ := I.lstM hH
  obtain ⟨its2, r2, ⟨⟨cls2, dd2, data2, sls2⟩, n2, ho2, hc2, hdn2, hdt2⟩, _⟩ := I.list hB
  simp only at hc2 hdt2 hdn2
  subst hc2 hdt2 hdn2
  have l2 := r2.length
  have hsz : its.toArray.size + its2.toArray.size ≤ sizeLine := by rw [List.size_toArray, List.size_toArray]; omega
  have hlong : ¬ (!its.toArray.isEmpty && Builtin.List.listTooLong (its.toArray.size + its2.toArray.size)) = true := by
    rw [notLongL hsz, Bool.and_false]
    exact Bool.false_ne_true
  refine call_meets F.slot_list_extend ⟨_, e, rfl⟩ F.entry_list_extend (F.args_list_extend_2 _ _)
    (list_extend_any l its.toArray n b its2.toArray n2 sls2 hlong (by rw [List.size_toArray]; omega) (by omega)) ⟨e, ho2, ?_⟩
  refine ⟨.non, _, I.lset (its' := its ++ its2) hH e (by simp) (r.append r2) ?_, rfl, q⟩
  rw [List.length_append]
  omega
/-- x.m(e): f, from the list and the argument the result and the new list -/
def mMeth (i : Nat) (f : List D → D → Option (D × List D)) (me : En → EO) : En → EO := fun ρ => match (ρ[i]?).bind Slot.data with
  | none => .fail
  | some _ => (me ρ).bind fun d ρ1 => match ρ1[i]? with
    | none => .fail
    | some s => match s.data with
      | none => .fail
      | some ds => match f ds d with
        | some (r, es) => .ok (.val r) (ρ1.set i (s.put es))
        | none => .fail
/-- what a method does, by values -/
def VMeth (K : PySem.W.Frag) (r : V → List V → Hp → VK → Prop) (f : List D → D → Option (D × List D)) : Prop :=
  ∀ (B H : Hp) (a : Addr) (vs : List V) (y : V) (ds : List D) (d r' : D) (es : List D) (Q : VK), Ex B H → H a = some (.lst vs) → DpAll K B vs ds → Dp K B y d → f ds d = some (r', es) →
    (∀ v ws, Dp K B v r' → DpAll K B ws es → Q v (upd H a (.lst ws))) → r (.ref a) [y] H Q
def fAppend (ds : List D) (d : D) : Option (D × List D) := if ds.length < 100000 then some (.none, ds ++ [d]) else none
def fExtend (ds : List D) (d : D) : Option (D × List D) := match d with
  | .list es => if ds.length + es.length ≤ 100000 then some (.none, ds ++ es) else none
  | _ => none
def fPopAt (ds : List D) (d : D) : Option (D × List D) := match d with
  | .int k => if 0 ≤ k ∧ k.toNat < ds.length ∧ ds.length ≤ 100000 then (ds[k.toNat]?).map fun r => (r, ds.eraseIdx k.toNat) else none
  | _ => none
theorem vAppend {K : PySem.W.Frag} : VMeth K rAppend fAppend := by
  intro B H a vs y ds d r' es Q eb ha dv dy hf q
  unfold fAppend at hf
  split at hf
  · rename_i hl
    cases hf
    exact ⟨a, vs, y, rfl, rfl, ha, by rw [dv.length]; exact Nat.lt_of_lt_of_le hl (by decide), q _ _ .non (dv.append (.cons dy .nil))⟩
  · cases hf
theorem vExtend {K : PySem.W.Frag} : VMeth K (rExtendS K) fExtend := by
  intro B H a vs y ds d r' es Q eb ha dv dy hf q
  cases d <;> first | (cases hf; done) | skip
  simp only [fExtend] at hf
  split at hf
  · rename_i hl
    cases hf
    obtain ⟨b, ws, rfl, h1, d1⟩ := dp_lst dy
    exact ⟨a, b, vs, ws, rfl, rfl, ha, ex_l eb h1, by rw [dv.length, d1.length]; exact sz hl, q _ _ .non (dv.append d1)⟩
  · cases hf
theorem vPopAt {K : PySem.W.Frag} : VMeth K rPopAt fPopAt := by
  intro B H a vs y ds d r' es Q eb ha dv dy hf q
  cases d <;> first | (cases hf; done) | skip
  rename_i k
  simp only [fPopAt] at hf
  split at hf
  · rename_i hl
    obtain ⟨h0, h1, h2⟩ := hl
    have e1 : ds[k.toNat]? = some ds[k.toNat] := by simp [h1]
    rw [e1] at hf
    cases hf
    have hl := dv.length
    obtain ⟨v, hv, dr⟩ := dv.getD e1
    refine ⟨a, vs, k, k.toNat, v, rfl, by rw [dp_int dy], ha, by omega, by omega, ?_, hv, q _ _ dr (dv.eraseIdx _)⟩
    exact seqIndex_of h0 (by omega)
  · cases hf
section
variable {X : Cx} {E : XK} {e : Expr} {me : En → EO} {x name : Str} {p apos cpos : Pos} {id : String}
theorem je_meth (i : Nat) {r : V → List V → Hp → VK → Prop} {f : List D → D → Option (D × List D)} (slot : PySem.Slot "list" name id) (hty : typeOf (.builtin id) = pure (.type "method_descriptor")) (hm : MtM X id r) (hf : VMeth X.K r f) (he : JE X E e me)
    (hbase : attributeBase (.Name x p) name X.env (eval (.Name x p) X.env) = eval (.Name x p) X.env := by rfl)
    (hfew : ((backTo cpos (starEach [e] X.env)).all (fun x => !x.1) && (backToKw cpos (keywordEach [] X.env)).all (fun x => x.1.isSome) && decide (([e] : List Expr).length + ([] : List Keyword).length + (if ([] : List Keyword).isEmpty then 0 else 1) < 30)) = true := by rfl)
    (hline : (apos.endLine == cpos.line) = true := by rfl) (hs : starEach [e] X.env = (false, eval e X.env) :: starEach [] X.env := by rfl) (hplain : (backTo cpos (starEach [] X.env)).any (·.1) = false := by rfl)
    (hN : X.N[i]? = some x := by rfl) (hv : Vis X.env.scope x := by first | exact Or.inl rfl | exact Or.inr (Or.inl rfl) | exact Or.inr (Or.inr rfl)) (hd : (x == ("__debug__" : Str)) = false := by decide) (hcd : (x == ("__classdict__" : Str)) = false := by decide) :
    JE X E (.Call (.Attribute (.Name x p) name apos) [e] [] cpos) (mMeth i f me) := by
  refine ⟨(pe_bm PySem.F.plainAttrs_list slot hty hm (pe_var (i := i) hN hv hd hcd) (pa_cons he.pe pa_nil hs) hbase hfew hline hs hplain).imp fun σ H Q h => ?_⟩
  obtain ⟨Z, B, ρ, R, h⟩ := h
  unfold mMeth at h
  cases hb : (ρ[i]?).bind Slot.data with
  | none => rw [hb] at h; exact h.elim
  | some ds0 =>
    simp only [hb] at h
    have hs0 : ∃ s, ρ[i]? = some s ∧ s.data = some ds0 := by
      cases q : ρ[i]? with
      | none => rw [q] at hb; cases hb
      | some s => rw [q] at hb; exact ⟨s, rfl, hb⟩
    obtain ⟨s0, hs0, hd0⟩ := hs0
    obtain ⟨a, vs0, ea, eh0, _⟩ := R.dataAt hs0 hd0
    refine ⟨.ref a, ea, .inl ⟨rfl, vs0, SqL.of eh0⟩, Z, B, ρ, R, EPost.bind h fun d ρ1 y B1 H1 e1 R1 dy h1 => ?_⟩
    cases hs1 : ρ1[i]? with
    | none => simp only [hs1] at h1; exact h1.elim
    | some s =>
      simp only [hs1] at h1
      cases hsd : s.data with
      | none => simp only [hsd] at h1; exact h1.elim
      | some ds =>
        simp only [hsd] at h1
        cases hr : f ds d with
        | none => simp only [hr] at h1; exact h1.elim
        | some q =>
          obtain ⟨r', es⟩ := q
          simp only [hr] at h1
          obtain ⟨a', vs, ea', eh, dv, m⟩ := R1.dataAt hs1 hsd
          rw [ea] at ea'
          cases ea'
          exact hf B1 H1 a vs y ds d r' es Q R1.hB eh dv dy hr fun v ws dr dw => h1 v B1 _ (Ex.refl _) (R1.write hs1 (Slot.mut_of hsd) ea dw) dr
theorem je_append (i : Nat) {e : Expr} {me : En → EO} (he : JE X E e me)
    (hbase : attributeBase (.Name x p) "append" X.env (eval (.Name x p) X.env) = eval (.Name x p) X.env := by rfl)
    (hfew : ((backTo cpos (starEach [e] X.env)).all (fun x => !x.1) && (backToKw cpos (keywordEach [] X.env)).all (fun x => x.1.isSome) && decide (([e] : List Expr).length + ([] : List Keyword).length + (if ([] : List Keyword).isEmpty then 0 else 1) < 30)) = true := by rfl)
    (hline : (apos.endLine == cpos.line) = true := by rfl) (hs : starEach [e] X.env = (false, eval e X.env) :: starEach [] X.env := by rfl) (hplain : (backTo cpos (starEach [] X.env)).any (·.1) = false := by rfl)
    (hN : X.N[i]? = some x := by rfl) (hv : Vis X.env.scope x := by first | exact Or.inl rfl | exact Or.inr (Or.inl rfl) | exact Or.inr (Or.inr rfl)) (hd : (x == ("__debug__" : Str)) = false := by decide) (hcd : (x == ("__classdict__" : Str)) = false := by decide) :
    JE X E (.Call (.Attribute (.Name x p) "append" apos) [e] [] cpos) (mMeth i fAppend me) :=
  je_meth i PySem.F.slot_list_append PySem.F.type_list_append mt_append vAppend he hbase hfew hline hs hplain hN hv hd hcd
theorem je_extend (i : Nat) {e : Expr} {me : En → EO} (he : JE X E e me)
    (hbase : attributeBase (.Name x p) "extend" X.env (eval (.Name x p) X.env) = eval (.Name x p) X.env := by rfl)
    (hfew : ((backTo cpos (starEach [e] X.env)).all (fun x => !x.1) && (backToKw cpos (keywordEach [] X.env)).all (fun x => x.1.isSome) && decide (([e] : List Expr).length + ([] : List Keyword).length + (if ([] : List Keyword).isEmpty then 0 else 1) < 30)) = true := by rfl)
    (hline : (apos.endLine == cpos.line) = true := by rfl) (hs : starEach [e] X.env = (false, eval e X.env) :: starEach [] X.env := by rfl) (hplain : (backTo cpos (starEach [] X.env)).any (·.1) = false := by rfl)
    (hN : X.N[i]? = some x := by rfl) (hv : Vis X.env.scope x := by first | exact Or.inl rfl | exact Or.inr (Or.inl rfl) | exact Or.inr (Or.inr rfl)) (hd : (x == ("__debug__" : Str)) = false := by decide) (hcd : (x == ("__classdict__" : Str)) = false := by decide) :
    JE X E (.Call (.Attribute (.Name x p) "extend" apos) [e] [] cpos) (mMeth i fExtend me) :=
  je_meth i PySem.F.slot_list_extend PySem.F.type_list_extend mt_extendS vExtend he hbase hfew hline hs hplain hN hv hd hcd
theorem je_popAt (i : Nat) {e : Expr} {me : En → EO} (he : JE X E e me)
    (hbase : attributeBase (.Name x p) "pop" X.env (eval (.Name x p) X.env) = eval (.Name x p) X.env := by rfl)
    (hfew : ((backTo cpos (starEach [e] X.env)).all (fun x => !x.1) && (backToKw cpos (keywordEach [] X.env)).all (fun x => x.1.isSome) && decide (([e] : List Expr).length + ([] : List Keyword).length + (if ([] : List Keyword).isEmpty then 0 else 1) < 30)) = true := by rfl)
    (hline : (apos.endLine == cpos.line) = true := by rfl) (hs : starEach [e] X.env = (false, eval e X.env) :: starEach [] X.env := by rfl) (hplain : (backTo cpos (starEach [] X.env)).any (·.1) = false := by rfl)
    (hN : X.N[i]? = some x := by rfl) (hv : Vis X.env.scope x := by first | exact Or.inl rfl | exact Or.inr (Or.inl rfl) | exact Or.inr (Or.inr rfl)) (hd : (x == ("__debug__" : Str)) = false := by decide) (hcd : (x == ("__classdict__" : Str)) = false := by decide) :
    JE X E (.Call (.Attribute (.Name x p) "pop" apos) [e] [] cpos) (mMeth i fPopAt me) :=
  je_meth i PySem.F.slot_list_pop PySem.F.type_list_pop mt_popAt vPopAt he hbase hfew hline hs hplain hN hv hd hcd
end
end DL

set_option maxRecDepth 100000
set_option maxHeartbeats 2000000
/-! constants, parallel stores, calls with keywords, exceptions raised -/
namespace DL
open PySem L2 PySem.Spec PyProof.Rows
variable [Tb]
section
variable {X : Cx} {E : XK} {pos : Pos} {k : Nat}
theorem takesF {X : Cx} : Takes X (fun _ _ _ _ => False) := fun _ _ x => by
  obtain ⟨_, _, _, _, _, _, _, _, _, _, _, _, _, _, _, _, z⟩ := x
  exact z.elim
theorem Ctx.blk (c : Ctx g X E k) {s : Shared} {H : Hp} {scope : Scope} {cenv : Env} {fp : List Addr} : Ctx g (X.blk s H scope cenv fp) EB k := ⟨c.calm, c.nd, c.room, c.gd, takesF, PassesOwn.never⟩
def mNever : En → SO := fun _ => .fail
theorem js_never {st : Stmt} : JS X E st mNever := ⟨⟨fun pins s σ H D I h => by obtain ⟨_, _, _, _, h⟩ := h; exact h.elim⟩⟩
theorem jb_never {st : List Stmt} : JB X E st mNever := ⟨⟨fun pins s σ H D I h => by obtain ⟨_, _, _, _, h⟩ := h; exact h.elim⟩⟩
def GC (K : PySem.W.Frag) (mg : Str → Option Value) (x : Str) (d : D) : Prop := ∃ v u, mg x = some u ∧ RelV v u ∧ ∀ B, Dp K B v d
theorem je_glob {x : Str} {d : D} (h : GC X.K X.mg x d) (hg : Gl X x := by rfl) (hd : (x == ("__debug__" : Str)) = false := by decide) : JE X E (.Name x pos) (mC d) := by
  obtain ⟨v, u, h1, h2, h3⟩ := h
  exact je_c (pe_glob hg h1 h2 hd) h3
end

/-! ### a, b = e1, e2 -/
def Res.slot : Res → Slot
  | .val d => .val d
  | .new ds => .own ds
def okS (ρ : En) (i : Nat) : Bool := match ρ[i]? with
  | some (.io _ _) => false
  | none => false
  | _ => true
section
variable {K : PySem.W.Frag} {mg : Str → Option Value} {Z : Zt} {B B' H H' : Hp} {ρ : En} {σ : L2.St} {E : XK}
theorem Rel.setR (R : Rel K Z B H ρ σ) {i : Nat} {r : Res} {v : V} (h : ResOk K Z B H ρ σ r v) : Rel K Z B H (ρ.set i r.slot) (σ.set i (some v)) := by
  cases r with
  | val d => exact R.set h
  | new ds => exact R.setOwn h
theorem ResOk.setR (R : Rel K Z B H ρ σ) {i : Nat} {r1 r2 : Res} {v1 v2 : V} (h2 : ResOk K Z B H ρ σ r2 v2) (hne : ∀ d1 d2, r1 = .new d1 → r2 = .new d2 → v1 ≠ v2) : ResOk K Z B H (ρ.set i r1.slot) (σ.set i (some v1)) r2 v2 := by
  cases r2 with
  | val d => exact h2
  | new ds =>
    obtain ⟨p, vs, rfl, m, ni, np⟩ := h2
    refine ⟨p, vs, rfl, m, ni, fun j s hj hm e => ?_⟩
    by_cases ej : j = i
    · subst ej
      have hlt : j < ρ.length := by
        have := (List.getElem?_eq_some_iff.mp hj).1
        simpa using this
      rw [List.getElem?_set_self hlt] at hj
      cases hj
      rw [List.getElem?_set_self (by rw [← R.len]; exact hlt)] at e
      cases r1 with
      | val d => cases hm
      | new d1 => exact hne d1 ds rfl rfl (by cases e; rfl)
    · rw [List.getElem?_set_ne (Ne.symm ej)] at hj e
      exact np j s hj hm e
theorem XPost.zp {p : Addr} {vs : List V} {x : Exc} (h : XPost K mg Z E x) (hp : Z.F p = none) : XPost K mg (Zp Z p vs) E x := by
  intro cls d B H h1 h2 h3 h4 h5 h6 hi h7
  refine h cls d B H h1 h2 (fun a o ha nT => ?_) (fun a ha => ?_) h5 h6 hi h7
  · have ne : a ≠ p := fun z => by rw [z, hp] at ha; cases ha
    exact h3 a o (by show L2.upd Z.F p (.lst vs) a = some o; rw [upd_ne ne]; exact ha) nT
  · have ne : a ≠ p := fun z => by rw [z] at ha; exact ha hp
    exact h4 a (by show L2.upd Z.F p (.lst vs) a ≠ none; rw [upd_ne ne]; exact ha)
/-- a second expression behind a first: both results -/
def two (ma mb : En → EO) (k : Res → Res → En → SO) : En → SO := fun ρ => match ma ρ with
  | .fail => .fail
  | .exc x => .exc x
  | .ok r1 ρ1 => match mb ρ1 with
    | .fail => .fail
    | .exc x => .exc x
    | .ok r2 ρ2 => k r1 r2 ρ2
theorem two_of {ma mb : En → EO} {k : Res → Res → En → SO} {D : Ends} {Q : V → V → Hp → Prop} (h : tS K mg E (two ma mb k) D σ H)
    (i : ∀ Z B ρ r1 r2 v1 v2 H, Rel K Z B H ρ σ → ResOk K Z B H ρ σ r1 v1 → ResOk K Z B H ρ σ r2 v2 → (∀ d1 d2, r1 = .new d1 → r2 = .new d2 → v1 ≠ v2) → SPost K mg Z B E D (k r1 r2 ρ) → Q v1 v2 H) :
    tE K mg E ma σ H fun x H1 => tE K mg E mb σ H1 fun y H2 => Q x y H2 := by
  obtain ⟨Z, B, ρ, R, h⟩ := h
  refine ⟨Z, B, ρ, R, ?_⟩
  unfold two at h
  cases hma : ma ρ with
  | fail => rw [hma] at h; exact h.elim
  | exc x => rw [hma] at h; exact h
  | ok r1 ρ1 =>
    simp only [hma] at h
    intro v1 B1 H1 e1 R1 h1
    cases r1 with
    | val d =>
      refine ⟨Z, B1, ρ1, R1, ?_⟩
      cases hmb : mb ρ1 with
      | fail => simp only [hmb] at h; exact h.elim
      | exc x => simp only [hmb] at h; exact h
      | ok r2 ρ2 =>
        simp only [hmb] at h
        intro v2 B2 H2 e2 R2 h2
        exact i Z B2 ρ2 (.val d) r2 v1 v2 H2 R2 (Dp.ex h1 e2) h2 (fun d1 d2 z => by cases z) (SPost.mono h (e1.trans e2))
    | new ds =>
      obtain ⟨p, vs, rfl, m, ni, np⟩ := id h1
      obtain ⟨vs', R1', dv⟩ := R1.withP h1
      have hb0 : Z.B0 p = none := by
        cases q : Z.B0 p with
        | none => rfl
        | some o => have mb := m.b; rw [R1.b0 p o q] at mb; cases mb
      refine ⟨Zp Z p vs', B1, ρ1, R1', ?_⟩
      cases hmb : mb ρ1 with
      | fail => simp only [hmb] at h; exact h.elim
      | exc x => simp only [hmb] at h; exact XPost.zp h m.f
      | ok r2 ρ2 =>
        simp only [hmb] at h
        intro v2 B2 H2 e2 R2 h2
        obtain ⟨R2', r1', _⟩ := R2.outP m.f hb0 ni (dv.ex e2)
        have fp : (Zp Z p vs').F p = some (.lst vs') := upd_same
        have h2' : ResOk K Z B2 H2 ρ2 σ r2 v2 ∧ ∀ d2, r2 = .new d2 → V.ref p ≠ v2 := by
          cases r2 with
          | val d => exact ⟨h2, fun d2 z => by cases z⟩
          | new d2 =>
            obtain ⟨p2, vs2, rfl, m2, ni2, np2⟩ := h2
            have ne : p2 ≠ p := fun z => by have f := m2.f; rw [z, fp] at f; cases f
            have f2 : L2.upd Z.F p (.lst vs') p2 = none := m2.f
            rw [upd_ne ne] at f2
            exact ⟨⟨p2, vs2, rfl, ⟨f2, m2.b, m2.h, m2.d⟩, ni2, np2⟩, fun _ _ z => ne (by cases z; rfl)⟩
        exact i Z B2 ρ2 (.new ds) r2 (.ref p) v2 H2 R2' r1' h2'.1 (fun _ d2 _ z => h2'.2 d2 z) (SPost.mono h (e1.trans e2))
end
def mPar (i j : Nat) (ma mb : En → EO) : En → SO := two ma mb fun r1 r2 ρ => if okS ρ i = true ∧ okS ρ j = true then .nx ((ρ.set i r1.slot).set j r2.slot) else .fail
section
variable {X : Cx} {E : XK} {a b c : Expr} {ma mb mc : En → EO} {pos : Pos} {k : Nat}
theorem js_par {i j : Nat} {x y : Str} {px py pt : Pos} {kt k2 pt2} (cx : Ctx g X E k) (ha : JE X E a ma) (hb : JE X E b mb) (hij : i ≠ j := by decide) (hi : X.N[i]? = some x := by rfl) (hj : X.N[j]? = some y := by rfl)
    (hx : X.env.scope.names.lookup x = some .local := by rfl) (hy : X.env.scope.names.lookup y = some .local := by rfl)
    (hs1 : starEach [a, b] X.env = (false, eval a X.env) :: starEach [b] X.env := by rfl) (hs2 : starEach [b] X.env = (false, eval b X.env) :: starEach [] X.env := by rfl)
    (hw : swappedStores [.Tuple [.Name x px, .Name y py] kt pt] (.Tuple [a, b] k2 pt2) X.env = pure (some [x, y]) := by rfl)
    (hs : swapsWithSole [.Tuple [.Name x px, .Name y py] kt pt] (.Tuple [a, b] k2 pt2) pos.line X.env = pure false := by rfl) :
    JS X E (.Assign [.Tuple [.Name x px, .Name y py] kt pt] (.Tuple [a, b] k2 pt2) pos) (mPar i j ma mb) := by
  refine ⟨(ps_par cx.calm cx.nd hi hj hij hx hy (pa_cons ha.pe (pa_cons hb.pe pa_nil hs2) hs1) hw hs).imp fun D σ H h => ?_⟩
  refine two_of (Q := fun v1 v2 H => ∃ v w, [v1, v2] = [v, w] ∧ D.nx ((σ.set i (some v)).set j (some w)) H) h fun Z B ρ r1 r2 v1 v2 H R h1 h2 hne hp => ⟨v1, v2, rfl, ?_⟩
  split at hp
  · exact hp _ B H (Ex.refl _) ((R.setR h1).setR (h2.setR R hne))
  · exact hp.elim
def mPar3 (i j l : Nat) (ma : En → AO) : En → SO := fun ρ => match ma ρ with
  | .fail => .fail
  | .exc x => .exc x
  | .ok as ρ1 => match vals as with
    | some [d, e, f] => if okS ρ1 i = true ∧ okS ρ1 j = true ∧ okS ρ1 l = true then .nx (((ρ1.set i (.val d)).set j (.val e)).set l (.val f)) else .fail
    | _ => .fail
theorem js_par3 {i j l : Nat} {x y z : Str} {px py pz pt : Pos} {kt k2 pt2} {ma : En → AO} (cx : Ctx g X E k) (ha : JA X E [a, b, c] ma) (hij : i ≠ j := by decide) (hil : i ≠ l := by decide) (hjl : j ≠ l := by decide)
    (hi : X.N[i]? = some x := by rfl) (hj : X.N[j]? = some y := by rfl) (hl : X.N[l]? = some z := by rfl)
    (hx : X.env.scope.names.lookup x = some .local := by rfl) (hy : X.env.scope.names.lookup y = some .local := by rfl) (hz : X.env.scope.names.lookup z = some .local := by rfl)
    (hw : swappedStores [.Tuple [.Name x px, .Name y py, .Name z pz] kt pt] (.Tuple [a, b, c] k2 pt2) X.env = pure (some [x, y, z]) := by rfl)
    (hs : swapsWithSole [.Tuple [.Name x px, .Name y py, .Name z pz] kt pt] (.Tuple [a, b, c] k2 pt2) pos.line X.env = pure false := by rfl) :
    JS X E (.Assign [.Tuple [.Name x px, .Name y py, .Name z pz] kt pt] (.Tuple [a, b, c] k2 pt2) pos) (mPar3 i j l ma) := by
  refine ⟨(ps_par3 cx.calm cx.nd hi hj hl hij hil hjl hx hy hz ha.pa hw hs).imp fun D σ H h => ?_⟩
  obtain ⟨Z, B, ρ, R, h⟩ := h
  refine ⟨Z, B, ρ, R, ?_⟩
  unfold mPar3 at h
  cases hm : ma ρ with
  | fail => rw [hm] at h; exact h.elim
  | exc x => rw [hm] at h; exact h
  | ok as ρ1 =>
    simp only [hm] at h
    intro vs B1 H1 e1 R1 a1
    split at h
    · rename_i d e f hv
      split at h
      · have dv := a1.dpAll hv
        match vs, dv with
        | [u, v, w], .cons d1 (.cons d2 (.cons d3 .nil)) => exact ⟨u, v, w, rfl, h _ B1 H1 e1 (((R1.set d1).set d2).set d3)⟩
      · exact h.elim
    · exact h.elim

/-! ### calls with keywords -/
structure JK (X : Cx) (E : XK) (kws : List Keyword) (m : En → AO) : Prop where
  pk : PK X kws (tA X.K X.mg E m)
theorem pk_imp {X : Cx} {es : List Keyword} {t t' : TA} (h : PK X es t) (i : ∀ σ H Q, t' σ H Q → t σ H Q) : PK X es t' := ⟨fun pos pins s σ H Q I q => h.run pos pins s σ H Q I (i σ H Q q)⟩
theorem jk_nil : JK X E [] mANil := by
  refine ⟨pk_imp pk_nil fun σ H Q h => ?_⟩
  obtain ⟨Z, B, ρ, R, h⟩ := h
  exact h [] B H (Ex.refl _) R .nil
theorem jk_cons {e : Expr} {me : En → EO} {mr : En → AO} {nm : Option Str} {kpos : Pos} {kws : List Keyword} (he : JE X E e me) (hr : JK X E kws mr) : JK X E (⟨nm, e, kpos⟩ :: kws) (mACons me mr) := by
  refine ⟨pk_imp (pk_cons he.pe hr.pk) fun σ H Q h => ?_⟩
  obtain ⟨Z, B, ρ, R, h⟩ := h
  refine ⟨Z, B, ρ, R, ?_⟩
  unfold mACons at h
  cases hm : me ρ with
  | fail => rw [hm] at h; exact h.elim
  | exc x => rw [hm] at h; exact h
  | ok r ρ1 =>
    rw [hm] at h
    intro v B1 H1 e1 R1 r1
    obtain ⟨B2, e2, R2, d2⟩ := R1.freeze r1
    refine ⟨Z, B2, ρ1, R2, ?_⟩
    cases hm2 : mr ρ1 with
    | fail => simp only [hm2] at h; exact h.elim
    | exc x => simp only [hm2] at h; exact h
    | ok as ρ2 =>
      simp only [hm2] at h
      exact fun vs B' H' e' R' a' => h (v :: vs) B' H' ((e1.trans e2).trans e') R' (.cons (Dp.ex d2 e') a')
/-- the values in the parameters' order -/
def permL {α : Type} (p : List Nat) (l : List α) : List α := p.filterMap fun i => l[i]?
def mAPerm (p : List Nat) (ma mk : En → AO) : En → AO := fun ρ => match ma ρ with
  | .fail => .fail
  | .exc x => .exc x
  | .ok as ρ1 => match mk ρ1 with
    | .ok bs ρ2 => .ok (permL p (as ++ bs)) ρ2
    | o => o
theorem ArgsV.ex {K : PySem.W.Frag} {B B' : Hp} {σ : L2.St} {as : List AR} {vs : List V} (h : ArgsV K B σ as vs) (e : Ex B B') : ArgsV K B' σ as vs := by
  induction h with
  | nil => exact .nil
  | cons h _ ih => exact .cons (h.ex e) ih
theorem ArgsV.append {K : PySem.W.Frag} {B : Hp} {σ : L2.St} {as bs : List AR} {vs ws : List V} (h : ArgsV K B σ as vs) (h2 : ArgsV K B σ bs ws) : ArgsV K B σ (as ++ bs) (vs ++ ws) := by
  induction h with
  | nil => exact h2
  | cons h _ ih => exact .cons h ih
theorem ArgsV.at {K : PySem.W.Frag} {B : Hp} {σ : L2.St} : ∀ {as : List AR} {vs : List V} (i : Nat), ArgsV K B σ as vs → (as[i]? = none ∧ vs[i]? = none) ∨ ∃ a v, as[i]? = some a ∧ vs[i]? = some v ∧ ArgV K B σ a v
  | _, _, _, .nil => .inl (by simp)
  | _, _, 0, .cons h _ => .inr ⟨_, _, rfl, rfl, h⟩
  | _, _, i + 1, .cons _ t => by simpa using ArgsV.at i t
theorem ArgsV.perm {K : PySem.W.Frag} {B : Hp} {σ : L2.St} {as : List AR} {vs : List V} (h : ArgsV K B σ as vs) : ∀ p : List Nat, ArgsV K B σ (permL p as) (permL p vs)
  | [] => .nil
  | i :: p => by
    have ih := h.perm p
    unfold permL at ih ⊢
    rw [List.filterMap_cons, List.filterMap_cons]
    rcases h.at i with ⟨e1, e2⟩ | ⟨a, v, e1, e2, av⟩
    · rw [e1, e2]; exact ih
    · rw [e1, e2]; exact .cons av ih
theorem Vals.permL {vs : List V} {us : List Value} (r : Vals vs us) : ∀ p : List Nat, Vals (DL.permL p vs) (DL.permL p us)
  | [] => .nil
  | i :: p => by
    have ih := Vals.permL r p
    unfold DL.permL at ih ⊢
    rw [List.filterMap_cons, List.filterMap_cons]
    cases hv : vs[i]? with
    | none =>
      have hu : us[i]? = none := by rw [List.getElem?_eq_none_iff] at hv ⊢; rw [← r.length]; exact hv
      rw [hu]; exact ih
    | some v =>
      obtain ⟨u, hu, ru⟩ := r.get hv
      rw [hu]; exact .cons ru ih
/-- how f binds n values and the keywords ks: p, the parameters' order -/
structure KwOk (K : PySem.W.Frag) (fd : FuncData) (ps : List Str) (n : Nat) (ks : List Str) (p : List Nat) : Prop where
  to : ∀ (s : Shared) (us ws : List Value), K.In s.heap → us.length = n → ws.length = ks.length → BindsTo s fd ⟨us, ks.zip ws⟩ (ps.zip (permL p (us ++ ws)))
structure DefKw (g : Bool) (P : Program) (w : World) (K : PySem.W.Frag) (mg : Str → Option Value) (base : Heap) (k : Nat) (x : Str) (n : Nat) (mf : List Arg → FO) (np : Nat) (ks : List Str) (p : List Nat) : Prop where
  ex : ∃ f fd ps, FnM g P w K mg base k f fd ps (spM K mg n mf) ∧ mg x = some (.ref f) ∧ PySem.W.keepIn K (.ref f) = true ∧ KwOk K fd ps np ks p
def mKw (np nk n : Nat) (p : List Nat) (mf : List Arg → FO) (ma mk : En → AO) : En → EO := fun ρ => match ma ρ with
  | .fail => .fail
  | .exc x => .exc x
  | .ok as ρ1 => match mk ρ1 with
    | .fail => .fail
    | .exc x => .exc x
    | .ok bs ρ2 => if as.length = np ∧ bs.length = nk then AO.fun (.ok (permL p (as ++ bs)) ρ2) n mf else .fail
variable {x : Str} {n np : Nat} {mf : List Arg → FO} {ks : List Str} {p : List Nat} {ps : Pos} {maA mkA : En → AO} {kws : List Keyword} {e : Expr} {es : List Expr}
theorem ArgsV.len {K : PySem.W.Frag} {B : Hp} {σ : L2.St} {as : List AR} {vs : List V} (h : ArgsV K B σ as vs) : as.length = vs.length := by
  induction h with
  | nil => rfl
  | cons _ _ ih => simp [ih]
theorem run_fnKw {f : Addr} {fd : FuncData} {pn : List Str} {sp : Sp} {pins : List (Addr × Obj)} {σ : L2.St} {H : Hp} {s : Shared} {Q : VK} {us ws : List Value} {vs zs : List V} (F : FnM g X.prog X.w X.K X.mg X.base k f fd pn sp) (cx : Ctx g X E k) (hb : KwOk X.K fd pn np ks p)
    (I : Inv X pins σ H s) (r : Vals vs us) (rz : Vals zs ws) (l1 : vs.length = np) (l2 : zs.length = ks.length) (h : sp (permL p (vs ++ zs)) H Q E) : wpAny (model X.prog X.w) X.A (call (.ref f) us (ks.zip ws)) (EP X pins σ Q) X.xe s := by
  have r2 : Vals (permL p (vs ++ zs)) (permL p (us ++ ws)) := Vals.permL (r.append rz) p
  refine wpAny_call (codeAny_mono (F.run X.A X.stack s H ⟨us, ks.zip ws⟩ _ _ Q E cx.room cx.gd I.env0 (hb.to s us ws I.kIn (r.length.symm.trans l1) (rz.length.symm.trans l2)) r2 h) fun r s' hq => ?_)
  cases r with
  | error e => exact cx.ps pins σ H s e s' I hq
  | ok fl =>
    cases fl with
    | ret u => exact I.after hq
    | next => exact False.elim hq
    | brk => exact False.elim hq
    | cont => exact False.elim hq
theorem kw_of {Z : Zt} {B : Hp} {ρ1 : En} {as : List AR} {vs : List V} {σ : L2.St} {H1 : Hp} {Q : VK} (R : Rel X.K Z B H1 ρ1 σ) (a1 : ArgsV X.K B σ as vs)
    (h : EPost X.K X.mg Z B σ E Q (match mkA ρ1 with | .fail => .fail | .exc x => .exc x | .ok bs ρ2 => if as.length = np ∧ bs.length = ks.length then AO.fun (.ok (permL p (as ++ bs)) ρ2) n mf else .fail)) :
    tA X.K X.mg E mkA σ H1 (fun zs H2 => vs.length = np ∧ zs.length = ks.length ∧ spM X.K X.mg n mf (permL p (vs ++ zs)) H2 Q E) := by
  refine ⟨Z, B, ρ1, R, ?_⟩
  cases hm : mkA ρ1 with
  | fail => simp only [hm] at h; exact h.elim
  | exc x => simp only [hm] at h; exact h
  | ok bs ρ2 =>
    simp only [hm] at h
    intro zs B2 H2 e2 R2 b2
    split at h
    · rename_i hc
      exact ⟨by rw [← a1.len]; exact hc.1, by rw [← b2.len]; exact hc.2, sp_of R2 e2 (((a1.ex e2).append b2).perm p) h⟩
    · exact h.elim
theorem je_callKw (C : DefKw g X.prog X.w X.K X.mg X.base k x n mf np ks p) (cx : Ctx g X E k) (ha : JA X E (e :: es) maA) (hk : JK X E kws mkA) (hg : Gl X x := by rfl) (hdb : (x == ("__debug__" : Str)) = false := by decide)
    (hall : (backToKw pos (keywordEach kws X.env)).all (·.1.isSome) = true := by rfl) (hks : (backToKw pos (keywordEach kws X.env)).filterMap (·.1) = ks := by rfl)
    (he : starEach (e :: es) X.env = (false, eval e X.env) :: starEach es X.env := by rfl)
    (hpl : ((backTo pos (starEach (e :: es) X.env)).any (·.1) || (backToKw pos (keywordEach kws X.env)).any (·.1.isNone)) = false := by rfl) : JE X E (.Call (.Name x ps) (e :: es) kws pos) (mKw np ks.length n p mf maA mkA) := by
  obtain ⟨f, fd, pn, F, hm, hki, hb⟩ := C.ex
  refine ⟨⟨fun pins s σ H Q I h => ?_⟩⟩
  refine wpAny_Call_Name_kw (ld_glob I hg hm ?_ hdb)
  obtain ⟨Z, B, ρ, R, h⟩ := h
  have hA : tA X.K X.mg E maA σ H (fun vs H1 => tA X.K X.mg E mkA σ H1 (fun zs H2 => vs.length = np ∧ zs.length = ks.length ∧ spM X.K X.mg n mf (permL p (vs ++ zs)) H2 Q E)) := by
    refine ⟨Z, B, ρ, R, ?_⟩
    unfold mKw at h
    cases hma : maA ρ with
    | fail => rw [hma] at h; exact h
    | exc x => rw [hma] at h; exact h
    | ok as ρ1 =>
      simp only [hma] at h
      exact fun vs B1 H1 e1 R1 a1 => kw_of R1 a1 (EPost.mono h e1)
  refine PySem.W.callWith_KW (h₀ := X.base) I.ok.mod.kin hki hall (thn (ha.pa.run pos pins s σ H _ I hA) fun us s1 ⟨vs, H1, I1, r, q⟩ => ?_) hpl he
  refine thn (hk.pk.run pos pins s1 σ H1 _ I1 q) fun ws s2 ⟨zs, H2, I2, rz, l1, l2, q2⟩ => ⟨I2.kIn, ?_⟩
  rw [hks]
  exact run_fnKw F cx hb I2 r rz l1 l2 q2
theorem je_callKw0 (C : DefKw g X.prog X.w X.K X.mg X.base k x n mf 0 ks p) (cx : Ctx g X E k) (hk : JK X E kws mkA) (hg : Gl X x := by rfl) (hdb : (x == ("__debug__" : Str)) = false := by decide)
    (hall : (backToKw pos (keywordEach kws X.env)).all (·.1.isSome) = true := by rfl) (hks : (backToKw pos (keywordEach kws X.env)).filterMap (·.1) = ks := by rfl)
    (hpl : ((backTo pos (starEach [] X.env)).any (·.1) || (backToKw pos (keywordEach kws X.env)).any (·.1.isNone)) = false := by rfl) : JE X E (.Call (.Name x ps) [] kws pos) (mKw 0 ks.length n p mf mANil mkA) := by
  obtain ⟨f, fd, pn, F, hm, hki, hb⟩ := C.ex
  refine ⟨⟨fun pins s σ H Q I h => ?_⟩⟩
  refine wpAny_Call_Name_kw (ld_glob I hg hm ?_ hdb)
  obtain ⟨Z, B, ρ, R, h⟩ := h
  have hA := kw_of (np := 0) (p := p) (n := n) (mf := mf) (ks := ks) (mkA := mkA) (as := []) (vs := []) R .nil h
  refine PySem.W.callWith_KW0 (h₀ := X.base) I.ok.mod.kin hki hall ?_ hpl
  refine thn (hk.pk.run pos pins s σ H _ I hA) fun ws s2 ⟨zs, H2, I2, rz, l1, l2, q2⟩ => ⟨I2.kIn, ?_⟩
  rw [hks]
  exact run_fnKw (us := []) F cx hb I2 .nil rz l1 l2 q2
end
end DL

set_option maxRecDepth 100000
set_option maxHeartbeats 2000000
/-! exceptions of own classes: raised, caught -/
namespace DL
open PySem L2 PySem.Spec PyProof.Rows
variable [Tb]

/-- self.f1 = p1, .. of an exception that is being made -/
def SpI (K : PySem.W.Frag) (fs : List Str) : Sp := fun vs H Q _ => ∃ a C ws, vs = .ref a :: ws ∧ ws.length = fs.length ∧ OexC K C ∧ (∀ f ∈ fs, PySem.W.findIn K (.ref C) f = some none) ∧ H a = some (exo a C none) ∧
  ∀ dx gs H', H dx = none → dx ≠ a → (∀ (i : Nat) f w, fs[i]? = some f → ws[i]? = some w → gs.lookup f = some w) → H' a = some (exo a C (some dx)) → H' dx = some (exd dx gs) → (∀ b, b ≠ a → b ≠ dx → H' b = H b) → Q .non H'
theorem _root_.L2.PSs.impL {X : Cx} {e : List Stmt} {t t' : TS} (h : PSs X e t) (i : ∀ D σ H, σ.length = X.N.length → t' D σ H → t D σ H) : PSs X e t' := ⟨fun pins s σ H D I q => h.run pins s σ H D I (i D σ H I.len q)⟩
section
variable {P : Program} {w : World} {K : PySem.W.Frag} {mg : Str → Option Value} {base : Heap} {k : Nat}
theorem init1 {f : Addr} {name qual self x fl : Str} {params : Arguments} {scope : Scope} {dV kV doc pm cdv ct oc : Value} {an od : Option Addr} {osl : Array (Option Value)} {p1 p2 p3 p4 : Pos}
    (lk : K.lookup f = some ⟨oc, od, .func (PySem.W.fnOf name qual params [.Assign [.Attribute (.Name self p1) fl p2] (.Name x p3) p4] scope dV kV doc pm an cdv ct), osl⟩) (hcd : PySem.W.codeIn K cdv qual = true)
    (S : FnScope [self, x] [self, x] scope) (v1 : Vis scope self) (v2 : Vis scope x) (hd1 : (self == ("__debug__" : Str)) = false := by decide) (hd2 : (x == ("__debug__" : Str)) = false := by decide) (hc1 : (self == ("__classdict__" : Str)) = false := by decide) (hc2 : (x == ("__classdict__" : Str)) = false := by decide) :
    FnOk P w K mg base (L2.CX P w) (k + 1) f (PySem.W.fnOf name qual params [.Assign [.Attribute (.Name self p1) fl p2] (.Name x p3) p4] scope dV kV doc pm an cdv ct) [self, x] (SpI K [fl]) := by
  refine fn_of lk hcd S (fun vs H Q E ⟨a, C, ws, e, hl, _⟩ => by rw [e]; simp [hl]) fun A outer s H vs Q E hr hsp => ?_
  obtain ⟨a, C, ws, rfl, hl, T, hno, ha, q⟩ := hsp
  match ws, hl with
  | [w], _ =>
    refine ⟨_, pss_one (ps_ost (pe_var (i := 0) rfl v1 hd1 hc1) (pe_var (i := 1) rfl v2 hd2 hc2)), ?_⟩
    refine ⟨w, rfl, .ref a, rfl, a, C, rfl, T, hno fl (by simp), .inl ⟨ha, fun dx hn hne => ?_⟩⟩
    refine q dx [(fl, w)] _ hn hne (fun i g u h1 h2 => ?_) upd_same (by rw [upd_ne hne, upd_same]) fun b h1 h2 => by rw [upd_ne h1, upd_ne h2]
    cases i with
    | zero => cases h1; cases h2; simp [List.lookup]
    | succ i => simp at h1
theorem init2 {f : Addr} {name qual self x y fl gl : Str} {params : Arguments} {scope : Scope} {dV kV doc pm cdv ct oc : Value} {an od : Option Addr} {osl : Array (Option Value)} {p1 p2 p3 p4 q1 q2 q3 q4 : Pos}
    (lk : K.lookup f = some ⟨oc, od, .func (PySem.W.fnOf name qual params [.Assign [.Attribute (.Name self p1) fl p2] (.Name x p3) p4, .Assign [.Attribute (.Name self q1) gl q2] (.Name y q3) q4] scope dV kV doc pm an cdv ct), osl⟩) (hcd : PySem.W.codeIn K cdv qual = true)
    (S : FnScope [self, x, y] [self, x, y] scope) (v1 : Vis scope self) (v2 : Vis scope x) (v3 : Vis scope y) (hne' : fl ≠ gl) (hd1 : (self == ("__debug__" : Str)) = false := by decide) (hd2 : (x == ("__debug__" : Str)) = false := by decide) (hd3 : (y == ("__debug__" : Str)) = false := by decide)
    (hc1 : (self == ("__classdict__" : Str)) = false := by decide) (hc2 : (x == ("__classdict__" : Str)) = false := by decide) (hc3 : (y == ("__classdict__" : Str)) = false := by decide) :
    FnOk P w K mg base (L2.CX P w) (k + 1) f (PySem.W.fnOf name qual params [.Assign [.Attribute (.Name self p1) fl p2] (.Name x p3) p4, .Assign [.Attribute (.Name self q1) gl q2] (.Name y q3) q4] scope dV kV doc pm an cdv ct) [self, x, y] (SpI K [fl, gl]) := by
  refine fn_of lk hcd S (fun vs H Q E ⟨a, C, ws, e, hl, _⟩ => by rw [e]; simp [hl]) fun A outer s H vs Q E hr hsp => ?_
  obtain ⟨a, C, ws, rfl, hl, T, hno, ha, q⟩ := hsp
  match ws, hl with
  | [u, w], _ =>
    refine ⟨_, pss_cons (ps_ost (pe_var (i := 0) rfl v1 hd1 hc1) (pe_var (i := 1) rfl v2 hd2 hc2)) (pss_one (ps_ost (pe_var (i := 0) rfl v1 hd1 hc1) (pe_var (i := 2) rfl v3 hd3 hc3))), ?_⟩
    refine ⟨u, rfl, .ref a, rfl, a, C, rfl, T, hno fl (by simp), .inl ⟨ha, fun dx hn hne => ?_⟩⟩
    refine ⟨w, rfl, .ref a, rfl, a, C, rfl, T, hno gl (by simp), .inr ⟨dx, [(fl, u)], upd_same, by rw [upd_ne hne, upd_same], by simp, ?_⟩⟩
    refine q dx [(gl, w), (fl, u)] _ hn hne (fun i g z h1 h2 => ?_) (by rw [upd_ne (Ne.symm hne), upd_same]) upd_same fun b h1 h2 => by rw [upd_ne h2, upd_ne h1, upd_ne h2]
    cases i with
    | zero =>
      cases h1; cases h2
      have e : (fl == gl) = false := beq_eq_false_iff_ne.mpr hne'
      simp [List.lookup, e]
    | succ i =>
      cases i with
      | zero => cases h1; cases h2; simp [List.lookup]
      | succ i => simp at h1
end
theorem TabsOk.ext {H H' : Hp} (t : TabsOk H) (e : Ex H H') : TabsOk H' := ⟨t.t.ext e, fun p hp => e _ _ (t.x p hp)⟩
structure RaiseOk (P : Program) (w : World) (K : PySem.W.Frag) (mg : Str → Option Value) (base : Heap) (k : Nat) (x : Str) (fs : List Str) : Prop where
  ex : ∃ C fI fd ps, mg x = some (.ref C) ∧ OexC K C ∧ PySem.W.findIn K (.ref C) "__init__" = some (some (.ref fI)) ∧ PySem.W.typeIn K (.ref fI) = some (.type "function") ∧ (∀ f ∈ fs, PySem.W.findIn K (.ref C) f = some none) ∧
    FnOk P w K mg base (L2.CX P w) k fI fd ps (SpI K fs) ∧ Binds K fd ps []
def mRaise (x : Str) (fs : List Str) (ma : En → AO) : En → SO := fun ρ => match ma ρ with
  | .fail => .fail
  | .exc y => .exc y
  | .ok as _ => match vals as with
    | some ds => if ds.length = fs.length ∧ fs.length ≤ 1000 then .exc ⟨x, fs.zip ds⟩ else .fail
    | none => .fail
theorem lookup_zip {α : Type} {f : Str} {e : α} : ∀ {fs : List Str} {ds : List α}, (fs.zip ds).lookup f = some e → ∃ i : Nat, fs[i]? = some f ∧ ds[i]? = some e
  | [], _, h => by simp at h
  | _ :: _, [], h => by simp at h
  | g :: fs, d :: ds, h => by
    rw [List.zip_cons_cons, List.lookup_cons] at h
    by_cases hb : (f == g) = true
    · rw [hb] at h
      cases h
      exact ⟨0, by simp [eq_of_beq hb], rfl⟩
    · rw [Bool.eq_false_iff.mpr hb] at h
      obtain ⟨i, h1, h2⟩ := lookup_zip h
      exact ⟨i + 1, by simpa using h1, by simpa using h2⟩
section
variable {X : Cx} {E : XK} {e : Expr} {es : List Expr} {ma : En → AO} {pos p q : Pos} {j k : Nat} {x : Str} {fs : List Str}
theorem js_raise (C : RaiseOk X.prog X.w X.K X.mg X.base k x fs) (cx : Ctx g X E j) (ha : JA X E (e :: es) ma) (hj : k + 1 ≤ j := by decide) (hg : Gl X x := by rfl) (hdb : (x == ("__debug__" : Str)) = false := by decide)
    (he : starEach (e :: es) X.env = (false, eval e X.env) :: starEach es X.env := by rfl) (hpl : (backTo pos (starEach es X.env)).any (·.1) = false := by rfl) : JS X E (.Raise (some (.Call (.Name x p) (e :: es) [] pos)) none q) (mRaise x fs ma) := by
  obtain ⟨C, fI, fd, ps, hm, T, iC, tI, hno, F, hb⟩ := C.ex
  refine ⟨(ps_raise cx.calm cx.tk (pmk_oex T iC tI F (cx.room.mono hj) hb .nil (passes_call cx.tk fun _ _ _ _ h => h.elim) hg hm ha.pa hdb he hpl)).imp fun D σ H h => ?_⟩
  obtain ⟨Z, B, ρ, R, h⟩ := h
  refine ⟨Z, B, ρ, R, ?_⟩
  unfold mRaise at h
  cases hma : ma ρ with
  | fail => rw [hma] at h; exact h.elim
  | exc y => rw [hma] at h; exact h
  | ok as ρ1 =>
    simp only [hma] at h
    intro vs B1 H1 e1 R1 a1
    cases hv : vals as with
    | none => simp only [hv] at h; exact h.elim
    | some ds =>
      simp only [hv] at h
      split at h
      · rename_i hl
        have dv := a1.dpAll hv
        refine ⟨by rw [dv.length]; omega, fun a hn => ⟨a, C, vs, by simp, by rw [dv.length]; exact hl.1, T, hno, upd_same, fun dx gs H' hdx hne hgs h1 h2 h3 => ?_⟩⟩
        have hdx' : H1 dx = none := by rw [upd_ne hne] at hdx; exact hdx
        refine ⟨rfl, dx, gs, h1, h2, hdx', ?_⟩
        have ex : Ex H1 (L2.upd (del H' a) dx (.xd gs)) := fun b o hb => by
          have n1 : b ≠ a := fun z => by rw [z, hn] at hb; cases hb
          have n2 : b ≠ dx := fun z => by rw [z, hdx'] at hb; cases hb
          rw [upd_ne n2, del_ne n1, h3 b n1 n2, upd_ne n1]
          exact hb
        refine h (.ref C) (some dx) B1 _ (R1.b0) (R1.hB.trans ex) (R1.hF.trans ex.n) R1.gr R1.nt (R1.tb.ext ex) (fun b hb => ?_) ⟨hm, .inr ⟨dx, gs, rfl, upd_same, fun f e hf => ?_⟩⟩
        · obtain ⟨xs, q⟩ := R1.hi b hb
          exact ⟨xs, ex b _ q⟩
        · obtain ⟨i, i1, i2⟩ := lookup_zip hf
          obtain ⟨v, hv', d'⟩ := dv.getD i2
          exact ⟨v, hgs i f v i1 hv', d'⟩
      · exact h.elim
end

/-! ### try: .. except C as n: .. -/
/-- the facts of the caught exception, for its suite -/
@[reducible] def tbX (T0 : Tb) (a : Addr) (K : PySem.W.Frag) (x : Exc) (dd : Addr) (fs : List (Str × V)) : Tb where
  T := T0.T
  X := (dd, .xd fs) :: T0.X
  hX := fun p hp => by
    rcases List.mem_cons.mp hp with rfl | hp
    · exact ⟨fun xs z => (by cases z), fun ps z => (by cases z)⟩
    · exact T0.hX p hp
  P := fun B => T0.P B ∧ ∀ f e, x.fs.lookup f = some e → ∃ v, fs.lookup f = some v ∧ Dp K B v e
  hP := fun B B' e ⟨h1, h2⟩ => ⟨T0.hP B B' e h1, fun f d h => by
    obtain ⟨v, h3, h4⟩ := h2 f d h
    exact ⟨v, h3, h4.ex e⟩⟩
  ea := a
def Slot.clean : Slot → Slot
  | .exc => .no
  | s => s
def cleanE (i : Nat) (ρ : En) : En := (ρ.map Slot.clean).set i .no
def SO.clean (i : Nat) : SO → SO
  | .nx ρ => .nx (cleanE i ρ)
  | .ret r ρ => .ret r (cleanE i ρ)
  | .bk ρ => .bk (cleanE i ρ)
  | .ct ρ => .ct (cleanE i ρ)
  | .exc _ => .fail
  | .fail => .fail
/-- N names, slot i the exception's -/
def mTryAs (N i : Nat) (tst : Str → Option Bool) (mb : En → SO) (ms : Exc → En → SO) : En → SO := fun ρ => match mb ρ with
  | .exc x => match tst x.cls with
    | some false => .exc x
    | some true => if x.fs.isEmpty = true then .fail else SO.clean i (ms x ((noE N).set i .exc))
    | none => .fail
  | o => o
section
variable {X : Cx} {E : XK} {body : List Stmt} {b₀ : Stmt} {suite : List Stmt} {pos pos' np : Pos} {k i : Nat} {x n : Str} {c : Value} {tst : Str → Option Bool} {mb : En → SO} {ms : Exc → En → SO}
theorem Rel.leaveX {T0 : Tb} {a : Addr} {K : PySem.W.Frag} {x : Exc} {dd : Addr} {fs : List (Str × V)} {Z : Zt} {B H : Hp} {ρ : En} {σ : L2.St} (R : @Rel (tbX T0 a K x dd fs) K Z B H ρ σ) : @Rel T0 K Z B H (ρ.map Slot.clean) σ := by
  have at_ : ∀ {j : Nat} {s : Slot}, (ρ.map Slot.clean)[j]? = some s → s = .no ∨ (ρ[j]? = some s ∧ s ≠ .exc) := fun {j s} h => by
    rw [List.getElem?_map] at h
    cases q : ρ[j]? with
    | none => rw [q] at h; cases h
    | some t =>
      rw [q] at h
      have h' : t.clean = s := Option.some.inj h
      subst h'
      cases t <;> first | exact .inl rfl | exact .inr ⟨rfl, by intro z; cases z⟩
  obtain ⟨len, hF, zt, hB, b0, gr, nt, ⟨tt, tx⟩, pb, hi, sl, ap⟩ := R
  refine ⟨by rw [← len]; simp, hF, zt, hB, b0, gr, nt, ⟨tt, fun p hp => tx p (List.mem_cons_of_mem _ hp)⟩, pb.1, hi, fun j s hj => ?_, fun j k s t a hj hk hs ht e1 e2 => ?_⟩
  · rcases at_ hj with rfl | ⟨hj, ne⟩
    · trivial
    · have q := sl j s hj
      cases s <;> first | exact q | exact absurd rfl ne
  · rcases at_ hj with rfl | ⟨hj, _⟩
    · cases hs
    rcases at_ hk with rfl | ⟨hk, _⟩
    · cases ht
    exact ap j k s t a hj hk hs ht e1 e2
theorem cleanE_mut {i j : Nat} {ρ : En} {s : Slot} (h : (cleanE i ρ)[j]? = some s) (hm : s.mut = true) : j ≠ i ∧ ρ[j]? = some s := by
  unfold cleanE at h
  by_cases ej : j = i
  · subst ej
    have hlt : j < (ρ.map Slot.clean).length := by
      have := (List.getElem?_eq_some_iff.mp h).1
      simpa using this
    rw [List.getElem?_set_self hlt] at h
    cases h
    cases hm
  · rw [List.getElem?_set_ne (Ne.symm ej), List.getElem?_map] at h
    cases q : ρ[j]? with
    | none => rw [q] at h; cases h
    | some t =>
      rw [q] at h
      have h' : t.clean = s := Option.some.inj h
      subst h'
      cases t <;> first | (cases hm; done) | exact ⟨ej, rfl⟩
/-- the frame's base anew -/
def Zt.at (Z : Zt) (B : Hp) : Zt := ⟨Z.F, B, Z.ins⟩
section
variable {K : PySem.W.Frag} {mg : Str → Option Value} {Z : Zt} {B B' H H' : Hp} {ρ ρ' : En} {σ σ' : L2.St}
theorem MutOk.root {a : Addr} {vs : List V} {ds : List D} (m : MutOk K Z B H a vs ds) {B0 : Hp} : MutOk K (Z.at B0) B H a vs ds := ⟨m.f, m.b, m.h, m.d⟩
theorem MutOk.unroot {a : Addr} {vs : List V} {ds : List D} {B0 : Hp} (m : MutOk K (Z.at B0) B H a vs ds) : MutOk K Z B H a vs ds := ⟨m.f, m.b, m.h, m.d⟩
theorem Rel.root (R : Rel K Z B H ρ σ) : Rel K (Z.at B) B H ρ σ := by
  refine ⟨R.len, R.hF, R.zt, R.hB, Ex.refl _, fun _ _ => rfl, R.nt, R.tb, R.pb, R.hi, fun i s h => ?_, R.ap⟩
  have q := R.sl i s h
  cases s with
  | no => trivial
  | exc => exact q
  | val d => exact q
  | own ds => obtain ⟨a, vs, e, m, n⟩ := q; exact ⟨a, vs, e, m.root, n⟩
  | io j ds => obtain ⟨a, vs, e, m, n⟩ := q; exact ⟨a, vs, e, m.root, n⟩
theorem Rel.unroot (R : Rel K Z B H ρ σ) (R' : Rel K (Z.at B) B' H' ρ' σ') : Rel K Z B' H' ρ' σ' := by
  refine ⟨R'.len, R'.hF, R'.zt, R'.hB, R.b0.trans R'.b0, fun a h => (R'.gr a h).trans (R.gr a h), R'.nt, R'.tb, R'.pb, R'.hi, fun i s h => ?_, R'.ap⟩
  have q := R'.sl i s h
  cases s with
  | no => trivial
  | exc => exact q
  | val d => exact q
  | own ds => obtain ⟨a, vs, e, m, n⟩ := q; exact ⟨a, vs, e, m.unroot, n⟩
  | io j ds => obtain ⟨a, vs, e, m, n⟩ := q; exact ⟨a, vs, e, m.unroot, n⟩
theorem ResOk.unroot {r : Res} {v : V} {B0 : Hp} (h : ResOk K (Z.at B0) B H ρ σ r v) : ResOk K Z B H ρ σ r v := by
  cases r with
  | val d => exact h
  | new ds => obtain ⟨p, vs, e, m, n1, n2⟩ := h; exact ⟨p, vs, e, m.unroot, n1, n2⟩
end
theorem js_tryAs (cx : Ctx g X E k) (hs : X.stack = X.env :: X.outer) (hf : X.env.frame = some X.env.locals) (hc : Names X x c)
    (ht : ∀ cl b, tst cl = some b → ∀ v, X.mg cl = some v → PySem.W.exmOne X.K v c = some b)
    (hb : ∀ (E' : XK) (pn : List (Addr × Obj)) (xe : Value → Shared → Prop), Ctx g (X.tr pn xe) E' k → JB (X.tr pn xe) E' body mb)
    (hsu : ∀ (y : Exc), tst y.cls = some true → ∀ (a : Addr) (oe : Obj) (cls : Value) (dd : Addr) (fs : List (Str × V)) (pn : List (Addr × Obj)), Zc cls (some dd) oe → (∃ vs, oe.data = .fields vs) → X.mg y.cls = some cls →
      @JB (tbX ‹Tb› a X.K y dd fs) (X.suite a ((a, oe) :: pn)) EB (b₀ :: suite) (ms y))
    (hi : X.N[i]? = some n := by rfl) (hln : X.env.kindOf n = some .local := by rfl) :
    JS X E (.Try body [.ExceptHandler (some (.Name x np)) (some n) (b₀ :: suite) pos'] [] [] pos) (mTryAs X.N.length i tst mb ms) := by
  have hb' : ∀ (W : WX) (pn : List (Addr × Obj)) (xe : Value → Shared → Prop), Takes (X.tr pn xe) W → PassesOwn (model X.prog X.w) X.A X.env xe → PSs (X.tr pn xe) body (fun D σ H => ∃ E' : XK, (∀ cls d σ H, E' cls d H → W cls d σ H) ∧ tS X.K X.mg E' mb D σ H) := fun W pn xe tk po => ⟨fun pins s σ H D I h => by
    obtain ⟨E', hW, h⟩ := h
    exact (hb E' pn xe ⟨cx.calm, cx.nd, cx.room, cx.gd, tk.imp fun cls d σ H h => hW cls d σ H h, po⟩).pss.run pins s σ H D I h⟩
  have hsu' : ∀ (a : Addr) (oe : Obj) (cls : Value) (d : Option Addr) (pn : List (Addr × Obj)), Zc cls d oe → (∃ vs, oe.data = .fields vs) → PSs (X.suite a ((a, oe) :: pn)) (b₀ :: suite) (fun D σ H => σ.length = X.N.length →
      ∃ (y : Exc) (dd : Addr) (fs : List (Str × V)), d = some dd ∧ tst y.cls = some true ∧ X.mg y.cls = some cls ∧ @tS (tbX ‹Tb› a X.K y dd fs) X.K X.mg EB (ms y) D σ H) := fun a oe cls d pn hz hd => ⟨fun pins s σ H D I h => by
    obtain ⟨y, dd, fs, rfl, h1, h2, h⟩ := h I.len
    exact (@JB.pss (tbX ‹Tb› a X.K y dd fs) _ _ _ _ (hsu y h1 a oe cls dd fs pn hz hd h2)).run pins s σ H D I h⟩
  refine ⟨(ps_try_as hs hf cx.nd hi hln hc cx.tk hb' hsu').imp fun D σ H h => ?_⟩
  obtain ⟨Z, B, ρ, R, h⟩ := h
  unfold mTryAs at h
  refine ⟨fun cls d H' => ∀ σ, wAs X.K c i _ _ D cls d σ H', fun cls d σ H h => h σ, Z.at B, B, ρ, R.root, ?_⟩
  cases hm : mb ρ with
  | fail => rw [hm] at h; exact h
  | nx ρ1 => rw [hm] at h; exact fun σ1 B1 H1 e1 R1 => h σ1 B1 H1 e1 (R.unroot R1)
  | bk ρ1 => rw [hm] at h; exact fun σ1 B1 H1 e1 R1 => h σ1 B1 H1 e1 (R.unroot R1)
  | ct ρ1 => rw [hm] at h; exact fun σ1 B1 H1 e1 R1 => h σ1 B1 H1 e1 (R.unroot R1)
  | ret r ρ1 => rw [hm] at h; exact fun v σ1 B1 H1 e1 R1 r1 => h v σ1 B1 H1 e1 (R.unroot R1) r1.unroot
  | exc y =>
    simp only [hm] at h
    intro cls d B' H' e1 e2 e3 e4 e5 e6 e7 xo σ'
    have e1' : Ex B B' := e1
    cases htc : tst y.cls with
    | none => simp only [htc] at h; exact h.elim
    | some b =>
      refine ⟨b, ht y.cls b htc cls xo.1, fun hb1 a han hlen => ?_, fun hb0 => ?_⟩
      · subst hb1
        simp only [htc] at h
        split at h
        · exact h.elim
        rename_i hne
        rcases xo.2 with z | ⟨dd, fs, rfl, hdd, hfs⟩
        · rw [z] at hne; exact absurd rfl hne
        refine ⟨y, dd, fs, rfl, htc, xo.1, Z, B', (noE X.N.length).set i .exc, ?_, ?_⟩
        · have hlt : i < X.N.length := (List.getElem?_eq_some_iff.mp hi).1
          have at_ : ∀ {j : Nat} {s : Slot}, ((noE X.N.length).set i .exc)[j]? = some s → s = .no ∨ (j = i ∧ s = .exc) := fun {j s} hj => by
            by_cases ej : j = i
            · subst ej
              rw [List.getElem?_set_self (by simpa [noE] using hlt)] at hj
              cases hj
              exact .inr ⟨rfl, rfl⟩
            · rw [List.getElem?_set_ne (Ne.symm ej)] at hj
              exact .inl (noE_get hj)
          have hlen' : (σ'.set i (some (V.ref a))).length = X.N.length := hlen
          have hl2 : i < σ'.length := by
            rw [List.length_set] at hlen'
            omega
          have tb' : @TabsOk (tbX ‹Tb› a X.K y dd fs) H' := @TabsOk.mk (tbX ‹Tb› a X.K y dd fs) H' e6.t fun p hp => by
            rcases List.mem_cons.mp hp with rfl | hp
            · exact hdd
            · exact e6.x p hp
          refine @Rel.mk (tbX ‹Tb› a X.K y dd fs) X.K Z B' H' ((noE X.N.length).set i .exc) (σ'.set i (some (V.ref a))) (by rw [hlen']; simp [noE]) e3 R.zt e2 (R.b0.trans e1') (fun b hb => (e4 b hb).trans (R.gr b hb)) e5 tb' ⟨Tb.hP _ _ e1' R.pb, hfs⟩ e7 (fun j s hj => ?_) (fun j k s t b hj hk hs' ht' _ _ => ?_)
          · rcases at_ hj with rfl | ⟨rfl, rfl⟩
            · trivial
            · exact List.getElem?_set_self (a := some (V.ref a)) hl2
          · rcases at_ hj with rfl | ⟨_, rfl⟩ <;> cases hs'
        · have key : ∀ {ρ2 : En} {σ2 : L2.St} {B2 H2 : Hp}, @Rel (tbX ‹Tb› a X.K y dd fs) X.K Z B2 H2 ρ2 σ2 → Rel X.K Z B2 H2 (cleanE i ρ2) (σ2.set i none) := fun {ρ2 σ2 B2 H2} R2 => (Rel.leaveX R2).forget
          cases hms : ms y ((noE X.N.length).set i .exc) with
          | fail => rw [hms] at h; exact h
          | exc z => rw [hms] at h; exact h.elim
          | nx ρ2 => rw [hms] at h; exact fun σ2 B2 H2 eb R2 => h _ B2 H2 (e1'.trans eb) (key R2)
          | bk ρ2 => rw [hms] at h; exact fun σ2 B2 H2 eb R2 => h _ B2 H2 (e1'.trans eb) (key R2)
          | ct ρ2 => rw [hms] at h; exact fun σ2 B2 H2 eb R2 => h _ B2 H2 (e1'.trans eb) (key R2)
          | ret r ρ2 =>
            rw [hms] at h
            intro v σ2 B2 H2 eb R2 rr
            refine h v (σ2.set i none) B2 H2 (e1'.trans eb) (key R2) ?_
            cases r with
            | val d => exact rr
            | new ds =>
              obtain ⟨p, vs, e, m, n1, n2⟩ := rr
              refine ⟨p, vs, e, m, n1, fun j s hj hs' z => ?_⟩
              obtain ⟨ne, hj'⟩ := cleanE_mut hj hs'
              rw [List.getElem?_set_ne (Ne.symm ne)] at z
              exact n2 j s hj' hs' z
      · subst hb0
        simp only [htc] at h
        exact h cls d B' H' (R.b0.trans e1') e2 e3 (fun b hb => (e4 b hb).trans (R.gr b hb)) e5 e6 e7 xo
end
end DL

set_option maxRecDepth 100000
set_option maxHeartbeats 2000000
/-! a lambda handed to a def that calls it -/
namespace DL
open PySem PySem.Spec PyProof.Rows L2 LamX
/-! ### what a lambda's call comes to -/
inductive LO where
  | fail
  | ok (r : Res)
  | exc (x : Exc)
def LO.of : EO → LO
  | .fail => .fail
  | .ok r _ => .ok r
  | .exc x => .exc x
def mAct (o : LO) : En → EO := fun ρ => match o with
  | .fail => .fail
  | .ok r => .ok r ρ
  | .exc x => .exc x
def Slot.hide : Slot → Slot
  | .val d => .val d
  | _ => .no
def hide (ρ : En) : En := ρ.map Slot.hide
/-- the facts within the def that got the lambda at f: its code object c', the data that the lambda sees -/
@[reducible] def tbF (T0 : Tb) (f c' : Addr) (q : Str) (K : PySem.W.Frag) (ρo : En) (σo : L2.St) : Tb where
  T := T0.T
  X := (c', CodeO c' q) :: T0.X
  hX := fun p hp => by
    rcases List.mem_cons.mp hp with rfl | hp
    · exact ⟨fun xs z => (by unfold CodeO at z; cases z), fun ps => codeO_ne ps⟩
    · exact T0.hX p hp
  P := fun B => T0.P B ∧ ∀ (i : Nat) d, ρo[i]? = some (.val d) → ∃ v, σo[i]? = some (some v) ∧ Dp K B v d
  hP := fun B B' e ⟨h1, h2⟩ => ⟨T0.hP B B' e h1, fun i d h => by
    obtain ⟨v, h3, h4⟩ := h2 i d h
    exact ⟨v, h3, h4.ex e⟩⟩
  ea := f
theorem hide_get {ρ : En} {i : Nat} {s : Slot} (h : (hide ρ)[i]? = some s) : s = .no ∨ ∃ d, s = .val d ∧ ρ[i]? = some (.val d) := by
  unfold hide at h
  rw [List.getElem?_map] at h
  cases q : ρ[i]? with
  | none => rw [q] at h; cases h
  | some t =>
    rw [q] at h
    have h' : t.hide = s := Option.some.inj h
    subst h'
    cases t <;> first | exact .inr ⟨_, rfl, rfl⟩ | exact .inl rfl
section
variable {K : PySem.W.Frag} {mg : Str → Option Value} {T0 : Tb} {f c' : Addr} {q : Str} {ρo : En} {σo : L2.St}
theorem codeO_keep {H H' : Hp} (e : ExN H H') (h : H c' = some (CodeO c' q)) : H' c' = some (CodeO c' q) := by
  exact e c' _ h fun ps => codeO_ne ps
theorem tabsF {H H' : Hp} (t : @TabsOk (tbF T0 f c' q K ρo σo) H) (e : ExN H H') (t' : @TabsOk T0 H') : @TabsOk (tbF T0 f c' q K ρo σo) H' := by
  obtain ⟨h1, h2⟩ := t
  refine @TabsOk.mk (tbF T0 f c' q K ρo σo) H' t'.t fun p hp => ?_
  rcases List.mem_cons.mp hp with rfl | hp
  · exact codeO_keep e (h2 _ List.mem_cons_self)
  · exact t'.x p hp
theorem res_back {Z : Zt} {B B' H H' : Hp} {ρ ρ2 : En} {σ σ2 : L2.St} [Tb] (R : Rel K Z B H ρ σ) {r : Res} {v : V} (h : ResOk K (Zk B H) B' H' ρ2 σ2 r v) : ResOk K Z B' H' ρ σ r v := by
  cases r with
  | val d => exact h
  | new ds =>
    obtain ⟨p, vs, e, m, n1, n2⟩ := h
    have hp := nt_none (show ntb H p = none from m.f)
    refine ⟨p, vs, e, ⟨R.Fs hp, m.b, m.h, m.d⟩, fun z => (by obtain ⟨xs, e⟩ := R.hi p z; obtain ⟨ps, e2⟩ := hp _ e; cases e2), fun i s hi hm z => ?_⟩
    obtain ⟨a, ws, es, e2, m2⟩ := R.mutAt hi hm
    rw [e2] at z
    cases z
    obtain ⟨ps, e3⟩ := hp _ m2.h
    cases e3
/-- the lambda's body, read within the def that calls it -/
theorem act_of {Z : Zt} {B HZ : Hp} {ρ : En} {σZ : L2.St} {E : XK} {Q : VK} {me : En → EO} (hlen : ρo.length = σo.length) (R : @Rel (tbF T0 f c' q K ρo σo) K Z B HZ ρ σZ)
    (h : @EPost (tbF T0 f c' q K ρo σo) K mg Z B σZ E Q (mAct (LO.of (me (hide ρo))) ρ)) : @tE T0 K mg E me σo HZ Q := by
  have R' := id R
  obtain ⟨len, hF, zt, hB, b0, gr, nt, tb, pb, hi, sl, ap⟩ := R'
  have tb' := id tb
  obtain ⟨tt, tx⟩ := tb'
  have back : ∀ {B' H' : Hp} {ρ2 : En} {σ2 : L2.St}, Ex B B' → @Rel T0 K (Zk B HZ) B' H' ρ2 σ2 → @Rel (tbF T0 f c' q K ρo σo) K Z B' H' ρ σZ := fun {B' H' ρ2 σ2} e R2 =>
    @Rel.go (tbF T0 f c' q K ρo σo) K Z B B' HZ H' ρ σZ R e R2.hB (nt_ex R2.hF) (fun a h n => R2.gr a (nt_nn h n)) R2.nt (tabsF tb (nt_ex R2.hF) R2.tb)
  refine ⟨Zk B HZ, B, hide ρo, @Rel.mk T0 K (Zk B HZ) B HZ (hide ρo) σo (by simp [hide, hlen]) (ex_nt HZ) (fun a ps => nt_tbl ps) hB (Ex.refl _) (fun _ _ => rfl) nt ⟨tt, fun p hp => tx p (List.mem_cons_of_mem _ hp)⟩ pb.1 (fun a ha => by cases ha) (fun i s hi => ?_) (fun i j s t a hi _ hs _ _ _ => ?_), ?_⟩
  · rcases hide_get hi with rfl | ⟨d, rfl, e⟩
    · trivial
    · exact pb.2 i d e
  · rcases hide_get hi with rfl | ⟨d, rfl, e⟩ <;> cases hs
  · cases hm : me (hide ρo) with
    | fail => rw [hm] at h; exact h
    | ok r ρ2 =>
      rw [hm] at h
      intro v B' H' e R2 r2
      exact h v B' H' e (back e R2) (@res_back K Z B B' HZ H' ρ ρ2 σZ σo (tbF T0 f c' q K ρo σo) R r v r2)
    | exc x =>
      rw [hm] at h
      intro cls d B' H' e1 e2 e3 e4 e5 e6 e7 xo
      have e3' := nt_ex e3
      refine h cls d B' H' (b0.trans e1) e2 (hF.trans e3') (fun a ha => ?_) e5 (tabsF tb e3' e6) (fun a ha => ?_) xo
      · have n : ntb HZ a ≠ none := by
          cases q : Z.F a with
          | none => exact absurd q ha
          | some o =>
            have nT : ∀ ps, o ≠ .tbl ps := fun ps z => zt a ps (by rw [q, z])
            rw [nt_of (hF a o q nT) nT]
            simp
        exact (e4 a n).trans (gr a ha)
      · obtain ⟨xs, e⟩ := hi a ha
        exact ⟨xs, e3'.lst e⟩
end
/-- the def that got it: N names, the first its parameter -/
def runF (N : Nat) (mb : LO → En → SO) (o : LO) : Option Res := match mb o ((noE N).set 0 .exc) with
  | .ret r _ => some r
  | .nx _ => some (.val .none)
  | _ => none
def mHeard (N : Nat) (mb : LO → En → SO) (me : En → EO) : En → EO := fun ρ => match runF N mb (LO.of (me (hide ρ))) with
  | some r => .ok r ρ
  | none => .fail
def mCall0 (o : LO) : En → EO := fun ρ => match ρ[0]? with
  | some Slot.exc => mAct o ρ
  | _ => .fail
/-- what is to be shown of the def's body -/
def HeardOk (g : Bool) (X : Cx) (k : Nat) (Ng : List Str) (x : Str) (sg : Scope) (ga : Addr) (cdg : Value) (bg : List Stmt) (a : Str) (mb : LO → En → SO) : Prop :=
  ∀ (T1 : Tb) (s : Shared) (H : Hp) (o : LO),
    (∀ (E' : XK) (pn : List (Addr × Obj)) (xe : Value → Shared → Prop) (p1 p2 : Pos), Takes ((cxOf C8.CX0 X.prog X.w X.K X.mg X.base Ng x sg ga cdg X.A X.stack s H C8.E0).tr pn xe) (fun cls d _ H' => E' cls d H') →
      @JE T1 ((cxOf C8.CX0 X.prog X.w X.K X.mg X.base Ng x sg ga cdg X.A X.stack s H C8.E0).tr pn xe) E' (.Call (.Name a p1) [] [] p2) (mCall0 o)) →
    Ctx g (cxOf C8.CX0 X.prog X.w X.K X.mg X.base Ng x sg ga cdg X.A X.stack s H C8.E0).nox EB k →
    @JB T1 (cxOf C8.CX0 X.prog X.w X.K X.mg X.base Ng x sg ga cdg X.A X.stack s H C8.E0).nox EB bg (mb o)
/-- the reading of the lambda -/
def TTh (T0 : Tb) (X : Cx) (N : Nat) (mb : LO → En → SO) (me : En → EO) : (XK → Hp → VK → Prop) → Hp → VK → Prop := fun tl H Q => ∃ (σ : L2.St) (Z : Zt) (B : Hp) (ρ : En), tl = (fun E H' Q' => @tE T0 X.K X.mg E me σ H' Q') ∧ @Rel T0 X.K Z B H ρ σ ∧ ∃ r, runF N mb (LO.of (me (hide ρ))) = some r ∧
    ∀ v B' H', Ex B B' → @Rel T0 X.K Z B' H' ρ σ → ResOk X.K Z B' H' ρ σ r v → Q v H'
theorem heard_gives {gd : Bool} {T0 : Tb} {X : Cx} {k : Nat} {x a q : Str} {g : Addr} {bg : List Stmt} {sg : Scope} {cdv : Value} {Ng : List Str} {me : En → EO} {mb : LO → En → SO} (hr : Room (k + 2) X.A) (hgd : gd = true → X.A.guards = some []) (Sg : FnScope Ng [a] sg) (hNg : Ng[0]? = some a)
    (hG : HeardOk gd X (k + 1) Ng x sg g cdv bg a mb) : GivesTo X Ng x sg g cdv bg a q (TTh T0 X Ng.length mb me) := by
  have gdA : ∀ (A : Around) (e : Env), (gd = true → A.guards = some []) → gd = true → (A.deeper e).guards = some [] := fun A e h => h
  intro f c' s H Q tl act hc ⟨σ, Z, B, ρ, etl, R, r, hrun, hq⟩
  subst etl
  have R0 := id R
  obtain ⟨len0, hF0, zt0, hB0, b00, gr0, nt0, ⟨tt0, tx0⟩, pb0, hi0, sl0, ap0⟩ := R0
  have hsl : ∀ (i : Nat) d, ρ[i]? = some (.val d) → ∃ v, σ[i]? = some (some v) ∧ Dp X.K B v d := fun i d h => sl0 i _ h
  have hact : ∀ (E' : XK) (pn : List (Addr × Obj)) (xe : Value → Shared → Prop) (p1 p2 : Pos), Takes ((cxOf C8.CX0 X.prog X.w X.K X.mg X.base Ng x sg g cdv X.A X.stack s H C8.E0).tr pn xe) (fun cls d _ H' => E' cls d H') →
      @JE (tbF T0 f c' q X.K ρ σ) ((cxOf C8.CX0 X.prog X.w X.K X.mg X.base Ng x sg g cdv X.A X.stack s H C8.E0).tr pn xe) E' (.Call (.Name a p1) [] [] p2) (mCall0 (LO.of (me (hide ρ)))) := by
    intro E' pn xe p1 p2 tk
    refine @JE.mk (tbF T0 f c' q X.K ρ σ) _ _ _ _ ((act _ pn xe E' p1 p2 tk fun _ _ _ _ h => h).imp fun σZ HZ Q h => ?_)
    obtain ⟨Z1, B1, ρ1, R1, h⟩ := h
    have R1' := id R1
    obtain ⟨len, hF, zt, hB, b0, gr, nt, ⟨tt, tx⟩, pb, hi, sl, ap⟩ := R1'
    unfold mCall0 at h
    cases hs : ρ1[0]? with
    | none => simp only [hs] at h; exact h.elim
    | some s0 =>
      cases s0 with
      | exc => simp only [hs] at h; exact ⟨sl 0 _ hs, tx _ List.mem_cons_self, act_of len0 R1 h⟩
      | no => simp only [hs] at h; exact h.elim
      | val d => simp only [hs] at h; exact h.elim
      | own d => simp only [hs] at h; exact h.elim
      | io j d => simp only [hs] at h; exact h.elim
  have jb := hG (tbF T0 f c' q X.K ρ σ) s H (LO.of (me (hide ρ))) hact ⟨rfl, Sg.nd, (hr.deeper _), gdA _ _ hgd, takesF, PassesOwn.never⟩
  refine ⟨_, @JB.pss (tbF T0 f c' q X.K ρ σ) _ _ _ _ jb, Zk B H, B, (noE Ng.length).set 0 .exc, ?_, ?_⟩
  · have hl0 : 0 < Ng.length := (List.getElem?_eq_some_iff.mp hNg).1
    have at_ : ∀ {j : Nat} {s : Slot}, ((noE Ng.length).set 0 .exc)[j]? = some s → s = .no ∨ (j = 0 ∧ s = .exc) := fun {j s} hj => by
      by_cases ej : j = 0
      · subst ej
        rw [List.getElem?_set_self (by simpa [noE] using hl0)] at hj
        cases hj
        exact .inr ⟨rfl, rfl⟩
      · rw [List.getElem?_set_ne (Ne.symm ej)] at hj
        exact .inl (@noE_get T0 _ _ _ hj)
    have tb1 : @TabsOk (tbF T0 f c' q X.K ρ σ) H := @TabsOk.mk (tbF T0 f c' q X.K ρ σ) H tt0 fun p hp => by
      rcases List.mem_cons.mp hp with rfl | hp
      · exact hc
      · exact tx0 p hp
    refine @Rel.mk (tbF T0 f c' q X.K ρ σ) X.K (Zk B H) B H ((noE Ng.length).set 0 .exc) (L2.start Ng [V.ref f]) ?_ (ex_nt H) (fun a ps => nt_tbl ps) hB0 (Ex.refl _) (fun _ _ => rfl) nt0 tb1 ⟨pb0, hsl⟩ (fun a ha => by cases ha) (fun j s hj => ?_) (fun j k s t b hj _ hs _ _ _ => ?_)
    · simp only [noE, List.length_set, List.length_replicate, L2.start, List.length_append, List.length_map, List.length_cons, List.length_nil]
      omega
    · rcases at_ hj with rfl | ⟨rfl, rfl⟩
      · trivial
      · rfl
    · rcases at_ hj with rfl | ⟨_, rfl⟩ <;> cases hs
  · have fin : ∀ {B2 H2 : Hp} {ρ2 : En} {σ2 : L2.St} {v : V}, Ex B B2 → @Rel (tbF T0 f c' q X.K ρ σ) X.K (Zk B H) B2 H2 ρ2 σ2 → ResOk X.K (Zk B H) B2 H2 ρ2 σ2 r v → Q v H2 := fun {B2 H2 ρ2 σ2 v} e R2 r2 => by
      obtain ⟨len, hF, zt, hB, b0, gr, nt, ⟨tt, tx⟩, pb, hi, sl, ap⟩ := R2
      exact hq v B2 H2 e (@Rel.go T0 X.K Z B B2 H H2 ρ σ R e hB (nt_ex hF) (fun a h n => gr a (nt_nn h n)) nt ⟨tt, fun p hp => tx p (List.mem_cons_of_mem _ hp)⟩) (@res_back X.K Z B B2 H H2 ρ ρ2 σ σ2 T0 R r v r2)
    unfold runF at hrun
    cases hm : mb (LO.of (me (hide ρ))) ((noE Ng.length).set 0 .exc) with
    | fail => rw [hm] at hrun; cases hrun
    | bk ρ2 => rw [hm] at hrun; cases hrun
    | ct ρ2 => rw [hm] at hrun; cases hrun
    | exc x => rw [hm] at hrun; cases hrun
    | nx ρ2 => rw [hm] at hrun; cases hrun; exact fun σ2 B2 H2 e R2 => fin e R2 .non
    | ret r' ρ2 => rw [hm] at hrun; cases hrun; exact fun v σ2 B2 H2 e R2 r2 => fin e R2 r2
section
variable [T0 : Tb] {X : Cx}
theorem je_heard {gd : Bool} {E : XK} {j k : Nat} {x a : Str} {g c P : Addr} {pg : Arguments} {bg : List Stmt} {sg : Scope} {dV kV doc pm cdv ct oc : Value} {an od : Option Addr} {osl : Array (Option Value)} {Ng : List Str}
    {params : Arguments} {body : Expr} {scope : Scope} {me : En → EO} {mb : LO → En → SO} {p lpos pos : Pos} (cx : Ctx gd X E j) (hj : k + 2 ≤ j)
    (hm : X.mg x = some (.ref g)) (hk : PySem.W.keepIn X.K (.ref g) = true)
    (lk : X.K.lookup g = some ⟨oc, od, .func (PySem.W.fnOf x x pg bg sg dV kV doc pm an cdv ct), osl⟩) (hcg : PySem.W.codeIn X.K cdv x = true) (hb : L2.Binds X.K (PySem.W.fnOf x x pg bg sg dV kV doc pm an cdv ct) [a] []) (Sg : FnScope Ng [a] sg) (hNg : Ng[0]? = some a) (hva : Vis sg a)
    (hG : HeardOk gd X (k + 1) Ng x sg g cdv bg a mb)
    (TB : TabB X.base X.mg c P) (hcode : X.env.code = .ref c) (hmT : (P, X.env.qual ++ "<lambda>") ∈ Tb.T) (hu : ∀ p ∈ Tb.T, p.1 = P → p.2 = X.env.qual ++ "<lambda>") (L : LamS X.env.scope scope)
    (hbody : ∀ (A : Around) (outer : List Env) (s : Shared) (H : Hp) (E : XK) (f c' : Addr), Ctx false (lamCx X A outer s H E scope f c') E k → JE (lamCx X A outer s H E scope f c') E body me)
    (hg : Gl X x := by rfl) (hdef : defaultsOf params X.env = ([], []) := by rfl)
    (hbind : ∀ (q : Str) (cl : List (Str × Addr)) (pm cv ctv : Value), bindArgs (PySem.W.kla_fn "<lambda>" q params body scope cl pm cv ctv) ⟨[], []⟩ = pure [] := by intro _ _ _ _ _; rfl)
    (hdb : (x == ("__debug__" : Str)) = false := by decide) (hd : (a == ("__debug__" : Str)) = false := by decide) (hcd : (a == ("__classdict__" : Str)) = false := by decide) :
    JE X E (.Call (.Name x p) [.Lambda params body scope lpos] [] pos) (mHeard Ng.length mb me) := by
  have hr : Room (k + 2) X.A := cx.room.mono hj
  refine ⟨(pe_lamcall (t := fun E => tE X.K X.mg E me) (T := Tb.T) hg hm hk lk hcg hb Sg hNg hva (heard_gives (T0 := T0) (me := me) hr cx.gd Sg hNg hG) TB hcode hmT hu hr L hdef hbind (fun A outer s H E f c' hr2 => (hbody A outer s H E f c' ⟨rfl, cx.nd, hr2, fun z => (by cases z), takes_of rfl rfl rfl rfl, passes_of rfl⟩).pe) hdb hd hcd).imp fun σ H Q h => ?_⟩
  obtain ⟨Z, B, ρ, R, h⟩ := h
  unfold mHeard at h
  cases hrun : runF Ng.length mb (LO.of (me (hide ρ))) with
  | none => rw [hrun] at h; exact h.elim
  | some r =>
    rw [hrun] at h
    refine ⟨R.tb.t, fun H1 eN t1 => ⟨σ, Z, B, ρ, rfl, ?_, r, hrun, h⟩⟩
    exact R.go (Ex.refl _) (fun a o ha => eN a o (R.hB a o ha) fun ps z => R.nt a ps (by rw [ha, z])) eN (fun _ _ _ => rfl) R.nt ⟨t1, fun p hp => eN _ _ (R.tb.x p hp) (Tb.hX p hp).2⟩
end
end DL

set_option maxRecDepth 100000
set_option maxHeartbeats 2000000
/-! within an except suite; chains of comparisons -/
namespace DL
open PySem PySem.Spec PyProof.Rows L2
section
variable {T0 : Tb} {X : Cx} {E : XK} {pos p q r' : Pos} {i : Nat} {a dd C : Addr} {oe : Obj} {cls : Value} {fs : List (Str × V)} {pn : List (Addr × Obj)} {y : Exc} {n f : Str}
def mXf (i : Nat) (f : Str) (y : Exc) : En → EO := fun ρ => match ρ[i]? with
  | some Slot.exc => match y.fs.lookup f with
    | some d => .ok (.val d) ρ
    | none => .fail
  | _ => .fail
theorem je_exf (i : Nat) (hcl : cls = .ref C) (T : XfC X.K C) (hno : PySem.W.findIn X.K (.ref C) f = some none) (hz : Zc cls (some dd) oe) (hf : ∃ vs, oe.data = .fields vs) (hN : X.N[i]? = some n := by rfl)
    (hv : Vis X.env.scope n := by first | exact Or.inl rfl | exact Or.inr (Or.inl rfl) | exact Or.inr (Or.inr rfl)) (hd : (n == ("__debug__" : Str)) = false := by decide) (hcd : (n == ("__classdict__" : Str)) = false := by decide)
    (hb : attributeBase (.Name n p) f (X.suite a ((a, oe) :: pn)).env (eval (.Name n p) (X.suite a ((a, oe) :: pn)).env) = eval (.Name n p) (X.suite a ((a, oe) :: pn)).env := by rfl) :
    @JE (tbX T0 a X.K y dd fs) (X.suite a ((a, oe) :: pn)) E (.Attribute (.Name n p) f pos) (mXf i f y) := by
  refine @JE.mk (tbX T0 a X.K y dd fs) _ _ _ _ ((pe_xf T hno hz hf (pe_var (X := X.suite a ((a, oe) :: pn)) (i := i) hN hv hd hcd) hb).imp fun σ H Q h => ?_)
  obtain ⟨Z, B, ρ, R, h⟩ := h
  have R1 := id R
  obtain ⟨len, hF, zt, hB, b0, gr, nt, ⟨tt, tx⟩, pb, hi, sl, ap⟩ := R1
  unfold mXf at h
  cases hs : ρ[i]? with
  | none => simp only [hs] at h; exact h.elim
  | some s =>
    cases s with
    | exc =>
      simp only [hs] at h
      cases hl : y.fs.lookup f with
      | none => simp only [hl] at h; exact h.elim
      | some d =>
        simp only [hl] at h
        obtain ⟨v, h1, h2⟩ := pb.2 f d hl
        exact ⟨.ref a, sl i _ hs, rfl, hcl, dd, fs, v, rfl, tx _ List.mem_cons_self, h1, h v B H (Ex.refl _) R h2⟩
    | no => simp only [hs] at h; exact h.elim
    | val d => simp only [hs] at h; exact h.elim
    | own d => simp only [hs] at h; exact h.elim
    | io j d => simp only [hs] at h; exact h.elim
/-- isinstance(e, C) of the caught exception, an own class's, with a dict -/
structure ExcD (K : PySem.W.Frag) (D : Addr) : Prop where
  hc : (PySem.W.clsIn K D).isSome = true
  hg : PySem.W.findIn K (.ref D) "__getattribute__" = some (some (.builtin "BaseException.__getattribute__"))
  hk : PySem.W.findIn K (.ref D) "__getattr__" = some none
  hs : PySem.W.subIn K (.ref D) (.type "BaseException") = some true
  ha : PySem.W.findIn K (.ref D) "__class__" = some (some (.builtin "object.__class__"))
  hn : PySem.W.specialIn K (.builtin "object.__class__") "__get__" = some (some (.builtin "getset_descriptor.__get__"))
  ht : PySem.W.takesIn K (.builtin "object.__class__") = some true
  hm : PySem.W.mroIn K D (.type "object") = some true
def rIsD (K : PySem.W.Frag) (D a dd : Addr) (fs : List (Str × V)) : List V → Hp → VK → Prop := fun xs H Q => ∃ (c : V) (cv : Value) (b : Bool), xs = [.ref a, c] ∧ H dd = some (.xd fs) ∧ (∀ u, RelV c u → u = cv) ∧ PySem.W.kitOne K (.ref D) cv = some b ∧ Q (.bl b) H
theorem call_isD {D : Addr} (c : ExcD X.K D) (hz : Zc (.ref D) (some dd) oe) (hf : ∃ vs, oe.data = .fields vs) : CallR (X.suite a ((a, oe) :: pn)) (.builtin "isinstance") (rIsD X.K D a dd fs) := by
  intro pins s σ H xs us Q I rv h
  obtain ⟨cl, cv, b, rfl, hdd, hcv, e, q⟩ := h
  obtain ⟨u1, u2, rfl, r1, r2⟩ := rv.two
  cases r1
  obtain rfl := hcv _ r2
  obtain ⟨hget, _⟩ := I.pin (a, oe) (List.mem_append_left _ List.mem_cons_self)
  obtain ⟨vs, hv⟩ := hf
  have hx : ObjOk X.prog X.w H s.heap dd (.xd fs) := I.hok dd _ hdd
  obtain ⟨mA, hns, _⟩ := hx
  obtain ⟨od, ho, _⟩ := lookIn_ns hns
  have J : PySem.W.InstAt s.heap a oe D (some od) := ⟨hget, hz.1, by unfold PySem.W.notCls; rw [hv] <;> rfl, by rw [hz.2]; exact ho⟩
  exact PySem.W.kia_one (PySem.W.kitx_exc c.hc c.hg c.hk c.hs c.ha c.hn c.ht c.hm) I.kIn J e (fun z => nomatch z) fun tk => ⟨.bl b, H, I.kept (t' := tk) fun _ _ z => z, rfl, q⟩
def mIsE (i : Nat) (b : Bool) : En → EO := fun ρ => match ρ[i]? with
  | some Slot.exc => .ok (.val (.bool b)) ρ
  | _ => .fail
theorem je_isE (i : Nat) {D CT : Addr} {b : Bool} {x : Str} (hcl : cls = .ref D) (c : ExcD X.K D) (hz : Zc cls (some dd) oe) (hf : ∃ vs, oe.data = .fields vs) (hm : X.mg "isinstance" = none) (hmx : X.mg x = some (.ref CT)) (hk : PySem.W.kitOne X.K (.ref D) (.ref CT) = some b) (hN : X.N[i]? = some n := by rfl)
    (hg : Gl X "isinstance" := by rfl) (hgx : Gl X x := by rfl) (hdb : (x == ("__debug__" : Str)) = false := by decide)
    (hv : Vis X.env.scope n := by first | exact Or.inl rfl | exact Or.inr (Or.inl rfl) | exact Or.inr (Or.inr rfl)) (hd : (n == ("__debug__" : Str)) = false := by decide) (hcd : (n == ("__classdict__" : Str)) = false := by decide)
    (hs : starEach [.Name n p, .Name x q] (X.suite a ((a, oe) :: pn)).env = (false, eval (.Name n p) (X.suite a ((a, oe) :: pn)).env) :: starEach [.Name x q] (X.suite a ((a, oe) :: pn)).env := by rfl)
    (hs2 : starEach [.Name x q] (X.suite a ((a, oe) :: pn)).env = (false, eval (.Name x q) (X.suite a ((a, oe) :: pn)).env) :: starEach [] (X.suite a ((a, oe) :: pn)).env := by rfl)
    (hpl : (backTo pos (starEach [.Name x q] (X.suite a ((a, oe) :: pn)).env)).any (·.1) = false := by rfl) :
    @JE (tbX T0 a X.K y dd fs) (X.suite a ((a, oe) :: pn)) E (.Call (.Name "isinstance" r') [.Name n p, .Name x q] [] pos) (mIsE i b) := by
  subst hcl
  refine @JE.mk (tbX T0 a X.K y dd fs) _ _ _ _ ((pe_callB (X := X.suite a ((a, oe) :: pn)) (call_isD (fs := fs) c hz hf) hg hm (by decide +kernel) (pa_cons (pe_var (X := X.suite a ((a, oe) :: pn)) (i := i) hN hv hd hcd) (pa_cons (pe_glob (X := X.suite a ((a, oe) :: pn)) (v := .ref CT) hgx hmx rfl hdb) pa_nil hs2) hs) (he := hs) (hpl := hpl)).imp fun σ H Q h => ?_)
  obtain ⟨Z, B, ρ, R, h⟩ := h
  have R1 := id R
  obtain ⟨len, hF, zt, hB, b0, gr, nt, ⟨tt, tx⟩, pb, hi, sl, ap⟩ := R1
  unfold mIsE at h
  cases hs0 : ρ[i]? with
  | none => simp only [hs0] at h; exact h.elim
  | some s =>
    cases s with
    | exc =>
      simp only [hs0] at h
      exact ⟨.ref a, sl i _ hs0, .ref CT, _, b, rfl, tx _ List.mem_cons_self, fun u hu => hu, hk, h (.bl b) B H (Ex.refl _) R (.bl _)⟩
    | no => simp only [hs0] at h; exact h.elim
    | val d => simp only [hs0] at h; exact h.elim
    | own d => simp only [hs0] at h; exact h.elim
    | io j d => simp only [hs0] at h; exact h.elim
end
section
variable [Tb] {X : Cx} {E : XK} {a b c : Expr} {ma mb mc : En → EO} {pos : Pos}
theorem je_chain {op op' : CmpOp} {r r' : R2} {f g : D → D → Option Res} (ho : OpR X (compareOp op) r) (ho' : OpR X (compareOp op') r') (hf : VOp X r f) (hg : VOp X r' g) (hfe : ∀ x y d e H Q B b, Dp X.K B x d → Dp X.K B y e → f d e = some (.val (.bool b)) → Q (.bl b) H → r x y H Q)
    (ha : JE X E a ma) (hb : JE X E b mb) (hc : JE X E c mc) (hm : lastMarks [op, op'] [b, c] = false := by with_unfolding_all rfl) : JE X E (.Compare a [op, op'] [b, c] pos) (mChain f g ma mb mc) :=
  ⟨(pe_chain ho ho' ha.pe hb.pe hc.pe hm).imp (tChain_of hf hg hfe)⟩
theorem jt_chain {op op' : CmpOp} {r r' : R2} {f g : D → D → Option Res} (ho : OpR X (compareOp op) r) (ho' : OpR X (compareOp op') r') (hf : VOp X r f) (hg : VOp X r' g) (hfe : ∀ x y d e H Q B b, Dp X.K B x d → Dp X.K B y e → f d e = some (.val (.bool b)) → Q (.bl b) H → r x y H Q)
    (ha : JE X E a ma) (hb : JE X E b mb) (hc : JE X E c mc) (hm : lastMarks [op, op'] [b, c] = false := by with_unfolding_all rfl) : JT X E (.Compare a [op, op'] [b, c] pos) (mB (mChain f g ma mb mc)) :=
  ⟨(pt_chain ho ho' ha.pe hb.pe hc.pe hm).imp (tB_of (tChain_of hf hg hfe))⟩
end
end DL

set_option maxRecDepth 100000
set_option maxHeartbeats 2000000
/-! odds and ends of the walk -/
namespace DL
open PySem PySem.Spec PyProof.Rows L2
variable [Tb]
section
variable {X : Cx} {E : XK} {g : Bool} {k : Nat}
theorem Ctx.u (c : Ctx g X E k) : X.A.units + 65 < cLine := by have := c.room.un; omega
theorem Ctx.u4 (c : Ctx g X E k) : X.A.units + 64 < cLine := by have := c.room.un; omega
theorem Ctx.mono {j : Nat} (c : Ctx g X E k) (h : j ≤ k) : Ctx g X E j := ⟨c.calm, c.nd, c.room.mono h, c.gd, c.tk, c.po⟩
def fNeg : D → Option Res
  | .int i => some (.val (.int (-i)))
  | _ => none
theorem vNeg : VUn X (rU fun i => .int (-i)) fNeg := by
  intro Z B H ρ σ x d res Q R hx hf q
  cases d <;> first | (cases hf; done) | skip
  cases hf
  exact ⟨_, dp_int hx, q _ B H (Ex.refl _) R (.int _)⟩
/-- x = [..] on one line -/
theorem js_setLc {elt tg iter : Expr} {ifs : List Expr} {scope : Scope} {pos spos py : Pos} {mi : En → WO} {gg : D → En → Option En} {ixs : List Nat} {mt me : En → EO} {i : Nat} {y : Str} (own : List (Str × Nat)) (hc : X.calm = true) (hN : X.N.Nodup) (hi : JI X E tg iter mi)
    (hg : ∀ (s : Shared) (H : Hp) (C : Addr) (cl : List (Str × Addr)) (fp : List Addr), JG (X.blk s H scope (compEnvC scope cl C X.env) fp) tg gg ixs)
    (ht : ∀ (s : Shared) (H : Hp) (C : Addr) (cl : List (Str × Addr)) (fp : List Addr), JTs (X.blk s H scope (compEnvC scope cl C X.env) fp) EB ifs mt)
    (he : ∀ (s : Shared) (H : Hp) (C : Addr) (cl : List (Str × Addr)) (fp : List Addr), JE (X.blk s H scope (compEnvC scope cl C X.env) fp) EB elt me)
    (hok : blkC X.N X.env.scope scope own = true := by first | decide +kernel | kernel_rfl | rfl) (hix : (ixs.all fun i => (own.map (·.2)).contains i) = true := by decide) (hs : ∀ x, foldedSetIterable iter X.env x = pure x := by intro _; rfl)
    (hy : X.N[i]? = some y := by rfl) (hyl : X.env.scope.names.lookup y = some .local := by rfl) (hsw : swapsWith (.ListComp elt [⟨tg, iter, ifs, 0⟩] scope pos) (some (.Name y py)) spos.line X.env = pure true := by rfl) :
    JS X E (.Assign [.Name y py] (.ListComp elt [⟨tg, iter, ifs, 0⟩] scope pos) spos) (mAsg i (mLc mi gg mt me (own.map (·.2)))) := by
  have hix' : ∀ i ∈ ixs, i ∈ own.map (·.2) := fun i h => by
    have := List.all_eq_true.mp hix i h
    simpa using this
  refine ⟨(ps_setLc (te := tE X.K X.mg EB me) (tt := tT X.K X.mg EB mt) (g := tG X.K gg ixs) (i := i) hc hN hy hyl hsw hi.pi (blkOk_by hok) (fun s H C cl fp => (hg s H C cl fp).pg) (fun s H C cl fp => (ht s H C cl fp).pts) (fun s H C cl fp => (he s H C cl fp).pe) hs).imp fun D σ H h => ?_⟩
  refine lc_post hix' (Q := fun x H1 => D.nx (σ.set i (some x)) H1) ?_
  obtain ⟨Z, B, ρ, R, h⟩ := h
  refine ⟨Z, B, ρ, R, ?_⟩
  unfold mAsg at h
  cases hm : mLc mi gg mt me (own.map (·.2)) ρ with
  | fail => rw [hm] at h; exact h
  | exc x => rw [hm] at h; exact h
  | ok r ρ1 =>
    simp only [hm] at h
    exact fun v B1 H1 e1 R1 r1 => setRes_ok h e1 R1 r1
def fRev : D → Option Res
  | .list ds => some (.new ds.reverse)
  | .tuple ds => some (.val (.tuple ds.reverse))
  | _ => none
def dist (ds : List D) : List D := ds.foldl (fun acc d => if (acc.any fun e => PyData.eqv e d) = true then acc else acc ++ [d]) []
def fLenSet (d : D) : Option Res := match d with
  | .list ds => if ds.length < 64 ∧ (ds.all fun t => match t with | .tuple [.str _, .int _] => true | _ => false) = true then some (.val (.int (dist ds).length)) else none
  | _ => none
end
end DL

set_option maxRecDepth 100000
set_option maxHeartbeats 2000000
/-! a new list handed to a def that writes it; defs that call themselves -/
namespace DL
open PySem PySem.Spec PyProof.Rows L2
variable [Tb]
theorem DefKw.mono {g : Bool} {P : Program} {w : World} {K : PySem.W.Frag} {mg : Str → Option Value} {base : Heap} {j k n np : Nat} {x : Str} {mf : List Arg → FO} {ks : List Str} {p : List Nat} (F : DefKw g P w K mg base j x n mf np ks p) (h : j ≤ k) : DefKw g P w K mg base k x n mf np ks p := by
  obtain ⟨f, fd, ps, h1, h2⟩ := F.ex
  exact ⟨f, fd, ps, h1.mono h, h2⟩
theorem fnM_fail {g : Bool} {P : Program} {w : World} {K : PySem.W.Frag} {mg : Str → Option Value} {base : Heap} {k n : Nat} {f : Addr} {fd : FuncData} {ps : List Str} (hn : ps.length = n) : FnM g P w K mg base k f fd ps (spM K mg n fun _ => .fail) :=
  ⟨fun vs H Q E h => h.1.trans hn.symm, fun A outer s H args us vs Q E _ _ _ _ _ h => by obtain ⟨_, _, _, _, _, _, _, _, _, _, z⟩ := h; exact z.elim⟩
section
variable {K : PySem.W.Frag} {Z : Zt} {B B' H H' : Hp} {ρ : En} {σ : L2.St}
/-- the step, but at a list that nobody owns -/
theorem Rel.goBut (R : Rel K Z B H ρ σ) {p : Addr} {ds : List D} (r : ResOk K Z B H ρ σ (.new ds) (.ref p)) (eb : Ex B B') (eh : Ex B' H') (ef : Fr H H' [p]) (gb : ∀ a, H a ≠ none → (∀ ps, H a ≠ some (.tbl ps)) → B' a = B a) (nt : ∀ a ps, B' a ≠ some (.tbl ps)) (tb : TabsOk H') : Rel K Z B' H' ρ σ := by
  obtain ⟨p', ws, e, m, ni, np⟩ := r
  cases e
  have nin : ∀ {a : Addr}, a ≠ p → a ∉ [p] := fun n z => n (by simpa using z)
  refine ⟨R.len, fun a o h n => ?_, R.zt, eh, R.b0.trans eb, fun a h => ?_, nt, tb, Tb.hP _ _ eb R.pb, fun a h => ?_, fun i s h => ?_, R.ap⟩
  · exact ef a o (R.hF a o h n) (nin fun z => by rw [z, m.f] at h; cases h) n
  · rw [gb a (R.Fne h).1 (R.Fne h).2]
    exact R.gr a h
  · obtain ⟨xs, e⟩ := R.hi a h
    exact ⟨xs, ef a _ e (nin fun z => ni (by rw [← z]; exact h)) fun ps z => by cases z⟩
  · have q := R.sl i s h
    have mk : ∀ {a vs ds}, s.mut = true → σ[i]? = some (some (.ref a)) → MutOk K Z B H a vs ds → MutOk K Z B' H' a vs ds := fun {a vs ds} hm e m' =>
      m'.mono eb (by rw [gb a (by rw [m'.h]; simp) (fun ps z => by rw [m'.h] at z; cases z)]; exact m'.b) (ef a _ m'.h (nin fun z => np i s h hm (by rw [e, z])) fun ps z => by cases z)
    cases s with
    | no => trivial
    | exc => exact q
    | val d => obtain ⟨v, e, d⟩ := q; exact ⟨v, e, d.ex eb⟩
    | own ds => obtain ⟨a, vs, e, m, n⟩ := q; exact ⟨a, vs, e, mk rfl e m, n⟩
    | io j ds => obtain ⟨a, vs, e, m, n⟩ := q; exact ⟨a, vs, e, mk rfl e m, n⟩
end
/-- f(e), e a list of its own that f writes -/
def mFunT (mf : List Arg → FO) (me : En → EO) : En → EO := fun ρ => match me ρ with
  | .fail => .fail
  | .exc x => .exc x
  | .ok r ρ1 => match r with
    | .val _ => .fail
    | .new ds => match mf [.io ds] with
      | .fail => .fail
      | .exc x => .exc x
      | .ok r _ => .ok r ρ1
section
variable {X : Cx} {E : XK} {g : Bool} {k : Nat} {x : Str} {mf : List Arg → FO} {e : Expr} {me : En → EO} {p pos : Pos}
theorem je_callT (C : DefOk g X.prog X.w X.K X.mg X.base k x 1 mf) (cx : Ctx g X E k) (he : JE X E e me) (hg : Gl X x := by rfl) (hdb : (x == ("__debug__" : Str)) = false := by decide)
    (hs : starEach [e] X.env = (false, eval e X.env) :: starEach [] X.env := by rfl) (hpl : (backTo pos (starEach [] X.env)).any (·.1) = false := by rfl) : JE X E (.Call (.Name x p) [e] [] pos) (mFunT mf me) := by
  obtain ⟨f, fd, ps, F, hm, hk, hb⟩ := C.ex
  refine ⟨⟨fun pins s σ H Q I h => ?_⟩⟩
  refine wpAny_Call_Name_kw (ld_glob I hg hm ?_ hdb)
  obtain ⟨Z, B, ρ, R, h⟩ := h
  have hA : tE X.K X.mg E me σ H (fun v H1 => spM X.K X.mg 1 mf [v] H1 Q E) := by
    refine ⟨Z, B, ρ, R, ?_⟩
    unfold mFunT at h
    cases hme : me ρ with
    | fail => rw [hme] at h; exact h.elim
    | exc y => rw [hme] at h; exact h
    | ok r ρ1 =>
      simp only [hme] at h
      cases r with
      | val d => exact h.elim
      | new ds =>
        simp only at h
        intro v B1 H1 e1 R1 r1
        have r1' := id r1
        obtain ⟨a, ws, rfl, m, ni, np⟩ := r1'
        refine ⟨rfl, B1, [.io ds], [a], R1.hB, R1.nt, R1.tb, R1.pb, .io m.b m.h m.d .nil, by simp, ?_⟩
        cases hmf : mf [.io ds] with
        | fail => simp only [hmf] at h; exact h.elim
        | exc y =>
          simp only [hmf] at h
          intro cls d B' H' h1 h2 h3 h4 h5 h6 h7 h8
          have nin : ∀ {b : Addr} {o : HO}, Z.F b = some o → b ∉ [a] := fun {b o} hb z => by
            have : b = a := by simpa using z
            rw [this, m.f] at hb
            cases hb
          refine h cls d B' H' ((R1.b0).trans h1) h2 (fun b o hb n => h4 b o (R1.Fa hb).1 (nin hb) n) (fun b hb => ?_) h3 h6 (fun b hb => ?_) h8
          · cases q : Z.F b with
            | none => exact absurd q hb
            | some o => rw [h5 b (R1.Fne hb).1 (R1.Fne hb).2 (nin q)]; exact R1.gr b hb
          · obtain ⟨xs, q⟩ := R1.hi b hb
            exact ⟨xs, h4 b _ q (fun z => ni (by have : b = a := by simpa using z
                                                 rw [← this]; exact hb)) fun ps z => by cases z⟩
        | ok r' outs =>
          simp only [hmf] at h
          intro v B' H' h1 h2 h3 h4 h5 h6 h7 h8
          have R' := R1.goBut r1 h1 h2 h4 h5 h3 h6
          refine h v B' H' (e1.trans h1) R' ?_
          cases r' with
          | val d => exact h8
          | new es =>
            obtain ⟨q, ys, rfl, n1, n2, n3, n4⟩ := h8
            refine ⟨q, ys, rfl, ⟨R1.Fs n1, n2, n3, n4⟩, fun z => (by obtain ⟨xs, e⟩ := R1.hi q z; obtain ⟨ps, e2⟩ := n1 _ e; cases e2), fun i s hi hs z => ?_⟩
            obtain ⟨b, vs', ds', e, mo⟩ := R1.mutAt hi hs
            rw [e] at z
            cases z
            obtain ⟨ps, e2⟩ := n1 _ mo.h
            cases e2
  refine PySem.W.callWith_K (h₀ := X.base) I.ok.mod.kin hk (thn ((pa_cons he.pe pa_nil hs).run pos pins s σ H (fun vs H1 => spM X.K X.mg 1 mf vs H1 Q E) I hA) fun us s1 ⟨vs, H1, I1, r, q⟩ => ⟨I1.kIn, ?_⟩) hs hpl
  exact run_fnM F cx hb I1 r q
end
end DL

set_option maxRecDepth 100000
set_option maxHeartbeats 2000000
/-! the end: the law's def is called where no repr runs around -/
namespace DL
open PySem PySem.Spec PyProof.Rows L2 LamX

/-- the heap at the law's call: the tables, and the script unless the written part holds it -/
def scr (a : Addr) (vs : List Value) : Obj := { cls := .type "list", data := .seq vs.toArray }
def H0 (fz : Bool) (a : Addr) (vs : List Value) (ns : List Int) (tabs : List Addr) : Hp := fun b =>
  if b = a ∧ fz = true then some (.frz (scr a vs) (.lst (ns.map V.int))) else if b ∈ tabs then some (.tbl #[]) else none
section
variable {fz : Bool} {a b : Addr} {vs : List Value} {ns : List Int} {tabs : List Addr}
theorem h0_tab (h : b ∈ tabs) (n : b ≠ a) : H0 fz a vs ns tabs b = some (.tbl #[]) := by
  unfold H0
  rw [if_neg fun z => n z.1, if_pos h]
theorem h0_scr (h : fz = true) : H0 fz a vs ns tabs a = some (.frz (scr a vs) (.lst (ns.map V.int))) := if_pos ⟨rfl, h⟩
theorem h0_cases {u : HO} (h : H0 fz a vs ns tabs b = some u) : (b = a ∧ fz = true ∧ u = .frz (scr a vs) (.lst (ns.map V.int))) ∨ (b ∈ tabs ∧ u = .tbl #[]) := by
  unfold H0 at h
  split at h
  · rename_i c
    cases h
    exact .inl ⟨c.1, c.2, rfl⟩
  · split at h
    · rename_i c
      cases h
      exact .inr ⟨c, rfl⟩
    · cases h
end
/-- what is known of a code object's table, at the heap and at the base -/
structure Tabbed (K : PySem.W.Frag) (h : Heap) (cs : List (Addr × Addr)) : Prop where
  emp : ∀ p ∈ cs, h.get? p.2 = some { cls := .none, data := .fields #[] }
  out : ∀ p ∈ cs, K.lookup p.2 = none
  cod : ∀ p ∈ cs, PySem.W.CodeHd h p.1 p.2
theorem law_callM {P : Program} {w : World} {K : PySem.W.Frag} {mg mb : Str → Option Value} {k : Nat} {fa a : Addr} {cs : List (Addr × Addr)} {fd : FuncData} {x : Str} {sp : Sp} {s : Shared} {vs : List Value} {ns : List Int}
    (KX : K.In s.heap) (hns : s.heap.Ns mainGlobals mg) (hb : s.heap.Ns builtinsNs mb) (hbb : ∀ x : Str, x ≠ "__name__" → mb x = bootBuiltins x) (hlim : s.heap.NoLimit) (hg : s.gens = #[]) (TT : Tabbed K s.heap cs)
    (hbm : ∃ (bm : Addr) (ob : Obj), mg "__builtins__" = some (.ref bm) ∧ bm ≠ builtinsNs ∧ s.heap.get? bm = some ob ∧ ob.cls = .type "module" ∧ ob.dict = some builtinsNs ∧ ob.data = .plain)
    (ha : s.heap.get? a = some (scr a vs)) (hi : IntsAre vs ns) (hl : ns.length ≤ sizeLine) (hr : Room k callerA)
    (F : ∀ base : Heap, K.In base → base.Ns mainGlobals mg → (∀ p ∈ cs, TabB base mg p.1 p.2) → FnM true P w K mg base k fa fd [x] sp) (hbind : ∀ (s : Shared) (u : Value), BindsTo s fd ⟨[u], []⟩ [(x, u)])
    (hsp : ∀ H : Hp, (∀ p ∈ cs, H p.2 = some (.tbl #[])) → SqL K H a (ns.map V.int) → sp [.ref a] H (fun v _ => v = .bl true) fun _ _ _ => False) :
    codeAny (model P w) callerA (.call (.ref fa) ⟨[.ref a], []⟩) (fun r s' => r = .ok (.ret (.bool true)) ∧ OldK s.heap s'.heap ∧ s'.os = s.os ∧ AllBare s'.gens) s := by
  have rv := vals_ints hi
  let tabs : List Addr := cs.map (·.2)
  have inT : ∀ p ∈ cs, p.2 ∈ tabs := fun p hp => List.mem_map.mpr ⟨p, hp, rfl⟩
  have ofT : ∀ {b : Addr}, b ∈ tabs → ∃ p ∈ cs, p.2 = b := fun {b} z => by
    obtain ⟨p, hp, e⟩ := List.mem_map.mp z
    exact ⟨p, hp, e⟩
  have empT : ∀ {b : Addr}, b ∈ tabs → s.heap.get? b = some { cls := .none, data := .fields #[] } := fun {b} z => by
    obtain ⟨p, hp, e⟩ := ofT z
    rw [← e]
    exact TT.emp p hp
  have aT : a ∉ tabs := fun z => by
    have q := (empT z).symm.trans ha
    have q2 := congrArg (fun o : Option Obj => o.map Obj.cls) q
    cases q2
  have neA : ∀ {b : Addr}, b ∈ tabs → b ≠ a := fun {b} z e => aT (by rw [← e]; exact z)
  let fz : Bool := (K.lookup a).isNone
  let H : Hp := H0 fz a vs ns tabs
  have hH : ∀ p ∈ cs, H p.2 = some (.tbl #[]) := fun p hp => h0_tab (inT p hp) (neA (inT p hp))
  have hS : SqL K H a (ns.map V.int) := by
    cases hk : K.lookup a with
    | none => exact .inl (.inr ⟨_, h0_scr (by show (K.lookup a).isNone = true; rw [hk]; rfl)⟩)
    | some o =>
      have e := (KX a o hk).symm.trans ha
      cases e
      exact .inr ⟨_, vs.toArray, _, hk, rfl, rfl, rfl, by rw [List.size_toArray, hi.length]; exact hl, by simpa using rv⟩
  have hok : HOk P w H s.heap := fun b u z => by
    rcases h0_cases z with ⟨rfl, _, rfl⟩ | ⟨hb, rfl⟩
    · exact ⟨ha, by rw [List.length_map]; exact hl, vs, _, rv, ha⟩
    · exact empT hb
  -- what nothing of it is
  have free : ∀ {b : Addr} {o : Obj}, s.heap.get? b = some o → (∀ xs n, o.data ≠ .seq xs n) → o.data ≠ .fields #[] → H b = none := fun {b o} e n1 n2 => by
    cases q : H b with
    | none => rfl
    | some u =>
      rcases h0_cases q with ⟨rfl, _, _⟩ | ⟨hb, _⟩
      · have z := e.symm.trans ha
        cases z
        exact absurd rfl (n1 _ _)
      · have z := e.symm.trans (empT hb)
        cases z
        exact absurd rfl n2
  have low : ∀ {b : Addr} {o : Obj}, s.heap.get? b = some o → (∀ xs n, o.data ≠ .seq xs n) → o.data ≠ .fields #[] → (hidT s.heap H).get? b = some o := fun e n1 n2 => hidT_get e (free e n1 n2)
  have nsL : ∀ {b : Addr} {m : Str → Option Value}, s.heap.Ns b m → (hidT s.heap H).Ns b m := fun {b m} ⟨o, es, ep, e, d, r⟩ => ⟨o, es, ep, low e (fun xs n z => by rw [d] at z; cases z) (fun z => by rw [d] at z; cases z), d, r⟩
  have KL : K.In (hidT s.heap H) := fun b o e => hidT_get (KX b o e) (by
    cases q : H b with
    | none => rfl
    | some u =>
      rcases h0_cases q with ⟨rfl, hf, _⟩ | ⟨hb, _⟩
      · have hf' : (K.lookup b).isNone = true := hf
        rw [show K.lookup b = some o from e] at hf'
        cases hf'
      · obtain ⟨p, hp, ep⟩ := ofT hb
        rw [← ep] at e
        exact absurd ((TT.out p hp).symm.trans e) (by simp))
  have tb : ∀ p ∈ cs, TabB (hidT s.heap H) mg p.1 p.2 := fun p hp => by
    have hP := TT.emp p hp
    obtain ⟨bm, ob, b1, b2, b3, b4, b5, b6⟩ := hbm
    obtain ⟨og, eg, epg, g1, g2, _⟩ := hns
    obtain ⟨o, us, file, tf, flags, tg, inF, text, tt, e1, r1, r2, rest⟩ := TT.cod p hp
    have n0 : us ≠ #[] := fun z => by
      subst z
      obtain ⟨r3, _⟩ := rest
      simp at r3
    have l1 := low e1 (fun xs n z => by rw [r2] at z; cases z) (fun z => by rw [r2] at z; exact n0 (Data.fields.inj z))
    have l2 := low b3 (fun xs n z => by rw [b6] at z; cases z) (fun z => by rw [b6] at z; cases z)
    refine ⟨⟨o, us, file, tf, flags, tg, inF, text, tt, l1, r1, r2, rest⟩, ⟨bm, ob, b1, b2, fun z => ?_, fun z => ?_, l2, b4, b5, b6⟩, fun z => ?_⟩
    · rw [z, g1] at b3
      cases b3
      rw [g2] at b6
      cases b6
    · rw [z, hP] at b3
      cases b3
      cases b6
    · rw [z, hP] at g1
      cases g1
      cases g2
  obtain ⟨mc, c1, c2⟩ := hlim
  have e0 : Env0 P w K mg (hidT s.heap H) callerA [] s H :=
    { frames := rfl, mod := ⟨KL, nsL hns, ⟨mb, nsL hb, hbb⟩, ⟨mc, nsL c1, c2⟩⟩, bs := fun b o e => of_hidT e, bsz := Nat.le_of_eq (hidT_size _ _), funs := trivial, frf := fun b z => (by cases (show b ∈ ([] : List Addr) from z)), hok := hok, bare := .of_eq hg }
  have go := (F _ KL (nsL hns) tb).run callerA [] s H ⟨[.ref a], []⟩ [.ref a] [.ref a] _ _ hr (fun _ => rfl) e0 (hbind s (.ref a)) (.cons rfl .nil) (hsp H hH hS)
  refine codeAny_mono go fun r s' h => ?_
  cases r with
  | error e =>
    obtain ⟨_, _, _, _, _, _, _, _, _, _, _, _, z⟩ := h
    exact z.elim
  | ok fl =>
    cases fl with
    | next => exact h.elim
    | brk => exact h.elim
    | cont => exact h.elim
    | ret u =>
      obtain ⟨v, H', os, bare, un, hok', rv', ev⟩ := h
      have ev' : v = .bl true := ev
      subst ev'
      obtain rfl : u = Value.bool true := rv'
      have stay : ∀ b o, b ∉ tabs → s.heap.get? b = some o → s'.heap.get? b = some o := fun b o nb e => by
        cases q : H b with
        | none => exact un.keep b o e q (fun z => by cases (show b ∈ ([] : List Addr) from z)) (by simp)
        | some u =>
          rcases h0_cases q with ⟨rfl, hf, rfl⟩ | ⟨z, _⟩
          · have z := e.symm.trans ha
            cases z
            exact (hok' b _ (un.frzs b _ _ q)).1
          · exact absurd z nb
      have grow : ∀ p ∈ cs, ∃ more : Array Value, s'.heap.get? p.2 = some { cls := .none, data := .fields more } := fun p hp => by
        obtain ⟨more, z⟩ := un.tbls p.2 #[] (hH p hp)
        exact ⟨_, hok' p.2 _ z⟩
      refine ⟨rfl, ⟨fun b o e => ?_, fun b o e => ?_⟩, os, bare⟩
      · by_cases hb' : b ∈ tabs
        · obtain ⟨p, hp, ep⟩ := ofT hb'
          obtain ⟨more, hm⟩ := grow p hp
          have e2 := (empT hb').symm.trans e
          cases e2
          rw [← ep]
          exact .inr (.inl ⟨((TT.cod p hp).tab (TT.emp p hp)).isCodeTable, rfl, #[], more, rfl, by rw [Array.empty_append]; exact hm⟩)
        · exact .inl (stay b o hb' e)
      · by_cases hb' : b ∈ tabs
        · obtain ⟨p, hp, ep⟩ := ofT hb'
          obtain ⟨more, hm⟩ := grow p hp
          rw [← ep]
          exact ⟨_, hm⟩
        · exact ⟨o, stay b o hb' e⟩
/-- what is known of the law's promise at the head's heap h: T0, what its lambdas write -/
def LawAtM (l : PySem.W.OpenLaw) (w : World) (K : PySem.W.Frag) (k n : Nat) (x : Str) (mg : Str → Option Value) (fa : Addr) (h : Heap) : Prop :=
  ∃ (fd : FuncData) (cs : List (Addr × Addr)) (sp : Sp), Tabbed K h cs ∧ (∀ (s : Shared) (u : Value), BindsTo s fd ⟨[u], []⟩ [(x, u)]) ∧
    (∀ (H : Hp) (a : Addr) (ns : List Int), ns.length ≤ n → (∀ z ∈ ns, Builtin.Int.intBits z ≤ 1048576) → (∀ p ∈ cs, H p.2 = some (.tbl #[])) → SqL K H a (ns.map V.int) → sp [.ref a] H (fun v _ => v = .bl true) fun _ _ _ => False) ∧
    ∀ base : Heap, K.In base → base.Ns mainGlobals mg → (∀ p ∈ cs, TabB base mg p.1 p.2) → FnM true l.prog w K mg base k fa fd [x] sp
theorem walk_ofM {l : PySem.W.OpenLaw} {n k : Nat} {q : Program} {loose : List Str} {XP : (Str → Option Value) → Heap → Prop} {YP : World → Heap → Prop} {d : DefRec} {K : Params → PySem.W.Frag} {x : Str}
    (hn : l.most = some n) (hn2 : n ≤ sizeLine) (hdf : d.params.defaults = []) (hr : Room k callerA) (hY : ∀ (w : World) (h : Heap), YP w h → (K w.params).In h)
    (F : ∀ (w : World) (mg : Str → Option Value) (fa : Addr) (h : Heap), YP w h → (K w.params).In h → h.Ns mainGlobals mg → mg d.name = some (.ref fa) → LawAtM l w (K w.params) k n x mg fa h) :
    PySem.W.WalkO q loose XP YP l.row.toRowW d [] (fun f vs => PySem.call f vs) := by
  refine Att.attach_callB hn hdf fun w s₀ s mg mb fa o pm cd doc a vs ns G Y ho hd hcd hmg hobj hints hlen hbits hg => ?_
  have KX := hY w _ Y
  obtain ⟨fd, cs, sp, TT, hb, hsp, hF⟩ := F w mg fa _ Y KX G.T.g hmg
  exact law_callM KX G.T.g G.T.b G.T.builtins G.T.nolimit hg TT G.T.bmain hobj hints (Nat.le_trans hlen hn2) hr hF hb fun H hH hS => hsp H a ns hlen hbits hH hS
end DL

set_option maxRecDepth 100000
set_option maxHeartbeats 2000000
/-! x[::-1] of tuples and lists -/
namespace DL
open PySem PySem.Spec PyProof.Rows L2
section
variable {prog : Program} {w : World} {A : Around} {E : Value → Shared → Prop} {s : Shared}
theorem adjust_rev (n : Nat) : Builtin.Slice.sliceAdjust none none (-1) (n : Int) = ((n : Int) - 1, -1) := by
  unfold Builtin.Slice.sliceAdjust
  simp
theorem places_rev (n : Nat) : Builtin.Slice.slicePlaces ((n : Int) - 1) (-1) (-1) = n := by
  unfold Builtin.Slice.slicePlaces
  simp
  try omega
theorem applied_rev {sl : Addr} {u : Tok} {n : Nat} {Q : Int × Int × Nat → Shared → Prop} (hs : s.heap.IsSliceOf sl .none .none (.int (-1) u)) (h : Q ((n : Int) - 1, -1, n) s) :
    wpAny (model prog w) A (Builtin.Slice.sliceApplied (.ref sl) (pure (n : Int))) Q E s := by
  obtain ⟨os, hos, hcs, hds⟩ := id hs
  unfold Builtin.Slice.sliceApplied Builtin.Slice.sliceFields
  refine wpAny_bind (wpAny_bind (wpAny_field hos hds (x := .none) rfl (wpAny_bind (wpAny_field hos hds (x := .none) rfl (wpAny_bind (wpAny_field hos hds (x := .int (-1) u) rfl (wpAny_pure ?_)))))))
  refine wpAny_bind (slicePart_int ?_)
  show wpAny _ _ (if ((-1 : Int) == 0) = true then _ else _) _ _ s
  rw [if_neg (by decide)]
  refine wpAny_bind (slicePart_none (wpAny_bind (slicePart_none (wpAny_bind (wpAny_pure ?_)))))
  show wpAny _ _ (match Builtin.Slice.sliceAdjust none none (-1) (n : Int) with | (lo, hi) => pure (lo, (-1 : Int), Builtin.Slice.slicePlaces lo hi (-1))) _ _ s
  rw [adjust_rev]
  show wpAny _ _ (pure ((n : Int) - 1, (-1 : Int), Builtin.Slice.slicePlaces ((n : Int) - 1) (-1) (-1))) _ _ s
  rw [places_rev]
  exact wpAny_pure h
theorem pick_rev (xs : Array Value) : ((List.range xs.size).filterMap fun (k : Nat) => xs[((xs.size : Int) - 1 + (k : Int) * (-1)).toNat]?) = xs.toList.reverse := by
  have e : (List.range xs.size).filterMap (fun (k : Nat) => xs[((xs.size : Int) - 1 + (k : Int) * (-1)).toNat]?) = ((List.range xs.size).map fun k => xs.size - 1 - k).filterMap (xs[·]?) := by
    rw [List.filterMap_map]
    congr 1
    funext k
    have : ((xs.size : Int) - 1 + (k : Int) * (-1)).toNat = xs.size - 1 - k := by omega
    show xs[_]? = xs[_]?
    rw [this]
  rw [e, PySem.W.krv_range, List.filterMap_reverse, PySem.W.krv_all]
theorem getItem_tuple_rev {t sl : Addr} {items : Array Value} {u : Tok} {Q : Value → Shared → Prop} (ht : IsTup s.heap t items) (hs : s.heap.IsSliceOf sl .none .none (.int (-1) u)) (hsz : items.size ≤ sizeLine)
    (h : Q (.ref s.heap.objs.size) { s with heap := s.heap.push { cls := .type "tuple", data := .seq items.toList.reverse.toArray } }) : wpAny (model prog w) A (getItem (.ref t) (.ref sl)) Q E s := by
  have hz : sizeOk (.seq items.toList.reverse.toArray) := by
    show items.toList.reverse.toArray.size ≤ sizeLine
    simpa using hsz
  obtain ⟨os, hos, hcs, hds⟩ := id hs
  have hT : s.TypeIs (.ref sl) "slice" := ⟨os, hos, hcs⟩
  unfold getItem
  try with_reducible refine wpAny_holding ?_
  first | refine wpAny_bind (wpAny_pure ?_) | skip
  refine wpAny_bind (wpAny_sequenceKey ht.typeIs (by decide) ?_)
  refine wpAny_bind (wpAny_callSpecial?_slot (name := Str.ofString "__getitem__") ht.typeIs PyProof.Rows.slot_tuple_getitem (wpAny_call_entry PyProof.Rows.slot_tuple_getitem ht.typeIs entry_tuple_getitem ?_ (args_tuple_getitem _ _)))
  show wpAny _ _ (Builtin.Tuple.tupleItemsOf (.ref t) >>= _) _ _ s
  refine wpAny_bind (tupleItemsOf_ ht (wpAny_bind (wpAny_typeOf hT ?_)))
  rw [if_pos (by decide)]
  refine wpAny_bind (applied_rev hs ?_)
  have hno : ¬ (((items.size : Int) - 1 == 0 && (-1 : Int) == 1 && items.size == items.size) = true) := by
    intro q
    rw [Bool.and_eq_true, Bool.and_eq_true] at q
    have q1 : ((-1 : Int) == 1) = true := q.1.2
    exact absurd q1 (by decide)
  show wpAny _ _ (if ((items.size : Int) - 1 == 0 && (-1 : Int) == 1 && items.size == items.size) = true then _ else _) _ _ s
  rw [if_neg hno, pick_rev]
  first
    | exact wpAny_bind (m := Builtin.Tuple.tupleExact _) (wpAny_newObj_type (wpAny_pure ⟨_, rfl, wpAny_pure h⟩) hz)
    | exact wpAny_bind (m := Builtin.Tuple.tupleExact _) (wpAny_newObj_type (wpAny_bind (wpAny_pure (wpAny_pure ⟨_, rfl, wpAny_pure h⟩))) hz)
    | exact wpAny_bind (wpAny_bind (m := Builtin.Tuple.tupleExact _) (wpAny_newObj_type (wpAny_pure ⟨_, rfl, wpAny_pure h⟩) hz))
end
def tRev (K : PySem.W.Frag) (te : TE) : TE := fun σ H Q => te σ H fun x H1 => (∃ a xs, x = .ref a ∧ SqL K H1 a xs ∧ ∀ p, H1 p = none → Q (.ref p) (L2.upd H1 p (.lst xs.reverse))) ∨ (∃ a xs, x = .ref a ∧ SqT K H1 a xs ∧ ∀ p, H1 p = none → Q (.ref p) (L2.upd H1 p (.tup xs.reverse)))
theorem pe_rev {X : Cx} {e : Expr} {te : TE} {k : Nat} {p1 p2 p3 pos : Pos} (he : PE X e te) : PE X (.Subscript e (.Slice none none (some (.UnaryOp .USub (.Constant (.int 1) k p1) p2)) p3) pos) (tRev X.K te) := by
  refine ⟨fun pins s σ H Q I h => ?_⟩
  refine Subscript_ (thn (he.run pins s σ H _ I h) fun v s1 ⟨x, H1, I1, r1, q1⟩ => ?_)
  have part : PO X (some (.UnaryOp .USub (.Constant (.int 1) k p1) p2)) (tPart (tUn (rU fun i => .int (-i)) (tC (.int 1)))) := po_some (pe_un un_neg pe_int)
  refine wpAny_Slice (thn (po_none.run pins s1 σ H1 (fun o G => o = none ∧ G = H1) I1 ⟨rfl, rfl⟩) fun vl s2 ⟨l, H2, I2, pl, el, e2⟩ => ?_)
  subst el e2
  refine thn (po_none.run pins s2 σ H2 (fun o G => o = none ∧ G = H2) I2 ⟨rfl, rfl⟩) fun vu s3 ⟨u, H3, I3, pu, eu, e3⟩ => ?_
  subst eu e3
  refine thn (part.run pins s3 σ H3 (fun o G => o = some (-1) ∧ G = H3) I3 ⟨1, rfl, -1, rfl, rfl, rfl⟩) fun vs s4 ⟨o, H4, I4, ps, eo, e4⟩ => ?_
  subst eo e4
  have I5 : Inv X pins σ H4 { s4 with heap := s4.heap.push { cls := .type "slice", data := .fields #[vl, vu, vs] } } := I4.kept (t' := s4.toks) fun b ob q => Heap.get?_push_of_some _ q
  have sl := Heap.IsSliceOf.new s4.heap vl vu vs
  rcases q1 with ⟨a, xs, rfl, hx, q⟩ | ⟨a, xs, rfl, hx, q⟩
  · cases r1
    obtain ⟨its, r, ht, hz⟩ := I5.list hx
    have hlen := r.length
    show wpAny (model X.prog X.w) X.A (subscriptTail e _ (.ref a) (.ref s4.heap.objs.size)) (EP X pins σ Q) X.xe { s4 with heap := s4.heap.push { cls := .type "slice", data := .fields #[vl, vu, vs] } }
    refine tail_any (ops := [.ref a, .ref s4.heap.objs.size]) ht.isList.typeIs (PySem.slot_list_getitem.lookup) ?_ (by with_unfolding_all rfl)
    refine wpAny_getItem_list_slice ht.isList sl pl pu ps (by decide) ?_ (by rw [List.size_toArray]; omega)
    rw [PySem.W.krv_pick]
    refine ⟨.ref _, _, I5.laid (t' := s4.toks) (o := .lst xs.reverse) (fun b ob q => Heap.get?_push_of_some _ q) (Nat.le_refl _) ?_, rfl, q _ (I5.hok.fresh (Nat.le_refl _))⟩
    exact ⟨by rw [List.length_reverse]; exact hz, _, 0, r.reverse, Heap.get?_push_size _ rfl⟩
  · cases r1
    obtain ⟨its, r, ht, hz⟩ := I5.tuple hx
    have hlen := r.length
    cases pl
    cases pu
    cases ps
    show wpAny (model X.prog X.w) X.A (subscriptTail e _ (.ref a) (.ref s4.heap.objs.size)) (EP X pins σ Q) X.xe { s4 with heap := s4.heap.push { cls := .type "slice", data := .fields #[_, _, _] } }
    refine tail_any (ops := [.ref a, .ref s4.heap.objs.size]) (IsTup.typeIs ht) (PyProof.Rows.slot_tuple_getitem.lookup) ?_ (by with_unfolding_all rfl)
    refine getItem_tuple_rev ht sl (by rw [List.size_toArray]; omega) ?_
    refine ⟨.ref _, _, I5.laid (t' := s4.toks) (o := .tup xs.reverse) (fun b ob q => Heap.get?_push_of_some _ q) (Nat.le_refl _) ?_, rfl, q _ (I5.hok.fresh (Nat.le_refl _))⟩
    exact ⟨by rw [List.length_reverse]; exact hz, its.reverse, r.reverse, IsTup.new _ _⟩
theorem je_rev [Tb] {X : Cx} {E : XK} {e : Expr} {me : En → EO} {kk : Nat} {p1 p2 p3 pos : Pos} (he : JE X E e me) : JE X E (.Subscript e (.Slice none none (some (.UnaryOp .USub (.Constant (.int 1) kk p1) p2)) p3) pos) (mUn fRev me) := by
  refine ⟨(pe_rev he.pe).imp fun σ H Q h => ?_⟩
  obtain ⟨Z, B, ρ, R, h⟩ := h
  refine ⟨Z, B, ρ, R, EPost.bind h fun d ρ1 x B1 H1 e1 R1 dx h1 => ?_⟩
  cases hr : fRev d with
  | none => rw [hr] at h1; exact h1.elim
  | some res =>
    rw [hr] at h1
    cases d <;> first | (cases hr; done) | skip
    · cases hr
      obtain ⟨a, vs, rfl, q1, d1⟩ := dp_lst dx
      refine .inl ⟨a, vs, rfl, R1.sqL q1, fun p hp => ?_⟩
      obtain ⟨R', r'⟩ := R1.lst hp d1.reverse
      exact h1 _ B1 _ (Ex.refl _) R' r'
    · cases hr
      obtain ⟨a, vs, rfl, q1, d1⟩ := dp_tup dx
      refine .inr ⟨a, vs, rfl, R1.sqT q1, fun p hp => ?_⟩
      obtain ⟨B', eb, R', d'⟩ := R1.tup hp d1.reverse
      exact h1 _ B' _ eb R' d'
end DL

set_option maxRecDepth 100000
set_option maxHeartbeats 2000000
/-! sets of tuples of texts and numbers: begun -/
namespace DL
open PySem PySem.Spec PyProof.Rows L2
section
variable {P : Program} {w : World} {A : Around} {E : Value → Shared → Prop} {s : Shared}
/-- the tuple at a has the keys ks -/
abbrev IsMx (P : Program) (w : World) (h : Heap) (ks : List L2.Key) (a : Addr) : Prop := IsTupleKey (mixKind P w) h ks a
abbrev mxHash (P : Program) (w : World) (ks : List L2.Key) : Int := tupleKeyHash (mixKind P w) ks
def Plainly (v : Value) : Prop := (∃ i t, v = .int i t) ∨ ∃ x t, v = .str x t
theorem plainly_of {ks : List L2.Key} {vs : List Value} (h : ItemsAre (mixKind P w) ks vs) : ∀ v ∈ vs, Plainly v := by
  induction h with
  | nil => intro v z; cases z
  | cons h1 _ ih =>
    intro v z
    rcases List.mem_cons.mp z with rfl | z
    · rcases keyIs_shape h1 with ⟨i, t, _, e⟩ | ⟨x, t, _, e⟩
      · exact .inl ⟨i, t, e⟩
      · exact .inr ⟨x, t, e⟩
    · exact ih v z
theorem noClass_at (n : Nat) {v : Value} (h : Plainly v) : ofAClassStatement n v = pure false := by
  rcases h with ⟨i, t, rfl⟩ | ⟨x, t, rfl⟩ <;> cases n <;> rfl
theorem hashWord_at (n : Nat) {v : Value} (h : Plainly v) : ∃ b, hashByValue n v = pure b := by
  rcases h with ⟨i, t, rfl⟩ | ⟨x, t, rfl⟩
  · exact ⟨true, by cases n <;> rfl⟩
  · exact ⟨false, by cases n <;> rfl⟩
theorem noClass_tup {ks : List L2.Key} {b : Addr} {Q : Bool → Shared → Prop} (hk : IsMx P w s.heap ks b) (q : Q false s) : wpAny (model P w) A (ofAClassStatement 8 (.ref b)) Q E s := by
  have hT := hk.typeIs
  obtain ⟨o, items, n, ho, _, hd, hi⟩ := hk
  have all := plainly_of hi
  unfold ofAClassStatement
  refine wpAny_bind (wpAny_typeOf hT ?_)
  dsimp only
  have e : (("tuple" : String) == "tuple") = true := by decide
  simp only [e, if_true, Bool.not_true, Bool.false_eq_true, if_false]
  try refine wpAny_bind (wpAny_pure ?_)
  try simp only [Bool.not_true, Bool.false_eq_true, if_false]
  refine wpAny_bind (wpAny_seqItems ho hd ?_)
  dsimp only
  refine wpAny_bind ?_
  show wpAny _ _ (forIn items _ _) _ _ s
  rw [← Array.forIn_toList]
  refine wpAny_forIn_list _ (fun left r s' => (∀ v ∈ left, Plainly v) ∧ r.1 = none ∧ s' = s) _ (fun v left r s' => ?_) (fun r s' => ?_) _ _ ⟨all, rfl, rfl⟩
  · rintro ⟨hl, hr, rfl⟩
    rw [noClass_at _ (hl v List.mem_cons_self)]
    refine wpAny_bind (wpAny_pure ?_)
    simp only [Bool.false_eq_true, if_false]
    exact wpAny_pure ⟨fun u z => hl u (List.mem_cons_of_mem _ z), rfl, rfl⟩
  · obtain ⟨r1, r2⟩ := r
    rintro ⟨_, hr, rfl⟩
    have hr' : r1 = none := hr
    subst hr'
    exact wpAny_pure q
/-- a search among such tuples shows nothing -/
theorem unseen {ks : List L2.Key} {b : Addr} {Q : Bool → Shared → Prop} (hk : IsMx P w s.heap ks b) {ys : List Value} (hy : ∀ y ∈ ys, ∃ k' c, y = Value.ref c ∧ IsMx P w s.heap k' c) (q : Q false s) : wpAny (model P w) A (searchCouldBeSeen (.ref b) ys) Q E s := by
  unfold searchCouldBeSeen
  refine wpAny_bind ?_
  refine wpAny_forIn_list _ (fun left r s' => (∀ y ∈ left, ∃ k' c, y = Value.ref c ∧ IsMx P w s.heap k' c) ∧ r.1 = none ∧ s' = s) _ (fun v left r s' => ?_) (fun r s' => ?_) _ _ ⟨hy, rfl, rfl⟩
  · rintro ⟨hl, hr, rfl⟩
    obtain ⟨k', c, rfl, hc⟩ := hl v List.mem_cons_self
    have next : ∀ y ∈ left, ∃ k' c, y = Value.ref c ∧ IsMx P w s'.heap k' c := fun u z => hl u (List.mem_cons_of_mem _ z)
    dsimp only
    by_cases hv : (b == c || (carriedByValue (.ref b) && carriedByValue (.ref c))) = true
    · exact wp_if_pos hv (wpAny_pure ⟨next, rfl, rfl⟩)
    · refine wp_if_neg hv (wpAny_bind (wpAny_eqIsQuiet_tuple hk ?_))
      simp only [Bool.not_true, Bool.false_eq_true, if_false]
      refine wpAny_bind (wpAny_eqIsQuiet_tuple hc ?_)
      simp only [Bool.not_true, Bool.false_eq_true, if_false]
      refine wpAny_bind (noClass_tup hk ?_)
      simp only [Bool.false_eq_true, if_false]
      refine wpAny_bind (noClass_tup hc ?_)
      simp only [Bool.false_eq_true, if_false]
      exact wpAny_pure ⟨next, rfl, rfl⟩
  · obtain ⟨r1, r2⟩ := r
    rintro ⟨_, hr, rfl⟩
    have hr' : r1 = none := hr
    subst hr'
    exact wpAny_pure q
/-! ### the set -/
def mxRows (P : Program) (w : World) (L : List (Addr × List L2.Key)) : List (Int × Value) := L.map fun p => (mxHash P w p.2, Value.ref p.1)
/-- at a: a set of the tuples L -/
structure MxSet (P : Program) (w : World) (h : Heap) (a : Addr) (L : List (Addr × List L2.Key)) (es : Array (Int × Value)) (ep : Nat) (t : SetTable) : Prop where
  ob : ∃ o, h.get? a = some o ∧ o.ExactSet ∧ o.data = .set es ep t
  rows : es.toList = mxRows P w L
  tab : TabOk t (L.map fun p => mxHash P w p.2)
  nd : (L.map (·.2)).Nodup
  tup : ∀ p ∈ L, IsMx P w h p.2 p.1
  room : L.length * 5 < t.mask * 3
  few : L.length < 64
/-- the c-th place of the way of a hash -/
def pnt (m : Nat) (h : Int) (c : Nat) : SetTable.Probe := nth m (runAt m (SetTable.bits h % (m + 1)) (SetTable.bits h)) c
theorem pnt_add (m : Nat) (h : Int) (c q : Nat) : nth m (pnt m h c) q = pnt m h (c + q) := (nth_add m c _ q).symm
theorem pnt_dm (m : Nat) (h : Int) (c : Nat) : (pnt m h c).dummy = none := by
  have go : ∀ (n : Nat) (p : SetTable.Probe), p.dummy = none → (nth m p n).dummy = none := by
    intro n
    induction n with
    | zero => exact fun _ z => z
    | succ n ih => exact fun p z => ih _ (by unfold adv; split <;> exact z)
  exact go c _ rfl
variable {a : Addr} {L : List (Addr × List L2.Key)} {es : Array (Int × Value)} {ep : Nat} {t : SetTable}
theorem MxSet.len (R : MxSet P w s.heap a L es ep t) : es.size = L.length := by
  have e := congrArg List.length R.rows
  simpa [mxRows] using e
theorem MxSet.fits (R : MxSet P w s.heap a L es ep t) : t.fits es.size = true := by
  have h1 := R.tab.sz
  have h2 := R.len
  have h3 := R.room
  rw [List.length_map] at h1
  unfold SetTable.fits SetTable.fill
  rw [R.tab.dm, Bool.and_eq_true, beq_iff_eq, decide_eq_true_eq]
  show t.place.size = es.size ∧ t.place.size + 0 ≤ t.mask
  omega
theorem MxSet.at (R : MxSet P w s.heap a L es ep t) {i : Nat} {p : Addr × List L2.Key} (h : L[i]? = some p) : es[i]? = some (mxHash P w p.2, Value.ref p.1) := by
  rw [← Array.getElem?_toList, R.rows]
  simp [mxRows, h]
theorem MxSet.gw (R : MxSet P w s.heap a L es ep t) : ¬ t.gaveWay = true := by
  unfold SetTable.gaveWay
  rw [mask_odd R.tab.mok]
  decide

/-! ### the search -/
/-- what the table's probe is asked with -/
def askedOf (es : Array (Int × Value)) (i : Nat) : Int := (es[i]?.map (·.1)).getD 0
theorem MxSet.asked (R : MxSet P w s.heap a L es ep t) {i : Nat} {p : Addr × List L2.Key} (h : L[i]? = some p) : askedOf es i = mxHash P w p.2 := by
  simp [askedOf, R.at h]
/-- the entries of one hash show nothing -/
theorem MxSet.shut (R : MxSet P w s.heap a L es ep t) {x : Addr} {k : List L2.Key} (hx : IsMx P w s.heap k x) {g : Int × Value → Bool} {Q : Bool → Shared → Prop} (q : Q false s) :
    wpAny (model P w) A (searchCouldBeSeen (.ref x) ((es.filter g).toList.map (·.2))) Q E s := by
  refine unseen hx (fun y hy => ?_) q
  rw [Array.toList_filter, R.rows] at hy
  obtain ⟨r, hr, rfl⟩ := List.mem_map.mp hy
  obtain ⟨z, hz, rfl⟩ := List.mem_map.mp (List.mem_filter.mp hr).1
  exact ⟨z.2, z.1, rfl, R.tup z hz⟩
/-- at the entry of the key: it is there -/
theorem mx_hit (R : MxSet P w s.heap a L es ep t) {x : Addr} {k : List L2.Key} (hx : IsMx P w s.heap k x) (hu : A.units < cLine) {h : Int} {f j i : Nat} {nx : SetTable.Probe} {p : Addr × List L2.Key}
    (hp : L[i]? = some p) (e : p.2 = k) {Q : SetFound → Shared → Prop} (q : Q (.there none) s) : wpAny (model P w) A (searchRest a (.ref x) h true f es t j i nx) Q E s := by
  obtain ⟨o, ho, _, hd⟩ := R.ob
  unfold searchRest
  rw [R.at hp]
  refine wpAny_bind (wpAny_holding (wpAny_eqBool_tuple hu (R.tup p (List.mem_of_getElem? hp)) hx (wpAny_bind (wpAny_setState_of ho hd R.fits ?_))))
  exact wp_if_pos (by simp [e]) (wpAny_pure q)
/-- at the entry of another key: on -/
theorem mx_past (R : MxSet P w s.heap a L es ep t) {x : Addr} {k : List L2.Key} (hx : IsMx P w s.heap k x) (hu : A.units < cLine) {h : Int} {f j i : Nat} {nx : SetTable.Probe} {p : Addr × List L2.Key}
    (hp : L[i]? = some p) (hj : t.place.toList[i]? = some j) (e : p.2 ≠ k) {Q : SetFound → Shared → Prop} (q : wpAny (model P w) A (setSearchFrom a (.ref x) h true f (some nx)) Q E s) :
    wpAny (model P w) A (searchRest a (.ref x) h true f es t j i nx) Q E s := by
  obtain ⟨o, ho, _, hd⟩ := R.ob
  unfold searchRest
  rw [R.at hp]
  refine wpAny_bind (wpAny_holding (wpAny_eqBool_tuple hu (R.tup p (List.mem_of_getElem? hp)) hx (wpAny_bind (wpAny_setState_of ho hd R.fits ?_))))
  refine wp_if_neg (by simp [e]) ?_
  try refine wpAny_bind (wpAny_pure ?_)
  rw [sameMem]
  simp only [if_true, slot_live R.tab.ris hj, R.at hp]
  refine wpAny_bind (wpAny_isSame_ref_self (wpAny_bind (wpAny_pure ?_)))
  simp only [if_true]
  exact wp_if_neg (by simp [e]) q
/-- how a search for k of hash h ends -/
structure Ends (t : SetTable) (h : Int) (K : Nat) : Prop where
  lim : K < 10 * SetTable.turns t.mask
  gap : (pnt t.mask h K).j ∉ t.place.toList
  full : ∀ c, c < K → (pnt t.mask h c).j ∈ t.place.toList
theorem mx_from (R : MxSet P w s.heap a L es ep t) {x : Addr} {k : List L2.Key} (hx : IsMx P w s.heap k x) (hu : A.units < cLine) {K : Nat} (N : Ends t (mxHash P w k) K) {Q : SetFound → Shared → Prop}
    (q1 : k ∈ L.map (·.2) → Q (.there none) s) (q2 : k ∉ L.map (·.2) → Q (.free (pnt t.mask (mxHash P w k) K).j false) s) (f : Nat) :
    ∀ (c : Nat) (st : Option SetTable.Probe), st.getD (t.probeStart (mxHash P w k)) = pnt t.mask (mxHash P w k) c → c ≤ K → K < c + f →
      (∀ (i : Nat) p, L[i]? = some p → p.2 = k → ∃ d, c ≤ d ∧ d < K ∧ t.place.toList[i]? = some (pnt t.mask (mxHash P w k) d).j) →
      wpAny (model P w) A (setSearchFrom a (.ref x) (mxHash P w k) true f st) Q E s := by
  induction f with
  | zero => exact fun c st _ h1 h2 _ => absurd h2 (by omega)
  | succ f ih =>
    intro c st hst hcK hf hleft
    obtain ⟨o, ho, _, hd⟩ := R.ob
    have sh : ∀ n, (nth t.mask (pnt t.mask (mxHash P w k) c) n) = pnt t.mask (mxHash P w k) (c + n) := fun n => pnt_add _ _ c n
    have found := go_spec t R.tab.ris R.tab.dm (askedOf es) (mxHash P w k) _ (K - c) (pnt t.mask (mxHash P w k) c) (pnt_dm _ _ c) (Nat.lt_of_le_of_lt (Nat.sub_le K c) N.lim)
      (fun n hn => sh n ▸ N.full (c + n) (by omega)) (by rw [sh, Nat.add_sub_cancel' hcK]; exact N.gap)
    simp only [sh] at found
    rw [setSearchFrom_succ]
    refine wpAny_bind (wpAny_setState_of ho hd R.fits (wp_if_neg R.gw ?_))
    try refine wpAny_bind (wpAny_pure ?_)
    rw [hst]
    rcases found with ⟨n, i, hn, hi, hh, hbefore, go⟩ | ⟨hnone, go⟩
    · have go' : t.probe (fun i => (es[i]?.map (·.1)).getD 0) (mxHash P w k) (pnt t.mask (mxHash P w k) c) = some (.candidate (pnt t.mask (mxHash P w k) (c + n)).j i (pnt t.mask (mxHash P w k) (c + (n + 1)))) := go
      rw [go']
      have sized : t.place.toList.length = L.length := by
        have h2 := R.tab.sz
        rwa [List.length_map, ← Array.length_toList] at h2
      obtain ⟨hb, _⟩ := List.getElem?_eq_some_iff.mp hi
      obtain ⟨p, hp⟩ : ∃ p, L[i]? = some p := ⟨_, List.getElem?_eq_getElem (sized ▸ hb)⟩
      have onward : wpAny (model P w) A (searchRest a (.ref x) (mxHash P w k) true f es t (pnt t.mask (mxHash P w k) (c + n)).j i (pnt t.mask (mxHash P w k) (c + (n + 1)))) Q E s := by
        by_cases e : p.2 = k
        · exact mx_hit R hx hu hp e (q1 (e ▸ List.mem_map_of_mem (List.mem_of_getElem? hp)))
        · refine mx_past R hx hu hp hi e (ih (c + (n + 1)) _ rfl (by omega) (by omega) fun i' p' hp' e' => ?_)
          obtain ⟨d, d1, d2, d3⟩ := hleft i' p' hp' e'
          refine ⟨d, Nat.lt_of_not_le (a := d) (b := c + n) fun hle => ?_, d2, d3⟩
          rcases Nat.lt_or_eq_of_le hle with lt | eq
          · exact hbefore (d - c) i' (by omega) (by rw [Nat.add_sub_cancel' d1]; exact d3) (by rw [R.asked hp', e'])
          · have l1 := slot_live R.tab.ris hi
            have l2 := slot_live R.tab.ris d3
            rw [eq, l1] at l2
            cases l2
            rw [hp] at hp'
            cases hp'
            exact e e'
      dsimp only
      cases led : t.led with
      | true =>
        refine wp_if_neg (by simp) ?_
        try refine wpAny_bind (wpAny_pure ?_)
        exact onward
      | false =>
        refine wp_if_pos (by simp) (wpAny_bind (R.shut hx (wp_if_neg (by simp) ?_)))
        try refine wpAny_bind (wpAny_pure ?_)
        exact onward
    · have go' : t.probe (fun i => (es[i]?.map (·.1)).getD 0) (mxHash P w k) (pnt t.mask (mxHash P w k) c) = some (.empty (pnt t.mask (mxHash P w k) K).j none) := by
        have z := go
        rw [Nat.add_sub_cancel' hcK] at z
        exact z
      rw [go']
      refine wpAny_pure (q2 fun hm => ?_)
      obtain ⟨p, hpm, e⟩ := List.mem_map.mp hm
      obtain ⟨i, hi⟩ := List.mem_iff_getElem?.mp hpm
      obtain ⟨d, d1, d2, d3⟩ := hleft i p hi e
      exact hnone (d - c) i (by omega) (by rw [Nat.add_sub_cancel' d1]; exact d3) (by rw [R.asked hi, e])
/-- the search that adding asks for -/
theorem mx_search (R : MxSet P w s.heap a L es ep t) {x : Addr} {k : List L2.Key} (hx : IsMx P w s.heap k x) (hu : A.units < cLine) {Q : SetFound → Shared → Prop}
    (q1 : k ∈ L.map (·.2) → Q (.there none) s) (q2 : ∀ K, Ends t (mxHash P w k) K → k ∉ L.map (·.2) → Q (.free (pnt t.mask (mxHash P w k) K).j false) s) :
    wpAny (model P w) A (setSearch a (.ref x) (mxHash P w k) true) Q E s := by
  have room := R.room
  obtain ⟨K, b1, b2, b3⟩ := R.tab.first (by rw [List.length_map]; omega) (mxHash P w k)
  have few : 10 * SetTable.turns t.mask < 100000 := by
    unfold SetTable.turns
    rcases R.tab.mok with e | e | e <;> omega
  refine mx_from R hx hu ⟨b1, b2, b3⟩ q1 (q2 K ⟨b1, b2, b3⟩) _ 0 none rfl (Nat.zero_le K) (by omega) fun i p hp e => ?_
  have hi : (L.map fun p => mxHash P w p.2)[i]? = some (mxHash P w k) := by simp [hp, e]
  have : i < t.place.toList.length := by
    have h2 := R.tab.sz
    rw [List.length_map, ← Array.length_toList] at h2
    have := (List.getElem?_eq_some_iff.mp hp).1
    omega
  obtain ⟨d, d1, d2⟩ := R.tab.before b2 hi (List.getElem?_eq_getElem this)
  exact ⟨d, Nat.zero_le d, d1, by rw [List.getElem?_eq_getElem this, ← d2]; rfl⟩

/-! ### the rows in another order -/
theorem picks_all {α : Type} (L : List α) : (List.range L.length).filterMap (fun i => L[i]?) = L := by
  have e : (List.range L.length).map (fun i => L[i]?) = L.map some := by
    apply List.ext_getElem
    · simp
    · intro i h1 h2
      simp at h1 h2
      simp [h1]
  have f : (List.range L.length).filterMap (fun i => L[i]?) = ((List.range L.length).map fun i => L[i]?).filterMap id := by
    rw [List.filterMap_map]; rfl
  rw [f, e, List.filterMap_map]
  exact List.filterMap_some
theorem mxRows_at {es : Array (Int × Value)} {L : List (Addr × List L2.Key)} (rows : es.toList = mxRows P w L) (i : Nat) : es[i]? = (L[i]?).map fun p => (mxHash P w p.2, Value.ref p.1) := by
  rw [← Array.getElem?_toList, rows, mxRows, List.getElem?_map]
theorem mxRows_by {es : Array (Int × Value)} {L : List (Addr × List L2.Key)} (rows : es.toList = mxRows P w L) {o : Array Nat} (po : o.toList.Perm (List.range L.length)) :
    ∃ M, M.Perm L ∧ (o.filterMap (es[·]?)).toList = mxRows P w M ∧ (M.map fun p => mxHash P w p.2) = o.toList.map fun i => (es.map (·.1)).getD i 0 := by
  refine ⟨o.toList.filterMap fun i => L[i]?, ?_, ?_, ?_⟩
  · have q := po.filterMap fun i => L[i]?
    rwa [picks_all] at q
  · rw [Array.toList_filterMap, mxRows, List.map_filterMap]
    exact congrArg (List.filterMap · o.toList) (funext fun i => mxRows_at rows i)
  · have bd : ∀ i ∈ o.toList, i < L.length := fun i hi => List.mem_range.mp (po.mem_iff.mp hi)
    generalize o.toList = l at bd
    induction l with
    | nil => rfl
    | cons i l ih =>
      have hi : i < L.length := bd i List.mem_cons_self
      have g : L[i]? = some L[i] := List.getElem?_eq_getElem hi
      have g' : (es.map (·.1)).getD i 0 = mxHash P w L[i].2 := by
        rw [Array.getD_eq_getD_getElem?, Array.getElem?_map, mxRows_at rows, g]; rfl
      rw [List.filterMap_cons_some g, List.map_cons, List.map_cons, g', ih fun j hj => bd j (List.mem_cons_of_mem _ hj)]
/-- the tuple stays where only the set's address is written -/
theorem mx_other {h h' : Heap} {k : List L2.Key} {b : Addr} {o : Obj} (hb : IsMx P w h k b) (ho : h.get? a = some o) (hd : o.data = .set es ep t) (sb : Heap.SameBut a h h') : IsMx P w h' k b := by
  obtain ⟨o2, vs, n, g, c, d, it⟩ := hb
  by_cases e : b = a
  · rw [e, ho] at g
    cases g
    rw [hd] at d
    cases d
  · exact ⟨o2, vs, n, (sb.2 b e).trans g, c, d, it⟩
/-- rows and table before the room is made -/
structure MxPut (P : Program) (w : World) (h : Heap) (a : Addr) (L : List (Addr × List L2.Key)) (es : Array (Int × Value)) (ep : Nat) (t : SetTable) : Prop where
  ob : ∃ o, h.get? a = some o ∧ o.ExactSet ∧ o.data = .set es ep t
  rows : es.toList = mxRows P w L
  tab : TabOk t (L.map fun p => mxHash P w p.2)
  nd : (L.map (·.2)).Nodup
  tup : ∀ p ∈ L, IsMx P w h p.2 p.1
  in_ : L.length ≤ t.mask
  few : L.length < 64
theorem MxPut.len (R : MxPut P w s.heap a L es ep t) : es.size = L.length := by
  have e := congrArg List.length R.rows
  simpa [mxRows] using e
/-- the table is laid anew in M + 1 places -/
theorem mx_relay (R : MxPut P w s.heap a L es ep t) {n M : Nat} (e1 : SetTable.sizeAbove n = M + 1) (hM : MaskOk M) (room : L.length * 5 < M * 3) {Q : Unit → Shared → Prop}
    (q : ∀ h' L' es' ep' t', Heap.SameBut a s.heap h' → MxSet P w h' a L' es' ep' t' → L'.Perm L → Q () { s with heap := h' }) : wpAny (model P w) A (setRelay a n) Q E s := by
  obtain ⟨o, ho, hx, hd⟩ := R.ob
  have small : M + 1 ≤ 128 := by rcases hM with e | e | e <;> omega
  have few := R.few
  have len := R.len
  have fits : t.fits es.size = true := by
    have h1 := R.tab.sz
    have h2 := R.in_
    rw [List.length_map] at h1
    unfold SetTable.fits SetTable.fill
    rw [R.tab.dm, Bool.and_eq_true, beq_iff_eq, decide_eq_true_eq]
    show t.place.size = es.size ∧ t.place.size + 0 ≤ t.mask
    omega
  obtain ⟨t', o', laid, po, T, mk, _, _, _⟩ := relaid_ok t (hs := es.map (·.1)) (wanted := n) (M := M) (by omega) hM (by rw [Array.size_map]; omega)
  rw [Array.size_map, len] at po
  obtain ⟨L', pL, rows, hashes⟩ := mxRows_by R.rows po
  rw [← hashes] at T
  have n' := pL.length_eq
  have same : (o'.filterMap (es[·]?)).size = es.size := by
    have e := congrArg List.length rows
    rw [Array.length_toList, mxRows, List.length_map, n'] at e
    rw [e, len]
  rw [setRelay_eq]
  refine wpAny_bind (wpAny_setState_of ho hd fits (wp_if_neg (by rw [sizeLine_eq]; omega) ?_))
  try refine wpAny_bind (wpAny_pure ?_)
  rw [laid]
  refine wpAny_bind ?_
  dsimp only
  refine wp_if_neg (by simp [same]) ?_
  try refine wpAny_bind (wpAny_pure ?_)
  refine wpAny_pure ?_
  dsimp only
  refine wpAny_storeSet_of ho hd ?_ (by rw [same, len, sizeLine_eq]; omega)
  have sb : Heap.SameBut a s.heap (s.heap.update a (Obj.putSet (o'.filterMap (es[·]?)) t')) := Heap.SameBut.update ..
  refine q _ L' _ (ep + 1) t' sb { ob := ⟨_, store_at ho hd, ⟨hx.1, hx.2.1, hx.2.2⟩, rfl⟩, rows := rows, tab := T, nd := (pL.map (·.2)).nodup_iff.mpr R.nd, tup := fun p hp => mx_other (R.tup p (pL.mem_iff.mp hp)) ho hd sb, room := ?_, few := by omega } pL
  rw [mk, n']
  exact room

/-! ### adding -/
theorem set_in_perm {α : Type} (L : List α) (n : Nat) (x : α) : (L.take n ++ x :: L.drop n).Perm (x :: L) := by
  have e := @List.perm_middle _ x (L.take n) (L.drop n)
  rwa [List.take_append_drop] at e
/-- the flag that hashes were by value matters to nothing here -/
theorem tabOk_plain {t : SetTable} {hs : List Int} (T : TabOk t hs) (b : Bool) : TabOk { t with plain := b } hs := ⟨T.ris, T.dm, T.sz, T.mok, T.bd, T.reach⟩
/-- whether the hash is by value: some answer -/
theorem byVal_tup {ks : List L2.Key} {b : Addr} {Q : Bool → Shared → Prop} (hk : IsMx P w s.heap ks b) (q : ∀ v, Q v s) : wpAny (model P w) A (hashByValue 8 (.ref b)) Q E s := by
  have hT := hk.typeIs
  obtain ⟨o, items, n, ho, _, hd, hi⟩ := hk
  have all := plainly_of hi
  unfold hashByValue
  refine wpAny_bind (wpAny_specialOf hT F.slot_tuple_hash.lookup ?_)
  show wpAny _ _ (seqItems? (.ref b) >>= _) _ _ s
  refine wpAny_bind (wpAny_seqItems ho hd (wpAny_bind ?_))
  show wpAny _ _ (forIn items _ _) _ _ s
  rw [← Array.forIn_toList]
  refine wpAny_forIn_list _ (fun left r s' => (∀ v ∈ left, Plainly v) ∧ r.1 = none ∧ s' = s) _ (fun v left r s' => ?_) (fun r s' => ?_) _ _ ⟨all, rfl, rfl⟩
  · rintro ⟨hl, hr, rfl⟩
    obtain ⟨c, hc⟩ := hashWord_at 7 (hl v List.mem_cons_self)
    rw [hc]
    refine wpAny_bind (wpAny_pure ?_)
    cases c with
    | true => exact wp_if_neg (by simp) (wpAny_pure ⟨fun u z => hl u (List.mem_cons_of_mem _ z), rfl, rfl⟩)
    | false => exact wp_if_pos (by simp) (wpAny_pure (wpAny_pure (q false)))
  · obtain ⟨r1, r2⟩ := r
    rintro ⟨_, hr, rfl⟩
    have hr' : r1 = none := hr
    subst hr'
    exact wpAny_pure (q true)
/-- a row more, and the table with it -/
theorem mx_grow (R : MxSet P w s.heap a L es ep t) {x : Addr} {k : List L2.Key} (hx : IsMx P w s.heap k x) {K : Nat} (N : Ends t (mxHash P w k) K) (new : k ∉ L.map (·.2)) (few : L.length + 1 < 64) (b : Bool) {u : SetTable} {n : Nat}
    (e : t.put (pnt t.mask (mxHash P w k) K).j = (u, n)) {Q : Unit → Shared → Prop}
    (q : ∀ h' M es' ep', Heap.SameBut a s.heap h' → MxPut P w h' a M es' ep' { u with plain := b } → M.Perm ((x, k) :: L) → u.mask = t.mask → u.fill = L.length + 1 → Q () { s with heap := h' }) :
    wpAny (model P w) A (storeSet a (SetTable.insertAt es n (mxHash P w k, .ref x)) { u with plain := b }) Q E s := by
  obtain ⟨o, ho, hx', hd⟩ := R.ob
  obtain ⟨c1, c2, c3, c4, _, _, _, _, c9⟩ := R.tab.put N.gap N.full
  have e' : t.put (way t.mask (mxHash P w k) K) = (u, n) := e
  rw [e'] at c1 c3 c4 c9
  have c1' : n = SetTable.below t.place (way t.mask (mxHash P w k) K) := c1
  rw [← c1'] at c3
  have pm := set_in_perm L n (x, k)
  have n1 : (L.take n ++ (x, k) :: L.drop n).length = L.length + 1 := pm.length_eq
  have rows : (SetTable.insertAt es n (mxHash P w k, Value.ref x)).toList = mxRows P w (L.take n ++ (x, k) :: L.drop n) := by
    rw [SetTable.toList_insertAt, R.rows]
    simp [mxRows, List.map_take, List.map_drop]
  have size : (SetTable.insertAt es n (mxHash P w k, Value.ref x)).size = L.length + 1 := by
    have z := congrArg List.length rows
    rwa [Array.length_toList, mxRows, List.length_map, n1] at z
  refine wpAny_storeSet_of ho hd ?_ (by rw [size, sizeLine_eq]; omega)
  have sb : Heap.SameBut a s.heap (s.heap.update a (Obj.putSet (SetTable.insertAt es n (mxHash P w k, Value.ref x)) { u with plain := b })) := Heap.SameBut.update ..
  rw [List.length_map] at c9
  refine q _ (L.take n ++ (x, k) :: L.drop n) _ (ep + 1) sb { ob := ⟨_, store_at ho hd, ⟨hx'.1, hx'.2.1, hx'.2.2⟩, rfl⟩, rows := rows, tab := ?_, nd := ?_, tup := fun p hp => ?_, in_ := ?_, few := by omega } pm c4 c9
  · have z : (L.take n ++ (x, k) :: L.drop n).map (fun p => mxHash P w p.2) = (L.map fun p => mxHash P w p.2).take n ++ mxHash P w k :: (L.map fun p => mxHash P w p.2).drop n := by
      simp [List.map_take, List.map_drop]
    rw [z]
    exact tabOk_plain c3 b
  · exact (pm.map (·.2)).nodup_iff.mpr (List.nodup_cons.mpr ⟨new, R.nd⟩)
  · rcases List.mem_cons.mp (pm.mem_iff.mp hp) with z | z
    · exact z ▸ mx_other hx ho hd sb
    · exact mx_other (R.tup p z) ho hd sb
  · have room := R.room
    have m : u.mask = t.mask := c4
    show _ ≤ u.mask
    rw [n1, m]
    omega
/-- adding a tuple -/
theorem mx_add (R : MxSet P w s.heap a L es ep t) {x : Addr} {k : List L2.Key} (hx : IsMx P w s.heap k x) (hu : A.units < cLine) (few : L.length + 1 < 64) {Q : Bool → Shared → Prop}
    (q1 : k ∈ L.map (·.2) → Q false s)
    (q2 : k ∉ L.map (·.2) → ∀ h' M es' ep' t', Heap.SameBut a s.heap h' → MxSet P w h' a M es' ep' t' → M.Perm ((x, k) :: L) → Q true { s with heap := h' }) :
    wpAny (model P w) A (setAddHashed a (.ref x) (mxHash P w k)) Q E s := by
  obtain ⟨o, ho, _, hd⟩ := R.ob
  unfold setAddHashed
  refine wpAny_holding ?_
  rw [setAddHashedIn_succ _ _ _ 99999]
  refine wpAny_bind (wpAny_setState_of ho hd R.fits (wp_if_neg (by simp [byScan, Value.scannable]) ?_))
  try refine wpAny_bind (wpAny_pure ?_)
  refine wpAny_bind (mx_search R hx hu (fun z => wpAny_pure (q1 z)) fun K N new => ?_)
  refine wpAny_bind (wpAny_setState_of ho hd R.fits ?_)
  dsimp only
  generalize e : t.put (pnt t.mask (mxHash P w k) K).j = un
  obtain ⟨u, n⟩ := un
  dsimp only
  have fin : ∀ b : Bool, wpAny (model P w) A (storeSet a (SetTable.insertAt es n (mxHash P w k, .ref x)) { u with plain := b }) (fun _ s' =>
      wpAny (model P w) A (if (!false && u.tooFull) = true then (setRelay a (SetTable.grown (es.size + 1)) >>= fun _ => pure true) else pure true) Q E s') E s := by
    intro b
    refine mx_grow R hx N new few b e fun h' M es' ep' sb R' pm mk fl => ?_
    have n1 : M.length = L.length + 1 := pm.length_eq
    have room := R.room
    by_cases full : u.tooFull = true
    · refine wp_if_pos (by simp [full]) (wpAny_bind ?_)
      have f1 : u.mask * 3 ≤ (L.length + 1) * 5 := by
        have z := full
        unfold SetTable.tooFull at z
        rw [decide_eq_true_eq, fl] at z
        exact z
      rw [mk] at f1
      rw [R.len]
      have ends : ∀ h2 L2 es2 ep2 t2, Heap.SameBut a h' h2 → MxSet P w h2 a L2 es2 ep2 t2 → L2.Perm M → wpAny (model P w) A (pure true) Q E { s with heap := h2 } :=
        fun h2 L2 es2 ep2 t2 sb2 R2 pm2 => wpAny_pure (q2 new h2 L2 es2 ep2 t2 (sb.trans sb2) R2 (pm2.trans pm))
      rcases R.tab.mok with m | m | m
      · have l : L.length = 4 := by omega
        exact mx_relay (s := { s with heap := h' }) R' (M := 31) (by rw [l, size_20]) (.inr (.inl rfl)) (by omega) ends
      · have l : L.length = 18 := by omega
        exact mx_relay (s := { s with heap := h' }) R' (M := 127) (by rw [l, size_76]) (.inr (.inr rfl)) (by omega) ends
      · omega
    · refine wp_if_neg (by simp [full]) (wpAny_pure (q2 new h' M es' ep' _ sb { ob := R'.ob, rows := R'.rows, tab := R'.tab, nd := R'.nd, tup := R'.tup, room := ?_, few := R'.few } pm))
      have z := full
      unfold SetTable.tooFull at z
      rw [decide_eq_true_eq, fl] at z
      show M.length * 5 < u.mask * 3
      omega
  by_cases pl : u.plain = true
  · refine wp_if_pos pl (wpAny_bind (byVal_tup hx fun v => ?_))
    cases v with
    | true => exact wpAny_bind (fin u.plain)
    | false => exact wpAny_bind (fin false)
  · exact wp_if_neg pl (wpAny_bind (wpAny_pure (wpAny_bind (fin u.plain))))

/-! ### the loop that fills it -/
theorem mx_stay {h h' : Heap} {k : List L2.Key} {b : Addr} (x : IsMx P w h k b) (up : ∀ c o, h.get? c = some o → h'.get? c = some o) : IsMx P w h' k b := by
  obtain ⟨o, vs, n, g, r⟩ := x
  exact ⟨o, vs, n, up b o g, r⟩
theorem MxSet.stay {h h' : Heap} (R : MxSet P w h a L es ep t) (ha : ∀ o, h.get? a = some o → h'.get? a = some o) (ht : ∀ p ∈ L, IsMx P w h' p.2 p.1) : MxSet P w h' a L es ep t :=
  { ob := R.ob.elim fun o z => ⟨o, ha o z.1, z.2⟩, rows := R.rows, tab := R.tab, nd := R.nd, tup := ht, room := R.room, few := R.few }
/-- a set just made -/
theorem mx_blank {h : Heap} {led : Bool} {o : Obj} (g : h.get? a = some o) (e : o.ExactSet) (d : o.data = .set #[] 0 (.fresh 0 0 led)) : MxSet P w h a [] #[] 0 (.fresh 0 0 led) where
  ob := ⟨o, g, e, d⟩
  rows := rfl
  tab := { ris := .nil, dm := rfl, sz := rfl, mok := .inl rfl, bd := fun _ z => (nomatch z), reach := fun i _ _ z => by simp at z }
  nd := .nil
  tup := fun _ z => nomatch z
  room := show 0 * 5 < 7 * 3 by decide
  few := show 0 < 64 by decide
/-- the first i of ks are in L -/
structure Upto (ks : List (Addr × List L2.Key)) (i : Nat) (L : List (Addr × List L2.Key)) : Prop where
  of : ∀ p ∈ L, p ∈ ks.take i
  all : ∀ p ∈ ks.take i, p.2 ∈ L.map (·.2)
  le : L.length ≤ i
theorem Upto.none (ks : List (Addr × List L2.Key)) : Upto ks 0 [] := ⟨fun _ z => (nomatch z), fun _ z => (by simp at z), Nat.le_refl 0⟩
theorem Upto.old {ks L : List (Addr × List L2.Key)} {i : Nat} {p : Addr × List L2.Key} (u : Upto ks i L) (e : ks[i]? = some p) (m : p.2 ∈ L.map (·.2)) : Upto ks (i + 1) L := by
  have z : ks.take (i + 1) = ks.take i ++ [p] := by simp [List.take_add_one, e]
  refine ⟨fun q hq => ?_, fun q hq => ?_, Nat.le_succ_of_le u.le⟩
  · rw [z]; exact List.mem_append_left _ (u.of q hq)
  · rw [z] at hq
    rcases List.mem_append.mp hq with y | y
    · exact u.all q y
    · exact List.mem_singleton.mp y ▸ m
theorem Upto.more {ks L M : List (Addr × List L2.Key)} {i : Nat} {p : Addr × List L2.Key} (u : Upto ks i L) (e : ks[i]? = some p) (pm : M.Perm (p :: L)) : Upto ks (i + 1) M := by
  have z : ks.take (i + 1) = ks.take i ++ [p] := by simp [List.take_add_one, e]
  refine ⟨fun q hq => ?_, fun q hq => ?_, ?_⟩
  · rw [z]
    rcases List.mem_cons.mp (pm.mem_iff.mp hq) with y | y
    · exact y ▸ List.mem_append_right _ List.mem_cons_self
    · exact List.mem_append_left _ (u.of q y)
  · rw [z] at hq
    rw [(pm.map (·.2)).mem_iff, List.map_cons]
    rcases List.mem_append.mp hq with y | y
    · exact List.mem_cons_of_mem _ (u.all q y)
    · rw [List.mem_singleton.mp y]; exact List.mem_cons_self
  · rw [pm.length_eq]; exact Nat.succ_le_succ u.le
/-- the walk's i-th step and on -/
theorem mx_fill {I S : Addr} {fp wr : List Addr} {G : Array GenState → Array GenState → Prop} {n : Nat} {Pv : Nat → Value → Prop} {St : Nat → Shared → Prop} {R : Result → Shared → Prop}
    (W : WalksS P w A.in1 I fp wr G n Pv St) (out : S ∉ fp) {ks : List (Addr × List L2.Key)} (len : n = ks.length) (few : ks.length < 64) (item : ∀ i v, Pv i v → ∃ p, ks[i]? = some p ∧ v = .ref p.1)
    {h0 : Heap} (tup : ∀ p ∈ ks, IsMx P w h0 p.2 p.1) (freeS : h0.get? S = none) (freeW : ∀ b ∈ wr, h0.get? b = none) (hu : A.in1.units < cLine) (d : Nat) :
    ∀ (i : Nat) (s : Shared) (L : List (Addr × List L2.Key)) (es : Array (Int × Value)) (ep : Nat) (t : SetTable), i + d = n → St i s → (∀ b o, h0.get? b = some o → s.heap.get? b = some o) → MxSet P w s.heap S L es ep t → Upto ks i L →
      (∀ s' L es ep t, Moved (S :: wr) G s s' → MxSet P w s'.heap S L es ep t → Upto ks n L → (∀ b o, h0.get? b = some o → s'.heap.get? b = some o) → R (.ok (.ret .none)) s') →
      codeAny (model P w) A (.builtin "set.update.loop" ⟨[.ref S, .ref I], []⟩) R s := by
  have outW : S ∉ wr := fun z => out (W.sub _ z)
  have on : ∀ {s s' : Shared}, Moved wr G s s' → (∀ b o, h0.get? b = some o → s.heap.get? b = some o) → ∀ b o, h0.get? b = some o → s'.heap.get? b = some o := fun mv up b o g =>
    mv.heap b o (fun z => nomatch (freeW b z).symm.trans g) (up b o g)
  have again : ∀ {s s' : Shared} {i : Nat} {L : List (Addr × List L2.Key)} {es : Array (Int × Value)} {ep : Nat} {t : SetTable}, Moved wr G s s' → (∀ b o, h0.get? b = some o → s.heap.get? b = some o) → MxSet P w s.heap S L es ep t → Upto ks i L →
      MxSet P w s'.heap S L es ep t := fun mv up M u => M.stay (fun o g => mv.heap S o outW g) fun p hp => mx_stay (tup p (List.mem_of_mem_take (u.of p hp))) (on mv up)
  induction d with
  | zero =>
    intro i s L es ep t hi hst up M u fin
    obtain rfl : i = n := hi
    refine codeAny_builtin F.entry_set_update_loop ?_
    rw [Around.under_plainId F.plain_set_update_loop _]
    show wpAny _ A.in1 (pyNext (.ref I) >>= _) _ _ s
    refine wpAny_bind (W.done s _ _ hst fun s' mv => ?_)
    show wpAny _ A.in1 (ret Value.none) _ _ s'
    exact wpAny_pure (fin s' L es ep t (mv.mono fun b z => List.mem_cons_of_mem _ z) (again mv up M u) u (on mv up))
  | succ d ih =>
    intro i s L es ep t hi hst up M u fin
    have lt : i < n := by omega
    refine codeAny_builtin F.entry_set_update_loop ?_
    rw [Around.under_plainId F.plain_set_update_loop _]
    show wpAny _ A.in1 (pyNext (.ref I) >>= _) _ _ s
    refine wpAny_bind (W.item i s _ _ lt hst fun v s' hv hst' mv => ?_)
    obtain ⟨p, e, rfl⟩ := item i v hv
    have up' := on mv up
    have M' := again mv up M u
    have hx : IsMx P w s'.heap p.2 p.1 := mx_stay (tup p (List.mem_of_getElem? e)) up'
    have goes : ∀ (L' : List (Addr × List L2.Key)) (h' : Heap) (es' : Array (Int × Value)) (ep' : Nat) (t' : SetTable) (k : Nat), Heap.SameBut S s'.heap h' → MxSet P w h' S L' es' ep' t' → Upto ks (i + 1) L' →
        codeAny (model P w) A (.builtin "set.update.loop" ⟨[.ref S, .ref I], []⟩) R { s' with heap := h', toks := s'.toks + k } := by
      intro L' h' es' ep' t' k sb M2 u2
      have up2 : ∀ b o, h0.get? b = some o → h'.get? b = some o := fun b o g => (sb.2 b fun z => by rw [z, freeS] at g; cases g).trans (up' b o g)
      refine ih (i + 1) _ L' es' ep' t' (by omega) (W.frame _ s' _ _ hst' (Nat.le_add_right _ _) fun b hb o g => (sb.2 b fun z => out (z ▸ hb)).trans g) up2 M2 u2 fun s2 L2 es2 ep2 t2 mv2 M3 u3 up3 => ?_
      exact fin s2 L2 es2 ep2 t2 (Moved.trans W.gtrans ((mv.mono fun b z => List.mem_cons_of_mem _ z).then_heap (Nat.le_add_right _ _) fun b o z g => (sb.2 b fun y => z (y ▸ List.mem_cons_self)).trans g) mv2) M3 u3 up3
    show wpAny _ A.in1 (holding [Value.ref p.1] (setAdd S (.ref p.1)) >>= _) _ _ s'
    refine wpAny_bind (wpAny_holding ?_)
    unfold setAdd
    refine wpAny_holding (wpAny_bind (wpAny_pyHash_tuple hu hx ?_))
    have le := u.le
    refine mx_add (s := { s' with toks := s'.toks + (p.2.length + 1) }) M' hx hu (by omega) (fun old => ?_) fun new h' L' es' ep' t' sb M2 pm => ?_
    · exact wpAny_pure ⟨plainId_quiet F.plain_set_update_loop _, goes L s'.heap es ep t _ (Heap.SameBut.refl S _) M' (u.old e old)⟩
    · exact wpAny_pure ⟨plainId_quiet F.plain_set_update_loop _, goes L' h' es' ep' t' _ sb M2 (u.more e pm)⟩

/-! ### set(xs) -/
abbrev blankSet (w : World) : Obj := { cls := .type "set", dict := none, data := .set #[] 0 (.fresh 0 0 (!w.params.followText "set-order")) }
theorem nothing_at {h : Heap} {b : Addr} (z : h.objs.size ≤ b) : h.get? b = none := by
  cases e : h.get? b with
  | none => rfl
  | some o => exact absurd (Heap.lt_size e) (Nat.not_lt.mpr z)
/-- what set(xs) leaves -/
abbrev MxMade (P : Program) (w : World) (s : Shared) (ks : List (Addr × List L2.Key)) (s' : Shared) : Prop := ∃ h' tk L es ep t, s' = { s with heap := h', toks := tk } ∧ MxSet P w h' s.heap.objs.size L es ep t ∧ Upto ks ks.length L ∧ ∀ b o, s.heap.get? b = some o → h'.get? b = some o
/-- the filling, from the state with the blank set and the iterator -/
theorem mx_filled {l : Addr} {items : Array Value} {ks : List (Addr × List L2.Key)} (hh : A.in1.handled = none) (hl : s.heap.IsList l items) (its : items.toList = ks.map fun p => Value.ref p.1) (tup : ∀ p ∈ ks, IsMx P w s.heap p.2 p.1) (few : ks.length < 64)
    (hu : A.in1.units < cLine) {R : Result → Shared → Prop} (fin : ∀ s', MxMade P w s ks s' → R (.ok (.ret .none)) s') :
    codeAny (model P w) A (.builtin "set.update.loop" ⟨[.ref s.heap.objs.size, .ref (s.heap.push (blankSet w)).objs.size], []⟩) R
      { s with heap := (s.heap.push (blankSet w)).push { cls := .type "list_iterator", data := .fields #[.ref l, .int 0 0] } } := by
  have n : items.size = ks.length := by
    have z := congrArg List.length its
    simpa using z
  have hl1 := hl.push (blankSet w)
  have lS : l < s.heap.objs.size := by
    obtain ⟨o, g, _⟩ := hl
    exact Heap.lt_size g
  have sz : (s.heap.push (blankSet w)).objs.size = s.heap.objs.size + 1 := Heap.size_push ..
  refine mx_fill ((Walks.list hh _ l (by rw [sz]; exact Nat.ne_of_lt (Nat.lt_succ_of_lt lS)) items).toS) (by rw [sz]; simp only [List.mem_cons, List.not_mem_nil, or_false, not_or]; exact ⟨Nat.ne_of_lt (Nat.lt_succ_self _), Nat.ne_of_gt lS⟩) n few (fun i v hv => ?_) tup (nothing_at (Nat.le_refl _)) (fun b hb => nothing_at ?_) hu items.size 0 _ [] #[] 0 _ (Nat.zero_add _)
    ⟨⟨_, Heap.get?_push_size _ rfl, rfl, rfl⟩, hl1.push _⟩ (fun b o g => Heap.get?_push_of_some _ (Heap.get?_push_of_some _ g)) (mx_blank (Heap.get?_push_of_some _ (Heap.get?_push_size _ rfl)) ⟨rfl, rfl, rfl⟩ rfl) (.none ks) fun s' L es ep t mv M u up => ?_
  · have z : items.toList[i]? = some v := by rw [Array.getElem?_toList]; exact hv
    rw [its, List.getElem?_map, Option.map_eq_some_iff] at z
    obtain ⟨p, e1, e2⟩ := z
    exact ⟨p, e1, e2.symm⟩
  · rw [List.mem_singleton.mp hb, sz]
    exact Nat.le_succ _
  · obtain ⟨h', g', d', tk, os'⟩ := s'
    obtain rfl : g' = s.gens := mv.gens
    obtain rfl : d' = s.drawn := mv.drawn
    obtain rfl : os' = s.os := mv.os
    rw [n] at u
    exact fin _ ⟨h', tk, L, es, ep, t, rfl, M, u, up⟩
/-- set(xs) -/
theorem mx_call {l : Addr} {items : Array Value} {ks : List (Addr × List L2.Key)} (hh : A.handled = none) (hl : s.heap.IsList l items) (its : items.toList = ks.map fun p => Value.ref p.1) (tup : ∀ p ∈ ks, IsMx P w s.heap p.2 p.1) (few : ks.length < 64)
    (hu : A.units + 3 < cLine) {Q : Value → Shared → Prop} (fin : ∀ s', MxMade P w s ks s' → Q (.ref s.heap.objs.size) s') : wpAny (model P w) A (call (.type "set") [.ref l]) Q E s := by
  obtain ⟨c, tl, hmro⟩ := F.called_set.mro
  have made := F.called_set.made
  have sub := F.called_set.sub
  have nt := F.called_set.notType
  have cc := F.called_set.canCreate
  have ct := F.typeCall_set_1 (.ref l)
  have S0 : (s.heap.push (blankSet w)).get? s.heap.objs.size = some (blankSet w) := Heap.get?_push_size _ rfl
  have T0 : Shared.TypeIs { s with heap := s.heap.push (blankSet w) } (.ref s.heap.objs.size) "set" := ⟨_, S0, rfl⟩
  have li := F.called_set.init.lookup
  have bi := F.called_set.init.bind (.ref s.heap.objs.size)
  refine wpAny_call (codeAny_of_tree (wpAny_pure ⟨Code.quiet_builtin _ (by decide +kernel), codeAny_builtin F.entry_type_call ?_⟩))
  rw [Around.under_plain (weight_type_call_type "set" [.ref l] []) rfl]
  repeat (any_goals (first | assumption | wp_step))
  refine codeAny_mono (code_set_led1 (.ref l) (E := E) (Q₁ := fun v z => v = .ref s.heap.objs.size ∧ z = { s with heap := s.heap.push (blankSet w) }) ⟨rfl, rfl⟩) fun r z hr => ?_
  rcases r with e | fl
  · exact hr
  cases fl with
  | ret v =>
    obtain ⟨rfl, rfl⟩ := hr
    repeat (any_goals (first | assumption | wp_step))
    refine codeAny_mono (codeAny_call_builtin (R := wants (fun v z => v = .none ∧ MxMade P w s ks z) E) F.called_set.init.plain F.entry_set_init (check_set_init_1 T0 ?_)) fun r z hr => ?_
    · obtain ⟨ol, hol, hcl, nl, hdl⟩ := hl.push (blankSet w)
      obtain ⟨ocls, odict, odata, oslots⟩ := ol
      simp only at hcl hdl
      subst hcl; subst hdl
      have hsls := F.sub_list_set
      have hslf := F.sub_list_frozenset
      have hne : (Value.type "list" == Value.type "dict") = false := by decide
      have hl1 := hl.push (blankSet w)
      unfold Builtin.«set.__init__» noKeywords Builtin.Frozenset.updateFrom
      generalize hPI : pyIter = PI
      wp_walk
      subst hPI
      refine wpAny_pyIter_list hl1 (wpAny_bind (wpAny_runValue ?_))
      refine mx_filled (by simp [hh]) hl its tup few hu fun s' m => ?_
      show wpAny _ _ _ _ _ _
      refine wpAny_pure ?_
      show wpAny _ _ (ret Value.none) _ _ _
      exact wpAny_pure ⟨rfl, m⟩
    · rcases r with e | fl
      · exact hr
      cases fl with
      | ret v =>
        obtain ⟨rfl, m⟩ := hr
        repeat (any_goals (first | assumption | wp_step))
        exact fin _ m
      | _ => exact hr.elim
  | _ => exact hr.elim

/-! ### how many -/
def pairD (k : Str × Int) : D := .tuple [.str k.1, .int k.2]
def pairK (k : Str × Int) : List L2.Key := [.inr k.1, .inl k.2]
theorem pairK_inj {a b : Str × Int} (h : pairK a = pairK b) : a = b := by
  obtain ⟨a1, a2⟩ := a
  obtain ⟨b1, b2⟩ := b
  simp [pairK] at h
  simp [h]
theorem pairD_eqv (a b : Str × Int) : PyData.eqv (pairD a) (pairD b) = decide (a = b) := by
  obtain ⟨a1, a2⟩ := a
  obtain ⟨b1, b2⟩ := b
  rw [Bool.eq_iff_iff]
  simp [pairD, PyData.eqv, PyData.eqvAll]
theorem dist_from (qs : List (Str × Int)) : ∀ acc : List (Str × Int), acc.Nodup → ∃ M : List (Str × Int), (qs.map pairD).foldl (fun acc d => if (acc.any fun e => PyData.eqv e d) = true then acc else acc ++ [d]) (acc.map pairD) = M.map pairD ∧ M.Nodup ∧ ∀ x, x ∈ M ↔ x ∈ acc ∨ x ∈ qs := by
  induction qs with
  | nil => exact fun acc h => ⟨acc, rfl, h, fun x => by simp⟩
  | cons q qs ih =>
    intro acc h
    rw [List.map_cons, List.foldl_cons]
    have any : ((acc.map pairD).any fun e => PyData.eqv e (pairD q)) = decide (q ∈ acc) := by
      rw [Bool.eq_iff_iff]
      simp only [List.any_map, List.any_eq_true, Function.comp, pairD_eqv, decide_eq_true_eq]
      exact ⟨fun ⟨x, hx, e⟩ => e ▸ hx, fun hx => ⟨q, hx, rfl⟩⟩
    rw [any]
    by_cases m : q ∈ acc
    · obtain ⟨M, e, n, mem⟩ := ih acc h
      refine ⟨M, by simpa [m] using e, n, fun x => ?_⟩
      rw [mem x, List.mem_cons]
      exact ⟨fun z => z.imp_right .inr, fun z => z.elim .inl fun z => z.elim (fun z => .inl (z ▸ m)) .inr⟩
    · obtain ⟨M, e, n, mem⟩ := ih (acc ++ [q]) (by
        rw [List.nodup_append]
        refine ⟨h, by simp, fun a ha b hb e => ?_⟩
        rw [List.mem_singleton.mp hb] at e
        exact m (e ▸ ha))
      refine ⟨M, by simpa [m] using e, n, fun x => ?_⟩
      rw [mem x, List.mem_append, List.mem_singleton, List.mem_cons]
      exact or_assoc
theorem dist_count {qs : List (Str × Int)} {ks : List (List L2.Key)} (nd : ks.Nodup) (h1 : ∀ k ∈ ks, k ∈ qs.map pairK) (h2 : ∀ k ∈ qs.map pairK, k ∈ ks) : (dist (qs.map pairD)).length = ks.length := by
  obtain ⟨M, e, n, mem⟩ := dist_from qs [] .nil
  have e' : dist (qs.map pairD) = M.map pairD := e
  rw [e', List.length_map, ← List.length_map (f := pairK)]
  refine List.Perm.length_eq ((List.perm_ext_iff_of_nodup (List.Pairwise.map _ (fun a b ne z => ne (pairK_inj z)) n) nd).mpr fun k => ⟨fun z => ?_, fun z => ?_⟩)
  · obtain ⟨q, hq, rfl⟩ := List.mem_map.mp z
    exact h2 _ (List.mem_map_of_mem (((mem q).mp hq).resolve_left (by simp)))
  · obtain ⟨q, hq, rfl⟩ := List.mem_map.mp (h1 k z)
    exact List.mem_map_of_mem ((mem q).mpr (.inr hq))
end
end DL

set_option maxRecDepth 100000
set_option maxHeartbeats 2000000
namespace DL
open PySem PySem.Spec PyProof.Rows L2
def tLenMx (K : PySem.W.Frag) (ta : TE) : TE := fun σ H Q => ta σ H fun x H1 => ∃ (l : Addr) (ks : List (Addr × (Str × Int))), x = V.ref l ∧ SqL K H1 l (ks.map fun p => V.ref p.1) ∧ (∀ p ∈ ks, SqT K H1 p.1 [V.str p.2.1, V.int p.2.2]) ∧ ks.length < 64 ∧ Q (.int (dist (ks.map fun p => pairD p.2)).length) H1
theorem inv_mx {X : Cx} {pins : List (Addr × Obj)} {σ : L2.St} {H : Hp} {s : Shared} {b : Addr} {q : Str × Int} (I : Inv X pins σ H s) (h : SqT X.K H b [V.str q.1, V.int q.2]) : IsMx X.prog X.w s.heap (pairK q) b := by
  obtain ⟨its, r, ⟨o, ho, hc, n, hd⟩, _⟩ := I.tuple h
  refine ⟨o, its.toArray, n, ho, hc, hd, ?_⟩
  cases r with
  | cons r1 r2 =>
    cases r2 with
    | cons r3 r4 =>
      cases r4
      obtain ⟨t1, rfl⟩ := r1
      obtain ⟨t2, rfl⟩ := r3
      exact .cons (by simp [mixKind, keyIs, Value.isStrOf]) (.cons (by simp [mixKind, keyIs, Value.isInt]) .nil)
theorem pe_lenMx {X : Cx} {e : Expr} {ta : TE} {p p2 q pos : Pos} (hc : X.calm = true) (hu : X.A.units + 64 < cLine) (hg : Gl X "len") (hm : X.mg "len" = none) (hg2 : Gl X "set") (hm2 : X.mg "set" = none) (ha : PE X e ta)
    (na : starEach [e] X.env = (false, eval e X.env) :: starEach [] X.env := by rfl) : PE X (.Call (.Name "len" p) [.Call (.Name "set" p2) [e] [] q] [] pos) (tLenMx X.K ta) := by
  refine ⟨fun pins s σ H Q I h => Call_ (ld_blt I hg hm PySem.boot_len (callWith_builtin1 (args_cons ?_ rfl) rfl rfl))⟩
  refine Call_ (ld_blt I hg2 hm2 boot_set (callWith_type1 (args_cons (thn (ha.run pins s σ H _ I h) fun v s1 ⟨x, H1, I1, r1, l, ks, ex, hl, hk, few, q1⟩ => args_nil ?_) na) na rfl))
  subst ex
  cases r1
  obtain ⟨its, rv, pl, _⟩ := I1.list hl
  have items : its.toArray.toList = (ks.map fun p => (p.1, pairK p.2)).map fun p => Value.ref p.1 := by
    have z : its = _ := refs_of_vals (ks := ks.map fun p => (p.1, ([] : List Int))) (by simpa [Function.comp_def] using rv)
    simp [z, Function.comp_def]
  refine mx_call (I1.ok.hd hc) pl.isList items (fun p hp => ?_) (by simpa using few) (by omega) fun s2 m => args_nil ?_
  · obtain ⟨p0, h0, rfl⟩ := List.mem_map.mp hp
    exact inv_mx I1 (hk p0 h0)
  · obtain ⟨h', tk, L, es, ep, t, rfl, M, u, up⟩ := m
    have few2 := M.few
    have sz : es.size = L.length := MxSet.len (s := { s1 with heap := h' }) M
    have cnt : (dist (ks.map fun p => pairD p.2)).length = es.size := by
      have z := dist_count (qs := ks.map (·.2)) M.nd (fun k hk' => ?_) (fun k hk' => ?_)
      · rw [List.map_map, List.length_map] at z
        rw [sz, ← z]
        rfl
      · obtain ⟨p, hp, rfl⟩ := List.mem_map.mp hk'
        obtain ⟨p0, h0, e0⟩ := List.mem_map.mp (List.mem_of_mem_take (u.of p hp))
        rw [List.map_map, ← e0]
        exact List.mem_map.mpr ⟨p0, h0, rfl⟩
      · rw [List.map_map] at hk'
        obtain ⟨p0, h0, rfl⟩ := List.mem_map.mp hk'
        refine u.all (p0.1, pairK p0.2) ?_
        rw [List.take_length]
        exact List.mem_map.mpr ⟨p0, h0, rfl⟩
    obtain ⟨o, ho, hx, hd⟩ := M.ob
    have I2 : Inv X pins σ H1 { s1 with heap := h', toks := tk } := I1.kept fun b o e => up b o e
    exact call_len_set ho hx hd (MxSet.fits (s := { s1 with heap := h' }) M) (by omega) ⟨.int es.size, H1, I2.tok _, ⟨_, rfl⟩, cnt ▸ q1⟩
end DL
namespace DL
open PySem PySem.Spec PyProof.Rows L2
theorem lenSet_rows [Tb] {K : PySem.W.Frag} {B : Hp} : ∀ {vs : List V} {ds : List D}, DpAll K B vs ds → (ds.all fun t => match t with | .tuple [.str _, .int _] => true | _ => false) = true →
    ∃ ks : List (Addr × (Str × Int)), vs = ks.map (fun p => V.ref p.1) ∧ ds = ks.map (fun p => pairD p.2) ∧ ∀ p ∈ ks, SqT K B p.1 [V.str p.2.1, V.int p.2.2] := by
  intro vs ds h
  induction ds generalizing vs with
  | nil => cases h; exact fun _ => ⟨[], rfl, rfl, fun _ z => (nomatch z)⟩
  | cons d ds ih =>
    cases h with
    | cons h1 h2 =>
      intro a
      rw [List.all_cons, Bool.and_eq_true] at a
      obtain ⟨ks, e1, e2, e3⟩ := ih h2 a.2
      have a1 := a.1
      split at a1
      · obtain ⟨b, xs, rfl, q, dd⟩ := dp_tup h1
        obtain ⟨v, w, rfl, d1, d2⟩ := dpAll2 dd
        rw [dp_str d1, dp_int d2] at q
        refine ⟨(b, (_, _)) :: ks, by rw [e1]; rfl, by rw [e2]; rfl, fun p hp => ?_⟩
        rcases List.mem_cons.mp hp with rfl | z
        · exact q
        · exact e3 p z
      · cases a1
end DL
namespace DL
open PySem PySem.Spec PyProof.Rows L2
theorem je_lenSet1 [Tb] {X : Cx} {E : XK} {e : Expr} {me : En → EO} {p1 p2 q1 q2 : Pos} (hc : X.calm = true) (hu : X.A.units + 64 < cLine) (h1 : X.mg "len" = none) (h2 : X.mg "set" = none) (he : JE X E e me) (hg : Gl X "len" := by rfl) (hg2 : Gl X "set" := by rfl)
    (na : starEach [e] X.env = (false, eval e X.env) :: starEach [] X.env := by rfl) : JE X E (.Call (.Name "len" p1) [.Call (.Name "set" p2) [e] [] q1] [] q2) (mUn fLenSet me) := by
  refine ⟨(pe_lenMx hc hu hg h1 hg2 h2 he.pe na).imp fun σ H Q h => ?_⟩
  obtain ⟨Z, B, ρ, R, h⟩ := h
  refine ⟨Z, B, ρ, R, EPost.bind h fun d ρ1 x B1 H1 e1 R1 dx h1 => ?_⟩
  cases hr : fLenSet d with
  | none => rw [hr] at h1; exact h1.elim
  | some res =>
    rw [hr] at h1
    cases d <;> first | (cases hr; done) | skip
    unfold fLenSet at hr
    dsimp only at hr
    split at hr
    · rename_i c
      cases hr
      obtain ⟨a, vs, rfl, s1, d1⟩ := dp_lst dx
      obtain ⟨ks, e2, e3, e4⟩ := lenSet_rows d1 c.2
      have l : ks.length < 64 := by have := c.1; rw [e3, List.length_map] at this; exact this
      refine ⟨a, ks, rfl, e2 ▸ R1.sqL s1, fun p hp => ?_, l, ?_⟩
      · exact R1.sqT (e4 p hp)
      · rw [← e3]
        exact h1 _ B1 _ (Ex.refl _) R1 (.int _)
    · cases hr
end DL

set_option maxRecDepth 100000
set_option maxHeartbeats 2000000
/-! len(set(..)) -/
namespace DL
open PySem PySem.Spec PyProof.Rows L2
theorem je_lenSet [Tb] {X : Cx} {E : XK} {g : Bool} {k : Nat} {e : Expr} {me : En → EO} {p1 p2 q1 q2 : Pos} (cx : Ctx g X E k) (h1 : X.mg "len" = none) (h2 : X.mg "set" = none) (he : JE X E e me) (hg : Gl X "len" := by rfl) (hg2 : Gl X "set" := by rfl)
    (na : starEach [e] X.env = (false, eval e X.env) :: starEach [] X.env := by rfl) : JE X E (.Call (.Name "len" p1) [.Call (.Name "set" p2) [e] [] q1] [] q2) (mUn fLenSet me) := je_lenSet1 cx.calm cx.room.units h1 h2 he hg hg2 na
def exdB (K : PySem.W.Frag) (D : Addr) : Bool := (PySem.W.clsIn K D).isSome && decide (PySem.W.findIn K (.ref D) "__getattribute__" = some (some (.builtin "BaseException.__getattribute__"))) && decide (PySem.W.findIn K (.ref D) "__getattr__" = some none) && decide (PySem.W.subIn K (.ref D) (.type "BaseException") = some true) && decide (PySem.W.findIn K (.ref D) "__class__" = some (some (.builtin "object.__class__"))) &&
  decide (PySem.W.specialIn K (.builtin "object.__class__") "__get__" = some (some (.builtin "getset_descriptor.__get__"))) && decide (PySem.W.takesIn K (.builtin "object.__class__") = some true) && decide (PySem.W.mroIn K D (.type "object") = some true)
theorem exdB_ok {K : PySem.W.Frag} {D : Addr} (h : exdB K D = true) : ExcD K D := by
  unfold exdB at h
  simp only [Bool.and_eq_true, decide_eq_true_eq] at h
  obtain ⟨⟨⟨⟨⟨⟨⟨a, b⟩, c⟩, d⟩, e⟩, f⟩, g⟩, i⟩ := h
  exact ⟨a, b, c, d, e, f, g, i⟩
end DL
namespace DL
open PySem PySem.Spec PyProof.Rows L2
theorem sp_law [Tb] {K : PySem.W.Frag} {mg : Str → Option Value} {a : Addr} {H : Hp} {ns : List Int} {mf : List Arg → FO} {E : XK} (hT : TabsOk H) (hP : Tb.P (ntb H)) (hS : SqL K H a (ns.map V.int)) (hm : mf [.val (.list (ns.map PyData.int))] = .ok (.val (.bool true)) []) :
    spM K mg 1 mf [.ref a] H (fun v _ => v = .bl true) E := by
  have hB : Ex (ntb H) H := fun b o e => (nt_get e).1
  have dv : ∀ ns : List Int, DpAll K (ntb H) (ns.map V.int) (ns.map PyData.int) := fun ns => by
    induction ns with
    | nil => exact .nil
    | cons n r ih => exact .cons (.int _) ih
  have hS' : SqL K (ntb H) a (ns.map V.int) := by
    rcases hS with (e | ⟨o, e⟩) | e
    · exact .inl (.inl (nt_of e fun ps z => by cases z))
    · exact .inl (.inr ⟨o, nt_of e fun ps z => by cases z⟩)
    · exact .inr e
  refine ⟨rfl, ntb H, [.val (.list (ns.map PyData.int))], [], hB, fun b ps => nt_tbl ps, hT, hP, .val (.lst hS' (dv ns)) .nil, List.nodup_nil, ?_⟩
  rw [hm]
  intro v B' H' _ _ _ _ _ _ _ hr
  exact dp_bool hr
end DL

set_option maxRecDepth 100000
set_option maxHeartbeats 0

namespace K
open PySem PySem.Spec PyProof.Rows L2 DL

def top (i : Nat) : Stmt := PySem.Challenge.pw_leadcases_k10_whole_any_values_as_books.main.body.getD i (.Pass ⟨0, 0, 0, 0⟩)
abbrev s_is_integer : Stmt := top 1
abbrev s_is_within : Stmt := top 2
abbrev s_is_tuple : Stmt := top 3
abbrev s_are_mosts : Stmt := top 16
abbrev s_is_ground : Stmt := top 17
abbrev s_is_issue_of : Stmt := top 18
abbrev s_is_court_of : Stmt := top 19
abbrev s_is_book_any : Stmt := top 20
abbrev s_want_book : Stmt := top 21
abbrev s_want_issue : Stmt := top 22
abbrev s_mosts_in : Stmt := top 23
abbrev s_flaw_of_book : Stmt := top 25
abbrev s_box_of : Stmt := top 26
abbrev s_many_in : Stmt := top 27
abbrev s_is_book : Stmt := top 28
abbrev s_book_flaw : Stmt := top 29
abbrev s_count_points : Stmt := top 30
abbrev s__law_pot : Stmt := top 32
abbrev s__law_draw : Stmt := top 33
abbrev s__law_pick : Stmt := top 34
abbrev s__law_most_of : Stmt := top 35
abbrev s__law_issue : Stmt := top 36
abbrev s__law_book : Stmt := top 37
abbrev s__law_is_whole : Stmt := top 38
abbrev s__law_is_issue : Stmt := top 39
abbrev s__law_is_court : Stmt := top 40
abbrev s__law_flaw : Stmt := top 41
abbrev s__law_paths : Stmt := top 42
abbrev s__law_with : Stmt := top 43
abbrev s__law_bent : Stmt := top 44
abbrev s__law_greatest : Stmt := top 45
abbrev s__law_heard : Stmt := top 46
abbrev s__law_value_right : Stmt := top 47
abbrev s__law_right : Stmt := top 48
abbrev s_law : Stmt := top 49
structure Fx (K : PySem.W.Frag) (mg : Str → Option Value) (C_InvalidBook C_InvalidIssue C_WorkError : Addr) : Prop where
  cl_InvalidBook : mg "InvalidBook" = some (.ref C_InvalidBook)
  cl_InvalidIssue : mg "InvalidIssue" = some (.ref C_InvalidIssue)
  cl_WorkError : mg "WorkError" = some (.ref C_WorkError)
  ex_InvalidBook_InvalidBook : PySem.W.exmOne K (.ref C_InvalidBook) (.ref C_InvalidBook) = some true
  ex_InvalidIssue_InvalidBook : PySem.W.exmOne K (.ref C_InvalidIssue) (.ref C_InvalidBook) = some false
  ki_InvalidBook_WorkError : PySem.W.kitOne K (.ref C_InvalidBook) (.ref C_WorkError) = some true
  no_InvalidBook_value : PySem.W.findIn K (.ref C_InvalidBook) "value" = some none
  xf_InvalidBook : XfC K C_InvalidBook
  ed_InvalidBook : ExcD K C_InvalidBook
  c_FACT : GC K mg "FACT" (.str "fact")
  c_ISSUE : GC K mg "ISSUE" (.str "issue")
  c_MOST_AMOUNT : GC K mg "MOST_AMOUNT" (.int 9)
  c_MOST_COURTS : GC K mg "MOST_COURTS" (.int 8)
  c_MOST_FACTS : GC K mg "MOST_FACTS" (.int 10)
  c_MOST_GROUNDS : GC K mg "MOST_GROUNDS" (.int 8)
  c_MOST_ISSUES : GC K mg "MOST_ISSUES" (.int 6)
  n_abs : mg "abs" = none
  n_all : mg "all" = none
  n_bool : mg "bool" = none
  n_divmod : mg "divmod" = none
  n_enumerate : mg "enumerate" = none
  n_int : mg "int" = none
  n_isinstance : mg "isinstance" = none
  n_len : mg "len" = none
  n_list : mg "list" = none
  n_max : mg "max" = none
  n_min : mg "min" = none
  n_range : mg "range" = none
  n_repr : mg "repr" = none
  n_set : mg "set" = none
  n_str : mg "str" = none
  n_tuple : mg "tuple" = none
  n_zip : mg "zip" = none

def tst_InvalidBook : Str → Option Bool := fun c => if c = "InvalidBook" then some true else if c = "InvalidIssue" then some false else none
theorem tst_InvalidBook_ok {K : PySem.W.Frag} {mg : Str → Option Value} {C_InvalidBook C_InvalidIssue C_WorkError : Addr} (T : Fx K mg C_InvalidBook C_InvalidIssue C_WorkError) {cl : Str} {b : Bool} (hb : tst_InvalidBook cl = some b) {v : Value} (hv : mg cl = some v) : PySem.W.exmOne K v (.ref C_InvalidBook) = some b := by
  unfold tst_InvalidBook at hb
  split at hb
  · rename_i e
    subst e
    cases hb
    rw [T.cl_InvalidBook] at hv
    cases hv
    exact T.ex_InvalidBook_InvalidBook
  split at hb
  · rename_i e
    subst e
    cases hb
    rw [T.cl_InvalidIssue] at hv
    cases hv
    exact T.ex_InvalidIssue_InvalidBook
  cases hb
theorem tst_InvalidBook_hit {K : PySem.W.Frag} {mg : Str → Option Value} {C_InvalidBook C_InvalidIssue C_WorkError : Addr} (T : Fx K mg C_InvalidBook C_InvalidIssue C_WorkError) {cl : Str} (hb : tst_InvalidBook cl = some true) {v : Value} (hv : mg cl = some v) : v = .ref C_InvalidBook := by
  unfold tst_InvalidBook at hb
  split at hb
  · rename_i e
    subst e
    rw [T.cl_InvalidBook] at hv
    cases hv
    rfl
  split at hb
  · rename_i e
    subst e
    cases hb
  cases hb
def lamQ (q : Str) : Str := q ++ ".<locals>." ++ "<lambda>"
/-- a def whose code object stands at c -/
structure FunC (K : PySem.W.Frag) (x : Str) (st : Stmt) (f : Addr) (fd : FuncData) (c : Addr) : Prop where
  ex : ∃ (oc : Value) (od : Option Addr) (dV kV doc pm : Value) (an : Option Addr) (ct : Value) (osl : Array (Option Value)), fd = PySem.W.fnOf x x (C8.fnArgs st) (C8.fnBody st) (C8.fnScope st) dV kV doc pm an (.ref c) ct ∧ K.lookup f = some ⟨oc, od, .func fd, osl⟩ ∧ PySem.W.codeIn K (.ref c) x = true
/-- a def that gets a lambda -/
structure Hv (K : PySem.W.Frag) (mg : Str → Option Value) (x : Str) (a : Str) (st : Stmt) (ga : Addr) (oc : Value) (od : Option Addr) (dV kV doc pm : Value) (an : Option Addr) (cdv ct : Value) (osl : Array (Option Value)) : Prop where
  hm : mg x = some (.ref ga)
  hk : PySem.W.keepIn K (.ref ga) = true
  lk : K.lookup ga = some ⟨oc, od, .func (PySem.W.fnOf x x (C8.fnArgs st) (C8.fnBody st) (C8.fnScope st) dV kV doc pm an cdv ct), osl⟩
  hcg : PySem.W.codeIn K cdv x = true
  hb : L2.Binds K (PySem.W.fnOf x x (C8.fnArgs st) (C8.fnBody st) (C8.fnScope st) dV kV doc pm an cdv ct) [a] []
/-! ### is_integer -/
def b_is_integer : En → SO := mRet (mAnd (mIsi ["int"] (mVar 0)) (mNot (mIsi ["bool"] (mVar 0))))
def m_is_integer : List DL.Arg → FO := mDef 1 1 b_is_integer
theorem sc_is_integer : FnScope ["value"] ["value"] (C8.fnScope s_is_integer) := C8.fnScope_by (by decide +kernel)
/-! ### is_within -/
def b_is_within : En → SO := mRet (mAnd (mFun 1 (m_is_integer) (mACons (mVar 0) (mANil))) (mChain (fC fun i j => decide (i ≤ j)) (fC fun i j => decide (i ≤ j)) (mVar 1) (mVar 0) (mVar 2)))
def m_is_within : List DL.Arg → FO := mDef 3 3 b_is_within
theorem sc_is_within : FnScope ["value", "least", "most"] ["value", "least", "most"] (C8.fnScope s_is_within) := C8.fnScope_by (by decide +kernel)
/-! ### is_tuple -/
def b_is_tuple : En → SO := mRet (mAnd (mIsi ["tuple"] (mVar 0)) (mOp fEq (mCall (f1 fLen) (mACons (mVar 0) (mANil))) (mVar 1)))
def m_is_tuple : List DL.Arg → FO := mDef 2 2 b_is_tuple
theorem sc_is_tuple : FnScope ["value", "many"] ["value", "many"] (C8.fnScope s_is_tuple) := C8.fnScope_by (by decide +kernel)
/-! ### are_mosts -/
def b_are_mosts : En → SO := mSeq (mIfS (mOr (mNot (mB (mIsi ["tuple"] (mVar 0)))) (mNot (mB (mChain (fC fun i j => decide (i ≤ j)) (fC fun i j => decide (i ≤ j)) (mC (.int 1)) (mCall (f1 fLen) (mACons (mVar 0) (mANil))) (mC (.int 10)))))) (mRet (mC (.bool false))) (mNext)) (mRet (mCall (f1 fAll) (mACons (mLc (mWalk (mVar 0)) (gSet 1) (mC (.bool true)) (mFun 3 (m_is_within) (mACons (mVar 1) (mACons (mC (.int 1)) (mACons (mC (.int 9)) (mANil))))) [1]) (mANil))))
def m_are_mosts : List DL.Arg → FO := mDef 1 2 b_are_mosts
theorem sc_are_mosts : FnScope ["value", "one"] ["value"] (C8.fnScope s_are_mosts) := C8.fnScope_by (by decide +kernel)
/-! ### is_ground -/
def b_is_ground : En → SO := mSeq (mIfS (mOr (mNot (mB (mFun 2 (m_is_tuple) (mACons (mVar 0) (mACons (mC (.int 3)) (mANil)))))) (mOr (mNot (mB (mIsi ["str"] (mOp fIx (mVar 0) (mC (.int 0)))))) (mNot (mB (mFun 3 (m_is_within) (mACons (mOp fIx (mVar 0) (mC (.int 2))) (mACons (mC (.int 0)) (mACons (mC (.int 1)) (mANil))))))))) (mRet (mC (.bool false))) (mNext)) (mSeq (mIfS (mB (mOp fEq (mOp fIx (mVar 0) (mC (.int 0))) (mC (.str "fact")))) (mRet (mFun 3 (m_is_within) (mACons (mOp fIx (mVar 0) (mC (.int 1))) (mACons (mC (.int 0)) (mACons (mOp fSub (mVar 1) (mC (.int 1))) (mANil)))))) (mNext)) (mRet (mAnd (mOp fEq (mOp fIx (mVar 0) (mC (.int 0))) (mC (.str "issue"))) (mFun 3 (m_is_within) (mACons (mOp fIx (mVar 0) (mC (.int 1))) (mACons (mOp fAdd (mVar 3) (mC (.int 1))) (mACons (mOp fSub (mVar 2) (mC (.int 1))) (mANil))))))))
def m_is_ground : List DL.Arg → FO := mDef 4 4 b_is_ground
theorem sc_is_ground : FnScope ["value", "facts", "issues", "own"] ["value", "facts", "issues", "own"] (C8.fnScope s_is_ground) := C8.fnScope_by (by decide +kernel)
/-! ### is_issue_of -/
def b_is_issue_of : En → SO := mSeq (mIfS (mOr (mNot (mB (mIsi ["tuple"] (mVar 0)))) (mNot (mB (mChain (fC fun i j => decide (i ≤ j)) (fC fun i j => decide (i ≤ j)) (mC (.int 1)) (mCall (f1 fLen) (mACons (mVar 0) (mANil))) (mC (.int 8)))))) (mRet (mC (.bool false))) (mNext)) (mSeq (mIfS (mNot (mB (mCall (f1 fAll) (mACons (mLc (mWalk (mVar 0)) (gSet 4) (mC (.bool true)) (mFun 4 (m_is_ground) (mACons (mVar 4) (mACons (mVar 1) (mACons (mVar 2) (mACons (mVar 3) (mANil)))))) [4]) (mANil))))) (mRet (mC (.bool false))) (mNext)) (mRet (mOp fEq (mUn fLenSet (mLc (mWalk (mVar 0)) (gSet 4) (mC (.bool true)) (mSl (mVar 4) none (some (mC (.int 2)))) [4])) (mCall (f1 fLen) (mACons (mVar 0) (mANil))))))
def m_is_issue_of : List DL.Arg → FO := mDef 4 5 b_is_issue_of
theorem sc_is_issue_of : FnScope ["value", "facts", "issues", "own", "one"] ["value", "facts", "issues", "own"] (C8.fnScope s_is_issue_of) := C8.fnScope_by (by decide +kernel)
/-! ### is_court_of -/
def b_is_court_of : En → SO := mSeq (mIfS (mOr (mNot (mB (mFun 2 (m_is_tuple) (mACons (mVar 0) (mACons (mC (.int 2)) (mANil)))))) (mNot (mB (mIsi ["bool"] (mOp fIx (mVar 0) (mC (.int 1))))))) (mRet (mC (.bool false))) (mNext)) (mRet (mIf (mB (mOp fEq (mVar 1) (mC (.int 0)))) (mOp fIsN (mOp fIx (mVar 0) (mC (.int 0))) (mC .none)) (mFun 3 (m_is_within) (mACons (mOp fIx (mVar 0) (mC (.int 0))) (mACons (mC (.int 0)) (mACons (mOp fSub (mVar 1) (mC (.int 1))) (mANil)))))))
def m_is_court_of : List DL.Arg → FO := mDef 2 2 b_is_court_of
theorem sc_is_court_of : FnScope ["value", "own"] ["value", "own"] (C8.fnScope s_is_court_of) := C8.fnScope_by (by decide +kernel)
/-! ### is_book_any -/
def b_is_book_any : En → SO := mSeq (mIfS (mOr (mNot (mB (mFun 2 (m_is_tuple) (mACons (mVar 0) (mACons (mC (.int 4)) (mANil)))))) (mOr (mNot (mB (mIsi ["str"] (mOp fIx (mVar 0) (mC (.int 0)))))) (mOr (mB (mOp fNe (mOp fIx (mVar 0) (mC (.int 0))) (mC (.str "book")))) (mNot (mB (mFun 1 (m_are_mosts) (mACons (mOp fIx (mVar 0) (mC (.int 1))) (mANil)))))))) (mRet (mC (.bool false))) (mNext)) (mSeq (mAsgG (gTupD 2 (gsCons (gSet 1) (gsCons (gSet 2) (gsNil)))) (mCall fTup (mACons (mOp fIx (mVar 0) (mC (.int 2))) (mACons (mOp fIx (mVar 0) (mC (.int 3))) (mANil))))) (mSeq (mIfS (mOr (mNot (mB (mIsi ["tuple"] (mVar 1)))) (mNot (mB (mChain (fC fun i j => decide (i ≤ j)) (fC fun i j => decide (i ≤ j)) (mC (.int 1)) (mCall (f1 fLen) (mACons (mVar 1) (mANil))) (mC (.int 6)))))) (mRet (mC (.bool false))) (mNext)) (mSeq (mIfS (mNot (mB (mCall (f1 fAll) (mACons (mLc (mWA wEnum (mACons (mVar 1) (mANil))) (gTupD 2 (gsCons (gSet 3) (gsCons (gSet 4) (gsNil)))) (mC (.bool true)) (mFun 4 (m_is_issue_of) (mACons (mVar 4) (mACons (mCall (f1 fLen) (mACons (mOp fIx (mVar 0) (mC (.int 1))) (mANil))) (mACons (mCall (f1 fLen) (mACons (mVar 1) (mANil))) (mACons (mVar 3) (mANil)))))) [3, 4]) (mANil))))) (mRet (mC (.bool false))) (mNext)) (mSeq (mIfS (mOr (mNot (mB (mIsi ["tuple"] (mVar 2)))) (mNot (mB (mChain (fC fun i j => decide (i ≤ j)) (fC fun i j => decide (i ≤ j)) (mC (.int 1)) (mCall (f1 fLen) (mACons (mVar 2) (mANil))) (mC (.int 8)))))) (mRet (mC (.bool false))) (mNext)) (mRet (mCall (f1 fAll) (mACons (mLc (mWA wEnum (mACons (mVar 2) (mANil))) (gTupD 2 (gsCons (gSet 3) (gsCons (gSet 4) (gsNil)))) (mC (.bool true)) (mFun 2 (m_is_court_of) (mACons (mVar 4) (mACons (mVar 3) (mANil)))) [3, 4]) (mANil))))))))
def m_is_book_any : List DL.Arg → FO := mDef 1 5 b_is_book_any
theorem sc_is_book_any : FnScope ["value", "issues", "courts", "own", "one"] ["value"] (C8.fnScope s_is_book_any) := C8.fnScope_by (by decide +kernel)
/-! ### want_book -/
def b_want_book : En → SO := mIfS (mNot (mB (mFun 1 (m_is_book_any) (mACons (mVar 0) (mANil))))) (mRaise "InvalidBook" ["value"] (mACons (mVar 0) (mANil))) (mNext)
def m_want_book : List DL.Arg → FO := mDef 1 1 b_want_book
theorem sc_want_book : FnScope ["book"] ["book"] (C8.fnScope s_want_book) := C8.fnScope_by (by decide +kernel)
/-! ### want_issue -/
def b_want_issue : En → SO := mIfS (mNot (mB (mFun 3 (m_is_within) (mACons (mVar 1) (mACons (mC (.int 0)) (mACons (mOp fSub (mCall (f1 fLen) (mACons (mOp fIx (mVar 0) (mC (.int 2))) (mANil))) (mC (.int 1))) (mANil))))))) (mRaise "InvalidIssue" ["value"] (mACons (mVar 1) (mANil))) (mNext)
def m_want_issue : List DL.Arg → FO := mDef 2 2 b_want_issue
theorem sc_want_issue : FnScope ["book", "issue"] ["book", "issue"] (C8.fnScope s_want_issue) := C8.fnScope_by (by decide +kernel)
/-! ### mosts_in -/
def b_mosts_in : En → SO := mRet (mLc (mWalk (mOp fIx (mOp fIx (mVar 0) (mC (.int 2))) (mVar 1))) (gTupD 3 (gsCons (gSet 2) (gsCons (gSet 3) (gsCons (gSet 4) (gsNil))))) (mC (.bool true)) (mIf (mB (mOp fEq (mVar 2) (mC (.str "fact")))) (mOp fIx (mOp fIx (mVar 0) (mC (.int 1))) (mVar 3)) (mC (.int 1))) [2, 3, 4])
def m_mosts_in : List DL.Arg → FO := mDef 2 5 b_mosts_in
theorem sc_mosts_in : FnScope ["book", "issue", "kind", "number", "side"] ["book", "issue"] (C8.fnScope s_mosts_in) := C8.fnScope_by (by decide +kernel)
/-! ### flaw_of_book -/
def b_flaw_of_book : En → SO := mSeq (mIfS (mOr (mNot (mB (mFun 2 (m_is_tuple) (mACons (mVar 0) (mACons (mC (.int 4)) (mANil)))))) (mOr (mNot (mB (mIsi ["str"] (mOp fIx (mVar 0) (mC (.int 0)))))) (mB (mOp fNe (mOp fIx (mVar 0) (mC (.int 0))) (mC (.str "book")))))) (mRet (mCall fTup (mACons (mC (.str "form")) (mACons (mC .none) (mANil))))) (mNext)) (mSeq (mAsgG (gTupD 3 (gsCons (gSet 2) (gsCons (gSet 3) (gsCons (gSet 4) (gsNil))))) (mSl (mVar 0) (some (mC (.int 1))) none)) (mSeq (mIfS (mNot (mB (mFun 1 (m_are_mosts) (mACons (mVar 2) (mANil))))) (mRet (mCall fTup (mACons (mC (.str "mosts")) (mACons (mC .none) (mANil))))) (mNext)) (mSeq (mIfS (mOr (mNot (mB (mIsi ["tuple"] (mVar 3)))) (mNot (mB (mChain (fC fun i j => decide (i ≤ j)) (fC fun i j => decide (i ≤ j)) (mC (.int 1)) (mCall (f1 fLen) (mACons (mVar 3) (mANil))) (mC (.int 6)))))) (mRet (mCall fTup (mACons (mC (.str "issues")) (mACons (mC .none) (mANil))))) (mNext)) (mSeq (mAsg 1 (mLc (mWA wEnum (mACons (mVar 3) (mANil))) (gTupD 2 (gsCons (gSet 5) (gsCons (gSet 6) (gsNil)))) (mNot (mB (mFun 4 (m_is_issue_of) (mACons (mVar 6) (mACons (mCall (f1 fLen) (mACons (mVar 2) (mANil))) (mACons (mCall (f1 fLen) (mACons (mVar 3) (mANil))) (mACons (mVar 5) (mANil)))))))) (mVar 5) [5, 6])) (mSeq (mIfS (mB (mOp fNe (mVar 1) (mCall fLst (mANil)))) (mRet (mCall fTup (mACons (mC (.str "issue")) (mACons (mOp fIx (mVar 1) (mC (.int 0))) (mANil))))) (mNext)) (mSeq (mIfS (mOr (mNot (mB (mIsi ["tuple"] (mVar 4)))) (mNot (mB (mChain (fC fun i j => decide (i ≤ j)) (fC fun i j => decide (i ≤ j)) (mC (.int 1)) (mCall (f1 fLen) (mACons (mVar 4) (mANil))) (mC (.int 8)))))) (mRet (mCall fTup (mACons (mC (.str "courts")) (mACons (mC .none) (mANil))))) (mNext)) (mSeq (mAsg 1 (mLc (mWA wEnum (mACons (mVar 4) (mANil))) (gTupD 2 (gsCons (gSet 5) (gsCons (gSet 6) (gsNil)))) (mNot (mB (mFun 2 (m_is_court_of) (mACons (mVar 6) (mACons (mVar 5) (mANil)))))) (mVar 5) [5, 6])) (mRet (mIf (mB (mOp fNe (mVar 1) (mCall fLst (mANil)))) (mCall fTup (mACons (mC (.str "court")) (mACons (mOp fIx (mVar 1) (mC (.int 0))) (mANil)))) (mC .none))))))))))
def m_flaw_of_book : List DL.Arg → FO := mDef 1 7 b_flaw_of_book
theorem sc_flaw_of_book : FnScope ["value", "wrong", "mosts", "issues", "courts", "own", "one"] ["value"] (C8.fnScope s_flaw_of_book) := C8.fnScope_by (by decide +kernel)
/-! ### box_of -/
def b_box_of : En → SO := mSeq (mAsg 3 (mCall (f1 fTuple) (mACons (mFun 2 (m_mosts_in) (mACons (mVar 0) (mACons (mVar 1) (mANil)))) (mANil)))) (mRet (mIf (mB (mOp fEq (mOp fIx (mVar 2) (mC (.int 1))) (mC (.int 1)))) (mCall fTup (mACons (mOp fIx (mVar 2) (mC (.int 0))) (mACons (mVar 3) (mANil)))) (mCall fTup (mACons (mOp fMul (mCall fTup (mACons (mC (.int 0)) (mANil))) (mCall (f1 fLen) (mACons (mVar 3) (mANil)))) (mACons (mOp fIx (mVar 2) (mC (.int 0))) (mANil))))))
def m_box_of : List DL.Arg → FO := mDef 3 4 b_box_of
theorem sc_box_of : FnScope ["book", "issue", "ruling", "mosts"] ["book", "issue", "ruling"] (C8.fnScope s_box_of) := C8.fnScope_by (by decide +kernel)
/-! ### many_in -/
def b_many_in : En → SO := mSeq (mAsg 1 (mC (.int 1))) (mSeq (mFor (mWA wZip2 (mACons (mOp fIx (mVar 0) (mC (.int 0))) (mACons (mOp fIx (mVar 0) (mC (.int 1))) (mANil)))) (gTupD 2 (gsCons (gSet 2) (gsCons (gSet 3) (gsNil)))) (mAsg 1 (mOp fMul (mVar 1) (mOp fAdd (mOp fSub (mVar 3) (mVar 2)) (mC (.int 1)))))) (mRet (mVar 1)))
def m_many_in : List DL.Arg → FO := mDef 1 4 b_many_in
theorem sc_many_in : FnScope ["box", "many", "one", "other"] ["box"] (C8.fnScope s_many_in) := C8.fnScope_by (by decide +kernel)
/-! ### is_book -/
def b_is_book : En → SO := mRet (mFun 1 (m_is_book_any) (mACons (mVar 0) (mANil)))
def m_is_book : List DL.Arg → FO := mDef 1 1 b_is_book
theorem sc_is_book : FnScope ["value"] ["value"] (C8.fnScope s_is_book) := C8.fnScope_by (by decide +kernel)
/-! ### book_flaw -/
def b_book_flaw : En → SO := mRet (mFun 1 (m_flaw_of_book) (mACons (mVar 0) (mANil)))
def m_book_flaw : List DL.Arg → FO := mDef 1 1 b_book_flaw
theorem sc_book_flaw : FnScope ["value"] ["value"] (C8.fnScope s_book_flaw) := C8.fnScope_by (by decide +kernel)
/-! ### count_points -/
def b_count_points : En → SO := mSeq (mDrop (mFun 1 (m_want_book) (mACons (mVar 0) (mANil)))) (mSeq (mDrop (mFun 2 (m_want_issue) (mACons (mVar 0) (mACons (mVar 1) (mANil))))) (mRet (mFun 1 (m_many_in) (mACons (mFun 3 (m_box_of) (mACons (mVar 0) (mACons (mVar 1) (mACons (mCall fTup (mACons (mOp fMul (mCall fTup (mACons (mC (.int 0)) (mANil))) (mCall (f1 fLen) (mACons (mOp fIx (mOp fIx (mVar 0) (mC (.int 2))) (mVar 1)) (mANil)))) (mACons (mC (.int 1)) (mANil)))) (mANil))))) (mANil)))))
def m_count_points : List DL.Arg → FO := mDef 2 2 b_count_points
theorem sc_count_points : FnScope ["book", "issue"] ["book", "issue"] (C8.fnScope s_count_points) := C8.fnScope_by (by decide +kernel)
/-! ### _law_pot -/
def b__law_pot : En → SO := mSeq (mAsg 2 (mIf (mB (mOp (fC fun i j => decide (i < j)) (mVar 1) (mCall (f1 fLen) (mACons (mVar 0) (mANil))))) (mCall (f1 fAbs) (mACons (mOp fIx (mVar 0) (mVar 1)) (mANil))) (mOp fAdd (mOp fMul (mC (.int 2437)) (mVar 1)) (mC (.int 1487))))) (mRet (mCall fLst (mACons (mCall (f2 fMax) (mACons (mC (.int 0)) (mACons (mOp fSub (mVar 2) (mOp fPow (mC (.int 10)) (mC (.int 18)))) (mANil)))) (mACons (mOp fAdd (mOp fMod (mCall (f1 fInt) (mACons (mOp fAdd (mOp fAdd (mOp fMul (mOp fMod (mCall (f1 fInt) (mACons (mVar 2) (mANil))) (mC (.int 2147483549))) (mC (.int 41953))) (mOp fMul (mC (.int 9419)) (mVar 1))) (mC (.int 1297))) (mANil))) (mC (.int 2147483563))) (mC (.int 1))) (mANil)))))
def m__law_pot : List DL.Arg → FO := mDef 2 3 b__law_pot
theorem sc__law_pot : FnScope ["script", "k", "cell"] ["script", "k"] (C8.fnScope s__law_pot) := C8.fnScope_by (by decide +kernel)
/-! ### _law_draw -/
def b__law_draw : En → SO := mSeq (mIfS (mB (mOp (fC fun i j => decide (i > j)) (mPkIx 0 (mC (.int 0))) (mC (.int 0)))) (mSeq (mAsgG (gTupD 2 (gsCons (gIx 0 0) (gsCons (gSet 2) (gsNil)))) (mCall (f2 fDivmod) (mACons (mPkIx 0 (mC (.int 0))) (mACons (mVar 1) (mANil))))) (mRet (mVar 2))) (mNext)) (mSeq (mAsgG (gIx 0 1) (mOp fMod (mCall (f1 fInt) (mACons (mOp fAdd (mOp fMul (mPkIx 0 (mC (.int 1))) (mC (.int 40692))) (mC (.int 8467))) (mANil))) (mC (.int 2147483587)))) (mRet (mOp fMod (mCall (f1 fInt) (mACons (mOp fDiv (mOp fMod (mCall (f1 fInt) (mACons (mOp fMul (mPkIx 0 (mC (.int 1))) (mPkIx 0 (mC (.int 1)))) (mANil))) (mC (.int 2147483549))) (mC (.int 1031))) (mANil))) (mVar 1))))
def m__law_draw : List DL.Arg → FO := mDef 2 3 b__law_draw
theorem sc__law_draw : FnScope ["pot", "many", "digit"] ["pot", "many"] (C8.fnScope s__law_draw) := C8.fnScope_by (by decide +kernel)
/-! ### _law_pick -/
def b__law_pick : En → SO := mRet (mOp fIx (mVar 1) (mFun 2 (m__law_draw) (mAIo 0 (mACons (mCall (f1 fLen) (mACons (mVar 1) (mANil))) (mANil)))))
def m__law_pick : List DL.Arg → FO := mDef 2 2 b__law_pick
theorem sc__law_pick : FnScope ["pot", "some"] ["pot", "some"] (C8.fnScope s__law_pick) := C8.fnScope_by (by decide +kernel)
/-! ### _law_most_of -/
def b__law_most_of : En → SO := mRet (mIf (mB (mOp fEq (mOp fIx (mVar 1) (mC (.int 0))) (mC (.str "fact")))) (mOp fIx (mOp fIx (mVar 0) (mC (.int 1))) (mOp fIx (mVar 1) (mC (.int 1)))) (mC (.int 1)))
def m__law_most_of : List DL.Arg → FO := mDef 2 2 b__law_most_of
theorem sc__law_most_of : FnScope ["book", "ground"] ["book", "ground"] (C8.fnScope s__law_most_of) := C8.fnScope_by (by decide +kernel)
/-! ### _law_issue -/
def b__law_issue : En → SO := mSeq (mAsg 5 (mLc (mWA wRng1 (mACons (mVar 1) (mANil))) (gSet 8) (mB (mOp (fC fun i j => decide (i > j)) (mFun 2 (m__law_draw) (mAIo 0 (mACons (mC (.int 3)) (mANil)))) (mC (.int 0)))) (mCall fTup (mACons (mC (.str "fact")) (mACons (mVar 8) (mACons (mFun 2 (m__law_draw) (mAIo 0 (mACons (mC (.int 2)) (mANil)))) (mANil))))) [8])) (mSeq (mAsg 5 (mOp fAdd (mVar 5) (mLc (mWA wRng2 (mACons (mOp fAdd (mVar 2) (mC (.int 1))) (mACons (mVar 3) (mANil)))) (gSet 9) (mB (mOp (fC fun i j => decide (i > j)) (mFun 2 (m__law_draw) (mAIo 0 (mACons (mC (.int 3)) (mANil)))) (mC (.int 0)))) (mCall fTup (mACons (mC (.str "issue")) (mACons (mVar 9) (mACons (mFun 2 (m__law_pick) (mAIo 0 (mACons (mCall fLst (mACons (mC (.int 1)) (mACons (mC (.int 1)) (mACons (mC (.int 0)) (mANil))))) (mANil)))) (mANil))))) [9]))) (mSeq (mIfS (mB (mOp fEq (mVar 5) (mCall fLst (mANil)))) (mAsg 5 (mCall fLst (mACons (mCall fTup (mACons (mC (.str "fact")) (mACons (mFun 2 (m__law_draw) (mAIo 0 (mACons (mVar 1) (mANil)))) (mACons (mFun 2 (m__law_draw) (mAIo 0 (mACons (mC (.int 2)) (mANil)))) (mANil))))) (mANil)))) (mNext)) (mSeq (mPar 6 7 (mSl (mVar 5) none (some (mVar 4))) (mCall fLst (mANil))) (mSeq (whileF (mB (mPkL 6 fNe (mCall fLst (mANil)))) (mDrop (mMeth 7 fAppend (mMeth 6 fPopAt (mFun 2 (m__law_draw) (mAIo 0 (mACons (mPkU 6 fLen) (mANil))))))) 100000) (mRet (mCall (f1 fTuple) (mACons (mVar 7) (mANil))))))))
def m__law_issue : List DL.Arg → FO := mDef 5 10 b__law_issue
theorem sc__law_issue : FnScope ["pot", "facts", "issue", "issues", "most", "some", "left", "found", "fact", "other"] ["pot", "facts", "issue", "issues", "most"] (C8.fnScope s__law_issue) := C8.fnScope_by (by decide +kernel)
/-! ### _law_book -/
def b__law_book : En → SO := mSeq (mAsgG (gTupD 3 (gsCons (gSet 1) (gsCons (gSet 2) (gsCons (gSet 3) (gsNil))))) (mCall fTup (mACons (mOp fAdd (mC (.int 1)) (mFun 2 (m__law_draw) (mAIo 0 (mACons (mVar 1) (mANil))))) (mACons (mOp fAdd (mC (.int 1)) (mFun 2 (m__law_draw) (mAIo 0 (mACons (mVar 2) (mANil))))) (mACons (mOp fAdd (mC (.int 1)) (mFun 2 (m__law_draw) (mAIo 0 (mACons (mVar 3) (mANil))))) (mANil)))))) (mSeq (mAsg 4 (mCall (f1 fTuple) (mACons (mLc (mWA wRng1 (mACons (mVar 1) (mANil))) (gSet 8) (mC (.bool true)) (mOp fAdd (mC (.int 1)) (mFun 2 (m__law_draw) (mAIo 0 (mACons (mC (.int 3)) (mANil))))) [8]) (mANil)))) (mSeq (mAsg 5 (mCall (f1 fTuple) (mACons (mLc (mWA wRng1 (mACons (mVar 2) (mANil))) (gSet 9) (mC (.bool true)) (mFun 5 (m__law_issue) (mAIo 0 (mACons (mVar 1) (mACons (mVar 9) (mACons (mVar 2) (mACons (mC (.int 8)) (mANil))))))) [9]) (mANil)))) (mSeq (mAsg 6 (mCall fLst (mACons (mCall fTup (mACons (mC .none) (mACons (mOp (fC fun i j => decide (i > j)) (mFun 2 (m__law_draw) (mAIo 0 (mACons (mC (.int 3)) (mANil)))) (mC (.int 0))) (mANil)))) (mANil)))) (mSeq (mFor (mWA wRng2 (mACons (mC (.int 1)) (mACons (mVar 3) (mANil)))) (gSet 7) (mDrop (mMeth 6 fAppend (mCall fTup (mACons (mFun 2 (m__law_draw) (mAIo 0 (mACons (mVar 7) (mANil)))) (mACons (mOp fEq (mFun 2 (m__law_draw) (mAIo 0 (mACons (mC (.int 2)) (mANil)))) (mC (.int 0))) (mANil))))))) (mRet (mCall fTup (mACons (mC (.str "book")) (mACons (mVar 4) (mACons (mVar 5) (mACons (mCall (f1 fTuple) (mACons (mVar 6) (mANil))) (mANil)))))))))))
def m__law_book : List DL.Arg → FO := mDef 4 10 b__law_book
theorem sc__law_book : FnScope ["pot", "facts", "issues", "courts", "mosts", "rows", "benches", "court", "fact", "issue"] ["pot", "facts", "issues", "courts"] (C8.fnScope s__law_book) := C8.fnScope_by (by decide +kernel)
/-! ### _law_is_whole -/
def b__law_is_whole : En → SO := mRet (mAnd (mIsi ["int"] (mVar 0)) (mNot (mIsi ["bool"] (mVar 0))))
def m__law_is_whole : List DL.Arg → FO := mDef 1 1 b__law_is_whole
theorem sc__law_is_whole : FnScope ["one"] ["one"] (C8.fnScope s__law_is_whole) := C8.fnScope_by (by decide +kernel)
/-! ### _law_is_issue -/
def b__law_is_issue : En → SO := mSeq (mIfS (mOr (mNot (mB (mIsi ["tuple"] (mVar 0)))) (mNot (mB (mChain (fC fun i j => decide (i ≤ j)) (fC fun i j => decide (i ≤ j)) (mC (.int 1)) (mCall (f1 fLen) (mACons (mVar 0) (mANil))) (mC (.int 8)))))) (mRet (mC (.bool false))) (mNext)) (mSeq (mAsg 4 (mCall fLst (mANil))) (mSeq (mFor (mWalk (mVar 0)) (gSet 5) (mSeq (mIfS (mOr (mNot (mB (mIsi ["tuple"] (mVar 5)))) (mOr (mB (mOp fNe (mCall (f1 fLen) (mACons (mVar 5) (mANil))) (mC (.int 3)))) (mOr (mNot (mB (mIsi ["str"] (mOp fIx (mVar 5) (mC (.int 0)))))) (mB (mOp fNotIn (mOp fIx (mVar 5) (mC (.int 0))) (mCall fTup (mACons (mC (.str "fact")) (mACons (mC (.str "issue")) (mANil))))))))) (mRet (mC (.bool false))) (mNext)) (mSeq (mIfS (mOr (mNot (mB (mFun 1 (m__law_is_whole) (mACons (mOp fIx (mVar 5) (mC (.int 1))) (mANil))))) (mOr (mNot (mB (mFun 1 (m__law_is_whole) (mACons (mOp fIx (mVar 5) (mC (.int 2))) (mANil))))) (mB (mOp fNotIn (mOp fIx (mVar 5) (mC (.int 2))) (mCall fTup (mACons (mC (.int 0)) (mACons (mC (.int 1)) (mANil)))))))) (mRet (mC (.bool false))) (mNext)) (mSeq (mAsgG (gTupD 2 (gsCons (gSet 6) (gsCons (gSet 7) (gsNil)))) (mIf (mB (mOp fEq (mOp fIx (mVar 5) (mC (.int 0))) (mC (.str "fact")))) (mCall fTup (mACons (mC (.int 0)) (mACons (mVar 2) (mANil)))) (mCall fTup (mACons (mOp fAdd (mVar 1) (mC (.int 1))) (mACons (mVar 3) (mANil)))))) (mSeq (mIfS (mOr (mNot (mB (mChain (fC fun i j => decide (i ≤ j)) (fC fun i j => decide (i < j)) (mVar 6) (mOp fIx (mVar 5) (mC (.int 1))) (mVar 7)))) (mB (mPkR 4 fIn (mSl (mVar 5) none (some (mC (.int 2))))))) (mRet (mC (.bool false))) (mNext)) (mDrop (mMeth 4 fAppend (mSl (mVar 5) none (some (mC (.int 2))))))))))) (mRet (mC (.bool true)))))
def m__law_is_issue : List DL.Arg → FO := mDef 4 8 b__law_is_issue
theorem sc__law_is_issue : FnScope ["value", "number", "facts", "issues", "seen", "ground", "low", "high"] ["value", "number", "facts", "issues"] (C8.fnScope s__law_is_issue) := C8.fnScope_by (by decide +kernel)
/-! ### _law_is_court -/
def b__law_is_court : En → SO := mSeq (mIfS (mOr (mNot (mB (mIsi ["tuple"] (mVar 0)))) (mOr (mB (mOp fNe (mCall (f1 fLen) (mACons (mVar 0) (mANil))) (mC (.int 2)))) (mNot (mB (mIsi ["bool"] (mOp fIx (mVar 0) (mC (.int 1)))))))) (mRet (mC (.bool false))) (mNext)) (mRet (mIf (mB (mOp fEq (mVar 1) (mC (.int 0)))) (mOp fIsN (mOp fIx (mVar 0) (mC (.int 0))) (mC .none)) (mAnd (mFun 1 (m__law_is_whole) (mACons (mOp fIx (mVar 0) (mC (.int 0))) (mANil))) (mChain (fC fun i j => decide (i ≤ j)) (fC fun i j => decide (i < j)) (mC (.int 0)) (mOp fIx (mVar 0) (mC (.int 0))) (mVar 1)))))
def m__law_is_court : List DL.Arg → FO := mDef 2 2 b__law_is_court
theorem sc__law_is_court : FnScope ["value", "number"] ["value", "number"] (C8.fnScope s__law_is_court) := C8.fnScope_by (by decide +kernel)
/-! ### _law_flaw -/
def b__law_flaw : En → SO := mSeq (mIfS (mOr (mNot (mB (mIsi ["tuple"] (mVar 0)))) (mOr (mB (mOp fNe (mCall (f1 fLen) (mACons (mVar 0) (mANil))) (mC (.int 4)))) (mOr (mNot (mB (mIsi ["str"] (mOp fIx (mVar 0) (mC (.int 0)))))) (mB (mOp fNe (mOp fIx (mVar 0) (mC (.int 0))) (mC (.str "book"))))))) (mRet (mCall fTup (mACons (mC (.str "form")) (mACons (mC .none) (mANil))))) (mNext)) (mSeq (mIfS (mOr (mNot (mB (mIsi ["tuple"] (mOp fIx (mVar 0) (mC (.int 1)))))) (mOr (mNot (mB (mChain (fC fun i j => decide (i ≤ j)) (fC fun i j => decide (i ≤ j)) (mC (.int 1)) (mCall (f1 fLen) (mACons (mOp fIx (mVar 0) (mC (.int 1))) (mANil))) (mC (.int 10))))) (mB (mOp fNe (mLc (mWalk (mOp fIx (mVar 0) (mC (.int 1)))) (gSet 2) (mOr (mNot (mB (mFun 1 (m__law_is_whole) (mACons (mVar 2) (mANil))))) (mNot (mB (mChain (fC fun i j => decide (i ≤ j)) (fC fun i j => decide (i ≤ j)) (mC (.int 1)) (mVar 2) (mC (.int 9)))))) (mVar 2) [2]) (mCall fLst (mANil)))))) (mRet (mCall fTup (mACons (mC (.str "mosts")) (mACons (mC .none) (mANil))))) (mNext)) (mSeq (mIfS (mOr (mNot (mB (mIsi ["tuple"] (mOp fIx (mVar 0) (mC (.int 2)))))) (mNot (mB (mChain (fC fun i j => decide (i ≤ j)) (fC fun i j => decide (i ≤ j)) (mC (.int 1)) (mCall (f1 fLen) (mACons (mOp fIx (mVar 0) (mC (.int 2))) (mANil))) (mC (.int 6)))))) (mRet (mCall fTup (mACons (mC (.str "issues")) (mACons (mC .none) (mANil))))) (mNext)) (mSeq (mFor (mWA wEnum (mACons (mOp fIx (mVar 0) (mC (.int 2))) (mANil))) (gTupD 2 (gsCons (gSet 1) (gsCons (gSet 2) (gsNil)))) (mIfS (mNot (mB (mFun 4 (m__law_is_issue) (mACons (mVar 2) (mACons (mVar 1) (mACons (mCall (f1 fLen) (mACons (mOp fIx (mVar 0) (mC (.int 1))) (mANil))) (mACons (mCall (f1 fLen) (mACons (mOp fIx (mVar 0) (mC (.int 2))) (mANil))) (mANil)))))))) (mRet (mCall fTup (mACons (mC (.str "issue")) (mACons (mVar 1) (mANil))))) (mNext))) (mSeq (mIfS (mOr (mNot (mB (mIsi ["tuple"] (mOp fIx (mVar 0) (mC (.int 3)))))) (mNot (mB (mChain (fC fun i j => decide (i ≤ j)) (fC fun i j => decide (i ≤ j)) (mC (.int 1)) (mCall (f1 fLen) (mACons (mOp fIx (mVar 0) (mC (.int 3))) (mANil))) (mC (.int 8)))))) (mRet (mCall fTup (mACons (mC (.str "courts")) (mACons (mC .none) (mANil))))) (mNext)) (mSeq (mFor (mWA wEnum (mACons (mOp fIx (mVar 0) (mC (.int 3))) (mANil))) (gTupD 2 (gsCons (gSet 1) (gsCons (gSet 2) (gsNil)))) (mIfS (mNot (mB (mFun 2 (m__law_is_court) (mACons (mVar 2) (mACons (mVar 1) (mANil)))))) (mRet (mCall fTup (mACons (mC (.str "court")) (mACons (mVar 1) (mANil))))) (mNext))) (mRet (mC .none)))))))
def m__law_flaw : List DL.Arg → FO := mDef 1 3 b__law_flaw
theorem sc__law_flaw : FnScope ["value", "number", "one"] ["value"] (C8.fnScope s__law_flaw) := C8.fnScope_by (by decide +kernel)
/-! ### _law_paths -/
def m__law_paths : Nat → List DL.Arg → FO
  | 0 => fun _ => .fail
  | n + 1 => mDef 2 5 (mSeq (mAsg 2 (mCall fLst (mACons (mVar 1) (mANil)))) (mSeq (mIfS (mB (mIsi ["tuple", "list"] (mVar 0))) (mFor (mWA wEnum (mACons (mVar 0) (mANil))) (gTupD 2 (gsCons (gSet 3) (gsCons (gSet 4) (gsNil)))) (mDrop (mMeth 2 fExtend (mFun 2 (m__law_paths n) (mACons (mVar 4) (mACons (mOp fAdd (mVar 1) (mCall fTup (mACons (mVar 3) (mANil)))) (mANil))))))) (mNext)) (mRet (mMove 2))))
theorem sc__law_paths : FnScope ["value", "path", "found", "at", "part"] ["value", "path"] (C8.fnScope s__law_paths) := C8.fnScope_by (by decide +kernel)
/-! ### _law_with -/
def m__law_with : Nat → List DL.Arg → FO
  | 0 => fun _ => .fail
  | n + 1 => mDef 3 5 (mSeq (mIfS (mB (mOp fEq (mVar 1) (mCall fTup (mANil)))) (mRet (mVar 2)) (mNext)) (mSeq (mAsg 3 (mOp fIx (mVar 1) (mC (.int 0)))) (mSeq (mAsg 4 (mFun 3 (m__law_with n) (mACons (mOp fIx (mVar 0) (mVar 3)) (mACons (mSl (mVar 1) (some (mC (.int 1))) none) (mACons (mVar 2) (mANil)))))) (mRet (mOp fAdd (mOp fAdd (mSl (mVar 0) none (some (mVar 3))) (mIf (mB (mIsi ["tuple"] (mVar 0))) (mCall fTup (mACons (mVar 4) (mANil))) (mCall fLst (mACons (mVar 4) (mANil))))) (mSl (mVar 0) (some (mOp fAdd (mVar 3) (mC (.int 1)))) none))))))
theorem sc__law_with : FnScope ["value", "path", "part", "at", "late"] ["value", "path", "part"] (C8.fnScope s__law_with) := C8.fnScope_by (by decide +kernel)
/-! ### _law_bent -/
def b__law_bent : En → SO := mSeq (mAsg 2 (mFun 2 (m__law_pick) (mAIo 0 (mACons (mFun 2 (m__law_paths 12) (mACons (mVar 1) (mACons (mCall fTup (mANil)) (mANil)))) (mANil))))) (mSeq (mAsg 3 (mVar 1)) (mSeq (mFor (mWalk (mVar 2)) (gSet 4) (mAsg 3 (mOp fIx (mVar 3) (mVar 4)))) (mSeq (mIfS (mB (mIsi ["tuple", "list"] (mVar 3))) (mAsg 5 (mCall fLst (mACons (mIf (mB (mIsi ["tuple"] (mVar 3))) (mCall (f1 fList) (mACons (mVar 3) (mANil))) (mCall (f1 fTuple) (mACons (mVar 3) (mANil)))) (mACons (mSl (mVar 3) none (some (mUn fNeg (mC (.int 1))))) (mACons (mOp fAdd (mVar 3) (mSl (mVar 3) (some (mUn fNeg (mC (.int 1)))) none)) (mACons (mOp fAdd (mVar 3) (mVar 3)) (mACons (mCall fTup (mANil)) (mACons (mC .none) (mACons (mUn fRev (mVar 3)) (mACons (mC (.int 1)) (mANil))))))))))) (mIfS (mB (mIsi ["bool"] (mVar 3))) (mAsg 5 (mCall fLst (mACons (mNot (mVar 3)) (mACons (mCall (f1 fInt) (mACons (mVar 3) (mANil))) (mACons (mC .none) (mACons (mC (.str "True")) (mANil))))))) (mIfS (mB (mIsi ["int"] (mVar 3))) (mAsg 5 (mCall fLst (mACons (mOp fAdd (mVar 3) (mC (.int 1))) (mACons (mOp fSub (mVar 3) (mC (.int 1))) (mACons (mOp fSub (mC (.int 0)) (mVar 3)) (mACons (mC (.bool true)) (mACons (mC (.bool false)) (mACons (mC .none) (mACons (mC (.int 10)) (mACons (mC (.int 9)) (mACons (mC (.int 0)) (mACons (mCall fTup (mACons (mVar 3) (mANil))) (mACons (mCall (f1 fStrI) (mACons (mVar 3) (mANil))) (mANil)))))))))))))) (mIfS (mB (mIsi ["str"] (mVar 3))) (mAsg 5 (mCall fLst (mACons (mC (.str "fact")) (mACons (mC (.str "issue")) (mACons (mC (.str "Book")) (mACons (mC (.str "")) (mACons (mC .none) (mACons (mCall fTup (mACons (mC (.str "fact")) (mANil))) (mANil))))))))) (mAsg 5 (mCall fLst (mACons (mC (.int 0)) (mACons (mC (.bool false)) (mACons (mCall fTup (mANil)) (mACons (mC (.str "None")) (mANil))))))))))) (mRet (mFun 3 (m__law_with 12) (mACons (mVar 1) (mACons (mVar 2) (mACons (mFun 2 (m__law_pick) (mAIo 0 (mACons (mVar 5) (mANil)))) (mANil)))))))))
def m__law_bent : List DL.Arg → FO := mDef 2 6 b__law_bent
theorem sc__law_bent : FnScope ["pot", "value", "path", "old", "at", "some"] ["pot", "value"] (C8.fnScope s__law_bent) := C8.fnScope_by (by decide +kernel)
/-! ### _law_greatest -/
def b__law_greatest : En → SO := mSeq (mAsg 0 (mCall (f1 fTuple) (mACons (mLc (mWA wRng1 (mACons (mC (.int 8)) (mANil))) (gSet 5) (mC (.bool true)) (mCall fTup (mACons (mC (.str "fact")) (mACons (mVar 5) (mACons (mOp fMod (mCall (f1 fInt) (mACons (mVar 5) (mANil))) (mC (.int 2))) (mANil))))) [5]) (mANil)))) (mSeq (mAsg 1 (mOp fAdd (mCall fTup (mACons (mCall fTup (mACons (mC .none) (mACons (mC (.bool true)) (mANil)))) (mANil))) (mCall (f1 fTuple) (mACons (mLc (mWA wRng2 (mACons (mC (.int 1)) (mACons (mC (.int 8)) (mANil)))) (gSet 7) (mC (.bool true)) (mCall fTup (mACons (mOp fSub (mVar 7) (mC (.int 1))) (mACons (mOp fEq (mOp fMod (mCall (f1 fInt) (mACons (mVar 7) (mANil))) (mC (.int 2))) (mC (.int 0))) (mANil)))) [7]) (mANil))))) (mSeq (mAsg 2 (mCall fTup (mACons (mC (.str "book")) (mACons (mOp fMul (mCall fTup (mACons (mC (.int 9)) (mANil))) (mC (.int 10))) (mACons (mOp fAdd (mCall fTup (mACons (mOp fAdd (mSl (mVar 0) none (some (mC (.int 3)))) (mCall (f1 fTuple) (mACons (mLc (mWA wRng2 (mACons (mC (.int 1)) (mACons (mC (.int 6)) (mANil)))) (gSet 8) (mC (.bool true)) (mCall fTup (mACons (mC (.str "issue")) (mACons (mVar 8) (mACons (mC (.int 1)) (mANil))))) [8]) (mANil)))) (mANil))) (mOp fMul (mCall fTup (mACons (mVar 0) (mANil))) (mC (.int 5)))) (mACons (mVar 1) (mANil))))))) (mSeq (mAsg 3 (mCall fLst (mACons (mVar 2) (mACons (mOp fAdd (mOp fAdd (mSl (mVar 2) none (some (mC (.int 1)))) (mCall fTup (mACons (mOp fMul (mCall fTup (mACons (mC (.int 9)) (mANil))) (mC (.int 11))) (mANil)))) (mSl (mVar 2) (some (mC (.int 2))) none)) (mACons (mOp fAdd (mOp fAdd (mSl (mVar 2) none (some (mC (.int 1)))) (mCall fTup (mACons (mOp fAdd (mOp fMul (mCall fTup (mACons (mC (.int 9)) (mANil))) (mC (.int 9))) (mCall fTup (mACons (mC (.int 10)) (mANil)))) (mANil)))) (mSl (mVar 2) (some (mC (.int 2))) none)) (mACons (mOp fAdd (mOp fAdd (mSl (mVar 2) none (some (mC (.int 2)))) (mCall fTup (mACons (mOp fAdd (mOp fIx (mVar 2) (mC (.int 2))) (mCall fTup (mACons (mVar 0) (mANil)))) (mANil)))) (mSl (mVar 2) (some (mC (.int 3))) none)) (mACons (mOp fAdd (mSl (mVar 2) none (some (mC (.int 3)))) (mCall fTup (mACons (mOp fAdd (mVar 1) (mCall fTup (mACons (mCall fTup (mACons (mC (.int 0)) (mACons (mC (.bool true)) (mANil)))) (mANil)))) (mANil)))) (mANil)))))))) (mSeq (mAsg 4 (mCall fLst (mACons (mOp fAdd (mCall fTup (mACons (mOp fAdd (mVar 0) (mCall fTup (mACons (mCall fTup (mACons (mC (.str "fact")) (mACons (mC (.int 8)) (mACons (mC (.int 1)) (mANil))))) (mANil)))) (mANil))) (mSl (mOp fIx (mVar 2) (mC (.int 2))) (some (mC (.int 1))) none)) (mACons (mOp fAdd (mSl (mOp fIx (mVar 2) (mC (.int 2))) none (some (mC (.int 5)))) (mCall fTup (mACons (mCall fTup (mACons (mCall fTup (mACons (mC (.str "issue")) (mACons (mC (.int 5)) (mACons (mC (.int 1)) (mANil))))) (mANil))) (mANil)))) (mACons (mOp fAdd (mSl (mOp fIx (mVar 2) (mC (.int 2))) none (some (mC (.int 4)))) (mCall fTup (mACons (mCall fTup (mACons (mCall fTup (mACons (mC (.str "issue")) (mACons (mC (.int 5)) (mACons (mC (.int 1)) (mANil))))) (mANil))) (mACons (mVar 0) (mANil))))) (mANil)))))) (mSeq (mDrop (mMeth 4 fExtend (mCall fLst (mACons (mOp fAdd (mOp fAdd (mSl (mOp fIx (mVar 2) (mC (.int 2))) none (some (mC (.int 1)))) (mCall fTup (mACons (mCall fTup (mACons (mCall fTup (mACons (mC (.str "fact")) (mACons (mC (.int 9)) (mACons (mC (.int 0)) (mANil))))) (mACons (mCall fTup (mACons (mC (.str "fact")) (mACons (mC (.int 9)) (mACons (mC (.int 1)) (mANil))))) (mANil)))) (mANil)))) (mSl (mOp fIx (mVar 2) (mC (.int 2))) (some (mC (.int 2))) none)) (mACons (mCall fTup (mANil)) (mANil)))))) (mSeq (mDrop (mMeth 3 fExtend (mLc (mWalk (mVar 4)) (gSet 6) (mC (.bool true)) (mOp fAdd (mOp fAdd (mSl (mVar 2) none (some (mC (.int 2)))) (mCall fTup (mACons (mVar 6) (mANil)))) (mSl (mVar 2) (some (mC (.int 3))) none)) [6]))) (mRet (mOp fAdd (mVar 3) (mLc (mWalk (mCall fTup (mACons (mOp fAdd (mSl (mVar 1) none (some (mC (.int 1)))) (mCall fTup (mACons (mCall fTup (mACons (mC (.int 1)) (mACons (mC (.bool true)) (mANil)))) (mANil)))) (mACons (mCall fTup (mACons (mCall fTup (mACons (mC (.int 0)) (mACons (mC (.bool true)) (mANil)))) (mANil))) (mACons (mCall fTup (mANil)) (mACons (mOp fAdd (mSl (mVar 1) none (some (mC (.int 7)))) (mCall fTup (mACons (mCall fTup (mACons (mC (.int 6)) (mACons (mC (.int 1)) (mANil)))) (mANil)))) (mANil))))))) (gSet 6) (mC (.bool true)) (mOp fAdd (mSl (mVar 2) none (some (mC (.int 3)))) (mCall fTup (mACons (mVar 6) (mANil)))) [6])))))))))
def m__law_greatest : List DL.Arg → FO := mDef 0 9 b__law_greatest
theorem sc__law_greatest : FnScope ["row", "courts", "book", "more", "issues", "fact", "some", "court", "issue"] [] (C8.fnScope s__law_greatest) := C8.fnScope_by (by decide +kernel)
/-! ### _law_heard -/
def hb__law_heard (o : LO) : En → SO := mSeq (mAsg 1 (mC .none)) (mSeq (mTryAs 3 2 tst_InvalidBook (mAsg 1 (mCall0 o)) (fun y => mAsg 1 (mCall fLst (mACons (mC (.str "book")) (mACons (mCall (f1 fRepr) (mACons (mXf 2 "value" y) (mANil))) (mACons (mIsE 2 true) (mANil))))))) (mRet (mVar 1)))
theorem sc__law_heard : FnScope ["call", "told", "e"] ["call"] (C8.fnScope s__law_heard) := C8.fnScope_by (by decide +kernel)
/-! ### _law_value_right -/
def b__law_value_right : En → SO := mSeq (mPar 4 5 (mFun 1 (m__law_flaw) (mACons (mVar 0) (mANil))) (mCall (f1 fRepr) (mACons (mVar 0) (mANil)))) (mSeq (mIfS (mB (mOp fNe (mCall (f1 fRepr) (mACons (mCall fLst (mACons (mFun 1 (m_is_book) (mACons (mVar 0) (mANil))) (mACons (mFun 1 (m_book_flaw) (mACons (mVar 0) (mANil))) (mACons (mKw 0 1 1 [0] m_is_book mANil (mACons (mVar 0) (mANil))) (mACons (mKw 0 1 1 [0] m_book_flaw mANil (mACons (mVar 0) (mANil))) (mANil)))))) (mANil))) (mCall (f1 fRepr) (mACons (mOp fMul (mCall fLst (mACons (mOp fIsN (mVar 4) (mC .none)) (mACons (mVar 4) (mANil)))) (mC (.int 2))) (mANil))))) (mRet (mC (.bool false))) (mNext)) (mSeq (mAsg 1 (mHeard 3 hb__law_heard (mFun 2 (m_count_points) (mACons (mVar 0) (mACons (mC (.int 0)) (mANil)))))) (mSeq (mIfS (mB (mOp fNotN (mVar 4) (mC .none))) (mRet (mAnd (mOp fEq (mVar 1) (mCall fLst (mACons (mC (.str "book")) (mACons (mVar 5) (mACons (mC (.bool true)) (mANil)))))) (mOp fEq (mCall (f1 fRepr) (mACons (mVar 0) (mANil))) (mVar 5)))) (mNext)) (mSeq (mAsg 2 (mC (.int 1))) (mSeq (mFor (mWalk (mOp fIx (mOp fIx (mVar 0) (mC (.int 2))) (mC (.int 0)))) (gSet 3) (mAsg 2 (mOp fMul (mVar 2) (mOp fAdd (mFun 2 (m__law_most_of) (mACons (mVar 0) (mACons (mVar 3) (mANil)))) (mC (.int 1)))))) (mRet (mAnd (mOp fEq (mVar 1) (mVar 2)) (mOp fEq (mCall (f1 fRepr) (mACons (mVar 0) (mANil))) (mVar 5)))))))))
def m__law_value_right : List DL.Arg → FO := mDef 1 6 b__law_value_right
theorem sc__law_value_right : FnScope ["value", "told", "many", "ground", "due", "shown"] ["value"] (C8.fnScope s__law_value_right) := C8.fnScope_by (by decide +kernel)
/-! ### _law_right -/
def b__law_right : En → SO := mSeq (mFor (mWA wRng1 (mACons (mC (.int 3)) (mANil))) (gSet 1) (mSeq (mAsg 2 (mFun 4 (m__law_book) (mAIo 0 (mACons (mC (.int 3)) (mACons (mC (.int 3)) (mACons (mC (.int 3)) (mANil))))))) (mSeq (mAsg 3 (mOp fAdd (mOp fAdd (mCall fLst (mACons (mVar 2) (mANil))) (mLc (mWA wRng1 (mACons (mC (.int 9)) (mANil))) (gSet 4) (mC (.bool true)) (mFun 2 (m__law_bent) (mAIo 0 (mACons (mVar 2) (mANil)))) [4])) (mLc (mWA wRng1 (mACons (mC (.int 3)) (mANil))) (gSet 4) (mC (.bool true)) (mFun 2 (m__law_bent) (mAIo 0 (mACons (mFun 2 (m__law_bent) (mAIo 0 (mACons (mVar 2) (mANil)))) (mANil)))) [4]))) (mIfS (mB (mOp fNe (mLc (mWalk (mVar 3)) (gSet 5) (mNot (mB (mFun 1 (m__law_value_right) (mACons (mVar 5) (mANil))))) (mVar 5) [5]) (mCall fLst (mANil)))) (mRet (mC (.bool false))) (mNext))))) (mRet (mC (.bool true)))
def m__law_right : List DL.Arg → FO := mDef 1 6 b__law_right
theorem sc__law_right : FnScope ["pot", "time", "book", "values", "turn", "value"] ["pot"] (C8.fnScope s__law_right) := C8.fnScope_by (by decide +kernel)
/-! ### law -/
def b_law : En → SO := mSeq (mIfS (mB (mOp fNe (mLc (mWalk (mOp fAdd (mFun 0 (m__law_greatest) mANil) (mCall fLst (mACons (mC .none) (mACons (mC (.int 0)) (mACons (mCall fTup (mANil)) (mACons (mC (.str "book")) (mACons (mCall fLst (mACons (mC (.str "book")) (mANil))) (mANil))))))))) (gSet 1) (mNot (mB (mFun 1 (m__law_value_right) (mACons (mVar 1) (mANil))))) (mVar 1) [1]) (mCall fLst (mANil)))) (mRet (mC (.bool false))) (mNext)) (mRet (mCall (f1 fAll) (mACons (mLc (mWA wRng1 (mACons (mCall (f2 fMax) (mACons (mC (.int 1)) (mACons (mCall (f2 fMin) (mACons (mC (.int 2)) (mACons (mCall (f1 fLen) (mACons (mVar 0) (mANil))) (mANil)))) (mANil)))) (mANil))) (gSet 2) (mC (.bool true)) (mFunT (m__law_right) (mFun 2 (m__law_pot) (mACons (mVar 0) (mACons (mVar 2) (mANil))))) [2]) (mANil))))
def m_law : List DL.Arg → FO := mDef 1 3 b_law
theorem sc_law : FnScope ["script", "value", "k"] ["script"] (C8.fnScope s_law) := C8.fnScope_by (by decide +kernel)
section
variable [Tb] {P : Program} {w : World} {K : PySem.W.Frag} {mg : Str → Option Value} {base : Heap} {C_InvalidBook C_InvalidIssue C_WorkError : Addr} (T : Fx K mg C_InvalidBook C_InvalidIssue C_WorkError)
include T
theorem ok_is_integer {g : Bool}  {f : Addr} {fd : FuncData} (F : C8.Fun K "is_integer" "is_integer" s_is_integer f fd) : FnM g P w K mg base 1 f fd ["value"] (spM K mg 1 m_is_integer) := by
  obtain ⟨oc, od, dV, kV, doc, pm, an, cdv, ct, osl, rfl, lk, hcd⟩ := F.ex
  refine fnM_of lk hcd sc_is_integer fun A outer s H E cx => ?_
  exact jb_one (js_ret (je_and (je_isi T.n_isinstance (je_var 0) rfl T.n_int) (je_one (je_not (je_isi T.n_isinstance (je_var 0) rfl T.n_bool)))))
theorem ok_is_within {g : Bool} (h_is_integer : DefOk g P w K mg base 1 "is_integer" 1 (m_is_integer)) {f : Addr} {fd : FuncData} (F : C8.Fun K "is_within" "is_within" s_is_within f fd) : FnM g P w K mg base 2 f fd ["value", "least", "most"] (spM K mg 3 m_is_within) := by
  obtain ⟨oc, od, dV, kV, doc, pm, an, cdv, ct, osl, rfl, lk, hcd⟩ := F.ex
  refine fnM_of lk hcd sc_is_within fun A outer s H E cx => ?_
  exact jb_one (js_ret (je_and (je_call (h_is_integer.mono (by omega)) cx (ja_cons (je_var 0) (ja_nil))) (je_one (je_chain op_le op_le vC vC feC (je_var 1) (je_var 0) (je_var 2)))))
theorem ok_is_tuple {g : Bool}  {f : Addr} {fd : FuncData} (F : C8.Fun K "is_tuple" "is_tuple" s_is_tuple f fd) : FnM g P w K mg base 1 f fd ["value", "many"] (spM K mg 2 m_is_tuple) := by
  obtain ⟨oc, od, dV, kV, doc, pm, an, cdv, ct, osl, rfl, lk, hcd⟩ := F.ex
  refine fnM_of lk hcd sc_is_tuple fun A outer s H E cx => ?_
  exact jb_one (js_ret (je_and (je_isi T.n_isinstance (je_var 0) rfl T.n_tuple) (je_one (je_cmp (op_eqD cx.u4) vEq (je_callB DL.call_lenD DL.vLen T.n_len (ja_cons (je_var 0) (ja_nil))) (je_var 1) (by rfl)))))
theorem ok_are_mosts {g : Bool} (h_is_within : DefOk g P w K mg base 2 "is_within" 3 (m_is_within)) {f : Addr} {fd : FuncData} (F : C8.Fun K "are_mosts" "are_mosts" s_are_mosts f fd) : FnM g P w K mg base 3 f fd ["value"] (spM K mg 1 m_are_mosts) := by
  obtain ⟨oc, od, dV, kV, doc, pm, an, cdv, ct, osl, rfl, lk, hcd⟩ := F.ex
  refine fnM_of lk hcd sc_are_mosts fun A outer s H E cx => ?_
  exact jb_cons (js_if ((jw_or (jt_not (jt_val (je_isi T.n_isinstance (je_var 0) rfl T.n_tuple))) (jw_or1 (jt_not (jt_chain op_le op_le vC vC feC (je_int) (je_callB DL.call_lenD DL.vLen T.n_len (ja_cons (je_var 0) (ja_nil))) (je_glob T.c_MOST_FACTS))))).jt) (jb_one (js_ret (je_bl))) (jb_nil)) (jb_one (js_ret (je_callB (cr_all cx.calm) vAll T.n_all (ja_cons (je_lc [("one", 1)] cx.calm cx.nd (ji_seq (je_var 0)) (fun _ _ _ _ _ => jg_name (i := 1) cx.blk.nd) (fun _ _ _ _ _ => jts_nil) (fun _ _ _ _ _ => je_call (h_is_within.mono (by omega)) cx.blk (ja_cons (je_var 1) (ja_cons (je_int) (ja_cons (je_glob T.c_MOST_AMOUNT) (ja_nil)))))) (ja_nil)))))
theorem ok_is_ground {g : Bool} (h_is_tuple : DefOk g P w K mg base 1 "is_tuple" 2 (m_is_tuple)) (h_is_within : DefOk g P w K mg base 2 "is_within" 3 (m_is_within)) {f : Addr} {fd : FuncData} (F : C8.Fun K "is_ground" "is_ground" s_is_ground f fd) : FnM g P w K mg base 3 f fd ["value", "facts", "issues", "own"] (spM K mg 4 m_is_ground) := by
  obtain ⟨oc, od, dV, kV, doc, pm, an, cdv, ct, osl, rfl, lk, hcd⟩ := F.ex
  refine fnM_of lk hcd sc_is_ground fun A outer s H E cx => ?_
  exact jb_cons (js_if ((jw_or (jt_not (jt_val (je_call (h_is_tuple.mono (by omega)) cx (ja_cons (je_var 0) (ja_cons (je_int) (ja_nil)))))) (jw_or (jt_not (jt_val (je_isi T.n_isinstance (je_item (je_var 0) (je_int)) rfl T.n_str))) (jw_or1 (jt_not (jt_val (je_call (h_is_within.mono (by omega)) cx (ja_cons (je_item (je_var 0) (je_int)) (ja_cons (je_int) (ja_cons (je_int) (ja_nil)))))))))).jt) (jb_one (js_ret (je_bl))) (jb_nil)) (jb_cons (js_if (jt_cmp (op_eqD cx.u4) vEq (je_item (je_var 0) (je_int)) (je_glob T.c_FACT) (by rfl)) (jb_one (js_ret (je_call (h_is_within.mono (by omega)) cx (ja_cons (je_item (je_var 0) (je_int)) (ja_cons (je_int) (ja_cons (je_op op_sub (vI (g := fun i j => i - j)) (je_var 1) (je_int)) (ja_nil))))))) (jb_nil)) (jb_one (js_ret (je_and (je_cmp (op_eqD cx.u4) vEq (je_item (je_var 0) (je_int)) (je_glob T.c_ISSUE) (by rfl)) (je_one (je_call (h_is_within.mono (by omega)) cx (ja_cons (je_item (je_var 0) (je_int)) (ja_cons (je_op op_addD vAdd (je_var 3) (je_int)) (ja_cons (je_op op_sub (vI (g := fun i j => i - j)) (je_var 2) (je_int)) (ja_nil))))))))))
theorem ok_is_issue_of {g : Bool} (h_is_ground : DefOk g P w K mg base 3 "is_ground" 4 (m_is_ground)) {f : Addr} {fd : FuncData} (F : C8.Fun K "is_issue_of" "is_issue_of" s_is_issue_of f fd) : FnM g P w K mg base 4 f fd ["value", "facts", "issues", "own"] (spM K mg 4 m_is_issue_of) := by
  obtain ⟨oc, od, dV, kV, doc, pm, an, cdv, ct, osl, rfl, lk, hcd⟩ := F.ex
  refine fnM_of lk hcd sc_is_issue_of fun A outer s H E cx => ?_
  exact jb_cons (js_if ((jw_or (jt_not (jt_val (je_isi T.n_isinstance (je_var 0) rfl T.n_tuple))) (jw_or1 (jt_not (jt_chain op_le op_le vC vC feC (je_int) (je_callB DL.call_lenD DL.vLen T.n_len (ja_cons (je_var 0) (ja_nil))) (je_glob T.c_MOST_GROUNDS))))).jt) (jb_one (js_ret (je_bl))) (jb_nil)) (jb_cons (js_if (jt_not (jt_val (je_callB (cr_all cx.calm) vAll T.n_all (ja_cons (je_lc [("one", 4)] cx.calm cx.nd (ji_seq (je_var 0)) (fun _ _ _ _ _ => jg_name (i := 4) cx.blk.nd) (fun _ _ _ _ _ => jts_nil) (fun _ _ _ _ _ => je_call (h_is_ground.mono (by omega)) cx.blk (ja_cons (je_var 4) (ja_cons (je_var 1) (ja_cons (je_var 2) (ja_cons (je_var 3) (ja_nil))))))) (ja_nil))))) (jb_one (js_ret (je_bl))) (jb_nil)) (jb_one (js_ret (je_cmp (op_eqD cx.u4) vEq (je_lenSet cx T.n_len T.n_set (je_lc [("one", 4)] cx.calm cx.nd (ji_seq (je_var 0)) (fun _ _ _ _ _ => jg_name (i := 4) cx.blk.nd) (fun _ _ _ _ _ => jts_nil) (fun _ _ _ _ _ => je_slice (je_var 4) jo_none (jo_some (je_int))))) (je_callB DL.call_lenD DL.vLen T.n_len (ja_cons (je_var 0) (ja_nil))) (by rfl)))))
theorem ok_is_court_of {g : Bool} (h_is_tuple : DefOk g P w K mg base 1 "is_tuple" 2 (m_is_tuple)) (h_is_within : DefOk g P w K mg base 2 "is_within" 3 (m_is_within)) {f : Addr} {fd : FuncData} (F : C8.Fun K "is_court_of" "is_court_of" s_is_court_of f fd) : FnM g P w K mg base 3 f fd ["value", "own"] (spM K mg 2 m_is_court_of) := by
  obtain ⟨oc, od, dV, kV, doc, pm, an, cdv, ct, osl, rfl, lk, hcd⟩ := F.ex
  refine fnM_of lk hcd sc_is_court_of fun A outer s H E cx => ?_
  exact jb_cons (js_if ((jw_or (jt_not (jt_val (je_call (h_is_tuple.mono (by omega)) cx (ja_cons (je_var 0) (ja_cons (je_int) (ja_nil)))))) (jw_or1 (jt_not (jt_val (je_isi T.n_isinstance (je_item (je_var 0) (je_int)) rfl T.n_bool))))).jt) (jb_one (js_ret (je_bl))) (jb_nil)) (jb_one (js_ret (je_ifExp (jt_cmp (op_eqD cx.u4) vEq (je_var 1) (je_int) (by rfl)) (je_cmp op_isN vIsN (je_item (je_var 0) (je_int)) (je_non) (by rfl)) (je_call (h_is_within.mono (by omega)) cx (ja_cons (je_item (je_var 0) (je_int)) (ja_cons (je_int) (ja_cons (je_op op_sub (vI (g := fun i j => i - j)) (je_var 1) (je_int)) (ja_nil))))))))
theorem ok_is_book_any {g : Bool} (h_are_mosts : DefOk g P w K mg base 3 "are_mosts" 1 (m_are_mosts)) (h_is_court_of : DefOk g P w K mg base 3 "is_court_of" 2 (m_is_court_of)) (h_is_issue_of : DefOk g P w K mg base 4 "is_issue_of" 4 (m_is_issue_of)) (h_is_tuple : DefOk g P w K mg base 1 "is_tuple" 2 (m_is_tuple)) {f : Addr} {fd : FuncData} (F : C8.Fun K "is_book_any" "is_book_any" s_is_book_any f fd) : FnM g P w K mg base 5 f fd ["value"] (spM K mg 1 m_is_book_any) := by
  obtain ⟨oc, od, dV, kV, doc, pm, an, cdv, ct, osl, rfl, lk, hcd⟩ := F.ex
  refine fnM_of lk hcd sc_is_book_any fun A outer s H E cx => ?_
  exact jb_cons (js_if ((jw_or (jt_not (jt_val (je_call (h_is_tuple.mono (by omega)) cx (ja_cons (je_var 0) (ja_cons (je_int) (ja_nil)))))) (jw_or (jt_not (jt_val (je_isi T.n_isinstance (je_item (je_var 0) (je_int)) rfl T.n_str))) (jw_or (jt_cmp (op_neD cx.u4) vNe (je_item (je_var 0) (je_int)) (je_str) (by rfl)) (jw_or1 (jt_not (jt_val (je_call (h_are_mosts.mono (by omega)) cx (ja_cons (je_item (je_var 0) (je_int)) (ja_nil))))))))).jt) (jb_one (js_ret (je_bl))) (jb_nil)) (jb_cons (js_asg (je_tup (ja_cons (je_item (je_var 0) (je_int)) (ja_cons (je_item (je_var 0) (je_int)) (ja_nil)))) (jg_tup cx.calm (jgs_cons (jg_name (i := 1) cx.nd) (jgs_cons (jg_name (i := 2) cx.nd) (jgs_nil))))) (jb_cons (js_if ((jw_or (jt_not (jt_val (je_isi T.n_isinstance (je_var 1) rfl T.n_tuple))) (jw_or1 (jt_not (jt_chain op_le op_le vC vC feC (je_int) (je_callB DL.call_lenD DL.vLen T.n_len (ja_cons (je_var 1) (ja_nil))) (je_glob T.c_MOST_ISSUES))))).jt) (jb_one (js_ret (je_bl))) (jb_nil)) (jb_cons (js_if (jt_not (jt_val (je_callB (cr_all cx.calm) vAll T.n_all (ja_cons (je_lc [("own", 3), ("one", 4)] cx.calm cx.nd (ji_enum (ja_cons (je_var 1) (ja_nil)) (by rfl) T.n_enumerate) (fun _ _ _ _ _ => jg_tup cx.blk.calm (jgs_cons (jg_name (i := 3) cx.blk.nd) (jgs_cons (jg_name (i := 4) cx.blk.nd) (jgs_nil)))) (fun _ _ _ _ _ => jts_nil) (fun _ _ _ _ _ => je_call (h_is_issue_of.mono (by omega)) cx.blk (ja_cons (je_var 4) (ja_cons (je_callB DL.call_lenD DL.vLen T.n_len (ja_cons (je_item (je_var 0) (je_int)) (ja_nil))) (ja_cons (je_callB DL.call_lenD DL.vLen T.n_len (ja_cons (je_var 1) (ja_nil))) (ja_cons (je_var 3) (ja_nil))))))) (ja_nil))))) (jb_one (js_ret (je_bl))) (jb_nil)) (jb_cons (js_if ((jw_or (jt_not (jt_val (je_isi T.n_isinstance (je_var 2) rfl T.n_tuple))) (jw_or1 (jt_not (jt_chain op_le op_le vC vC feC (je_int) (je_callB DL.call_lenD DL.vLen T.n_len (ja_cons (je_var 2) (ja_nil))) (je_glob T.c_MOST_COURTS))))).jt) (jb_one (js_ret (je_bl))) (jb_nil)) (jb_one (js_ret (je_callB (cr_all cx.calm) vAll T.n_all (ja_cons (je_lc [("own", 3), ("one", 4)] cx.calm cx.nd (ji_enum (ja_cons (je_var 2) (ja_nil)) (by rfl) T.n_enumerate) (fun _ _ _ _ _ => jg_tup cx.blk.calm (jgs_cons (jg_name (i := 3) cx.blk.nd) (jgs_cons (jg_name (i := 4) cx.blk.nd) (jgs_nil)))) (fun _ _ _ _ _ => jts_nil) (fun _ _ _ _ _ => je_call (h_is_court_of.mono (by omega)) cx.blk (ja_cons (je_var 4) (ja_cons (je_var 3) (ja_nil))))) (ja_nil)))))))))
theorem ok_want_book {g : Bool} (h_raise_InvalidBook : RaiseOk P w K mg base 1 "InvalidBook" ["value"]) (h_is_book_any : DefOk g P w K mg base 5 "is_book_any" 1 (m_is_book_any)) {f : Addr} {fd : FuncData} (F : C8.Fun K "want_book" "want_book" s_want_book f fd) : FnM g P w K mg base 6 f fd ["book"] (spM K mg 1 m_want_book) := by
  obtain ⟨oc, od, dV, kV, doc, pm, an, cdv, ct, osl, rfl, lk, hcd⟩ := F.ex
  refine fnM_of lk hcd sc_want_book fun A outer s H E cx => ?_
  exact jb_one (js_if (jt_not (jt_val (je_call (h_is_book_any.mono (by omega)) cx (ja_cons (je_var 0) (ja_nil))))) (jb_one (js_raise h_raise_InvalidBook cx (ja_cons (je_var 0) (ja_nil)) (by decide))) (jb_nil))
theorem ok_want_issue {g : Bool} (h_raise_InvalidIssue : RaiseOk P w K mg base 1 "InvalidIssue" ["value"]) (h_is_within : DefOk g P w K mg base 2 "is_within" 3 (m_is_within)) {f : Addr} {fd : FuncData} (F : C8.Fun K "want_issue" "want_issue" s_want_issue f fd) : FnM g P w K mg base 4 f fd ["book", "issue"] (spM K mg 2 m_want_issue) := by
  obtain ⟨oc, od, dV, kV, doc, pm, an, cdv, ct, osl, rfl, lk, hcd⟩ := F.ex
  refine fnM_of lk hcd sc_want_issue fun A outer s H E cx => ?_
  exact jb_one (js_if (jt_not (jt_val (je_call (h_is_within.mono (by omega)) cx (ja_cons (je_var 1) (ja_cons (je_int) (ja_cons (je_op op_sub (vI (g := fun i j => i - j)) (je_callB DL.call_lenD DL.vLen T.n_len (ja_cons (je_item (je_var 0) (je_int)) (ja_nil))) (je_int)) (ja_nil))))))) (jb_one (js_raise h_raise_InvalidIssue cx (ja_cons (je_var 1) (ja_nil)) (by decide))) (jb_nil))
theorem ok_mosts_in {g : Bool}  {f : Addr} {fd : FuncData} (F : C8.Fun K "mosts_in" "mosts_in" s_mosts_in f fd) : FnM g P w K mg base 1 f fd ["book", "issue"] (spM K mg 2 m_mosts_in) := by
  obtain ⟨oc, od, dV, kV, doc, pm, an, cdv, ct, osl, rfl, lk, hcd⟩ := F.ex
  refine fnM_of lk hcd sc_mosts_in fun A outer s H E cx => ?_
  exact jb_one (js_ret (je_lc [("kind", 2), ("number", 3), ("side", 4)] cx.calm cx.nd (ji_seq (je_item (je_item (je_var 0) (je_int)) (je_var 1))) (fun _ _ _ _ _ => jg_tup cx.blk.calm (jgs_cons (jg_name (i := 2) cx.blk.nd) (jgs_cons (jg_name (i := 3) cx.blk.nd) (jgs_cons (jg_name (i := 4) cx.blk.nd) (jgs_nil))))) (fun _ _ _ _ _ => jts_nil) (fun _ _ _ _ _ => je_ifExp (jt_cmp (op_eqD cx.blk.u4) vEq (je_var 2) (je_glob T.c_FACT) (by rfl)) (je_item (je_item (je_var 0) (je_int)) (je_var 3)) (je_int))))
theorem ok_flaw_of_book {g : Bool} (h_are_mosts : DefOk g P w K mg base 3 "are_mosts" 1 (m_are_mosts)) (h_is_court_of : DefOk g P w K mg base 3 "is_court_of" 2 (m_is_court_of)) (h_is_issue_of : DefOk g P w K mg base 4 "is_issue_of" 4 (m_is_issue_of)) (h_is_tuple : DefOk g P w K mg base 1 "is_tuple" 2 (m_is_tuple)) {f : Addr} {fd : FuncData} (F : C8.Fun K "flaw_of_book" "flaw_of_book" s_flaw_of_book f fd) : FnM g P w K mg base 5 f fd ["value"] (spM K mg 1 m_flaw_of_book) := by
  obtain ⟨oc, od, dV, kV, doc, pm, an, cdv, ct, osl, rfl, lk, hcd⟩ := F.ex
  refine fnM_of lk hcd sc_flaw_of_book fun A outer s H E cx => ?_
  exact jb_cons (js_if ((jw_or (jt_not (jt_val (je_call (h_is_tuple.mono (by omega)) cx (ja_cons (je_var 0) (ja_cons (je_int) (ja_nil)))))) (jw_or (jt_not (jt_val (je_isi T.n_isinstance (je_item (je_var 0) (je_int)) rfl T.n_str))) (jw_or1 (jt_cmp (op_neD cx.u4) vNe (je_item (je_var 0) (je_int)) (je_str) (by rfl))))).jt) (jb_one (js_ret (je_tup (ja_cons (je_str) (ja_cons (je_non) (ja_nil)))))) (jb_nil)) (jb_cons (js_asg (je_slice (je_var 0) (jo_some (je_int)) jo_none) (jg_tup cx.calm (jgs_cons (jg_name (i := 2) cx.nd) (jgs_cons (jg_name (i := 3) cx.nd) (jgs_cons (jg_name (i := 4) cx.nd) (jgs_nil)))))) (jb_cons (js_if (jt_not (jt_val (je_call (h_are_mosts.mono (by omega)) cx (ja_cons (je_var 2) (ja_nil))))) (jb_one (js_ret (je_tup (ja_cons (je_str) (ja_cons (je_non) (ja_nil)))))) (jb_nil)) (jb_cons (js_if ((jw_or (jt_not (jt_val (je_isi T.n_isinstance (je_var 3) rfl T.n_tuple))) (jw_or1 (jt_not (jt_chain op_le op_le vC vC feC (je_int) (je_callB DL.call_lenD DL.vLen T.n_len (ja_cons (je_var 3) (ja_nil))) (je_glob T.c_MOST_ISSUES))))).jt) (jb_one (js_ret (je_tup (ja_cons (je_str) (ja_cons (je_non) (ja_nil)))))) (jb_nil)) (jb_cons (js_setLc (i := 1) [("own", 5), ("one", 6)] cx.calm cx.nd (ji_enum (ja_cons (je_var 3) (ja_nil)) (by rfl) T.n_enumerate) (fun _ _ _ _ _ => jg_tup cx.blk.calm (jgs_cons (jg_name (i := 5) cx.blk.nd) (jgs_cons (jg_name (i := 6) cx.blk.nd) (jgs_nil)))) (fun _ _ _ _ _ => jts_one (jt_not (jt_val (je_call (h_is_issue_of.mono (by omega)) cx.blk (ja_cons (je_var 6) (ja_cons (je_callB DL.call_lenD DL.vLen T.n_len (ja_cons (je_var 2) (ja_nil))) (ja_cons (je_callB DL.call_lenD DL.vLen T.n_len (ja_cons (je_var 3) (ja_nil))) (ja_cons (je_var 5) (ja_nil))))))))) (fun _ _ _ _ _ => je_var 5)) (jb_cons (js_if (jt_cmp (op_neD cx.u4) vNe (je_var 1) (je_lst (ja_nil)) (by rfl)) (jb_one (js_ret (je_tup (ja_cons (je_str) (ja_cons (je_item (je_var 1) (je_int)) (ja_nil)))))) (jb_nil)) (jb_cons (js_if ((jw_or (jt_not (jt_val (je_isi T.n_isinstance (je_var 4) rfl T.n_tuple))) (jw_or1 (jt_not (jt_chain op_le op_le vC vC feC (je_int) (je_callB DL.call_lenD DL.vLen T.n_len (ja_cons (je_var 4) (ja_nil))) (je_glob T.c_MOST_COURTS))))).jt) (jb_one (js_ret (je_tup (ja_cons (je_str) (ja_cons (je_non) (ja_nil)))))) (jb_nil)) (jb_cons (js_setLc (i := 1) [("own", 5), ("one", 6)] cx.calm cx.nd (ji_enum (ja_cons (je_var 4) (ja_nil)) (by rfl) T.n_enumerate) (fun _ _ _ _ _ => jg_tup cx.blk.calm (jgs_cons (jg_name (i := 5) cx.blk.nd) (jgs_cons (jg_name (i := 6) cx.blk.nd) (jgs_nil)))) (fun _ _ _ _ _ => jts_one (jt_not (jt_val (je_call (h_is_court_of.mono (by omega)) cx.blk (ja_cons (je_var 6) (ja_cons (je_var 5) (ja_nil))))))) (fun _ _ _ _ _ => je_var 5)) (jb_one (js_ret (je_ifExp (jt_cmp (op_neD cx.u4) vNe (je_var 1) (je_lst (ja_nil)) (by rfl)) (je_tup (ja_cons (je_str) (ja_cons (je_item (je_var 1) (je_int)) (ja_nil)))) (je_non)))))))))))
theorem ok_box_of {g : Bool} (h_mosts_in : DefOk g P w K mg base 1 "mosts_in" 2 (m_mosts_in)) {f : Addr} {fd : FuncData} (F : C8.Fun K "box_of" "box_of" s_box_of f fd) : FnM g P w K mg base 2 f fd ["book", "issue", "ruling"] (spM K mg 3 m_box_of) := by
  obtain ⟨oc, od, dV, kV, doc, pm, an, cdv, ct, osl, rfl, lk, hcd⟩ := F.ex
  refine fnM_of lk hcd sc_box_of fun A outer s H E cx => ?_
  exact jb_cons (js_set (i := 3) cx.nd (je_callTy call_tuple_of vTuple T.n_tuple (ja_cons (je_call (h_mosts_in.mono (by omega)) cx (ja_cons (je_var 0) (ja_cons (je_var 1) (ja_nil)))) (ja_nil)))) (jb_one (js_ret (je_ifExp (jt_cmp (op_eqD cx.u4) vEq (je_item (je_var 2) (je_int)) (je_int) (by rfl)) (je_tup (ja_cons (je_item (je_var 2) (je_int)) (ja_cons (je_var 3) (ja_nil)))) (je_tup (ja_cons (je_op op_mulD vMul (je_tup (ja_cons (je_int) (ja_nil))) (je_callB DL.call_lenD DL.vLen T.n_len (ja_cons (je_var 3) (ja_nil)))) (ja_cons (je_item (je_var 2) (je_int)) (ja_nil)))))))
theorem ok_many_in {g : Bool}  {f : Addr} {fd : FuncData} (F : C8.Fun K "many_in" "many_in" s_many_in f fd) : FnM g P w K mg base 1 f fd ["box"] (spM K mg 1 m_many_in) := by
  obtain ⟨oc, od, dV, kV, doc, pm, an, cdv, ct, osl, rfl, lk, hcd⟩ := F.ex
  refine fnM_of lk hcd sc_many_in fun A outer s H E cx => ?_
  exact jb_cons (js_set (i := 1) cx.nd (je_int)) (jb_cons (js_for cx.po cx.calm (ji_zip2 (ja_cons (je_item (je_var 0) (je_int)) (ja_cons (je_item (je_var 0) (je_int)) (ja_nil))) (by rfl) T.n_zip) (jg_tup cx.calm (jgs_cons (jg_name (i := 2) cx.nd) (jgs_cons (jg_name (i := 3) cx.nd) (jgs_nil)))) (jb_one (js_set (i := 1) cx.nd (je_op op_mulD vMul (je_var 1) (je_op op_addD vAdd (je_op op_sub (vI (g := fun i j => i - j)) (je_var 3) (je_var 2)) (je_int)))))) (jb_one (js_ret (je_var 1))))
theorem ok_is_book {g : Bool} (h_is_book_any : DefOk g P w K mg base 5 "is_book_any" 1 (m_is_book_any)) {f : Addr} {fd : FuncData} (F : C8.Fun K "is_book" "is_book" s_is_book f fd) : FnM g P w K mg base 6 f fd ["value"] (spM K mg 1 m_is_book) := by
  obtain ⟨oc, od, dV, kV, doc, pm, an, cdv, ct, osl, rfl, lk, hcd⟩ := F.ex
  refine fnM_of lk hcd sc_is_book fun A outer s H E cx => ?_
  exact jb_one (js_ret (je_call (h_is_book_any.mono (by omega)) cx (ja_cons (je_var 0) (ja_nil))))
theorem ok_book_flaw {g : Bool} (h_flaw_of_book : DefOk g P w K mg base 5 "flaw_of_book" 1 (m_flaw_of_book)) {f : Addr} {fd : FuncData} (F : C8.Fun K "book_flaw" "book_flaw" s_book_flaw f fd) : FnM g P w K mg base 6 f fd ["value"] (spM K mg 1 m_book_flaw) := by
  obtain ⟨oc, od, dV, kV, doc, pm, an, cdv, ct, osl, rfl, lk, hcd⟩ := F.ex
  refine fnM_of lk hcd sc_book_flaw fun A outer s H E cx => ?_
  exact jb_one (js_ret (je_call (h_flaw_of_book.mono (by omega)) cx (ja_cons (je_var 0) (ja_nil))))
theorem ok_count_points {g : Bool} (h_box_of : DefOk g P w K mg base 2 "box_of" 3 (m_box_of)) (h_many_in : DefOk g P w K mg base 1 "many_in" 1 (m_many_in)) (h_want_book : DefOk g P w K mg base 6 "want_book" 1 (m_want_book)) (h_want_issue : DefOk g P w K mg base 4 "want_issue" 2 (m_want_issue)) {f : Addr} {fd : FuncData} (F : C8.Fun K "count_points" "count_points" s_count_points f fd) : FnM g P w K mg base 7 f fd ["book", "issue"] (spM K mg 2 m_count_points) := by
  obtain ⟨oc, od, dV, kV, doc, pm, an, cdv, ct, osl, rfl, lk, hcd⟩ := F.ex
  refine fnM_of lk hcd sc_count_points fun A outer s H E cx => ?_
  exact jb_cons (js_expr (je_call (h_want_book.mono (by omega)) cx (ja_cons (je_var 0) (ja_nil)))) (jb_cons (js_expr (je_call (h_want_issue.mono (by omega)) cx (ja_cons (je_var 0) (ja_cons (je_var 1) (ja_nil))))) (jb_one (js_ret (je_call (h_many_in.mono (by omega)) cx (ja_cons (je_call (h_box_of.mono (by omega)) cx (ja_cons (je_var 0) (ja_cons (je_var 1) (ja_cons (je_tup (ja_cons (je_op op_mulD vMul (je_tup (ja_cons (je_int) (ja_nil))) (je_callB DL.call_lenD DL.vLen T.n_len (ja_cons (je_item (je_item (je_var 0) (je_int)) (je_var 1)) (ja_nil)))) (ja_cons (je_int) (ja_nil)))) (ja_nil))))) (ja_nil))))))
theorem ok__law_pot {g : Bool}  {f : Addr} {fd : FuncData} (F : C8.Fun K "_law_pot" "_law_pot" s__law_pot f fd) : FnM g P w K mg base 1 f fd ["script", "k"] (spM K mg 2 m__law_pot) := by
  obtain ⟨oc, od, dV, kV, doc, pm, an, cdv, ct, osl, rfl, lk, hcd⟩ := F.ex
  refine fnM_of lk hcd sc__law_pot fun A outer s H E cx => ?_
  exact jb_cons (js_set (i := 2) cx.nd (je_ifExp (jt_cmp op_lt vC (je_var 1) (je_callB DL.call_lenD DL.vLen T.n_len (ja_cons (je_var 0) (ja_nil))) (by rfl)) (je_callB call_abs vAbs T.n_abs (ja_cons (je_item (je_var 0) (je_var 1)) (ja_nil))) (je_op op_addD vAdd (je_op op_mulD vMul (je_int) (je_var 1)) (je_int)))) (jb_one (js_ret (je_lst (ja_cons (je_callB (call_max2 cx.calm) vMax T.n_max (ja_cons (je_int) (ja_cons (je_op op_sub (vI (g := fun i j => i - j)) (je_var 2) (je_op op_pow vPow (je_int) (je_int))) (ja_nil)))) (ja_cons (je_op op_addD vAdd (je_op op_mod vMod (je_callTy call_int1 vInt T.n_int (ja_cons (je_op op_addD vAdd (je_op op_addD vAdd (je_op op_mulD vMul (je_op op_mod vMod (je_callTy call_int1 vInt T.n_int (ja_cons (je_var 2) (ja_nil))) (je_int)) (je_int)) (je_op op_mulD vMul (je_int) (je_var 1))) (je_int)) (ja_nil))) (je_int)) (je_int)) (ja_nil))))))
theorem ok__law_draw {g : Bool}  {f : Addr} {fd : FuncData} (F : C8.Fun K "_law_draw" "_law_draw" s__law_draw f fd) : FnM g P w K mg base 1 f fd ["pot", "many"] (spM K mg 2 m__law_draw) := by
  obtain ⟨oc, od, dV, kV, doc, pm, an, cdv, ct, osl, rfl, lk, hcd⟩ := F.ex
  refine fnM_of lk hcd sc__law_draw fun A outer s H E cx => ?_
  exact jb_cons (js_if (jt_cmp op_gt vC (je_pkIx 0 (je_int)) (je_int) (by rfl)) (jb_cons (js_asg (je_callB call_divmod vDivmod T.n_divmod (ja_cons (je_pkIx 0 (je_int)) (ja_cons (je_var 1) (ja_nil)))) (jg_tup cx.calm (jgs_cons (jg_ix (i := 0)) (jgs_cons (jg_name (i := 2) cx.nd) (jgs_nil))))) (jb_one (js_ret (je_var 2)))) (jb_nil)) (jb_cons (js_asg (je_op op_mod vMod (je_callTy call_int1 vInt T.n_int (ja_cons (je_op op_addD vAdd (je_op op_mulD vMul (je_pkIx 0 (je_int)) (je_int)) (je_int)) (ja_nil))) (je_int)) (jg_ix (i := 0))) (jb_one (js_ret (je_op op_mod vMod (je_callTy call_int1 vInt T.n_int (ja_cons (je_op op_fdiv vDiv (je_op op_mod vMod (je_callTy call_int1 vInt T.n_int (ja_cons (je_op op_mulD vMul (je_pkIx 0 (je_int)) (je_pkIx 0 (je_int))) (ja_nil))) (je_int)) (je_int)) (ja_nil))) (je_var 1)))))
theorem ok__law_pick {g : Bool} (h__law_draw : DefOk g P w K mg base 1 "_law_draw" 2 (m__law_draw)) {f : Addr} {fd : FuncData} (F : C8.Fun K "_law_pick" "_law_pick" s__law_pick f fd) : FnM g P w K mg base 2 f fd ["pot", "some"] (spM K mg 2 m__law_pick) := by
  obtain ⟨oc, od, dV, kV, doc, pm, an, cdv, ct, osl, rfl, lk, hcd⟩ := F.ex
  refine fnM_of lk hcd sc__law_pick fun A outer s H E cx => ?_
  exact jb_one (js_ret (je_item (je_var 1) (je_call (h__law_draw.mono (by omega)) cx (ja_io 0 (ja_cons (je_callB DL.call_lenD DL.vLen T.n_len (ja_cons (je_var 1) (ja_nil))) (ja_nil))))))
theorem ok__law_most_of {g : Bool}  {f : Addr} {fd : FuncData} (F : C8.Fun K "_law_most_of" "_law_most_of" s__law_most_of f fd) : FnM g P w K mg base 1 f fd ["book", "ground"] (spM K mg 2 m__law_most_of) := by
  obtain ⟨oc, od, dV, kV, doc, pm, an, cdv, ct, osl, rfl, lk, hcd⟩ := F.ex
  refine fnM_of lk hcd sc__law_most_of fun A outer s H E cx => ?_
  exact jb_one (js_ret (je_ifExp (jt_cmp (op_eqD cx.u4) vEq (je_item (je_var 1) (je_int)) (je_str) (by rfl)) (je_item (je_item (je_var 0) (je_int)) (je_item (je_var 1) (je_int))) (je_int)))
theorem ok__law_issue {g : Bool} (h__law_draw : DefOk g P w K mg base 1 "_law_draw" 2 (m__law_draw)) (h__law_pick : DefOk g P w K mg base 2 "_law_pick" 2 (m__law_pick)) {f : Addr} {fd : FuncData} (F : C8.Fun K "_law_issue" "_law_issue" s__law_issue f fd) : FnM g P w K mg base 3 f fd ["pot", "facts", "issue", "issues", "most"] (spM K mg 5 m__law_issue) := by
  obtain ⟨oc, od, dV, kV, doc, pm, an, cdv, ct, osl, rfl, lk, hcd⟩ := F.ex
  refine fnM_of lk hcd sc__law_issue fun A outer s H E cx => ?_
  exact jb_cons (js_setLc (i := 5) [("fact", 8)] cx.calm cx.nd (ji_range1 (ja_cons (je_var 1) (ja_nil)) (by rfl) T.n_range) (fun _ _ _ _ _ => jg_name (i := 8) cx.blk.nd) (fun _ _ _ _ _ => jts_one (jt_cmp op_gt vC (je_call (h__law_draw.mono (by omega)) cx.blk (ja_io 0 (ja_cons (je_int) (ja_nil)))) (je_int) (by rfl))) (fun _ _ _ _ _ => je_tup (ja_cons (je_str) (ja_cons (je_var 8) (ja_cons (je_call (h__law_draw.mono (by omega)) cx.blk (ja_io 0 (ja_cons (je_int) (ja_nil)))) (ja_nil)))))) (jb_cons (js_set (i := 5) cx.nd (je_op op_addD vAdd (je_var 5) (je_lc [("other", 9)] cx.calm cx.nd (ji_range2 (ja_cons (je_op op_addD vAdd (je_var 2) (je_int)) (ja_cons (je_var 3) (ja_nil))) (by rfl) T.n_range) (fun _ _ _ _ _ => jg_name (i := 9) cx.blk.nd) (fun _ _ _ _ _ => jts_one (jt_cmp op_gt vC (je_call (h__law_draw.mono (by omega)) cx.blk (ja_io 0 (ja_cons (je_int) (ja_nil)))) (je_int) (by rfl))) (fun _ _ _ _ _ => je_tup (ja_cons (je_str) (ja_cons (je_var 9) (ja_cons (je_call (h__law_pick.mono (by omega)) cx.blk (ja_io 0 (ja_cons (je_lst (ja_cons (je_int) (ja_cons (je_int) (ja_cons (je_int) (ja_nil))))) (ja_nil)))) (ja_nil)))))))) (jb_cons (js_if (jt_cmp (op_eqD cx.u4) vEq (je_var 5) (je_lst (ja_nil)) (by rfl)) (jb_one (js_set (i := 5) cx.nd (je_lst (ja_cons (je_tup (ja_cons (je_str) (ja_cons (je_call (h__law_draw.mono (by omega)) cx (ja_io 0 (ja_cons (je_var 1) (ja_nil)))) (ja_cons (je_call (h__law_draw.mono (by omega)) cx (ja_io 0 (ja_cons (je_int) (ja_nil)))) (ja_nil))))) (ja_nil))))) (jb_nil)) (jb_cons (js_par (i := 6) (j := 7) cx (je_slice (je_var 5) jo_none (jo_some (je_var 4))) (je_lst (ja_nil))) (jb_cons (js_while 100000 cx.po (jt_pkCmp 6 (op_neD cx.u4) vNe (je_lst (ja_nil))) (jb_one (js_expr (je_append 7 (je_popAt 6 (je_call (h__law_draw.mono (by omega)) cx (ja_io 0 (ja_cons (je_pkCall 6 DL.call_lenD DL.vLen T.n_len) (ja_nil))))))))) (jb_one (js_ret (je_callTy call_tuple_of vTuple T.n_tuple (ja_cons (je_var 7) (ja_nil)))))))))
theorem ok__law_book {g : Bool} (h__law_draw : DefOk g P w K mg base 1 "_law_draw" 2 (m__law_draw)) (h__law_issue : DefOk g P w K mg base 3 "_law_issue" 5 (m__law_issue)) {f : Addr} {fd : FuncData} (F : C8.Fun K "_law_book" "_law_book" s__law_book f fd) : FnM g P w K mg base 4 f fd ["pot", "facts", "issues", "courts"] (spM K mg 4 m__law_book) := by
  obtain ⟨oc, od, dV, kV, doc, pm, an, cdv, ct, osl, rfl, lk, hcd⟩ := F.ex
  refine fnM_of lk hcd sc__law_book fun A outer s H E cx => ?_
  exact jb_cons (js_asg (je_tup (ja_cons (je_op op_addD vAdd (je_int) (je_call (h__law_draw.mono (by omega)) cx (ja_io 0 (ja_cons (je_var 1) (ja_nil))))) (ja_cons (je_op op_addD vAdd (je_int) (je_call (h__law_draw.mono (by omega)) cx (ja_io 0 (ja_cons (je_var 2) (ja_nil))))) (ja_cons (je_op op_addD vAdd (je_int) (je_call (h__law_draw.mono (by omega)) cx (ja_io 0 (ja_cons (je_var 3) (ja_nil))))) (ja_nil))))) (jg_tup cx.calm (jgs_cons (jg_name (i := 1) cx.nd) (jgs_cons (jg_name (i := 2) cx.nd) (jgs_cons (jg_name (i := 3) cx.nd) (jgs_nil)))))) (jb_cons (js_set (i := 4) cx.nd (je_callTy call_tuple_of vTuple T.n_tuple (ja_cons (je_lc [("fact", 8)] cx.calm cx.nd (ji_range1 (ja_cons (je_var 1) (ja_nil)) (by rfl) T.n_range) (fun _ _ _ _ _ => jg_name (i := 8) cx.blk.nd) (fun _ _ _ _ _ => jts_nil) (fun _ _ _ _ _ => je_op op_addD vAdd (je_int) (je_call (h__law_draw.mono (by omega)) cx.blk (ja_io 0 (ja_cons (je_int) (ja_nil)))))) (ja_nil)))) (jb_cons (js_set (i := 5) cx.nd (je_callTy call_tuple_of vTuple T.n_tuple (ja_cons (je_lc [("issue", 9)] cx.calm cx.nd (ji_range1 (ja_cons (je_var 2) (ja_nil)) (by rfl) T.n_range) (fun _ _ _ _ _ => jg_name (i := 9) cx.blk.nd) (fun _ _ _ _ _ => jts_nil) (fun _ _ _ _ _ => je_call (h__law_issue.mono (by omega)) cx.blk (ja_io 0 (ja_cons (je_var 1) (ja_cons (je_var 9) (ja_cons (je_var 2) (ja_cons (je_int) (ja_nil)))))))) (ja_nil)))) (jb_cons (js_set (i := 6) cx.nd (je_lst (ja_cons (je_tup (ja_cons (je_non) (ja_cons (je_cmp op_gt vC (je_call (h__law_draw.mono (by omega)) cx (ja_io 0 (ja_cons (je_int) (ja_nil)))) (je_int) (by rfl)) (ja_nil)))) (ja_nil)))) (jb_cons (js_for cx.po cx.calm (ji_range2 (ja_cons (je_int) (ja_cons (je_var 3) (ja_nil))) (by rfl) T.n_range) (jg_name (i := 7) cx.nd) (jb_one (js_expr (je_append 6 (je_tup (ja_cons (je_call (h__law_draw.mono (by omega)) cx (ja_io 0 (ja_cons (je_var 7) (ja_nil)))) (ja_cons (je_cmp (op_eqD cx.u4) vEq (je_call (h__law_draw.mono (by omega)) cx (ja_io 0 (ja_cons (je_int) (ja_nil)))) (je_int) (by rfl)) (ja_nil)))))))) (jb_one (js_ret (je_tup (ja_cons (je_str) (ja_cons (je_var 4) (ja_cons (je_var 5) (ja_cons (je_callTy call_tuple_of vTuple T.n_tuple (ja_cons (je_var 6) (ja_nil))) (ja_nil))))))))))))
theorem ok__law_is_whole {g : Bool}  {f : Addr} {fd : FuncData} (F : C8.Fun K "_law_is_whole" "_law_is_whole" s__law_is_whole f fd) : FnM g P w K mg base 1 f fd ["one"] (spM K mg 1 m__law_is_whole) := by
  obtain ⟨oc, od, dV, kV, doc, pm, an, cdv, ct, osl, rfl, lk, hcd⟩ := F.ex
  refine fnM_of lk hcd sc__law_is_whole fun A outer s H E cx => ?_
  exact jb_one (js_ret (je_and (je_isi T.n_isinstance (je_var 0) rfl T.n_int) (je_one (je_not (je_isi T.n_isinstance (je_var 0) rfl T.n_bool)))))
theorem ok__law_is_issue {g : Bool} (h__law_is_whole : DefOk g P w K mg base 1 "_law_is_whole" 1 (m__law_is_whole)) {f : Addr} {fd : FuncData} (F : C8.Fun K "_law_is_issue" "_law_is_issue" s__law_is_issue f fd) : FnM g P w K mg base 2 f fd ["value", "number", "facts", "issues"] (spM K mg 4 m__law_is_issue) := by
  obtain ⟨oc, od, dV, kV, doc, pm, an, cdv, ct, osl, rfl, lk, hcd⟩ := F.ex
  refine fnM_of lk hcd sc__law_is_issue fun A outer s H E cx => ?_
  exact jb_cons (js_if ((jw_or (jt_not (jt_val (je_isi T.n_isinstance (je_var 0) rfl T.n_tuple))) (jw_or1 (jt_not (jt_chain op_le op_le vC vC feC (je_int) (je_callB DL.call_lenD DL.vLen T.n_len (ja_cons (je_var 0) (ja_nil))) (je_int))))).jt) (jb_one (js_ret (je_bl))) (jb_nil)) (jb_cons (js_set (i := 4) cx.nd (je_lst (ja_nil))) (jb_cons (js_for cx.po cx.calm (ji_seq (je_var 0)) (jg_name (i := 5) cx.nd) (jb_cons (js_if ((jw_or (jt_not (jt_val (je_isi T.n_isinstance (je_var 5) rfl T.n_tuple))) (jw_or (jt_cmp (op_neD cx.u4) vNe (je_callB DL.call_lenD DL.vLen T.n_len (ja_cons (je_var 5) (ja_nil))) (je_int) (by rfl)) (jw_or (jt_not (jt_val (je_isi T.n_isinstance (je_item (je_var 5) (je_int)) rfl T.n_str))) (jw_or1 (jt_cmp (op_notInS cx.u) vNotIn (je_item (je_var 5) (je_int)) (je_tup (ja_cons (je_str) (ja_cons (je_str) (ja_nil)))) (by rfl)))))).jt) (jb_one (js_ret (je_bl))) (jb_nil)) (jb_cons (js_if ((jw_or (jt_not (jt_val (je_call (h__law_is_whole.mono (by omega)) cx (ja_cons (je_item (je_var 5) (je_int)) (ja_nil))))) (jw_or (jt_not (jt_val (je_call (h__law_is_whole.mono (by omega)) cx (ja_cons (je_item (je_var 5) (je_int)) (ja_nil))))) (jw_or1 (jt_cmp (op_notInS cx.u) vNotIn (je_item (je_var 5) (je_int)) (je_tup (ja_cons (je_int) (ja_cons (je_int) (ja_nil)))) (by rfl))))).jt) (jb_one (js_ret (je_bl))) (jb_nil)) (jb_cons (js_asg (je_ifExp (jt_cmp (op_eqD cx.u4) vEq (je_item (je_var 5) (je_int)) (je_str) (by rfl)) (je_tup (ja_cons (je_int) (ja_cons (je_var 2) (ja_nil)))) (je_tup (ja_cons (je_op op_addD vAdd (je_var 1) (je_int)) (ja_cons (je_var 3) (ja_nil))))) (jg_tup cx.calm (jgs_cons (jg_name (i := 6) cx.nd) (jgs_cons (jg_name (i := 7) cx.nd) (jgs_nil))))) (jb_cons (js_if ((jw_or (jt_not (jt_chain op_le op_lt vC vC feC (je_var 6) (je_item (je_var 5) (je_int)) (je_var 7))) (jw_or1 (jt_pkIn 4 (op_inS cx.u) vIn (je_slice (je_var 5) jo_none (jo_some (je_int)))))).jt) (jb_one (js_ret (je_bl))) (jb_nil)) (jb_one (js_expr (je_append 4 (je_slice (je_var 5) jo_none (jo_some (je_int))))))))))) (jb_one (js_ret (je_bl)))))
theorem ok__law_is_court {g : Bool} (h__law_is_whole : DefOk g P w K mg base 1 "_law_is_whole" 1 (m__law_is_whole)) {f : Addr} {fd : FuncData} (F : C8.Fun K "_law_is_court" "_law_is_court" s__law_is_court f fd) : FnM g P w K mg base 2 f fd ["value", "number"] (spM K mg 2 m__law_is_court) := by
  obtain ⟨oc, od, dV, kV, doc, pm, an, cdv, ct, osl, rfl, lk, hcd⟩ := F.ex
  refine fnM_of lk hcd sc__law_is_court fun A outer s H E cx => ?_
  exact jb_cons (js_if ((jw_or (jt_not (jt_val (je_isi T.n_isinstance (je_var 0) rfl T.n_tuple))) (jw_or (jt_cmp (op_neD cx.u4) vNe (je_callB DL.call_lenD DL.vLen T.n_len (ja_cons (je_var 0) (ja_nil))) (je_int) (by rfl)) (jw_or1 (jt_not (jt_val (je_isi T.n_isinstance (je_item (je_var 0) (je_int)) rfl T.n_bool)))))).jt) (jb_one (js_ret (je_bl))) (jb_nil)) (jb_one (js_ret (je_ifExp (jt_cmp (op_eqD cx.u4) vEq (je_var 1) (je_int) (by rfl)) (je_cmp op_isN vIsN (je_item (je_var 0) (je_int)) (je_non) (by rfl)) (je_and (je_call (h__law_is_whole.mono (by omega)) cx (ja_cons (je_item (je_var 0) (je_int)) (ja_nil))) (je_one (je_chain op_le op_lt vC vC feC (je_int) (je_item (je_var 0) (je_int)) (je_var 1)))))))
theorem ok__law_flaw {g : Bool} (h__law_is_court : DefOk g P w K mg base 2 "_law_is_court" 2 (m__law_is_court)) (h__law_is_issue : DefOk g P w K mg base 2 "_law_is_issue" 4 (m__law_is_issue)) (h__law_is_whole : DefOk g P w K mg base 1 "_law_is_whole" 1 (m__law_is_whole)) {f : Addr} {fd : FuncData} (F : C8.Fun K "_law_flaw" "_law_flaw" s__law_flaw f fd) : FnM g P w K mg base 3 f fd ["value"] (spM K mg 1 m__law_flaw) := by
  obtain ⟨oc, od, dV, kV, doc, pm, an, cdv, ct, osl, rfl, lk, hcd⟩ := F.ex
  refine fnM_of lk hcd sc__law_flaw fun A outer s H E cx => ?_
  exact jb_cons (js_if ((jw_or (jt_not (jt_val (je_isi T.n_isinstance (je_var 0) rfl T.n_tuple))) (jw_or (jt_cmp (op_neD cx.u4) vNe (je_callB DL.call_lenD DL.vLen T.n_len (ja_cons (je_var 0) (ja_nil))) (je_int) (by rfl)) (jw_or (jt_not (jt_val (je_isi T.n_isinstance (je_item (je_var 0) (je_int)) rfl T.n_str))) (jw_or1 (jt_cmp (op_neD cx.u4) vNe (je_item (je_var 0) (je_int)) (je_str) (by rfl)))))).jt) (jb_one (js_ret (je_tup (ja_cons (je_str) (ja_cons (je_non) (ja_nil)))))) (jb_nil)) (jb_cons (js_if ((jw_or (jt_not (jt_val (je_isi T.n_isinstance (je_item (je_var 0) (je_int)) rfl T.n_tuple))) (jw_or (jt_not (jt_chain op_le op_le vC vC feC (je_int) (je_callB DL.call_lenD DL.vLen T.n_len (ja_cons (je_item (je_var 0) (je_int)) (ja_nil))) (je_int))) (jw_or1 (jt_cmp (op_neD cx.u4) vNe (je_lc [("one", 2)] cx.calm cx.nd (ji_seq (je_item (je_var 0) (je_int))) (fun _ _ _ _ _ => jg_name (i := 2) cx.blk.nd) (fun _ _ _ _ _ => jts_one ((jw_or (jt_not (jt_val (je_call (h__law_is_whole.mono (by omega)) cx.blk (ja_cons (je_var 2) (ja_nil))))) (jw_or1 (jt_not (jt_chain op_le op_le vC vC feC (je_int) (je_var 2) (je_int))))).jt)) (fun _ _ _ _ _ => je_var 2)) (je_lst (ja_nil)) (by rfl))))).jt) (jb_one (js_ret (je_tup (ja_cons (je_str) (ja_cons (je_non) (ja_nil)))))) (jb_nil)) (jb_cons (js_if ((jw_or (jt_not (jt_val (je_isi T.n_isinstance (je_item (je_var 0) (je_int)) rfl T.n_tuple))) (jw_or1 (jt_not (jt_chain op_le op_le vC vC feC (je_int) (je_callB DL.call_lenD DL.vLen T.n_len (ja_cons (je_item (je_var 0) (je_int)) (ja_nil))) (je_int))))).jt) (jb_one (js_ret (je_tup (ja_cons (je_str) (ja_cons (je_non) (ja_nil)))))) (jb_nil)) (jb_cons (js_for cx.po cx.calm (ji_enum (ja_cons (je_item (je_var 0) (je_int)) (ja_nil)) (by rfl) T.n_enumerate) (jg_tup cx.calm (jgs_cons (jg_name (i := 1) cx.nd) (jgs_cons (jg_name (i := 2) cx.nd) (jgs_nil)))) (jb_one (js_if (jt_not (jt_val (je_call (h__law_is_issue.mono (by omega)) cx (ja_cons (je_var 2) (ja_cons (je_var 1) (ja_cons (je_callB DL.call_lenD DL.vLen T.n_len (ja_cons (je_item (je_var 0) (je_int)) (ja_nil))) (ja_cons (je_callB DL.call_lenD DL.vLen T.n_len (ja_cons (je_item (je_var 0) (je_int)) (ja_nil))) (ja_nil)))))))) (jb_one (js_ret (je_tup (ja_cons (je_str) (ja_cons (je_var 1) (ja_nil)))))) (jb_nil)))) (jb_cons (js_if ((jw_or (jt_not (jt_val (je_isi T.n_isinstance (je_item (je_var 0) (je_int)) rfl T.n_tuple))) (jw_or1 (jt_not (jt_chain op_le op_le vC vC feC (je_int) (je_callB DL.call_lenD DL.vLen T.n_len (ja_cons (je_item (je_var 0) (je_int)) (ja_nil))) (je_int))))).jt) (jb_one (js_ret (je_tup (ja_cons (je_str) (ja_cons (je_non) (ja_nil)))))) (jb_nil)) (jb_cons (js_for cx.po cx.calm (ji_enum (ja_cons (je_item (je_var 0) (je_int)) (ja_nil)) (by rfl) T.n_enumerate) (jg_tup cx.calm (jgs_cons (jg_name (i := 1) cx.nd) (jgs_cons (jg_name (i := 2) cx.nd) (jgs_nil)))) (jb_one (js_if (jt_not (jt_val (je_call (h__law_is_court.mono (by omega)) cx (ja_cons (je_var 2) (ja_cons (je_var 1) (ja_nil)))))) (jb_one (js_ret (je_tup (ja_cons (je_str) (ja_cons (je_var 1) (ja_nil)))))) (jb_nil)))) (jb_one (js_ret (je_non))))))))
theorem rec__law_paths {g : Bool}  {f : Addr} {fd : FuncData} (F : C8.Fun K "_law_paths" "_law_paths" s__law_paths f fd) (hm : mg "_law_paths" = some (.ref f)) (hk : PySem.W.keepIn K (.ref f) = true) (hb : L2.Binds K fd ["value", "path"] []) (n : Nat) : DefOk g P w K mg base (1 + n) "_law_paths" 2 (m__law_paths n) := by
  obtain ⟨oc, od, dV, kV, doc, pm, an, cdv, ct, osl, rfl, lk, hcd⟩ := F.ex
  induction n with
  | zero => exact ⟨⟨f, _, _, fnM_fail rfl, hm, hk, hb⟩⟩
  | succ n h_self =>
    refine ⟨⟨f, _, _, fnM_of lk hcd sc__law_paths fun A outer s H E cx => ?_, hm, hk, hb⟩⟩
    exact jb_cons (js_set (i := 2) cx.nd (je_lst (ja_cons (je_var 1) (ja_nil)))) (jb_cons (js_if (jt_val (je_isi2 T.n_isinstance (je_var 0) rfl rfl T.n_tuple T.n_list)) (jb_one (js_for cx.po cx.calm (ji_enum (ja_cons (je_var 0) (ja_nil)) (by rfl) T.n_enumerate) (jg_tup cx.calm (jgs_cons (jg_name (i := 3) cx.nd) (jgs_cons (jg_name (i := 4) cx.nd) (jgs_nil)))) (jb_one (js_expr (je_extend 2 (je_call h_self cx (ja_cons (je_var 4) (ja_cons (je_op op_addD vAdd (je_var 1) (je_tup (ja_cons (je_var 3) (ja_nil)))) (ja_nil))))))))) (jb_nil)) (jb_one (js_ret (je_move 2))))
theorem rec__law_with {g : Bool}  {f : Addr} {fd : FuncData} (F : C8.Fun K "_law_with" "_law_with" s__law_with f fd) (hm : mg "_law_with" = some (.ref f)) (hk : PySem.W.keepIn K (.ref f) = true) (hb : L2.Binds K fd ["value", "path", "part"] []) (n : Nat) : DefOk g P w K mg base (1 + n) "_law_with" 3 (m__law_with n) := by
  obtain ⟨oc, od, dV, kV, doc, pm, an, cdv, ct, osl, rfl, lk, hcd⟩ := F.ex
  induction n with
  | zero => exact ⟨⟨f, _, _, fnM_fail rfl, hm, hk, hb⟩⟩
  | succ n h_self =>
    refine ⟨⟨f, _, _, fnM_of lk hcd sc__law_with fun A outer s H E cx => ?_, hm, hk, hb⟩⟩
    exact jb_cons (js_if (jt_cmp (op_eqD cx.u4) vEq (je_var 1) (je_tup (ja_nil)) (by rfl)) (jb_one (js_ret (je_var 2))) (jb_nil)) (jb_cons (js_set (i := 3) cx.nd (je_item (je_var 1) (je_int))) (jb_cons (js_set (i := 4) cx.nd (je_call h_self cx (ja_cons (je_item (je_var 0) (je_var 3)) (ja_cons (je_slice (je_var 1) (jo_some (je_int)) jo_none) (ja_cons (je_var 2) (ja_nil)))))) (jb_one (js_ret (je_op op_addD vAdd (je_op op_addD vAdd (je_slice (je_var 0) jo_none (jo_some (je_var 3))) (je_ifExp (jt_val (je_isi T.n_isinstance (je_var 0) rfl T.n_tuple)) (je_tup (ja_cons (je_var 4) (ja_nil))) (je_lst (ja_cons (je_var 4) (ja_nil))))) (je_slice (je_var 0) (jo_some (je_op op_addD vAdd (je_var 3) (je_int))) jo_none))))))
theorem ok__law_bent {g : Bool} (h__law_paths : DefOk g P w K mg base 13 "_law_paths" 2 (m__law_paths 12)) (h__law_pick : DefOk g P w K mg base 2 "_law_pick" 2 (m__law_pick)) (h__law_with : DefOk g P w K mg base 13 "_law_with" 3 (m__law_with 12)) {f : Addr} {fd : FuncData} (F : C8.Fun K "_law_bent" "_law_bent" s__law_bent f fd) : FnM g P w K mg base 14 f fd ["pot", "value"] (spM K mg 2 m__law_bent) := by
  obtain ⟨oc, od, dV, kV, doc, pm, an, cdv, ct, osl, rfl, lk, hcd⟩ := F.ex
  refine fnM_of lk hcd sc__law_bent fun A outer s H E cx => ?_
  exact jb_cons (js_set (i := 2) cx.nd (je_call (h__law_pick.mono (by omega)) cx (ja_io 0 (ja_cons (je_call (h__law_paths.mono (by omega)) cx (ja_cons (je_var 1) (ja_cons (je_tup (ja_nil)) (ja_nil)))) (ja_nil))))) (jb_cons (js_set (i := 3) cx.nd (je_var 1)) (jb_cons (js_for cx.po cx.calm (ji_seq (je_var 2)) (jg_name (i := 4) cx.nd) (jb_one (js_set (i := 3) cx.nd (je_item (je_var 3) (je_var 4))))) (jb_cons (js_if (jt_val (je_isi2 T.n_isinstance (je_var 3) rfl rfl T.n_tuple T.n_list)) (jb_one (js_set (i := 5) cx.nd (je_lst (ja_cons (je_ifExp (jt_val (je_isi T.n_isinstance (je_var 3) rfl T.n_tuple)) (je_callTy call_list_of vList T.n_list (ja_cons (je_var 3) (ja_nil))) (je_callTy call_tuple_of vTuple T.n_tuple (ja_cons (je_var 3) (ja_nil)))) (ja_cons (je_slice (je_var 3) jo_none (jo_some (je_un un_neg vNeg (je_int)))) (ja_cons (je_op op_addD vAdd (je_var 3) (je_slice (je_var 3) (jo_some (je_un un_neg vNeg (je_int))) jo_none)) (ja_cons (je_op op_addD vAdd (je_var 3) (je_var 3)) (ja_cons (je_tup (ja_nil)) (ja_cons (je_non) (ja_cons (je_rev (je_var 3)) (ja_cons (je_int) (ja_nil)))))))))))) (jb_one (js_if (jt_val (je_isi T.n_isinstance (je_var 3) rfl T.n_bool)) (jb_one (js_set (i := 5) cx.nd (je_lst (ja_cons (je_not (je_var 3)) (ja_cons (je_callTy call_int1 vInt T.n_int (ja_cons (je_var 3) (ja_nil))) (ja_cons (je_non) (ja_cons (je_str) (ja_nil)))))))) (jb_one (js_if (jt_val (je_isi T.n_isinstance (je_var 3) rfl T.n_int)) (jb_one (js_set (i := 5) cx.nd (je_lst (ja_cons (je_op op_addD vAdd (je_var 3) (je_int)) (ja_cons (je_op op_sub (vI (g := fun i j => i - j)) (je_var 3) (je_int)) (ja_cons (je_op op_sub (vI (g := fun i j => i - j)) (je_int) (je_var 3)) (ja_cons (je_bl) (ja_cons (je_bl) (ja_cons (je_non) (ja_cons (je_int) (ja_cons (je_int) (ja_cons (je_int) (ja_cons (je_tup (ja_cons (je_var 3) (ja_nil))) (ja_cons (je_callTy call_str_int vStrI T.n_str (ja_cons (je_var 3) (ja_nil))) (ja_nil))))))))))))))) (jb_one (js_if (jt_val (je_isi T.n_isinstance (je_var 3) rfl T.n_str)) (jb_one (js_set (i := 5) cx.nd (je_lst (ja_cons (je_str) (ja_cons (je_str) (ja_cons (je_str) (ja_cons (je_str) (ja_cons (je_non) (ja_cons (je_tup (ja_cons (je_str) (ja_nil))) (ja_nil)))))))))) (jb_one (js_set (i := 5) cx.nd (je_lst (ja_cons (je_int) (ja_cons (je_bl) (ja_cons (je_tup (ja_nil)) (ja_cons (je_str) (ja_nil))))))))))))))) (jb_one (js_ret (je_call (h__law_with.mono (by omega)) cx (ja_cons (je_var 1) (ja_cons (je_var 2) (ja_cons (je_call (h__law_pick.mono (by omega)) cx (ja_io 0 (ja_cons (je_var 5) (ja_nil)))) (ja_nil))))))))))
theorem ok__law_greatest {g : Bool}  {f : Addr} {fd : FuncData} (F : C8.Fun K "_law_greatest" "_law_greatest" s__law_greatest f fd) : FnM g P w K mg base 1 f fd [] (spM K mg 0 m__law_greatest) := by
  obtain ⟨oc, od, dV, kV, doc, pm, an, cdv, ct, osl, rfl, lk, hcd⟩ := F.ex
  refine fnM_of lk hcd sc__law_greatest fun A outer s H E cx => ?_
  exact jb_cons (js_set (i := 0) cx.nd (je_callTy call_tuple_of vTuple T.n_tuple (ja_cons (je_lc [("fact", 5)] cx.calm cx.nd (ji_range1 (ja_cons (je_int) (ja_nil)) (by rfl) T.n_range) (fun _ _ _ _ _ => jg_name (i := 5) cx.blk.nd) (fun _ _ _ _ _ => jts_nil) (fun _ _ _ _ _ => je_tup (ja_cons (je_str) (ja_cons (je_var 5) (ja_cons (je_op op_mod vMod (je_callTy call_int1 vInt T.n_int (ja_cons (je_var 5) (ja_nil))) (je_int)) (ja_nil)))))) (ja_nil)))) (jb_cons (js_set (i := 1) cx.nd (je_op op_addD vAdd (je_tup (ja_cons (je_tup (ja_cons (je_non) (ja_cons (je_bl) (ja_nil)))) (ja_nil))) (je_callTy call_tuple_of vTuple T.n_tuple (ja_cons (je_lc [("court", 7)] cx.calm cx.nd (ji_range2 (ja_cons (je_int) (ja_cons (je_int) (ja_nil))) (by rfl) T.n_range) (fun _ _ _ _ _ => jg_name (i := 7) cx.blk.nd) (fun _ _ _ _ _ => jts_nil) (fun _ _ _ _ _ => je_tup (ja_cons (je_op op_sub (vI (g := fun i j => i - j)) (je_var 7) (je_int)) (ja_cons (je_cmp (op_eqD cx.blk.u4) vEq (je_op op_mod vMod (je_callTy call_int1 vInt T.n_int (ja_cons (je_var 7) (ja_nil))) (je_int)) (je_int) (by rfl)) (ja_nil))))) (ja_nil))))) (jb_cons (js_set (i := 2) cx.nd (je_tup (ja_cons (je_str) (ja_cons (je_op op_mulD vMul (je_tup (ja_cons (je_int) (ja_nil))) (je_int)) (ja_cons (je_op op_addD vAdd (je_tup (ja_cons (je_op op_addD vAdd (je_slice (je_var 0) jo_none (jo_some (je_int))) (je_callTy call_tuple_of vTuple T.n_tuple (ja_cons (je_lc [("issue", 8)] cx.calm cx.nd (ji_range2 (ja_cons (je_int) (ja_cons (je_int) (ja_nil))) (by rfl) T.n_range) (fun _ _ _ _ _ => jg_name (i := 8) cx.blk.nd) (fun _ _ _ _ _ => jts_nil) (fun _ _ _ _ _ => je_tup (ja_cons (je_str) (ja_cons (je_var 8) (ja_cons (je_int) (ja_nil)))))) (ja_nil)))) (ja_nil))) (je_op op_mulD vMul (je_tup (ja_cons (je_var 0) (ja_nil))) (je_int))) (ja_cons (je_var 1) (ja_nil))))))) (jb_cons (js_set (i := 3) cx.nd (je_lst (ja_cons (je_var 2) (ja_cons (je_op op_addD vAdd (je_op op_addD vAdd (je_slice (je_var 2) jo_none (jo_some (je_int))) (je_tup (ja_cons (je_op op_mulD vMul (je_tup (ja_cons (je_int) (ja_nil))) (je_int)) (ja_nil)))) (je_slice (je_var 2) (jo_some (je_int)) jo_none)) (ja_cons (je_op op_addD vAdd (je_op op_addD vAdd (je_slice (je_var 2) jo_none (jo_some (je_int))) (je_tup (ja_cons (je_op op_addD vAdd (je_op op_mulD vMul (je_tup (ja_cons (je_int) (ja_nil))) (je_int)) (je_tup (ja_cons (je_int) (ja_nil)))) (ja_nil)))) (je_slice (je_var 2) (jo_some (je_int)) jo_none)) (ja_cons (je_op op_addD vAdd (je_op op_addD vAdd (je_slice (je_var 2) jo_none (jo_some (je_int))) (je_tup (ja_cons (je_op op_addD vAdd (je_item (je_var 2) (je_int)) (je_tup (ja_cons (je_var 0) (ja_nil)))) (ja_nil)))) (je_slice (je_var 2) (jo_some (je_int)) jo_none)) (ja_cons (je_op op_addD vAdd (je_slice (je_var 2) jo_none (jo_some (je_int))) (je_tup (ja_cons (je_op op_addD vAdd (je_var 1) (je_tup (ja_cons (je_tup (ja_cons (je_int) (ja_cons (je_bl) (ja_nil)))) (ja_nil)))) (ja_nil)))) (ja_nil)))))))) (jb_cons (js_set (i := 4) cx.nd (je_lst (ja_cons (je_op op_addD vAdd (je_tup (ja_cons (je_op op_addD vAdd (je_var 0) (je_tup (ja_cons (je_tup (ja_cons (je_str) (ja_cons (je_int) (ja_cons (je_int) (ja_nil))))) (ja_nil)))) (ja_nil))) (je_slice (je_item (je_var 2) (je_int)) (jo_some (je_int)) jo_none)) (ja_cons (je_op op_addD vAdd (je_slice (je_item (je_var 2) (je_int)) jo_none (jo_some (je_int))) (je_tup (ja_cons (je_tup (ja_cons (je_tup (ja_cons (je_str) (ja_cons (je_int) (ja_cons (je_int) (ja_nil))))) (ja_nil))) (ja_nil)))) (ja_cons (je_op op_addD vAdd (je_slice (je_item (je_var 2) (je_int)) jo_none (jo_some (je_int))) (je_tup (ja_cons (je_tup (ja_cons (je_tup (ja_cons (je_str) (ja_cons (je_int) (ja_cons (je_int) (ja_nil))))) (ja_nil))) (ja_cons (je_var 0) (ja_nil))))) (ja_nil)))))) (jb_cons (js_expr (je_extend 4 (je_lst (ja_cons (je_op op_addD vAdd (je_op op_addD vAdd (je_slice (je_item (je_var 2) (je_int)) jo_none (jo_some (je_int))) (je_tup (ja_cons (je_tup (ja_cons (je_tup (ja_cons (je_str) (ja_cons (je_int) (ja_cons (je_int) (ja_nil))))) (ja_cons (je_tup (ja_cons (je_str) (ja_cons (je_int) (ja_cons (je_int) (ja_nil))))) (ja_nil)))) (ja_nil)))) (je_slice (je_item (je_var 2) (je_int)) (jo_some (je_int)) jo_none)) (ja_cons (je_tup (ja_nil)) (ja_nil)))))) (jb_cons (js_expr (je_extend 3 (je_lc [("some", 6)] cx.calm cx.nd (ji_seq (je_var 4)) (fun _ _ _ _ _ => jg_name (i := 6) cx.blk.nd) (fun _ _ _ _ _ => jts_nil) (fun _ _ _ _ _ => je_op op_addD vAdd (je_op op_addD vAdd (je_slice (je_var 2) jo_none (jo_some (je_int))) (je_tup (ja_cons (je_var 6) (ja_nil)))) (je_slice (je_var 2) (jo_some (je_int)) jo_none))))) (jb_one (js_ret (je_op op_addD vAdd (je_var 3) (je_lc [("some", 6)] cx.calm cx.nd (ji_seq (je_tup (ja_cons (je_op op_addD vAdd (je_slice (je_var 1) jo_none (jo_some (je_int))) (je_tup (ja_cons (je_tup (ja_cons (je_int) (ja_cons (je_bl) (ja_nil)))) (ja_nil)))) (ja_cons (je_tup (ja_cons (je_tup (ja_cons (je_int) (ja_cons (je_bl) (ja_nil)))) (ja_nil))) (ja_cons (je_tup (ja_nil)) (ja_cons (je_op op_addD vAdd (je_slice (je_var 1) jo_none (jo_some (je_int))) (je_tup (ja_cons (je_tup (ja_cons (je_int) (ja_cons (je_int) (ja_nil)))) (ja_nil)))) (ja_nil))))))) (fun _ _ _ _ _ => jg_name (i := 6) cx.blk.nd) (fun _ _ _ _ _ => jts_nil) (fun _ _ _ _ _ => je_op op_addD vAdd (je_slice (je_var 2) jo_none (jo_some (je_int))) (je_tup (ja_cons (je_var 6) (ja_nil))))))))))))))
theorem hd__law_heard {k : Nat} (X : Cx) {ga : Addr} {cdv : Value} (hK : X.K = K) (hmg : X.mg = mg) : HeardOk true X k ["call", "told", "e"] "_law_heard" (C8.fnScope s__law_heard) ga cdv (C8.fnBody s__law_heard) "call" hb__law_heard := by
  subst hK hmg
  intro T1 s H o act cx
  exact jb_cons (js_set (i := 1) cx.nd (je_non)) (jb_cons (js_tryAs (tst := tst_InvalidBook) (ms := fun y => mAsg 1 (mCall fLst (mACons (mC (.str "book")) (mACons (mCall (f1 fRepr) (mACons (mXf 2 "value" y) (mANil))) (mACons (mIsE 2 true) (mANil)))))) cx rfl rfl ⟨rfl, (by decide), .inl T.cl_InvalidBook⟩ (fun cl b hb v hv => tst_InvalidBook_ok T hb hv) (fun E2 pn xe cx => jb_one (js_set (i := 1) cx.nd (act _ _ _ _ _ cx.tk))) (fun y hy a oe cls dd fs pn hz hf hmy => by have hc := tst_InvalidBook_hit T hy hmy; letI : Tb := tbX T1 a X.K y dd fs; exact jb_one (js_set (i := 1) cx.nd (je_lst (ja_cons (je_str) (ja_cons (je_callB (call_reprD (cx.gd rfl) cx.u) vRepr T.n_repr (ja_cons (je_exf 2 hc T.xf_InvalidBook T.no_InvalidBook_value hz hf) (ja_nil))) (ja_cons (je_isE 2 hc T.ed_InvalidBook hz hf T.n_isinstance T.cl_WorkError T.ki_InvalidBook_WorkError) (ja_nil)))))))) (jb_one (js_ret (je_var 1))))
theorem ok__law_value_right (h_kw_book_flaw_0_value : DefKw true P w K mg base 6 "book_flaw" 1 m_book_flaw 0 ["value"] [0]) (hf_count_points : DefOk false P w K mg base 7 "count_points" 2 (m_count_points)) (h_kw_is_book_0_value : DefKw true P w K mg base 6 "is_book" 1 m_is_book 0 ["value"] [0]) (h__law_flaw : DefOk true P w K mg base 3 "_law_flaw" 1 (m__law_flaw)) (h__law_most_of : DefOk true P w K mg base 1 "_law_most_of" 2 (m__law_most_of)) (h_book_flaw : DefOk true P w K mg base 6 "book_flaw" 1 (m_book_flaw)) (h_is_book : DefOk true P w K mg base 6 "is_book" 1 (m_is_book)) {ga__law_heard : Addr} {oc__law_heard : Value} {od__law_heard : Option Addr} {dV__law_heard kV__law_heard doc__law_heard pm__law_heard : Value} {an__law_heard : Option Addr} {cdv__law_heard ct__law_heard : Value} {osl__law_heard : Array (Option Value)} (hv__law_heard : Hv K mg "_law_heard" "call" s__law_heard ga__law_heard oc__law_heard od__law_heard dV__law_heard kV__law_heard doc__law_heard pm__law_heard an__law_heard cdv__law_heard ct__law_heard osl__law_heard) {c Pt : Addr} (TB : LamX.TabB base mg c Pt) (hmT : (Pt, lamQ "_law_value_right") ∈ Tb.T) (hu : ∀ p ∈ Tb.T, p.1 = Pt → p.2 = lamQ "_law_value_right") {f : Addr} {fd : FuncData} (F : FunC K "_law_value_right" s__law_value_right f fd c) : FnM true P w K mg base 11 f fd ["value"] (spM K mg 1 m__law_value_right) := by
  obtain ⟨oc, od, dV, kV, doc, pm, an, ct, osl, rfl, lk, hcd⟩ := F.ex
  refine fnM_of lk hcd sc__law_value_right fun A outer s H E cx => ?_
  exact jb_cons (js_par (i := 4) (j := 5) cx (je_call (h__law_flaw.mono (by omega)) cx (ja_cons (je_var 0) (ja_nil))) (je_callB (call_reprD (cx.gd rfl) cx.u) vRepr T.n_repr (ja_cons (je_var 0) (ja_nil)))) (jb_cons (js_if (jt_cmp (op_neD cx.u4) vNe (je_callB (call_reprD (cx.gd rfl) cx.u) vRepr T.n_repr (ja_cons (je_lst (ja_cons (je_call (h_is_book.mono (by omega)) cx (ja_cons (je_var 0) (ja_nil))) (ja_cons (je_call (h_book_flaw.mono (by omega)) cx (ja_cons (je_var 0) (ja_nil))) (ja_cons (je_callKw0 (h_kw_is_book_0_value.mono (by omega)) cx (jk_cons (je_var 0) (jk_nil))) (ja_cons (je_callKw0 (h_kw_book_flaw_0_value.mono (by omega)) cx (jk_cons (je_var 0) (jk_nil))) (ja_nil)))))) (ja_nil))) (je_callB (call_reprD (cx.gd rfl) cx.u) vRepr T.n_repr (ja_cons (je_op op_mulD vMul (je_lst (ja_cons (je_cmp op_isN vIsN (je_var 4) (je_non) (by rfl)) (ja_cons (je_var 4) (ja_nil)))) (je_int)) (ja_nil))) (by rfl)) (jb_one (js_ret (je_bl))) (jb_nil)) (jb_cons (js_set (i := 1) cx.nd (je_heard (k := 7) cx (by omega) hv__law_heard.hm hv__law_heard.hk hv__law_heard.lk hv__law_heard.hcg hv__law_heard.hb sc__law_heard rfl (Or.inl rfl) (hd__law_heard T _ rfl rfl) TB rfl hmT hu (LamX.lamS_by (by kernel_rfl)) (fun A outer s H E f c cx => je_call (hf_count_points.mono (by omega)) cx (ja_cons (je_var 0) (ja_cons (je_int) (ja_nil)))))) (jb_cons (js_if (jt_cmp op_notN vNotN (je_var 4) (je_non) (by rfl)) (jb_one (js_ret (je_and (je_cmp (op_eqD cx.u4) vEq (je_var 1) (je_lst (ja_cons (je_str) (ja_cons (je_var 5) (ja_cons (je_bl) (ja_nil))))) (by rfl)) (je_one (je_cmp (op_eqD cx.u4) vEq (je_callB (call_reprD (cx.gd rfl) cx.u) vRepr T.n_repr (ja_cons (je_var 0) (ja_nil))) (je_var 5) (by rfl)))))) (jb_nil)) (jb_cons (js_set (i := 2) cx.nd (je_int)) (jb_cons (js_for cx.po cx.calm (ji_seq (je_item (je_item (je_var 0) (je_int)) (je_int))) (jg_name (i := 3) cx.nd) (jb_one (js_set (i := 2) cx.nd (je_op op_mulD vMul (je_var 2) (je_op op_addD vAdd (je_call (h__law_most_of.mono (by omega)) cx (ja_cons (je_var 0) (ja_cons (je_var 3) (ja_nil)))) (je_int)))))) (jb_one (js_ret (je_and (je_cmp (op_eqD cx.u4) vEq (je_var 1) (je_var 2) (by rfl)) (je_one (je_cmp (op_eqD cx.u4) vEq (je_callB (call_reprD (cx.gd rfl) cx.u) vRepr T.n_repr (ja_cons (je_var 0) (ja_nil))) (je_var 5) (by rfl)))))))))))
theorem ok__law_right (h__law_bent : DefOk true P w K mg base 14 "_law_bent" 2 (m__law_bent)) (h__law_book : DefOk true P w K mg base 4 "_law_book" 4 (m__law_book)) (h__law_value_right : DefOk true P w K mg base 11 "_law_value_right" 1 (m__law_value_right)) {f : Addr} {fd : FuncData} (F : C8.Fun K "_law_right" "_law_right" s__law_right f fd) : FnM true P w K mg base 15 f fd ["pot"] (spM K mg 1 m__law_right) := by
  obtain ⟨oc, od, dV, kV, doc, pm, an, cdv, ct, osl, rfl, lk, hcd⟩ := F.ex
  refine fnM_of lk hcd sc__law_right fun A outer s H E cx => ?_
  exact jb_cons (js_for cx.po cx.calm (ji_range1 (ja_cons (je_int) (ja_nil)) (by rfl) T.n_range) (jg_name (i := 1) cx.nd) (jb_cons (js_set (i := 2) cx.nd (je_call (h__law_book.mono (by omega)) cx (ja_io 0 (ja_cons (je_int) (ja_cons (je_int) (ja_cons (je_int) (ja_nil))))))) (jb_cons (js_set (i := 3) cx.nd (je_op op_addD vAdd (je_op op_addD vAdd (je_lst (ja_cons (je_var 2) (ja_nil))) (je_lc [("turn", 4)] cx.calm cx.nd (ji_range1 (ja_cons (je_int) (ja_nil)) (by rfl) T.n_range) (fun _ _ _ _ _ => jg_name (i := 4) cx.blk.nd) (fun _ _ _ _ _ => jts_nil) (fun _ _ _ _ _ => je_call (h__law_bent.mono (by omega)) cx.blk (ja_io 0 (ja_cons (je_var 2) (ja_nil)))))) (je_lc [("turn", 4)] cx.calm cx.nd (ji_range1 (ja_cons (je_int) (ja_nil)) (by rfl) T.n_range) (fun _ _ _ _ _ => jg_name (i := 4) cx.blk.nd) (fun _ _ _ _ _ => jts_nil) (fun _ _ _ _ _ => je_call (h__law_bent.mono (by omega)) cx.blk (ja_io 0 (ja_cons (je_call (h__law_bent.mono (by omega)) cx.blk (ja_io 0 (ja_cons (je_var 2) (ja_nil)))) (ja_nil))))))) (jb_one (js_if (jt_cmp (op_neD cx.u4) vNe (je_lc [("value", 5)] cx.calm cx.nd (ji_seq (je_var 3)) (fun _ _ _ _ _ => jg_name (i := 5) cx.blk.nd) (fun _ _ _ _ _ => jts_one (jt_not (jt_val (je_call (h__law_value_right.mono (by omega)) cx.blk (ja_cons (je_var 5) (ja_nil)))))) (fun _ _ _ _ _ => je_var 5)) (je_lst (ja_nil)) (by rfl)) (jb_one (js_ret (je_bl))) (jb_nil)))))) (jb_one (js_ret (je_bl)))
theorem ok_law (h__law_greatest : DefOk true P w K mg base 1 "_law_greatest" 0 (m__law_greatest)) (h__law_pot : DefOk true P w K mg base 1 "_law_pot" 2 (m__law_pot)) (h__law_right : DefOk true P w K mg base 15 "_law_right" 1 (m__law_right)) (h__law_value_right : DefOk true P w K mg base 11 "_law_value_right" 1 (m__law_value_right)) {f : Addr} {fd : FuncData} (F : C8.Fun K "law" "law" s_law f fd) : FnM true P w K mg base 16 f fd ["script"] (spM K mg 1 m_law) := by
  obtain ⟨oc, od, dV, kV, doc, pm, an, cdv, ct, osl, rfl, lk, hcd⟩ := F.ex
  refine fnM_of lk hcd sc_law fun A outer s H E cx => ?_
  exact jb_cons (js_if (jt_cmp (op_neD cx.u4) vNe (je_lc [("value", 1)] cx.calm cx.nd (ji_seq (je_op op_addD vAdd (je_call0 (h__law_greatest.mono (by omega)) cx) (je_lst (ja_cons (je_non) (ja_cons (je_int) (ja_cons (je_tup (ja_nil)) (ja_cons (je_str) (ja_cons (je_lst (ja_cons (je_str) (ja_nil))) (ja_nil))))))))) (fun _ _ _ _ _ => jg_name (i := 1) cx.blk.nd) (fun _ _ _ _ _ => jts_one (jt_not (jt_val (je_call (h__law_value_right.mono (by omega)) cx.blk (ja_cons (je_var 1) (ja_nil)))))) (fun _ _ _ _ _ => je_var 1)) (je_lst (ja_nil)) (by rfl)) (jb_one (js_ret (je_bl))) (jb_nil)) (jb_one (js_ret (je_callB (cr_all cx.calm) vAll T.n_all (ja_cons (je_lc [("k", 2)] cx.calm cx.nd (ji_range1 (ja_cons (je_callB (call_max2 cx.calm) vMax T.n_max (ja_cons (je_int) (ja_cons (je_callB (call_min2 cx.calm) vMin T.n_min (ja_cons (je_int) (ja_cons (je_callB DL.call_lenD DL.vLen T.n_len (ja_cons (je_var 0) (ja_nil))) (ja_nil)))) (ja_nil)))) (ja_nil)) (by rfl) T.n_range) (fun _ _ _ _ _ => jg_name (i := 2) cx.blk.nd) (fun _ _ _ _ _ => jts_nil) (fun _ _ _ _ _ => je_callT (h__law_right.mono (by omega)) cx.blk (je_call (h__law_pot.mono (by omega)) cx.blk (ja_cons (je_var 0) (ja_cons (je_var 2) (ja_nil)))))) (ja_nil)))))
end
abbrev s_init_WorkError : Stmt := L2.inClass (top 5) 0
theorem law_mk {l : PySem.W.OpenLaw} {w : World} {K : PySem.W.Frag} {h : Heap} {mg : Str → Option Value} {fa : Addr} (X : K.In h) (G : h.Ns mainGlobals mg) (hfa : mg "law" = some (.ref fa))
{ff_is_integer : Addr} {oc_is_integer kV_is_integer doc_is_integer pm_is_integer ct_is_integer cd_is_integer : Value} {od_is_integer an_is_integer : Option Addr} {sl_is_integer : Array (Option Value)}
    (a_is_integer : PySem.W.nsIn K mainGlobals "is_integer" = some (some (.ref ff_is_integer)))
    (l_is_integer : K.lookup ff_is_integer = some ⟨oc_is_integer, od_is_integer, .func (PySem.W.fnOf "is_integer" "is_integer" (C8.fnArgs s_is_integer) (C8.fnBody s_is_integer) (C8.fnScope s_is_integer) .none kV_is_integer doc_is_integer pm_is_integer an_is_integer cd_is_integer ct_is_integer), sl_is_integer⟩)
    (c_is_integer : PySem.W.codeIn K cd_is_integer "is_integer" = true) (k_is_integer : PySem.W.keepIn K (.ref ff_is_integer) = true)
{ff_is_within : Addr} {oc_is_within kV_is_within doc_is_within pm_is_within ct_is_within cd_is_within : Value} {od_is_within an_is_within : Option Addr} {sl_is_within : Array (Option Value)}
    (a_is_within : PySem.W.nsIn K mainGlobals "is_within" = some (some (.ref ff_is_within)))
    (l_is_within : K.lookup ff_is_within = some ⟨oc_is_within, od_is_within, .func (PySem.W.fnOf "is_within" "is_within" (C8.fnArgs s_is_within) (C8.fnBody s_is_within) (C8.fnScope s_is_within) .none kV_is_within doc_is_within pm_is_within an_is_within cd_is_within ct_is_within), sl_is_within⟩)
    (c_is_within : PySem.W.codeIn K cd_is_within "is_within" = true) (k_is_within : PySem.W.keepIn K (.ref ff_is_within) = true)
{ff_is_tuple : Addr} {oc_is_tuple kV_is_tuple doc_is_tuple pm_is_tuple ct_is_tuple cd_is_tuple : Value} {od_is_tuple an_is_tuple : Option Addr} {sl_is_tuple : Array (Option Value)}
    (a_is_tuple : PySem.W.nsIn K mainGlobals "is_tuple" = some (some (.ref ff_is_tuple)))
    (l_is_tuple : K.lookup ff_is_tuple = some ⟨oc_is_tuple, od_is_tuple, .func (PySem.W.fnOf "is_tuple" "is_tuple" (C8.fnArgs s_is_tuple) (C8.fnBody s_is_tuple) (C8.fnScope s_is_tuple) .none kV_is_tuple doc_is_tuple pm_is_tuple an_is_tuple cd_is_tuple ct_is_tuple), sl_is_tuple⟩)
    (c_is_tuple : PySem.W.codeIn K cd_is_tuple "is_tuple" = true) (k_is_tuple : PySem.W.keepIn K (.ref ff_is_tuple) = true)
{ff_are_mosts : Addr} {oc_are_mosts kV_are_mosts doc_are_mosts pm_are_mosts ct_are_mosts cd_are_mosts : Value} {od_are_mosts an_are_mosts : Option Addr} {sl_are_mosts : Array (Option Value)}
    (a_are_mosts : PySem.W.nsIn K mainGlobals "are_mosts" = some (some (.ref ff_are_mosts)))
    (l_are_mosts : K.lookup ff_are_mosts = some ⟨oc_are_mosts, od_are_mosts, .func (PySem.W.fnOf "are_mosts" "are_mosts" (C8.fnArgs s_are_mosts) (C8.fnBody s_are_mosts) (C8.fnScope s_are_mosts) .none kV_are_mosts doc_are_mosts pm_are_mosts an_are_mosts cd_are_mosts ct_are_mosts), sl_are_mosts⟩)
    (c_are_mosts : PySem.W.codeIn K cd_are_mosts "are_mosts" = true) (k_are_mosts : PySem.W.keepIn K (.ref ff_are_mosts) = true)
{ff_is_ground : Addr} {oc_is_ground kV_is_ground doc_is_ground pm_is_ground ct_is_ground cd_is_ground : Value} {od_is_ground an_is_ground : Option Addr} {sl_is_ground : Array (Option Value)}
    (a_is_ground : PySem.W.nsIn K mainGlobals "is_ground" = some (some (.ref ff_is_ground)))
    (l_is_ground : K.lookup ff_is_ground = some ⟨oc_is_ground, od_is_ground, .func (PySem.W.fnOf "is_ground" "is_ground" (C8.fnArgs s_is_ground) (C8.fnBody s_is_ground) (C8.fnScope s_is_ground) .none kV_is_ground doc_is_ground pm_is_ground an_is_ground cd_is_ground ct_is_ground), sl_is_ground⟩)
    (c_is_ground : PySem.W.codeIn K cd_is_ground "is_ground" = true) (k_is_ground : PySem.W.keepIn K (.ref ff_is_ground) = true)
{ff_is_issue_of : Addr} {oc_is_issue_of kV_is_issue_of doc_is_issue_of pm_is_issue_of ct_is_issue_of cd_is_issue_of : Value} {od_is_issue_of an_is_issue_of : Option Addr} {sl_is_issue_of : Array (Option Value)}
    (a_is_issue_of : PySem.W.nsIn K mainGlobals "is_issue_of" = some (some (.ref ff_is_issue_of)))
    (l_is_issue_of : K.lookup ff_is_issue_of = some ⟨oc_is_issue_of, od_is_issue_of, .func (PySem.W.fnOf "is_issue_of" "is_issue_of" (C8.fnArgs s_is_issue_of) (C8.fnBody s_is_issue_of) (C8.fnScope s_is_issue_of) .none kV_is_issue_of doc_is_issue_of pm_is_issue_of an_is_issue_of cd_is_issue_of ct_is_issue_of), sl_is_issue_of⟩)
    (c_is_issue_of : PySem.W.codeIn K cd_is_issue_of "is_issue_of" = true) (k_is_issue_of : PySem.W.keepIn K (.ref ff_is_issue_of) = true)
{ff_is_court_of : Addr} {oc_is_court_of kV_is_court_of doc_is_court_of pm_is_court_of ct_is_court_of cd_is_court_of : Value} {od_is_court_of an_is_court_of : Option Addr} {sl_is_court_of : Array (Option Value)}
    (a_is_court_of : PySem.W.nsIn K mainGlobals "is_court_of" = some (some (.ref ff_is_court_of)))
    (l_is_court_of : K.lookup ff_is_court_of = some ⟨oc_is_court_of, od_is_court_of, .func (PySem.W.fnOf "is_court_of" "is_court_of" (C8.fnArgs s_is_court_of) (C8.fnBody s_is_court_of) (C8.fnScope s_is_court_of) .none kV_is_court_of doc_is_court_of pm_is_court_of an_is_court_of cd_is_court_of ct_is_court_of), sl_is_court_of⟩)
    (c_is_court_of : PySem.W.codeIn K cd_is_court_of "is_court_of" = true) (k_is_court_of : PySem.W.keepIn K (.ref ff_is_court_of) = true)
{ff_is_book_any : Addr} {oc_is_book_any kV_is_book_any doc_is_book_any pm_is_book_any ct_is_book_any cd_is_book_any : Value} {od_is_book_any an_is_book_any : Option Addr} {sl_is_book_any : Array (Option Value)}
    (a_is_book_any : PySem.W.nsIn K mainGlobals "is_book_any" = some (some (.ref ff_is_book_any)))
    (l_is_book_any : K.lookup ff_is_book_any = some ⟨oc_is_book_any, od_is_book_any, .func (PySem.W.fnOf "is_book_any" "is_book_any" (C8.fnArgs s_is_book_any) (C8.fnBody s_is_book_any) (C8.fnScope s_is_book_any) .none kV_is_book_any doc_is_book_any pm_is_book_any an_is_book_any cd_is_book_any ct_is_book_any), sl_is_book_any⟩)
    (c_is_book_any : PySem.W.codeIn K cd_is_book_any "is_book_any" = true) (k_is_book_any : PySem.W.keepIn K (.ref ff_is_book_any) = true)
{ff_want_book : Addr} {oc_want_book kV_want_book doc_want_book pm_want_book ct_want_book cd_want_book : Value} {od_want_book an_want_book : Option Addr} {sl_want_book : Array (Option Value)}
    (a_want_book : PySem.W.nsIn K mainGlobals "want_book" = some (some (.ref ff_want_book)))
    (l_want_book : K.lookup ff_want_book = some ⟨oc_want_book, od_want_book, .func (PySem.W.fnOf "want_book" "want_book" (C8.fnArgs s_want_book) (C8.fnBody s_want_book) (C8.fnScope s_want_book) .none kV_want_book doc_want_book pm_want_book an_want_book cd_want_book ct_want_book), sl_want_book⟩)
    (c_want_book : PySem.W.codeIn K cd_want_book "want_book" = true) (k_want_book : PySem.W.keepIn K (.ref ff_want_book) = true)
{ff_want_issue : Addr} {oc_want_issue kV_want_issue doc_want_issue pm_want_issue ct_want_issue cd_want_issue : Value} {od_want_issue an_want_issue : Option Addr} {sl_want_issue : Array (Option Value)}
    (a_want_issue : PySem.W.nsIn K mainGlobals "want_issue" = some (some (.ref ff_want_issue)))
    (l_want_issue : K.lookup ff_want_issue = some ⟨oc_want_issue, od_want_issue, .func (PySem.W.fnOf "want_issue" "want_issue" (C8.fnArgs s_want_issue) (C8.fnBody s_want_issue) (C8.fnScope s_want_issue) .none kV_want_issue doc_want_issue pm_want_issue an_want_issue cd_want_issue ct_want_issue), sl_want_issue⟩)
    (c_want_issue : PySem.W.codeIn K cd_want_issue "want_issue" = true) (k_want_issue : PySem.W.keepIn K (.ref ff_want_issue) = true)
{ff_mosts_in : Addr} {oc_mosts_in kV_mosts_in doc_mosts_in pm_mosts_in ct_mosts_in cd_mosts_in : Value} {od_mosts_in an_mosts_in : Option Addr} {sl_mosts_in : Array (Option Value)}
    (a_mosts_in : PySem.W.nsIn K mainGlobals "mosts_in" = some (some (.ref ff_mosts_in)))
    (l_mosts_in : K.lookup ff_mosts_in = some ⟨oc_mosts_in, od_mosts_in, .func (PySem.W.fnOf "mosts_in" "mosts_in" (C8.fnArgs s_mosts_in) (C8.fnBody s_mosts_in) (C8.fnScope s_mosts_in) .none kV_mosts_in doc_mosts_in pm_mosts_in an_mosts_in cd_mosts_in ct_mosts_in), sl_mosts_in⟩)
    (c_mosts_in : PySem.W.codeIn K cd_mosts_in "mosts_in" = true) (k_mosts_in : PySem.W.keepIn K (.ref ff_mosts_in) = true)
{ff_flaw_of_book : Addr} {oc_flaw_of_book kV_flaw_of_book doc_flaw_of_book pm_flaw_of_book ct_flaw_of_book cd_flaw_of_book : Value} {od_flaw_of_book an_flaw_of_book : Option Addr} {sl_flaw_of_book : Array (Option Value)}
    (a_flaw_of_book : PySem.W.nsIn K mainGlobals "flaw_of_book" = some (some (.ref ff_flaw_of_book)))
    (l_flaw_of_book : K.lookup ff_flaw_of_book = some ⟨oc_flaw_of_book, od_flaw_of_book, .func (PySem.W.fnOf "flaw_of_book" "flaw_of_book" (C8.fnArgs s_flaw_of_book) (C8.fnBody s_flaw_of_book) (C8.fnScope s_flaw_of_book) .none kV_flaw_of_book doc_flaw_of_book pm_flaw_of_book an_flaw_of_book cd_flaw_of_book ct_flaw_of_book), sl_flaw_of_book⟩)
    (c_flaw_of_book : PySem.W.codeIn K cd_flaw_of_book "flaw_of_book" = true) (k_flaw_of_book : PySem.W.keepIn K (.ref ff_flaw_of_book) = true)
{ff_box_of : Addr} {oc_box_of kV_box_of doc_box_of pm_box_of ct_box_of cd_box_of : Value} {od_box_of an_box_of : Option Addr} {sl_box_of : Array (Option Value)}
    (a_box_of : PySem.W.nsIn K mainGlobals "box_of" = some (some (.ref ff_box_of)))
    (l_box_of : K.lookup ff_box_of = some ⟨oc_box_of, od_box_of, .func (PySem.W.fnOf "box_of" "box_of" (C8.fnArgs s_box_of) (C8.fnBody s_box_of) (C8.fnScope s_box_of) .none kV_box_of doc_box_of pm_box_of an_box_of cd_box_of ct_box_of), sl_box_of⟩)
    (c_box_of : PySem.W.codeIn K cd_box_of "box_of" = true) (k_box_of : PySem.W.keepIn K (.ref ff_box_of) = true)
{ff_many_in : Addr} {oc_many_in kV_many_in doc_many_in pm_many_in ct_many_in cd_many_in : Value} {od_many_in an_many_in : Option Addr} {sl_many_in : Array (Option Value)}
    (a_many_in : PySem.W.nsIn K mainGlobals "many_in" = some (some (.ref ff_many_in)))
    (l_many_in : K.lookup ff_many_in = some ⟨oc_many_in, od_many_in, .func (PySem.W.fnOf "many_in" "many_in" (C8.fnArgs s_many_in) (C8.fnBody s_many_in) (C8.fnScope s_many_in) .none kV_many_in doc_many_in pm_many_in an_many_in cd_many_in ct_many_in), sl_many_in⟩)
    (c_many_in : PySem.W.codeIn K cd_many_in "many_in" = true) (k_many_in : PySem.W.keepIn K (.ref ff_many_in) = true)
{ff_is_book : Addr} {oc_is_book kV_is_book doc_is_book pm_is_book ct_is_book cd_is_book : Value} {od_is_book an_is_book : Option Addr} {sl_is_book : Array (Option Value)}
    (a_is_book : PySem.W.nsIn K mainGlobals "is_book" = some (some (.ref ff_is_book)))
    (l_is_book : K.lookup ff_is_book = some ⟨oc_is_book, od_is_book, .func (PySem.W.fnOf "is_book" "is_book" (C8.fnArgs s_is_book) (C8.fnBody s_is_book) (C8.fnScope s_is_book) .none kV_is_book doc_is_book pm_is_book an_is_book cd_is_book ct_is_book), sl_is_book⟩)
    (c_is_book : PySem.W.codeIn K cd_is_book "is_book" = true) (k_is_book : PySem.W.keepIn K (.ref ff_is_book) = true)
{ff_book_flaw : Addr} {oc_book_flaw kV_book_flaw doc_book_flaw pm_book_flaw ct_book_flaw cd_book_flaw : Value} {od_book_flaw an_book_flaw : Option Addr} {sl_book_flaw : Array (Option Value)}
    (a_book_flaw : PySem.W.nsIn K mainGlobals "book_flaw" = some (some (.ref ff_book_flaw)))
    (l_book_flaw : K.lookup ff_book_flaw = some ⟨oc_book_flaw, od_book_flaw, .func (PySem.W.fnOf "book_flaw" "book_flaw" (C8.fnArgs s_book_flaw) (C8.fnBody s_book_flaw) (C8.fnScope s_book_flaw) .none kV_book_flaw doc_book_flaw pm_book_flaw an_book_flaw cd_book_flaw ct_book_flaw), sl_book_flaw⟩)
    (c_book_flaw : PySem.W.codeIn K cd_book_flaw "book_flaw" = true) (k_book_flaw : PySem.W.keepIn K (.ref ff_book_flaw) = true)
{ff_count_points : Addr} {oc_count_points kV_count_points doc_count_points pm_count_points ct_count_points cd_count_points : Value} {od_count_points an_count_points : Option Addr} {sl_count_points : Array (Option Value)}
    (a_count_points : PySem.W.nsIn K mainGlobals "count_points" = some (some (.ref ff_count_points)))
    (l_count_points : K.lookup ff_count_points = some ⟨oc_count_points, od_count_points, .func (PySem.W.fnOf "count_points" "count_points" (C8.fnArgs s_count_points) (C8.fnBody s_count_points) (C8.fnScope s_count_points) .none kV_count_points doc_count_points pm_count_points an_count_points cd_count_points ct_count_points), sl_count_points⟩)
    (c_count_points : PySem.W.codeIn K cd_count_points "count_points" = true) (k_count_points : PySem.W.keepIn K (.ref ff_count_points) = true)
{ff__law_pot : Addr} {oc__law_pot kV__law_pot doc__law_pot pm__law_pot ct__law_pot cd__law_pot : Value} {od__law_pot an__law_pot : Option Addr} {sl__law_pot : Array (Option Value)}
    (a__law_pot : PySem.W.nsIn K mainGlobals "_law_pot" = some (some (.ref ff__law_pot)))
    (l__law_pot : K.lookup ff__law_pot = some ⟨oc__law_pot, od__law_pot, .func (PySem.W.fnOf "_law_pot" "_law_pot" (C8.fnArgs s__law_pot) (C8.fnBody s__law_pot) (C8.fnScope s__law_pot) .none kV__law_pot doc__law_pot pm__law_pot an__law_pot cd__law_pot ct__law_pot), sl__law_pot⟩)
    (c__law_pot : PySem.W.codeIn K cd__law_pot "_law_pot" = true) (k__law_pot : PySem.W.keepIn K (.ref ff__law_pot) = true)
{ff__law_draw : Addr} {oc__law_draw kV__law_draw doc__law_draw pm__law_draw ct__law_draw cd__law_draw : Value} {od__law_draw an__law_draw : Option Addr} {sl__law_draw : Array (Option Value)}
    (a__law_draw : PySem.W.nsIn K mainGlobals "_law_draw" = some (some (.ref ff__law_draw)))
    (l__law_draw : K.lookup ff__law_draw = some ⟨oc__law_draw, od__law_draw, .func (PySem.W.fnOf "_law_draw" "_law_draw" (C8.fnArgs s__law_draw) (C8.fnBody s__law_draw) (C8.fnScope s__law_draw) .none kV__law_draw doc__law_draw pm__law_draw an__law_draw cd__law_draw ct__law_draw), sl__law_draw⟩)
    (c__law_draw : PySem.W.codeIn K cd__law_draw "_law_draw" = true) (k__law_draw : PySem.W.keepIn K (.ref ff__law_draw) = true)
{ff__law_pick : Addr} {oc__law_pick kV__law_pick doc__law_pick pm__law_pick ct__law_pick cd__law_pick : Value} {od__law_pick an__law_pick : Option Addr} {sl__law_pick : Array (Option Value)}
    (a__law_pick : PySem.W.nsIn K mainGlobals "_law_pick" = some (some (.ref ff__law_pick)))
    (l__law_pick : K.lookup ff__law_pick = some ⟨oc__law_pick, od__law_pick, .func (PySem.W.fnOf "_law_pick" "_law_pick" (C8.fnArgs s__law_pick) (C8.fnBody s__law_pick) (C8.fnScope s__law_pick) .none kV__law_pick doc__law_pick pm__law_pick an__law_pick cd__law_pick ct__law_pick), sl__law_pick⟩)
    (c__law_pick : PySem.W.codeIn K cd__law_pick "_law_pick" = true) (k__law_pick : PySem.W.keepIn K (.ref ff__law_pick) = true)
{ff__law_most_of : Addr} {oc__law_most_of kV__law_most_of doc__law_most_of pm__law_most_of ct__law_most_of cd__law_most_of : Value} {od__law_most_of an__law_most_of : Option Addr} {sl__law_most_of : Array (Option Value)}
    (a__law_most_of : PySem.W.nsIn K mainGlobals "_law_most_of" = some (some (.ref ff__law_most_of)))
    (l__law_most_of : K.lookup ff__law_most_of = some ⟨oc__law_most_of, od__law_most_of, .func (PySem.W.fnOf "_law_most_of" "_law_most_of" (C8.fnArgs s__law_most_of) (C8.fnBody s__law_most_of) (C8.fnScope s__law_most_of) .none kV__law_most_of doc__law_most_of pm__law_most_of an__law_most_of cd__law_most_of ct__law_most_of), sl__law_most_of⟩)
    (c__law_most_of : PySem.W.codeIn K cd__law_most_of "_law_most_of" = true) (k__law_most_of : PySem.W.keepIn K (.ref ff__law_most_of) = true)
{ff__law_issue : Addr} {oc__law_issue kV__law_issue doc__law_issue pm__law_issue ct__law_issue cd__law_issue : Value} {od__law_issue an__law_issue : Option Addr} {sl__law_issue : Array (Option Value)}
    (a__law_issue : PySem.W.nsIn K mainGlobals "_law_issue" = some (some (.ref ff__law_issue)))
    (l__law_issue : K.lookup ff__law_issue = some ⟨oc__law_issue, od__law_issue, .func (PySem.W.fnOf "_law_issue" "_law_issue" (C8.fnArgs s__law_issue) (C8.fnBody s__law_issue) (C8.fnScope s__law_issue) .none kV__law_issue doc__law_issue pm__law_issue an__law_issue cd__law_issue ct__law_issue), sl__law_issue⟩)
    (c__law_issue : PySem.W.codeIn K cd__law_issue "_law_issue" = true) (k__law_issue : PySem.W.keepIn K (.ref ff__law_issue) = true)
{ff__law_book : Addr} {oc__law_book kV__law_book doc__law_book pm__law_book ct__law_book cd__law_book : Value} {od__law_book an__law_book : Option Addr} {sl__law_book : Array (Option Value)}
    (a__law_book : PySem.W.nsIn K mainGlobals "_law_book" = some (some (.ref ff__law_book)))
    (l__law_book : K.lookup ff__law_book = some ⟨oc__law_book, od__law_book, .func (PySem.W.fnOf "_law_book" "_law_book" (C8.fnArgs s__law_book) (C8.fnBody s__law_book) (C8.fnScope s__law_book) .none kV__law_book doc__law_book pm__law_book an__law_book cd__law_book ct__law_book), sl__law_book⟩)
    (c__law_book : PySem.W.codeIn K cd__law_book "_law_book" = true) (k__law_book : PySem.W.keepIn K (.ref ff__law_book) = true)
{ff__law_is_whole : Addr} {oc__law_is_whole kV__law_is_whole doc__law_is_whole pm__law_is_whole ct__law_is_whole cd__law_is_whole : Value} {od__law_is_whole an__law_is_whole : Option Addr} {sl__law_is_whole : Array (Option Value)}
    (a__law_is_whole : PySem.W.nsIn K mainGlobals "_law_is_whole" = some (some (.ref ff__law_is_whole)))
    (l__law_is_whole : K.lookup ff__law_is_whole = some ⟨oc__law_is_whole, od__law_is_whole, .func (PySem.W.fnOf "_law_is_whole" "_law_is_whole" (C8.fnArgs s__law_is_whole) (C8.fnBody s__law_is_whole) (C8.fnScope s__law_is_whole) .none kV__law_is_whole doc__law_is_whole pm__law_is_whole an__law_is_whole cd__law_is_whole ct__law_is_whole), sl__law_is_whole⟩)
    (c__law_is_whole : PySem.W.codeIn K cd__law_is_whole "_law_is_whole" = true) (k__law_is_whole : PySem.W.keepIn K (.ref ff__law_is_whole) = true)
{ff__law_is_issue : Addr} {oc__law_is_issue kV__law_is_issue doc__law_is_issue pm__law_is_issue ct__law_is_issue cd__law_is_issue : Value} {od__law_is_issue an__law_is_issue : Option Addr} {sl__law_is_issue : Array (Option Value)}
    (a__law_is_issue : PySem.W.nsIn K mainGlobals "_law_is_issue" = some (some (.ref ff__law_is_issue)))
    (l__law_is_issue : K.lookup ff__law_is_issue = some ⟨oc__law_is_issue, od__law_is_issue, .func (PySem.W.fnOf "_law_is_issue" "_law_is_issue" (C8.fnArgs s__law_is_issue) (C8.fnBody s__law_is_issue) (C8.fnScope s__law_is_issue) .none kV__law_is_issue doc__law_is_issue pm__law_is_issue an__law_is_issue cd__law_is_issue ct__law_is_issue), sl__law_is_issue⟩)
    (c__law_is_issue : PySem.W.codeIn K cd__law_is_issue "_law_is_issue" = true) (k__law_is_issue : PySem.W.keepIn K (.ref ff__law_is_issue) = true)
{ff__law_is_court : Addr} {oc__law_is_court kV__law_is_court doc__law_is_court pm__law_is_court ct__law_is_court cd__law_is_court : Value} {od__law_is_court an__law_is_court : Option Addr} {sl__law_is_court : Array (Option Value)}
    (a__law_is_court : PySem.W.nsIn K mainGlobals "_law_is_court" = some (some (.ref ff__law_is_court)))
    (l__law_is_court : K.lookup ff__law_is_court = some ⟨oc__law_is_court, od__law_is_court, .func (PySem.W.fnOf "_law_is_court" "_law_is_court" (C8.fnArgs s__law_is_court) (C8.fnBody s__law_is_court) (C8.fnScope s__law_is_court) .none kV__law_is_court doc__law_is_court pm__law_is_court an__law_is_court cd__law_is_court ct__law_is_court), sl__law_is_court⟩)
    (c__law_is_court : PySem.W.codeIn K cd__law_is_court "_law_is_court" = true) (k__law_is_court : PySem.W.keepIn K (.ref ff__law_is_court) = true)
{ff__law_flaw : Addr} {oc__law_flaw kV__law_flaw doc__law_flaw pm__law_flaw ct__law_flaw cd__law_flaw : Value} {od__law_flaw an__law_flaw : Option Addr} {sl__law_flaw : Array (Option Value)}
    (a__law_flaw : PySem.W.nsIn K mainGlobals "_law_flaw" = some (some (.ref ff__law_flaw)))
    (l__law_flaw : K.lookup ff__law_flaw = some ⟨oc__law_flaw, od__law_flaw, .func (PySem.W.fnOf "_law_flaw" "_law_flaw" (C8.fnArgs s__law_flaw) (C8.fnBody s__law_flaw) (C8.fnScope s__law_flaw) .none kV__law_flaw doc__law_flaw pm__law_flaw an__law_flaw cd__law_flaw ct__law_flaw), sl__law_flaw⟩)
    (c__law_flaw : PySem.W.codeIn K cd__law_flaw "_law_flaw" = true) (k__law_flaw : PySem.W.keepIn K (.ref ff__law_flaw) = true)
{ff__law_paths : Addr} {oc__law_paths kV__law_paths doc__law_paths pm__law_paths ct__law_paths cd__law_paths : Value} {od__law_paths an__law_paths : Option Addr} {sl__law_paths : Array (Option Value)}
    (a__law_paths : PySem.W.nsIn K mainGlobals "_law_paths" = some (some (.ref ff__law_paths)))
    (l__law_paths : K.lookup ff__law_paths = some ⟨oc__law_paths, od__law_paths, .func (PySem.W.fnOf "_law_paths" "_law_paths" (C8.fnArgs s__law_paths) (C8.fnBody s__law_paths) (C8.fnScope s__law_paths) .none kV__law_paths doc__law_paths pm__law_paths an__law_paths cd__law_paths ct__law_paths), sl__law_paths⟩)
    (c__law_paths : PySem.W.codeIn K cd__law_paths "_law_paths" = true) (k__law_paths : PySem.W.keepIn K (.ref ff__law_paths) = true)
{ff__law_with : Addr} {oc__law_with kV__law_with doc__law_with pm__law_with ct__law_with cd__law_with : Value} {od__law_with an__law_with : Option Addr} {sl__law_with : Array (Option Value)}
    (a__law_with : PySem.W.nsIn K mainGlobals "_law_with" = some (some (.ref ff__law_with)))
    (l__law_with : K.lookup ff__law_with = some ⟨oc__law_with, od__law_with, .func (PySem.W.fnOf "_law_with" "_law_with" (C8.fnArgs s__law_with) (C8.fnBody s__law_with) (C8.fnScope s__law_with) .none kV__law_with doc__law_with pm__law_with an__law_with cd__law_with ct__law_with), sl__law_with⟩)
    (c__law_with : PySem.W.codeIn K cd__law_with "_law_with" = true) (k__law_with : PySem.W.keepIn K (.ref ff__law_with) = true)
{ff__law_bent : Addr} {oc__law_bent kV__law_bent doc__law_bent pm__law_bent ct__law_bent cd__law_bent : Value} {od__law_bent an__law_bent : Option Addr} {sl__law_bent : Array (Option Value)}
    (a__law_bent : PySem.W.nsIn K mainGlobals "_law_bent" = some (some (.ref ff__law_bent)))
    (l__law_bent : K.lookup ff__law_bent = some ⟨oc__law_bent, od__law_bent, .func (PySem.W.fnOf "_law_bent" "_law_bent" (C8.fnArgs s__law_bent) (C8.fnBody s__law_bent) (C8.fnScope s__law_bent) .none kV__law_bent doc__law_bent pm__law_bent an__law_bent cd__law_bent ct__law_bent), sl__law_bent⟩)
    (c__law_bent : PySem.W.codeIn K cd__law_bent "_law_bent" = true) (k__law_bent : PySem.W.keepIn K (.ref ff__law_bent) = true)
{ff__law_greatest : Addr} {oc__law_greatest kV__law_greatest doc__law_greatest pm__law_greatest ct__law_greatest cd__law_greatest : Value} {od__law_greatest an__law_greatest : Option Addr} {sl__law_greatest : Array (Option Value)}
    (a__law_greatest : PySem.W.nsIn K mainGlobals "_law_greatest" = some (some (.ref ff__law_greatest)))
    (l__law_greatest : K.lookup ff__law_greatest = some ⟨oc__law_greatest, od__law_greatest, .func (PySem.W.fnOf "_law_greatest" "_law_greatest" (C8.fnArgs s__law_greatest) (C8.fnBody s__law_greatest) (C8.fnScope s__law_greatest) .none kV__law_greatest doc__law_greatest pm__law_greatest an__law_greatest cd__law_greatest ct__law_greatest), sl__law_greatest⟩)
    (c__law_greatest : PySem.W.codeIn K cd__law_greatest "_law_greatest" = true) (k__law_greatest : PySem.W.keepIn K (.ref ff__law_greatest) = true)
{ff__law_heard : Addr} {oc__law_heard kV__law_heard doc__law_heard pm__law_heard ct__law_heard cd__law_heard : Value} {od__law_heard an__law_heard : Option Addr} {sl__law_heard : Array (Option Value)}
    (a__law_heard : PySem.W.nsIn K mainGlobals "_law_heard" = some (some (.ref ff__law_heard)))
    (l__law_heard : K.lookup ff__law_heard = some ⟨oc__law_heard, od__law_heard, .func (PySem.W.fnOf "_law_heard" "_law_heard" (C8.fnArgs s__law_heard) (C8.fnBody s__law_heard) (C8.fnScope s__law_heard) .none kV__law_heard doc__law_heard pm__law_heard an__law_heard cd__law_heard ct__law_heard), sl__law_heard⟩)
    (c__law_heard : PySem.W.codeIn K cd__law_heard "_law_heard" = true) (k__law_heard : PySem.W.keepIn K (.ref ff__law_heard) = true)
{ff__law_value_right cc__law_value_right Pt__law_value_right : Addr} {oc__law_value_right kV__law_value_right doc__law_value_right pm__law_value_right ct__law_value_right : Value} {od__law_value_right an__law_value_right : Option Addr} {sl__law_value_right : Array (Option Value)}
    (a__law_value_right : PySem.W.nsIn K mainGlobals "_law_value_right" = some (some (.ref ff__law_value_right)))
    (l__law_value_right : K.lookup ff__law_value_right = some ⟨oc__law_value_right, od__law_value_right, .func (PySem.W.fnOf "_law_value_right" "_law_value_right" (C8.fnArgs s__law_value_right) (C8.fnBody s__law_value_right) (C8.fnScope s__law_value_right) .none kV__law_value_right doc__law_value_right pm__law_value_right an__law_value_right (.ref cc__law_value_right) ct__law_value_right), sl__law_value_right⟩)
    (c__law_value_right : PySem.W.codeIn K (.ref cc__law_value_right) "_law_value_right" = true) (k__law_value_right : PySem.W.keepIn K (.ref ff__law_value_right) = true)
    (o__law_value_right : K.lookup Pt__law_value_right = none)
{ff__law_right : Addr} {oc__law_right kV__law_right doc__law_right pm__law_right ct__law_right cd__law_right : Value} {od__law_right an__law_right : Option Addr} {sl__law_right : Array (Option Value)}
    (a__law_right : PySem.W.nsIn K mainGlobals "_law_right" = some (some (.ref ff__law_right)))
    (l__law_right : K.lookup ff__law_right = some ⟨oc__law_right, od__law_right, .func (PySem.W.fnOf "_law_right" "_law_right" (C8.fnArgs s__law_right) (C8.fnBody s__law_right) (C8.fnScope s__law_right) .none kV__law_right doc__law_right pm__law_right an__law_right cd__law_right ct__law_right), sl__law_right⟩)
    (c__law_right : PySem.W.codeIn K cd__law_right "_law_right" = true) (k__law_right : PySem.W.keepIn K (.ref ff__law_right) = true)
{ff_law : Addr} {oc_law kV_law doc_law pm_law ct_law cd_law : Value} {od_law an_law : Option Addr} {sl_law : Array (Option Value)}
    (a_law : PySem.W.nsIn K mainGlobals "law" = some (some (.ref ff_law)))
    (l_law : K.lookup ff_law = some ⟨oc_law, od_law, .func (PySem.W.fnOf "law" "law" (C8.fnArgs s_law) (C8.fnBody s_law) (C8.fnScope s_law) .none kV_law doc_law pm_law an_law cd_law ct_law), sl_law⟩)
    (c_law : PySem.W.codeIn K cd_law "law" = true) (k_law : PySem.W.keepIn K (.ref ff_law) = true)
    {t_FACT : Tok} (g_FACT : PySem.W.nsIn K mainGlobals "FACT" = some (some (.str "fact" t_FACT)))
    {t_ISSUE : Tok} (g_ISSUE : PySem.W.nsIn K mainGlobals "ISSUE" = some (some (.str "issue" t_ISSUE)))
    {t_MOST_AMOUNT : Tok} (g_MOST_AMOUNT : PySem.W.nsIn K mainGlobals "MOST_AMOUNT" = some (some (.int 9 t_MOST_AMOUNT)))
    {t_MOST_COURTS : Tok} (g_MOST_COURTS : PySem.W.nsIn K mainGlobals "MOST_COURTS" = some (some (.int 8 t_MOST_COURTS)))
    {t_MOST_FACTS : Tok} (g_MOST_FACTS : PySem.W.nsIn K mainGlobals "MOST_FACTS" = some (some (.int 10 t_MOST_FACTS)))
    {t_MOST_GROUNDS : Tok} (g_MOST_GROUNDS : PySem.W.nsIn K mainGlobals "MOST_GROUNDS" = some (some (.int 8 t_MOST_GROUNDS)))
    {t_MOST_ISSUES : Tok} (g_MOST_ISSUES : PySem.W.nsIn K mainGlobals "MOST_ISSUES" = some (some (.int 6 t_MOST_ISSUES)))
    (z_abs : PySem.W.nsIn K mainGlobals "abs" = some none)
    (z_all : PySem.W.nsIn K mainGlobals "all" = some none)
    (z_bool : PySem.W.nsIn K mainGlobals "bool" = some none)
    (z_divmod : PySem.W.nsIn K mainGlobals "divmod" = some none)
    (z_enumerate : PySem.W.nsIn K mainGlobals "enumerate" = some none)
    (z_int : PySem.W.nsIn K mainGlobals "int" = some none)
    (z_isinstance : PySem.W.nsIn K mainGlobals "isinstance" = some none)
    (z_len : PySem.W.nsIn K mainGlobals "len" = some none)
    (z_list : PySem.W.nsIn K mainGlobals "list" = some none)
    (z_max : PySem.W.nsIn K mainGlobals "max" = some none)
    (z_min : PySem.W.nsIn K mainGlobals "min" = some none)
    (z_range : PySem.W.nsIn K mainGlobals "range" = some none)
    (z_repr : PySem.W.nsIn K mainGlobals "repr" = some none)
    (z_set : PySem.W.nsIn K mainGlobals "set" = some none)
    (z_str : PySem.W.nsIn K mainGlobals "str" = some none)
    (z_tuple : PySem.W.nsIn K mainGlobals "tuple" = some none)
    (z_zip : PySem.W.nsIn K mainGlobals "zip" = some none)
    {C_InvalidBook : Addr} (ac_InvalidBook : PySem.W.nsIn K mainGlobals "InvalidBook" = some (some (.ref C_InvalidBook)))
    {C_InvalidIssue : Addr} (ac_InvalidIssue : PySem.W.nsIn K mainGlobals "InvalidIssue" = some (some (.ref C_InvalidIssue)))
    {C_WorkError : Addr} (ac_WorkError : PySem.W.nsIn K mainGlobals "WorkError" = some (some (.ref C_WorkError)))
    (ex_InvalidBook_InvalidBook : PySem.W.exmOne K (.ref C_InvalidBook) (.ref C_InvalidBook) = some true)
    (ex_InvalidIssue_InvalidBook : PySem.W.exmOne K (.ref C_InvalidIssue) (.ref C_InvalidBook) = some false)
    (ki_InvalidBook_WorkError : PySem.W.kitOne K (.ref C_InvalidBook) (.ref C_WorkError) = some true)
    (no_InvalidBook_value : PySem.W.findIn K (.ref C_InvalidBook) "value" = some none)
    (xfb_InvalidBook : xfB K C_InvalidBook = true) (edb_InvalidBook : exdB K C_InvalidBook = true)
    {ci_WorkError : Addr} {oci_WorkError kVi_WorkError doci_WorkError pmi_WorkError cti_WorkError cdi_WorkError dVi_WorkError : Value} {odi_WorkError ani_WorkError : Option Addr} {sli_WorkError : Array (Option Value)}
    (li_WorkError : K.lookup ci_WorkError = some ⟨oci_WorkError, odi_WorkError, .func (PySem.W.fnOf "__init__" "WorkError.__init__" (L2.defArgs s_init_WorkError) (L2.defBody s_init_WorkError) (L2.defScope s_init_WorkError) dVi_WorkError kVi_WorkError doci_WorkError pmi_WorkError ani_WorkError cdi_WorkError cti_WorkError), sli_WorkError⟩)
    (cdk_WorkError : PySem.W.codeIn K cdi_WorkError "WorkError.__init__" = true) (ti_WorkError : PySem.W.typeIn K (.ref ci_WorkError) = some (.type "function")) (df_WorkError : L2.DflV K dVi_WorkError [.non]) (kpi_WorkError : PySem.W.keepIn K (.ref ci_WorkError) = true)
    (ii_InvalidBook : PySem.W.findIn K (.ref C_InvalidBook) "__init__" = some (some (.ref ci_WorkError)))
    {nm_InvalidBook q_InvalidBook : Str} {N_InvalidBook : Addr} {bs_InvalidBook : List Value} {sn_InvalidBook : List Str} {sub_InvalidBook : List Value} {ab_InvalidBook : Bool} {col_InvalidBook : Option Bool} {dd_InvalidBook : Option Addr} {k0_InvalidBook k1_InvalidBook k2_InvalidBook k3_InvalidBook k5_InvalidBook : Option Value} {bm_InvalidBook : List Value}
    (oc1_InvalidBook : K.lookup C_InvalidBook = some (excClassObj nm_InvalidBook q_InvalidBook C_InvalidBook N_InvalidBook bs_InvalidBook bm_InvalidBook true sn_InvalidBook sub_InvalidBook ab_InvalidBook col_InvalidBook dd_InvalidBook k0_InvalidBook k1_InvalidBook k2_InvalidBook k3_InvalidBook k5_InvalidBook "ValueError.__new__"))
    (oc2_InvalidBook : PySem.HandSPX.refsVE bm_InvalidBook = true) (oc3_InvalidBook : PySem.W.findIn K (.ref C_InvalidBook) "__setattr__" = some (some (.builtin "object.__setattr__"))) (oc4_InvalidBook : PySem.W.subIn K (.ref C_InvalidBook) (.type "BaseException") = some true) (oc5_InvalidBook : PySem.W.typeIn K (.ref C_InvalidBook) = some (.type "type")) (oc6_InvalidBook : PySem.W.keepIn K (.ref C_InvalidBook) = true)
    (ii_InvalidIssue : PySem.W.findIn K (.ref C_InvalidIssue) "__init__" = some (some (.ref ci_WorkError)))
    {nm_InvalidIssue q_InvalidIssue : Str} {N_InvalidIssue : Addr} {bs_InvalidIssue : List Value} {sn_InvalidIssue : List Str} {sub_InvalidIssue : List Value} {ab_InvalidIssue : Bool} {col_InvalidIssue : Option Bool} {dd_InvalidIssue : Option Addr} {k0_InvalidIssue k1_InvalidIssue k2_InvalidIssue k3_InvalidIssue k5_InvalidIssue : Option Value} {bm_InvalidIssue : List Value}
    (oc1_InvalidIssue : K.lookup C_InvalidIssue = some (excClassObj nm_InvalidIssue q_InvalidIssue C_InvalidIssue N_InvalidIssue bs_InvalidIssue bm_InvalidIssue true sn_InvalidIssue sub_InvalidIssue ab_InvalidIssue col_InvalidIssue dd_InvalidIssue k0_InvalidIssue k1_InvalidIssue k2_InvalidIssue k3_InvalidIssue k5_InvalidIssue "ValueError.__new__"))
    (oc2_InvalidIssue : PySem.HandSPX.refsVE bm_InvalidIssue = true) (oc3_InvalidIssue : PySem.W.findIn K (.ref C_InvalidIssue) "__setattr__" = some (some (.builtin "object.__setattr__"))) (oc4_InvalidIssue : PySem.W.subIn K (.ref C_InvalidIssue) (.type "BaseException") = some true) (oc5_InvalidIssue : PySem.W.typeIn K (.ref C_InvalidIssue) = some (.type "type")) (oc6_InvalidIssue : PySem.W.keepIn K (.ref C_InvalidIssue) = true)
    (no_InvalidIssue_value : PySem.W.findIn K (.ref C_InvalidIssue) "value" = some none)
    (hemp : h.get? Pt__law_value_right = some { cls := .none, data := .fields #[] }) (hcdh : PySem.W.codeHdIn K cc__law_value_right Pt__law_value_right = true)
    (plain : ∀ ns : List Int, ns.length ≤ 63 → (∀ z ∈ ns, Builtin.Int.intBits z ≤ 1048576) → m_law [.val (.list (ns.map PyData.int))] = .ok (.val (.bool true)) []) : LawAtM l w K 16 63 "script" mg fa h := by
  have e := hfa.symm.trans (PySem.W.mg_of X G a_law)
  have e2 : ff_law = fa := (Value.ref.inj (Option.some.inj e)).symm
  subst e2
  have T : Fx K mg C_InvalidBook C_InvalidIssue C_WorkError := {
    cl_InvalidBook := PySem.W.mg_of X G ac_InvalidBook,
    cl_InvalidIssue := PySem.W.mg_of X G ac_InvalidIssue,
    cl_WorkError := PySem.W.mg_of X G ac_WorkError,
    ex_InvalidBook_InvalidBook := ex_InvalidBook_InvalidBook,
    ex_InvalidIssue_InvalidBook := ex_InvalidIssue_InvalidBook,
    ki_InvalidBook_WorkError := ki_InvalidBook_WorkError,
    no_InvalidBook_value := no_InvalidBook_value,
    xf_InvalidBook := xfB_ok xfb_InvalidBook,
    ed_InvalidBook := exdB_ok edb_InvalidBook,
    c_FACT := ⟨.str "fact", _, PySem.W.mg_of X G g_FACT, ⟨_, rfl⟩, fun _ => .str _⟩,
    c_ISSUE := ⟨.str "issue", _, PySem.W.mg_of X G g_ISSUE, ⟨_, rfl⟩, fun _ => .str _⟩,
    c_MOST_AMOUNT := ⟨.int 9, _, PySem.W.mg_of X G g_MOST_AMOUNT, ⟨_, rfl⟩, fun _ => .int _⟩,
    c_MOST_COURTS := ⟨.int 8, _, PySem.W.mg_of X G g_MOST_COURTS, ⟨_, rfl⟩, fun _ => .int _⟩,
    c_MOST_FACTS := ⟨.int 10, _, PySem.W.mg_of X G g_MOST_FACTS, ⟨_, rfl⟩, fun _ => .int _⟩,
    c_MOST_GROUNDS := ⟨.int 8, _, PySem.W.mg_of X G g_MOST_GROUNDS, ⟨_, rfl⟩, fun _ => .int _⟩,
    c_MOST_ISSUES := ⟨.int 6, _, PySem.W.mg_of X G g_MOST_ISSUES, ⟨_, rfl⟩, fun _ => .int _⟩,
    n_abs := PySem.W.mg_none_of X G z_abs,
    n_all := PySem.W.mg_none_of X G z_all,
    n_bool := PySem.W.mg_none_of X G z_bool,
    n_divmod := PySem.W.mg_none_of X G z_divmod,
    n_enumerate := PySem.W.mg_none_of X G z_enumerate,
    n_int := PySem.W.mg_none_of X G z_int,
    n_isinstance := PySem.W.mg_none_of X G z_isinstance,
    n_len := PySem.W.mg_none_of X G z_len,
    n_list := PySem.W.mg_none_of X G z_list,
    n_max := PySem.W.mg_none_of X G z_max,
    n_min := PySem.W.mg_none_of X G z_min,
    n_range := PySem.W.mg_none_of X G z_range,
    n_repr := PySem.W.mg_none_of X G z_repr,
    n_set := PySem.W.mg_none_of X G z_set,
    n_str := PySem.W.mg_none_of X G z_str,
    n_tuple := PySem.W.mg_none_of X G z_tuple,
    n_zip := PySem.W.mg_none_of X G z_zip }
  have F_is_integer : C8.Fun K "is_integer" "is_integer" s_is_integer ff_is_integer _ := ⟨⟨_, _, _, _, _, _, _, _, _, _, rfl, l_is_integer, c_is_integer⟩⟩
  have B_is_integer : L2.Binds K _ ["value"] [] := L2.Binds.all (fd := PySem.W.fnOf "is_integer" "is_integer" (C8.fnArgs s_is_integer) (C8.fnBody s_is_integer) (C8.fnScope s_is_integer) .none kV_is_integer doc_is_integer pm_is_integer an_is_integer cd_is_integer ct_is_integer) fun us hl => match us, hl with | [_], _ => rfl
  have F_is_within : C8.Fun K "is_within" "is_within" s_is_within ff_is_within _ := ⟨⟨_, _, _, _, _, _, _, _, _, _, rfl, l_is_within, c_is_within⟩⟩
  have B_is_within : L2.Binds K _ ["value", "least", "most"] [] := L2.Binds.all (fd := PySem.W.fnOf "is_within" "is_within" (C8.fnArgs s_is_within) (C8.fnBody s_is_within) (C8.fnScope s_is_within) .none kV_is_within doc_is_within pm_is_within an_is_within cd_is_within ct_is_within) fun us hl => match us, hl with | [_, _, _], _ => rfl
  have F_is_tuple : C8.Fun K "is_tuple" "is_tuple" s_is_tuple ff_is_tuple _ := ⟨⟨_, _, _, _, _, _, _, _, _, _, rfl, l_is_tuple, c_is_tuple⟩⟩
  have B_is_tuple : L2.Binds K _ ["value", "many"] [] := L2.Binds.all (fd := PySem.W.fnOf "is_tuple" "is_tuple" (C8.fnArgs s_is_tuple) (C8.fnBody s_is_tuple) (C8.fnScope s_is_tuple) .none kV_is_tuple doc_is_tuple pm_is_tuple an_is_tuple cd_is_tuple ct_is_tuple) fun us hl => match us, hl with | [_, _], _ => rfl
  have F_are_mosts : C8.Fun K "are_mosts" "are_mosts" s_are_mosts ff_are_mosts _ := ⟨⟨_, _, _, _, _, _, _, _, _, _, rfl, l_are_mosts, c_are_mosts⟩⟩
  have B_are_mosts : L2.Binds K _ ["value"] [] := L2.Binds.all (fd := PySem.W.fnOf "are_mosts" "are_mosts" (C8.fnArgs s_are_mosts) (C8.fnBody s_are_mosts) (C8.fnScope s_are_mosts) .none kV_are_mosts doc_are_mosts pm_are_mosts an_are_mosts cd_are_mosts ct_are_mosts) fun us hl => match us, hl with | [_], _ => rfl
  have F_is_ground : C8.Fun K "is_ground" "is_ground" s_is_ground ff_is_ground _ := ⟨⟨_, _, _, _, _, _, _, _, _, _, rfl, l_is_ground, c_is_ground⟩⟩
  have B_is_ground : L2.Binds K _ ["value", "facts", "issues", "own"] [] := L2.Binds.all (fd := PySem.W.fnOf "is_ground" "is_ground" (C8.fnArgs s_is_ground) (C8.fnBody s_is_ground) (C8.fnScope s_is_ground) .none kV_is_ground doc_is_ground pm_is_ground an_is_ground cd_is_ground ct_is_ground) fun us hl => match us, hl with | [_, _, _, _], _ => rfl
  have F_is_issue_of : C8.Fun K "is_issue_of" "is_issue_of" s_is_issue_of ff_is_issue_of _ := ⟨⟨_, _, _, _, _, _, _, _, _, _, rfl, l_is_issue_of, c_is_issue_of⟩⟩
  have B_is_issue_of : L2.Binds K _ ["value", "facts", "issues", "own"] [] := L2.Binds.all (fd := PySem.W.fnOf "is_issue_of" "is_issue_of" (C8.fnArgs s_is_issue_of) (C8.fnBody s_is_issue_of) (C8.fnScope s_is_issue_of) .none kV_is_issue_of doc_is_issue_of pm_is_issue_of an_is_issue_of cd_is_issue_of ct_is_issue_of) fun us hl => match us, hl with | [_, _, _, _], _ => rfl
  have F_is_court_of : C8.Fun K "is_court_of" "is_court_of" s_is_court_of ff_is_court_of _ := ⟨⟨_, _, _, _, _, _, _, _, _, _, rfl, l_is_court_of, c_is_court_of⟩⟩
  have B_is_court_of : L2.Binds K _ ["value", "own"] [] := L2.Binds.all (fd := PySem.W.fnOf "is_court_of" "is_court_of" (C8.fnArgs s_is_court_of) (C8.fnBody s_is_court_of) (C8.fnScope s_is_court_of) .none kV_is_court_of doc_is_court_of pm_is_court_of an_is_court_of cd_is_court_of ct_is_court_of) fun us hl => match us, hl with | [_, _], _ => rfl
  have F_is_book_any : C8.Fun K "is_book_any" "is_book_any" s_is_book_any ff_is_book_any _ := ⟨⟨_, _, _, _, _, _, _, _, _, _, rfl, l_is_book_any, c_is_book_any⟩⟩
  have B_is_book_any : L2.Binds K _ ["value"] [] := L2.Binds.all (fd := PySem.W.fnOf "is_book_any" "is_book_any" (C8.fnArgs s_is_book_any) (C8.fnBody s_is_book_any) (C8.fnScope s_is_book_any) .none kV_is_book_any doc_is_book_any pm_is_book_any an_is_book_any cd_is_book_any ct_is_book_any) fun us hl => match us, hl with | [_], _ => rfl
  have F_want_book : C8.Fun K "want_book" "want_book" s_want_book ff_want_book _ := ⟨⟨_, _, _, _, _, _, _, _, _, _, rfl, l_want_book, c_want_book⟩⟩
  have B_want_book : L2.Binds K _ ["book"] [] := L2.Binds.all (fd := PySem.W.fnOf "want_book" "want_book" (C8.fnArgs s_want_book) (C8.fnBody s_want_book) (C8.fnScope s_want_book) .none kV_want_book doc_want_book pm_want_book an_want_book cd_want_book ct_want_book) fun us hl => match us, hl with | [_], _ => rfl
  have F_want_issue : C8.Fun K "want_issue" "want_issue" s_want_issue ff_want_issue _ := ⟨⟨_, _, _, _, _, _, _, _, _, _, rfl, l_want_issue, c_want_issue⟩⟩
  have B_want_issue : L2.Binds K _ ["book", "issue"] [] := L2.Binds.all (fd := PySem.W.fnOf "want_issue" "want_issue" (C8.fnArgs s_want_issue) (C8.fnBody s_want_issue) (C8.fnScope s_want_issue) .none kV_want_issue doc_want_issue pm_want_issue an_want_issue cd_want_issue ct_want_issue) fun us hl => match us, hl with | [_, _], _ => rfl
  have F_mosts_in : C8.Fun K "mosts_in" "mosts_in" s_mosts_in ff_mosts_in _ := ⟨⟨_, _, _, _, _, _, _, _, _, _, rfl, l_mosts_in, c_mosts_in⟩⟩
  have B_mosts_in : L2.Binds K _ ["book", "issue"] [] := L2.Binds.all (fd := PySem.W.fnOf "mosts_in" "mosts_in" (C8.fnArgs s_mosts_in) (C8.fnBody s_mosts_in) (C8.fnScope s_mosts_in) .none kV_mosts_in doc_mosts_in pm_mosts_in an_mosts_in cd_mosts_in ct_mosts_in) fun us hl => match us, hl with | [_, _], _ => rfl
  have F_flaw_of_book : C8.Fun K "flaw_of_book" "flaw_of_book" s_flaw_of_book ff_flaw_of_book _ := ⟨⟨_, _, _, _, _, _, _, _, _, _, rfl, l_flaw_of_book, c_flaw_of_book⟩⟩
  have B_flaw_of_book : L2.Binds K _ ["value"] [] := L2.Binds.all (fd := PySem.W.fnOf "flaw_of_book" "flaw_of_book" (C8.fnArgs s_flaw_of_book) (C8.fnBody s_flaw_of_book) (C8.fnScope s_flaw_of_book) .none kV_flaw_of_book doc_flaw_of_book pm_flaw_of_book an_flaw_of_book cd_flaw_of_book ct_flaw_of_book) fun us hl => match us, hl with | [_], _ => rfl
  have F_box_of : C8.Fun K "box_of" "box_of" s_box_of ff_box_of _ := ⟨⟨_, _, _, _, _, _, _, _, _, _, rfl, l_box_of, c_box_of⟩⟩
  have B_box_of : L2.Binds K _ ["book", "issue", "ruling"] [] := L2.Binds.all (fd := PySem.W.fnOf "box_of" "box_of" (C8.fnArgs s_box_of) (C8.fnBody s_box_of) (C8.fnScope s_box_of) .none kV_box_of doc_box_of pm_box_of an_box_of cd_box_of ct_box_of) fun us hl => match us, hl with | [_, _, _], _ => rfl
  have F_many_in : C8.Fun K "many_in" "many_in" s_many_in ff_many_in _ := ⟨⟨_, _, _, _, _, _, _, _, _, _, rfl, l_many_in, c_many_in⟩⟩
  have B_many_in : L2.Binds K _ ["box"] [] := L2.Binds.all (fd := PySem.W.fnOf "many_in" "many_in" (C8.fnArgs s_many_in) (C8.fnBody s_many_in) (C8.fnScope s_many_in) .none kV_many_in doc_many_in pm_many_in an_many_in cd_many_in ct_many_in) fun us hl => match us, hl with | [_], _ => rfl
  have F_is_book : C8.Fun K "is_book" "is_book" s_is_book ff_is_book _ := ⟨⟨_, _, _, _, _, _, _, _, _, _, rfl, l_is_book, c_is_book⟩⟩
  have B_is_book : L2.Binds K _ ["value"] [] := L2.Binds.all (fd := PySem.W.fnOf "is_book" "is_book" (C8.fnArgs s_is_book) (C8.fnBody s_is_book) (C8.fnScope s_is_book) .none kV_is_book doc_is_book pm_is_book an_is_book cd_is_book ct_is_book) fun us hl => match us, hl with | [_], _ => rfl
  have F_book_flaw : C8.Fun K "book_flaw" "book_flaw" s_book_flaw ff_book_flaw _ := ⟨⟨_, _, _, _, _, _, _, _, _, _, rfl, l_book_flaw, c_book_flaw⟩⟩
  have B_book_flaw : L2.Binds K _ ["value"] [] := L2.Binds.all (fd := PySem.W.fnOf "book_flaw" "book_flaw" (C8.fnArgs s_book_flaw) (C8.fnBody s_book_flaw) (C8.fnScope s_book_flaw) .none kV_book_flaw doc_book_flaw pm_book_flaw an_book_flaw cd_book_flaw ct_book_flaw) fun us hl => match us, hl with | [_], _ => rfl
  have F_count_points : C8.Fun K "count_points" "count_points" s_count_points ff_count_points _ := ⟨⟨_, _, _, _, _, _, _, _, _, _, rfl, l_count_points, c_count_points⟩⟩
  have B_count_points : L2.Binds K _ ["book", "issue"] [] := L2.Binds.all (fd := PySem.W.fnOf "count_points" "count_points" (C8.fnArgs s_count_points) (C8.fnBody s_count_points) (C8.fnScope s_count_points) .none kV_count_points doc_count_points pm_count_points an_count_points cd_count_points ct_count_points) fun us hl => match us, hl with | [_, _], _ => rfl
  have F__law_pot : C8.Fun K "_law_pot" "_law_pot" s__law_pot ff__law_pot _ := ⟨⟨_, _, _, _, _, _, _, _, _, _, rfl, l__law_pot, c__law_pot⟩⟩
  have B__law_pot : L2.Binds K _ ["script", "k"] [] := L2.Binds.all (fd := PySem.W.fnOf "_law_pot" "_law_pot" (C8.fnArgs s__law_pot) (C8.fnBody s__law_pot) (C8.fnScope s__law_pot) .none kV__law_pot doc__law_pot pm__law_pot an__law_pot cd__law_pot ct__law_pot) fun us hl => match us, hl with | [_, _], _ => rfl
  have F__law_draw : C8.Fun K "_law_draw" "_law_draw" s__law_draw ff__law_draw _ := ⟨⟨_, _, _, _, _, _, _, _, _, _, rfl, l__law_draw, c__law_draw⟩⟩
  have B__law_draw : L2.Binds K _ ["pot", "many"] [] := L2.Binds.all (fd := PySem.W.fnOf "_law_draw" "_law_draw" (C8.fnArgs s__law_draw) (C8.fnBody s__law_draw) (C8.fnScope s__law_draw) .none kV__law_draw doc__law_draw pm__law_draw an__law_draw cd__law_draw ct__law_draw) fun us hl => match us, hl with | [_, _], _ => rfl
  have F__law_pick : C8.Fun K "_law_pick" "_law_pick" s__law_pick ff__law_pick _ := ⟨⟨_, _, _, _, _, _, _, _, _, _, rfl, l__law_pick, c__law_pick⟩⟩
  have B__law_pick : L2.Binds K _ ["pot", "some"] [] := L2.Binds.all (fd := PySem.W.fnOf "_law_pick" "_law_pick" (C8.fnArgs s__law_pick) (C8.fnBody s__law_pick) (C8.fnScope s__law_pick) .none kV__law_pick doc__law_pick pm__law_pick an__law_pick cd__law_pick ct__law_pick) fun us hl => match us, hl with | [_, _], _ => rfl
  have F__law_most_of : C8.Fun K "_law_most_of" "_law_most_of" s__law_most_of ff__law_most_of _ := ⟨⟨_, _, _, _, _, _, _, _, _, _, rfl, l__law_most_of, c__law_most_of⟩⟩
  have B__law_most_of : L2.Binds K _ ["book", "ground"] [] := L2.Binds.all (fd := PySem.W.fnOf "_law_most_of" "_law_most_of" (C8.fnArgs s__law_most_of) (C8.fnBody s__law_most_of) (C8.fnScope s__law_most_of) .none kV__law_most_of doc__law_most_of pm__law_most_of an__law_most_of cd__law_most_of ct__law_most_of) fun us hl => match us, hl with | [_, _], _ => rfl
  have F__law_issue : C8.Fun K "_law_issue" "_law_issue" s__law_issue ff__law_issue _ := ⟨⟨_, _, _, _, _, _, _, _, _, _, rfl, l__law_issue, c__law_issue⟩⟩
  have B__law_issue : L2.Binds K _ ["pot", "facts", "issue", "issues", "most"] [] := L2.Binds.all (fd := PySem.W.fnOf "_law_issue" "_law_issue" (C8.fnArgs s__law_issue) (C8.fnBody s__law_issue) (C8.fnScope s__law_issue) .none kV__law_issue doc__law_issue pm__law_issue an__law_issue cd__law_issue ct__law_issue) fun us hl => match us, hl with | [_, _, _, _, _], _ => rfl
  have F__law_book : C8.Fun K "_law_book" "_law_book" s__law_book ff__law_book _ := ⟨⟨_, _, _, _, _, _, _, _, _, _, rfl, l__law_book, c__law_book⟩⟩
  have B__law_book : L2.Binds K _ ["pot", "facts", "issues", "courts"] [] := L2.Binds.all (fd := PySem.W.fnOf "_law_book" "_law_book" (C8.fnArgs s__law_book) (C8.fnBody s__law_book) (C8.fnScope s__law_book) .none kV__law_book doc__law_book pm__law_book an__law_book cd__law_book ct__law_book) fun us hl => match us, hl with | [_, _, _, _], _ => rfl
  have F__law_is_whole : C8.Fun K "_law_is_whole" "_law_is_whole" s__law_is_whole ff__law_is_whole _ := ⟨⟨_, _, _, _, _, _, _, _, _, _, rfl, l__law_is_whole, c__law_is_whole⟩⟩
  have B__law_is_whole : L2.Binds K _ ["one"] [] := L2.Binds.all (fd := PySem.W.fnOf "_law_is_whole" "_law_is_whole" (C8.fnArgs s__law_is_whole) (C8.fnBody s__law_is_whole) (C8.fnScope s__law_is_whole) .none kV__law_is_whole doc__law_is_whole pm__law_is_whole an__law_is_whole cd__law_is_whole ct__law_is_whole) fun us hl => match us, hl with | [_], _ => rfl
  have F__law_is_issue : C8.Fun K "_law_is_issue" "_law_is_issue" s__law_is_issue ff__law_is_issue _ := ⟨⟨_, _, _, _, _, _, _, _, _, _, rfl, l__law_is_issue, c__law_is_issue⟩⟩
  have B__law_is_issue : L2.Binds K _ ["value", "number", "facts", "issues"] [] := L2.Binds.all (fd := PySem.W.fnOf "_law_is_issue" "_law_is_issue" (C8.fnArgs s__law_is_issue) (C8.fnBody s__law_is_issue) (C8.fnScope s__law_is_issue) .none kV__law_is_issue doc__law_is_issue pm__law_is_issue an__law_is_issue cd__law_is_issue ct__law_is_issue) fun us hl => match us, hl with | [_, _, _, _], _ => rfl
  have F__law_is_court : C8.Fun K "_law_is_court" "_law_is_court" s__law_is_court ff__law_is_court _ := ⟨⟨_, _, _, _, _, _, _, _, _, _, rfl, l__law_is_court, c__law_is_court⟩⟩
  have B__law_is_court : L2.Binds K _ ["value", "number"] [] := L2.Binds.all (fd := PySem.W.fnOf "_law_is_court" "_law_is_court" (C8.fnArgs s__law_is_court) (C8.fnBody s__law_is_court) (C8.fnScope s__law_is_court) .none kV__law_is_court doc__law_is_court pm__law_is_court an__law_is_court cd__law_is_court ct__law_is_court) fun us hl => match us, hl with | [_, _], _ => rfl
  have F__law_flaw : C8.Fun K "_law_flaw" "_law_flaw" s__law_flaw ff__law_flaw _ := ⟨⟨_, _, _, _, _, _, _, _, _, _, rfl, l__law_flaw, c__law_flaw⟩⟩
  have B__law_flaw : L2.Binds K _ ["value"] [] := L2.Binds.all (fd := PySem.W.fnOf "_law_flaw" "_law_flaw" (C8.fnArgs s__law_flaw) (C8.fnBody s__law_flaw) (C8.fnScope s__law_flaw) .none kV__law_flaw doc__law_flaw pm__law_flaw an__law_flaw cd__law_flaw ct__law_flaw) fun us hl => match us, hl with | [_], _ => rfl
  have F__law_paths : C8.Fun K "_law_paths" "_law_paths" s__law_paths ff__law_paths _ := ⟨⟨_, _, _, _, _, _, _, _, _, _, rfl, l__law_paths, c__law_paths⟩⟩
  have B__law_paths : L2.Binds K _ ["value", "path"] [] := L2.Binds.all (fd := PySem.W.fnOf "_law_paths" "_law_paths" (C8.fnArgs s__law_paths) (C8.fnBody s__law_paths) (C8.fnScope s__law_paths) .none kV__law_paths doc__law_paths pm__law_paths an__law_paths cd__law_paths ct__law_paths) fun us hl => match us, hl with | [_, _], _ => rfl
  have F__law_with : C8.Fun K "_law_with" "_law_with" s__law_with ff__law_with _ := ⟨⟨_, _, _, _, _, _, _, _, _, _, rfl, l__law_with, c__law_with⟩⟩
  have B__law_with : L2.Binds K _ ["value", "path", "part"] [] := L2.Binds.all (fd := PySem.W.fnOf "_law_with" "_law_with" (C8.fnArgs s__law_with) (C8.fnBody s__law_with) (C8.fnScope s__law_with) .none kV__law_with doc__law_with pm__law_with an__law_with cd__law_with ct__law_with) fun us hl => match us, hl with | [_, _, _], _ => rfl
  have F__law_bent : C8.Fun K "_law_bent" "_law_bent" s__law_bent ff__law_bent _ := ⟨⟨_, _, _, _, _, _, _, _, _, _, rfl, l__law_bent, c__law_bent⟩⟩
  have B__law_bent : L2.Binds K _ ["pot", "value"] [] := L2.Binds.all (fd := PySem.W.fnOf "_law_bent" "_law_bent" (C8.fnArgs s__law_bent) (C8.fnBody s__law_bent) (C8.fnScope s__law_bent) .none kV__law_bent doc__law_bent pm__law_bent an__law_bent cd__law_bent ct__law_bent) fun us hl => match us, hl with | [_, _], _ => rfl
  have F__law_greatest : C8.Fun K "_law_greatest" "_law_greatest" s__law_greatest ff__law_greatest _ := ⟨⟨_, _, _, _, _, _, _, _, _, _, rfl, l__law_greatest, c__law_greatest⟩⟩
  have B__law_greatest : L2.Binds K _ [] [] := L2.Binds.all (fd := PySem.W.fnOf "_law_greatest" "_law_greatest" (C8.fnArgs s__law_greatest) (C8.fnBody s__law_greatest) (C8.fnScope s__law_greatest) .none kV__law_greatest doc__law_greatest pm__law_greatest an__law_greatest cd__law_greatest ct__law_greatest) fun us hl => match us, hl with | [], _ => rfl
  have F__law_heard : C8.Fun K "_law_heard" "_law_heard" s__law_heard ff__law_heard _ := ⟨⟨_, _, _, _, _, _, _, _, _, _, rfl, l__law_heard, c__law_heard⟩⟩
  have B__law_heard : L2.Binds K _ ["call"] [] := L2.Binds.all (fd := PySem.W.fnOf "_law_heard" "_law_heard" (C8.fnArgs s__law_heard) (C8.fnBody s__law_heard) (C8.fnScope s__law_heard) .none kV__law_heard doc__law_heard pm__law_heard an__law_heard cd__law_heard ct__law_heard) fun us hl => match us, hl with | [_], _ => rfl
  have F__law_value_right : FunC K "_law_value_right" s__law_value_right ff__law_value_right _ cc__law_value_right := ⟨⟨_, _, _, _, _, _, _, _, _, rfl, l__law_value_right, c__law_value_right⟩⟩
  have B__law_value_right : L2.Binds K _ ["value"] [] := L2.Binds.all (fd := PySem.W.fnOf "_law_value_right" "_law_value_right" (C8.fnArgs s__law_value_right) (C8.fnBody s__law_value_right) (C8.fnScope s__law_value_right) .none kV__law_value_right doc__law_value_right pm__law_value_right an__law_value_right (.ref cc__law_value_right) ct__law_value_right) fun us hl => match us, hl with | [_], _ => rfl
  have F__law_right : C8.Fun K "_law_right" "_law_right" s__law_right ff__law_right _ := ⟨⟨_, _, _, _, _, _, _, _, _, _, rfl, l__law_right, c__law_right⟩⟩
  have B__law_right : L2.Binds K _ ["pot"] [] := L2.Binds.all (fd := PySem.W.fnOf "_law_right" "_law_right" (C8.fnArgs s__law_right) (C8.fnBody s__law_right) (C8.fnScope s__law_right) .none kV__law_right doc__law_right pm__law_right an__law_right cd__law_right ct__law_right) fun us hl => match us, hl with | [_], _ => rfl
  have F_law : C8.Fun K "law" "law" s_law ff_law _ := ⟨⟨_, _, _, _, _, _, _, _, _, _, rfl, l_law, c_law⟩⟩
  have B_law : L2.Binds K _ ["script"] [] := L2.Binds.all (fd := PySem.W.fnOf "law" "law" (C8.fnArgs s_law) (C8.fnBody s_law) (C8.fnScope s_law) .none kV_law doc_law pm_law an_law cd_law ct_law) fun us hl => match us, hl with | [_], _ => rfl
  have Q_kw_is_book_0_value : KwOk K (PySem.W.fnOf "is_book" "is_book" (C8.fnArgs s_is_book) (C8.fnBody s_is_book) (C8.fnScope s_is_book) .none kV_is_book doc_is_book pm_is_book an_is_book cd_is_book ct_is_book) ["value"] 0 ["value"] [0] := ⟨fun s us ws _ h1 h2 => match us, ws, h1, h2 with | [], [_], _, _ => .of_eq rfl⟩
  have Q_kw_book_flaw_0_value : KwOk K (PySem.W.fnOf "book_flaw" "book_flaw" (C8.fnArgs s_book_flaw) (C8.fnBody s_book_flaw) (C8.fnScope s_book_flaw) .none kV_book_flaw doc_book_flaw pm_book_flaw an_book_flaw cd_book_flaw ct_book_flaw) ["value"] 0 ["value"] [0] := ⟨fun s us ws _ h1 h2 => match us, ws, h1, h2 with | [], [_], _, _ => .of_eq rfl⟩
  let T0 : Tb := { T := [(Pt__law_value_right, lamQ "_law_value_right")], X := [], hX := (by intro p hp; cases hp), P := fun _ => True, ea := 0, hP := fun _ _ _ h => h }
  refine ⟨PySem.W.fnOf "law" "law" (C8.fnArgs s_law) (C8.fnBody s_law) (C8.fnScope s_law) .none kV_law doc_law pm_law an_law cd_law ct_law, [(cc__law_value_right, Pt__law_value_right)], @spM T0 K mg 1 m_law, ⟨fun p hp => ?_, fun p hp => ?_, fun p hp => ?_⟩, fun s v => .of_eq rfl, fun H a ns h1 h2 h3 h4 => ?_, fun base KB GB hTB => ?_⟩
  · simp only [List.mem_singleton] at hp
    subst hp
    exact hemp
  · simp only [List.mem_singleton] at hp
    subst hp
    exact o__law_value_right
  · simp only [List.mem_singleton] at hp
    subst hp
    exact PySem.W.codeHd_of_K X hcdh
  · refine sp_law (mf := m_law) ⟨fun p hp => ?_, fun p hp => by cases hp⟩ True.intro h4 (plain ns h1 h2)
    have hp1 : p = (Pt__law_value_right, lamQ "_law_value_right") := List.mem_singleton.mp hp
    subst hp1
    exact LamX.TabS.nil (h3 (cc__law_value_right, Pt__law_value_right) (List.mem_singleton.mpr rfl))
  · clear plain
    have SI_WorkError : FnScope ["self", "value"] ["self", "value"] (L2.defScope s_init_WorkError) := C8.fnScope_by (by decide +kernel)
    have I_WorkError : FnOk l.prog w K mg base (L2.CX l.prog w) 1 ci_WorkError _ ["self", "value"] (SpI K ["value"]) := init1 li_WorkError cdk_WorkError SI_WorkError (Or.inl rfl) (Or.inl rfl)
    have FD_WorkError : L2.FunD K "__init__" "WorkError.__init__" (L2.defArgs s_init_WorkError) (L2.defBody s_init_WorkError) (L2.defScope s_init_WorkError) [.non] [] ci_WorkError _ := ⟨⟨_, _, _, _, _, _, _, _, _, _, rfl, li_WorkError, cdk_WorkError, df_WorkError, .inl rfl⟩, kpi_WorkError⟩
    obtain ⟨dz_WorkError, dv_WorkError, BI_WorkError⟩ := L2.FunD.binds1 (ps := ["self", "value"]) FD_WorkError 2 1 (by simp) rfl fun _ _ _ _ _ _ _ us its h1 h2 => match us, h1, its, h2 with | [_, _], _, [_], _ => ⟨_, rfl, rfl⟩
    cases dv_WorkError
    have h_raise_InvalidBook : RaiseOk l.prog w K mg base 1 "InvalidBook" ["value"] := ⟨C_InvalidBook, ci_WorkError, _, _, PySem.W.mg_of X G ac_InvalidBook, ⟨⟨_, _, _, _, _, _, _, _, _, _, _, _, _, _, _, oc1_InvalidBook, oc2_InvalidBook⟩, oc3_InvalidBook, oc4_InvalidBook, oc5_InvalidBook, oc6_InvalidBook⟩, ii_InvalidBook, ti_WorkError, (fun f hf => (by simp only [List.mem_cons, List.not_mem_nil, or_false] at hf; subst hf; exact T.no_InvalidBook_value)), I_WorkError, BI_WorkError⟩
    have h_raise_InvalidIssue : RaiseOk l.prog w K mg base 1 "InvalidIssue" ["value"] := ⟨C_InvalidIssue, ci_WorkError, _, _, PySem.W.mg_of X G ac_InvalidIssue, ⟨⟨_, _, _, _, _, _, _, _, _, _, _, _, _, _, _, oc1_InvalidIssue, oc2_InvalidIssue⟩, oc3_InvalidIssue, oc4_InvalidIssue, oc5_InvalidIssue, oc6_InvalidIssue⟩, ii_InvalidIssue, ti_WorkError, (fun f hf => (by simp only [List.mem_cons, List.not_mem_nil, or_false] at hf; subst hf; exact no_InvalidIssue_value)), I_WorkError, BI_WorkError⟩
    have h_is_integer : ∀ g, @DefOk T0 g l.prog w K mg base 1 "is_integer" 1 m_is_integer := fun g => ⟨_, _, _, @ok_is_integer T0 _ _ _ _ _ _ _ _ T g  _ _ F_is_integer, PySem.W.mg_of X G a_is_integer, k_is_integer, B_is_integer⟩
    have h_is_within : ∀ g, @DefOk T0 g l.prog w K mg base 2 "is_within" 3 m_is_within := fun g => ⟨_, _, _, @ok_is_within T0 _ _ _ _ _ _ _ _ T g (h_is_integer g) _ _ F_is_within, PySem.W.mg_of X G a_is_within, k_is_within, B_is_within⟩
    have h_is_tuple : ∀ g, @DefOk T0 g l.prog w K mg base 1 "is_tuple" 2 m_is_tuple := fun g => ⟨_, _, _, @ok_is_tuple T0 _ _ _ _ _ _ _ _ T g  _ _ F_is_tuple, PySem.W.mg_of X G a_is_tuple, k_is_tuple, B_is_tuple⟩
    have h_are_mosts : ∀ g, @DefOk T0 g l.prog w K mg base 3 "are_mosts" 1 m_are_mosts := fun g => ⟨_, _, _, @ok_are_mosts T0 _ _ _ _ _ _ _ _ T g (h_is_within g) _ _ F_are_mosts, PySem.W.mg_of X G a_are_mosts, k_are_mosts, B_are_mosts⟩
    have h_is_ground : ∀ g, @DefOk T0 g l.prog w K mg base 3 "is_ground" 4 m_is_ground := fun g => ⟨_, _, _, @ok_is_ground T0 _ _ _ _ _ _ _ _ T g (h_is_tuple g) (h_is_within g) _ _ F_is_ground, PySem.W.mg_of X G a_is_ground, k_is_ground, B_is_ground⟩
    have h_is_issue_of : ∀ g, @DefOk T0 g l.prog w K mg base 4 "is_issue_of" 4 m_is_issue_of := fun g => ⟨_, _, _, @ok_is_issue_of T0 _ _ _ _ _ _ _ _ T g (h_is_ground g) _ _ F_is_issue_of, PySem.W.mg_of X G a_is_issue_of, k_is_issue_of, B_is_issue_of⟩
    have h_is_court_of : ∀ g, @DefOk T0 g l.prog w K mg base 3 "is_court_of" 2 m_is_court_of := fun g => ⟨_, _, _, @ok_is_court_of T0 _ _ _ _ _ _ _ _ T g (h_is_tuple g) (h_is_within g) _ _ F_is_court_of, PySem.W.mg_of X G a_is_court_of, k_is_court_of, B_is_court_of⟩
    have h_is_book_any : ∀ g, @DefOk T0 g l.prog w K mg base 5 "is_book_any" 1 m_is_book_any := fun g => ⟨_, _, _, @ok_is_book_any T0 _ _ _ _ _ _ _ _ T g (h_are_mosts g) (h_is_court_of g) (h_is_issue_of g) (h_is_tuple g) _ _ F_is_book_any, PySem.W.mg_of X G a_is_book_any, k_is_book_any, B_is_book_any⟩
    have h_want_book : ∀ g, @DefOk T0 g l.prog w K mg base 6 "want_book" 1 m_want_book := fun g => ⟨_, _, _, @ok_want_book T0 _ _ _ _ _ _ _ _ T g h_raise_InvalidBook (h_is_book_any g) _ _ F_want_book, PySem.W.mg_of X G a_want_book, k_want_book, B_want_book⟩
    have h_want_issue : ∀ g, @DefOk T0 g l.prog w K mg base 4 "want_issue" 2 m_want_issue := fun g => ⟨_, _, _, @ok_want_issue T0 _ _ _ _ _ _ _ _ T g h_raise_InvalidIssue (h_is_within g) _ _ F_want_issue, PySem.W.mg_of X G a_want_issue, k_want_issue, B_want_issue⟩
    have h_mosts_in : ∀ g, @DefOk T0 g l.prog w K mg base 1 "mosts_in" 2 m_mosts_in := fun g => ⟨_, _, _, @ok_mosts_in T0 _ _ _ _ _ _ _ _ T g  _ _ F_mosts_in, PySem.W.mg_of X G a_mosts_in, k_mosts_in, B_mosts_in⟩
    have h_flaw_of_book : ∀ g, @DefOk T0 g l.prog w K mg base 5 "flaw_of_book" 1 m_flaw_of_book := fun g => ⟨_, _, _, @ok_flaw_of_book T0 _ _ _ _ _ _ _ _ T g (h_are_mosts g) (h_is_court_of g) (h_is_issue_of g) (h_is_tuple g) _ _ F_flaw_of_book, PySem.W.mg_of X G a_flaw_of_book, k_flaw_of_book, B_flaw_of_book⟩
    have h_box_of : ∀ g, @DefOk T0 g l.prog w K mg base 2 "box_of" 3 m_box_of := fun g => ⟨_, _, _, @ok_box_of T0 _ _ _ _ _ _ _ _ T g (h_mosts_in g) _ _ F_box_of, PySem.W.mg_of X G a_box_of, k_box_of, B_box_of⟩
    have h_many_in : ∀ g, @DefOk T0 g l.prog w K mg base 1 "many_in" 1 m_many_in := fun g => ⟨_, _, _, @ok_many_in T0 _ _ _ _ _ _ _ _ T g  _ _ F_many_in, PySem.W.mg_of X G a_many_in, k_many_in, B_many_in⟩
    have h_is_book : ∀ g, @DefOk T0 g l.prog w K mg base 6 "is_book" 1 m_is_book := fun g => ⟨_, _, _, @ok_is_book T0 _ _ _ _ _ _ _ _ T g (h_is_book_any g) _ _ F_is_book, PySem.W.mg_of X G a_is_book, k_is_book, B_is_book⟩
    have h_kw_is_book_0_value : ∀ g, @DefKw T0 g l.prog w K mg base 6 "is_book" 1 m_is_book 0 ["value"] _ := fun g => ⟨_, _, _, @ok_is_book T0 _ _ _ _ _ _ _ _ T g (h_is_book_any g) _ _ F_is_book, PySem.W.mg_of X G a_is_book, k_is_book, Q_kw_is_book_0_value⟩
    have h_book_flaw : ∀ g, @DefOk T0 g l.prog w K mg base 6 "book_flaw" 1 m_book_flaw := fun g => ⟨_, _, _, @ok_book_flaw T0 _ _ _ _ _ _ _ _ T g (h_flaw_of_book g) _ _ F_book_flaw, PySem.W.mg_of X G a_book_flaw, k_book_flaw, B_book_flaw⟩
    have h_kw_book_flaw_0_value : ∀ g, @DefKw T0 g l.prog w K mg base 6 "book_flaw" 1 m_book_flaw 0 ["value"] _ := fun g => ⟨_, _, _, @ok_book_flaw T0 _ _ _ _ _ _ _ _ T g (h_flaw_of_book g) _ _ F_book_flaw, PySem.W.mg_of X G a_book_flaw, k_book_flaw, Q_kw_book_flaw_0_value⟩
    have h_count_points : ∀ g, @DefOk T0 g l.prog w K mg base 7 "count_points" 2 m_count_points := fun g => ⟨_, _, _, @ok_count_points T0 _ _ _ _ _ _ _ _ T g (h_box_of g) (h_many_in g) (h_want_book g) (h_want_issue g) _ _ F_count_points, PySem.W.mg_of X G a_count_points, k_count_points, B_count_points⟩
    have h__law_pot : ∀ g, @DefOk T0 g l.prog w K mg base 1 "_law_pot" 2 m__law_pot := fun g => ⟨_, _, _, @ok__law_pot T0 _ _ _ _ _ _ _ _ T g  _ _ F__law_pot, PySem.W.mg_of X G a__law_pot, k__law_pot, B__law_pot⟩
    have h__law_draw : ∀ g, @DefOk T0 g l.prog w K mg base 1 "_law_draw" 2 m__law_draw := fun g => ⟨_, _, _, @ok__law_draw T0 _ _ _ _ _ _ _ _ T g  _ _ F__law_draw, PySem.W.mg_of X G a__law_draw, k__law_draw, B__law_draw⟩
    have h__law_pick : ∀ g, @DefOk T0 g l.prog w K mg base 2 "_law_pick" 2 m__law_pick := fun g => ⟨_, _, _, @ok__law_pick T0 _ _ _ _ _ _ _ _ T g (h__law_draw g) _ _ F__law_pick, PySem.W.mg_of X G a__law_pick, k__law_pick, B__law_pick⟩
    have h__law_most_of : ∀ g, @DefOk T0 g l.prog w K mg base 1 "_law_most_of" 2 m__law_most_of := fun g => ⟨_, _, _, @ok__law_most_of T0 _ _ _ _ _ _ _ _ T g  _ _ F__law_most_of, PySem.W.mg_of X G a__law_most_of, k__law_most_of, B__law_most_of⟩
    have h__law_issue : ∀ g, @DefOk T0 g l.prog w K mg base 3 "_law_issue" 5 m__law_issue := fun g => ⟨_, _, _, @ok__law_issue T0 _ _ _ _ _ _ _ _ T g (h__law_draw g) (h__law_pick g) _ _ F__law_issue, PySem.W.mg_of X G a__law_issue, k__law_issue, B__law_issue⟩
    have h__law_book : ∀ g, @DefOk T0 g l.prog w K mg base 4 "_law_book" 4 m__law_book := fun g => ⟨_, _, _, @ok__law_book T0 _ _ _ _ _ _ _ _ T g (h__law_draw g) (h__law_issue g) _ _ F__law_book, PySem.W.mg_of X G a__law_book, k__law_book, B__law_book⟩
    have h__law_is_whole : ∀ g, @DefOk T0 g l.prog w K mg base 1 "_law_is_whole" 1 m__law_is_whole := fun g => ⟨_, _, _, @ok__law_is_whole T0 _ _ _ _ _ _ _ _ T g  _ _ F__law_is_whole, PySem.W.mg_of X G a__law_is_whole, k__law_is_whole, B__law_is_whole⟩
    have h__law_is_issue : ∀ g, @DefOk T0 g l.prog w K mg base 2 "_law_is_issue" 4 m__law_is_issue := fun g => ⟨_, _, _, @ok__law_is_issue T0 _ _ _ _ _ _ _ _ T g (h__law_is_whole g) _ _ F__law_is_issue, PySem.W.mg_of X G a__law_is_issue, k__law_is_issue, B__law_is_issue⟩
    have h__law_is_court : ∀ g, @DefOk T0 g l.prog w K mg base 2 "_law_is_court" 2 m__law_is_court := fun g => ⟨_, _, _, @ok__law_is_court T0 _ _ _ _ _ _ _ _ T g (h__law_is_whole g) _ _ F__law_is_court, PySem.W.mg_of X G a__law_is_court, k__law_is_court, B__law_is_court⟩
    have h__law_flaw : ∀ g, @DefOk T0 g l.prog w K mg base 3 "_law_flaw" 1 m__law_flaw := fun g => ⟨_, _, _, @ok__law_flaw T0 _ _ _ _ _ _ _ _ T g (h__law_is_court g) (h__law_is_issue g) (h__law_is_whole g) _ _ F__law_flaw, PySem.W.mg_of X G a__law_flaw, k__law_flaw, B__law_flaw⟩
    have h__law_paths : ∀ g, DefOk g l.prog w K mg base 13 "_law_paths" 2 (m__law_paths 12) := fun g => @rec__law_paths T0 _ _ _ _ _ _ _ _ T g  _ _ F__law_paths (PySem.W.mg_of X G a__law_paths) k__law_paths B__law_paths 12
    have h__law_with : ∀ g, DefOk g l.prog w K mg base 13 "_law_with" 3 (m__law_with 12) := fun g => @rec__law_with T0 _ _ _ _ _ _ _ _ T g  _ _ F__law_with (PySem.W.mg_of X G a__law_with) k__law_with B__law_with 12
    have h__law_bent : ∀ g, @DefOk T0 g l.prog w K mg base 14 "_law_bent" 2 m__law_bent := fun g => ⟨_, _, _, @ok__law_bent T0 _ _ _ _ _ _ _ _ T g (h__law_paths g) (h__law_pick g) (h__law_with g) _ _ F__law_bent, PySem.W.mg_of X G a__law_bent, k__law_bent, B__law_bent⟩
    have h__law_greatest : ∀ g, @DefOk T0 g l.prog w K mg base 1 "_law_greatest" 0 m__law_greatest := fun g => ⟨_, _, _, @ok__law_greatest T0 _ _ _ _ _ _ _ _ T g  _ _ F__law_greatest, PySem.W.mg_of X G a__law_greatest, k__law_greatest, B__law_greatest⟩
    have hv__law_heard : Hv K mg "_law_heard" "call" s__law_heard ff__law_heard _ _ _ _ _ _ _ _ _ _ := ⟨PySem.W.mg_of X G a__law_heard, k__law_heard, l__law_heard, c__law_heard, B__law_heard⟩
    have h__law_value_right : @DefOk T0 true l.prog w K mg base 11 "_law_value_right" 1 m__law_value_right := ⟨_, _, _, ok__law_value_right T (h_kw_book_flaw_0_value true) (h_count_points false) (h_kw_is_book_0_value true) (h__law_flaw true) (h__law_most_of true) (h_book_flaw true) (h_is_book true) hv__law_heard (hTB (cc__law_value_right, Pt__law_value_right) (List.mem_singleton.mpr rfl)) (List.mem_singleton.mpr rfl) (fun p hp _ => by have hp1 : p = (Pt__law_value_right, lamQ "_law_value_right") := (List.mem_singleton.mp hp); rw [hp1]) F__law_value_right, PySem.W.mg_of X G a__law_value_right, k__law_value_right, B__law_value_right⟩
    have h__law_right : @DefOk T0 true l.prog w K mg base 15 "_law_right" 1 m__law_right := ⟨_, _, _, @ok__law_right T0 _ _ _ _ _ _ _ _ T (h__law_bent true) (h__law_book true) h__law_value_right _ _ F__law_right, PySem.W.mg_of X G a__law_right, k__law_right, B__law_right⟩
    exact @ok_law T0 _ _ _ _ _ _ _ _ T (h__law_greatest true) (h__law_pot true) h__law_right h__law_value_right _ _ F_law
end K

set_option maxRecDepth 100000
set_option maxHeartbeats 2000000
/-! PW: the plain functions of the layer run by simp -/
namespace DL
open PySem L2
section
variable {ρ ρ1 ρ2 : En} {d e a b c : D} {r : Res} {x : Exc} {i j n N : Nat} {ma mb mc me : En → EO} {mr : En → AO} {m1 m2 : En → SO} {ds es : List D} {as : List AR} {k : D → En → EO} {ks : D → En → SO} {f g : D → D → Option Res} {u : D → Option Res} {h : List D → Option Res}
@[simp] theorem rd_val : (Res.val d).d = d := rfl
@[simp] theorem rd_new : (Res.new ds).d = .list ds := rfl
@[simp] theorem eb_ok : (EO.ok r ρ).bind k = k r.d ρ := rfl
@[simp] theorem eb_exc : (EO.exc x).bind k = .exc x := rfl
@[simp] theorem es_ok : (EO.ok r ρ).bindS ks = ks r.d ρ := rfl
@[simp] theorem es_exc : (EO.exc x).bindS ks = .exc x := rfl
@[simp] theorem of_some : EO.of (some r) ρ = .ok r ρ := rfl
def kVar (i : Nat) (ρ : En) : Option Slot → EO
  | some (.val d) => .ok (.val d) ρ
  | some (.own ds) => .ok (.val (.list ds)) (ρ.set i (.val (.list ds)))
  | _ => .fail
@[simp] theorem mVar_x : mVar i ρ = kVar i ρ ρ[i]? := by
  unfold mVar kVar
  cases ρ[i]? with
  | none => rfl
  | some s => cases s <;> rfl
@[simp] theorem kVar_val : kVar i ρ (some (.val d)) = .ok (.val d) ρ := rfl
@[simp] theorem kVar_own : kVar i ρ (some (.own ds)) = .ok (.val (.list ds)) (ρ.set i (.val (.list ds))) := rfl
@[simp] theorem mC_x : mC d ρ = .ok (.val d) ρ := rfl
def kOp2 (f : D → D → Option Res) (d : D) : D → En → EO := fun e ρ => .of (f d e) ρ
def kOp1 (f : D → D → Option Res) (mb : En → EO) : D → En → EO := fun d ρ => (mb ρ).bind (kOp2 f d)
@[simp] theorem mOp_x : mOp f ma mb ρ = (ma ρ).bind (kOp1 f mb) := rfl
@[simp] theorem kOp1_x : kOp1 f mb d ρ = (mb ρ).bind (kOp2 f d) := rfl
@[simp] theorem kOp2_x : kOp2 f d e ρ = .of (f d e) ρ := rfl
def kUn (f : D → Option Res) : D → En → EO := fun d ρ => .of (f d) ρ
@[simp] theorem mUn_x : mUn u ma ρ = (ma ρ).bind (kUn u) := rfl
@[simp] theorem kUn_x : kUn u d ρ = .of (u d) ρ := rfl
def kBi : D → En → EO := fun d ρ => match d with
  | .bool b => .ok (.val (.bool b)) ρ
  | _ => .fail
@[simp] theorem mB_x : mB ma ρ = (ma ρ).bind kBi := by
  unfold mB EO.test kBi
  rfl
@[simp] theorem kBi_x {b : Bool} : kBi (.bool b) ρ = .ok (.val (.bool b)) ρ := rfl
def kNot : D → En → EO := fun d ρ => match d with
  | .bool b => .ok (.val (.bool (!b))) ρ
  | _ => .fail
@[simp] theorem mNot_x : mNot ma ρ = (ma ρ).bind kNot := rfl
@[simp] theorem kNot_x {b : Bool} : kNot (.bool b) ρ = .ok (.val (.bool (!b))) ρ := rfl
def kAnd (mb : En → EO) : D → En → EO := fun d ρ => match d with
  | .bool b => if b = true then mb ρ else .ok (.val (.bool false)) ρ
  | _ => .fail
@[simp] theorem mAnd_x : mAnd ma mb ρ = (ma ρ).bind (kAnd mb) := rfl
@[simp] theorem kAnd_t : kAnd mb (.bool true) ρ = mb ρ := rfl
@[simp] theorem kAnd_f : kAnd mb (.bool false) ρ = .ok (.val (.bool false)) ρ := rfl
def kOr (mb : En → EO) : D → En → EO := fun d ρ => match d with
  | .bool b => if b = true then .ok (.val (.bool true)) ρ else mb ρ
  | _ => .fail
@[simp] theorem mOr_x : mOr ma mb ρ = (ma ρ).bind (kOr mb) := rfl
@[simp] theorem kOr_t : kOr mb (.bool true) ρ = .ok (.val (.bool true)) ρ := rfl
@[simp] theorem kOr_f : kOr mb (.bool false) ρ = mb ρ := rfl
def kIf (ma mb : En → EO) : D → En → EO := fun d ρ => match d with
  | .bool b => if b = true then ma ρ else mb ρ
  | _ => .fail
@[simp] theorem mIf_x : mIf mc ma mb ρ = (mc ρ).bind (kIf ma mb) := rfl
@[simp] theorem kIf_t : kIf ma mb (.bool true) ρ = ma ρ := rfl
@[simp] theorem kIf_f : kIf ma mb (.bool false) ρ = mb ρ := rfl
def kCh3 (g : D → D → Option Res) (mc : En → EO) (e : D) : Option Res → En → EO := fun o ρ => match o with
  | some (.val (.bool true)) => (mc ρ).bind (kOp2 g e)
  | some (.val (.bool false)) => .ok (.val (.bool false)) ρ
  | _ => .fail
def kCh2 (f g : D → D → Option Res) (mc : En → EO) (d : D) : D → En → EO := fun e ρ => kCh3 g mc e (f d e) ρ
def kCh1 (f g : D → D → Option Res) (mb mc : En → EO) : D → En → EO := fun d ρ => (mb ρ).bind (kCh2 f g mc d)
@[simp] theorem mChain_x : mChain f g ma mb mc ρ = (ma ρ).bind (kCh1 f g mb mc) := rfl
@[simp] theorem kCh1_x : kCh1 f g mb mc d ρ = (mb ρ).bind (kCh2 f g mc d) := rfl
@[simp] theorem kCh2_x : kCh2 f g mc d e ρ = kCh3 g mc e (f d e) ρ := rfl
@[simp] theorem kCh3_t : kCh3 g mc e (some (.val (.bool true))) ρ = (mc ρ).bind (kOp2 g e) := rfl
@[simp] theorem kCh3_f : kCh3 g mc e (some (.val (.bool false))) ρ = .ok (.val (.bool false)) ρ := rfl
/-- two comparisons of whole numbers in a row -/
theorem kCh3_i {G : Int → Int → Bool} {b : Bool} {y z : Int} (hc : mc ρ = .ok (.val (.int z)) ρ) : kCh3 (fC G) mc (.int y) (some (.val (.bool b))) ρ = .ok (.val (.bool (b && G y z))) ρ := by
  cases b
  · rfl
  · rw [kCh3_t, hc, eb_ok, kOp2_x]; rfl
-- arguments
def kA2 (d : D) : AO → AO
  | .ok as ρ => .ok (.val d :: as) ρ
  | o => o
def kA1 (mr : En → AO) : EO → AO
  | .fail => .fail
  | .exc x => .exc x
  | .ok r ρ1 => kA2 r.d (mr ρ1)
@[simp] theorem mACons_x : mACons me mr ρ = kA1 mr (me ρ) := by
  unfold mACons kA1 kA2
  cases me ρ <;> rfl
@[simp] theorem kA1_ok : kA1 mr (.ok r ρ) = kA2 r.d (mr ρ) := rfl
@[simp] theorem kA1_exc : kA1 mr (.exc x) = .exc x := rfl
@[simp] theorem kA2_ok : kA2 d (.ok as ρ) = .ok (.val d :: as) ρ := rfl
@[simp] theorem kA2_exc : kA2 d (.exc x) = .exc x := rfl
@[simp] theorem mANil_x : mANil ρ = .ok [] ρ := rfl
def kAio2 (i : Nat) : AO → AO
  | .ok as ρ => .ok (.io i :: as) ρ
  | o => o
def kAio (i : Nat) (mr : En → AO) (ρ : En) : Option Slot → AO
  | some (.own _) => kAio2 i (mr ρ)
  | some (.io _ _) => kAio2 i (mr ρ)
  | _ => .fail
@[simp] theorem mAIo_x : mAIo i mr ρ = kAio i mr ρ ρ[i]? := by
  unfold mAIo kAio kAio2
  cases ρ[i]? with
  | none => rfl
  | some s => cases s <;> rfl
@[simp] theorem kAio_own : kAio i mr ρ (some (.own ds)) = kAio2 i (mr ρ) := rfl
@[simp] theorem kAio_io : kAio i mr ρ (some (.io j ds)) = kAio2 i (mr ρ) := rfl
@[simp] theorem kAio2_ok : kAio2 i (.ok as ρ) = .ok (.io i :: as) ρ := rfl
@[simp] theorem vals_nil : vals [] = some [] := rfl
@[simp] theorem vals_val : vals (.val d :: as) = (vals as).map (d :: ·) := rfl
def kCall (h : List D → Option Res) (ρ : En) : Option (List D) → EO
  | some ds => .of (h ds) ρ
  | none => .fail
@[simp] theorem mCall_x : mCall h mr ρ = (mr ρ).call h := rfl
@[simp] theorem call_ok : (AO.ok as ρ).call h = kCall h ρ (vals as) := by unfold AO.call kCall; first | rfl | (dsimp only; cases vals as <;> rfl)
@[simp] theorem call_exc : (AO.exc x).call h = .exc x := rfl
@[simp] theorem kCall_some : kCall h ρ (some ds) = .of (h ds) ρ := rfl
def kFun2 (as : List AR) (ρ : En) : FO → EO
  | .fail => .fail
  | .exc x => .exc x
  | .ok r outs => .ok r (putOuts (ios as) outs ρ)
def kFun (mf : List Arg → FO) (as : List AR) (ρ : En) : Option (List Arg) → EO
  | none => .fail
  | some args => kFun2 as ρ (mf args)
@[simp] theorem mFun_x {mf : List Arg → FO} : mFun n mf mr ρ = (mr ρ).fun n mf := rfl
@[simp] theorem fun_ok {mf : List Arg → FO} : (AO.ok as ρ).fun n mf = if as.length = n ∧ (ios as).Nodup then kFun mf as ρ (argsAt ρ as) else .fail := by
  unfold AO.fun kFun kFun2
  first
  | rfl
  | (dsimp only
     split
     · cases argsAt ρ as with
       | none => rfl
       | some args => cases mf args <;> rfl
     · rfl)
@[simp] theorem fun_exc {mf : List Arg → FO} : (AO.exc x).fun n mf = .exc x := rfl
@[simp] theorem kFun_some {mf : List Arg → FO} {args : List Arg} : kFun mf as ρ (some args) = kFun2 as ρ (mf args) := rfl
@[simp] theorem kFun2_ok {outs : List (List D)} : kFun2 as ρ (.ok r outs) = .ok r (putOuts (ios as) outs ρ) := rfl
@[simp] theorem kFun2_exc : kFun2 as ρ (.exc x) = .exc x := rfl
@[simp] theorem ios_nil : ios [] = [] := rfl
@[simp] theorem ios_val : ios (.val d :: as) = ios as := rfl
@[simp] theorem ios_io : ios (.io i :: as) = i :: ios as := rfl
@[simp] theorem argsAt_nil : argsAt ρ [] = some [] := rfl
@[simp] theorem argsAt_val : argsAt ρ (.val d :: as) = (argsAt ρ as).map (.val d :: ·) := rfl
def kArg (ρ : En) (as : List AR) : Option Slot → Option (List Arg)
  | some s => match s.data with
    | some ds => (argsAt ρ as).map (.io ds :: ·)
    | none => none
  | none => none
@[simp] theorem argsAt_io : argsAt ρ (.io i :: as) = kArg ρ as ρ[i]? := by
  conv => lhs; unfold argsAt
  unfold kArg
  cases ρ[i]? with
  | none => rfl
  | some s => show (match s.data with | some ds => _ | none => _) = (match s.data with | some ds => _ | none => _); cases s.data <;> rfl
@[simp] theorem kArg_own : kArg ρ as (some (.own ds)) = (argsAt ρ as).map (.io ds :: ·) := rfl
@[simp] theorem kArg_io : kArg ρ as (some (.io j ds)) = (argsAt ρ as).map (.io ds :: ·) := rfl
def kPut (ρ : En) (i : Nat) (o : List D) : Option Slot → En
  | some s => ρ.set i (s.put o)
  | none => ρ
@[simp] theorem putOuts_nil {os : List (List D)} : putOuts [] os ρ = ρ := by cases os <;> rfl
@[simp] theorem putOuts_cons {is : List Nat} {o : List D} {os : List (List D)} : putOuts (i :: is) (o :: os) ρ = putOuts is os (kPut ρ i o ρ[i]?) := by
  conv => lhs; unfold putOuts
  unfold kPut
  cases ρ[i]? <;> rfl
@[simp] theorem kPut_own {o : List D} : kPut ρ i o (some (.own ds)) = ρ.set i (.own o) := rfl
@[simp] theorem kPut_io {o : List D} : kPut ρ i o (some (.io j ds)) = ρ.set i (.io j o) := rfl
-- statements
@[simp] theorem sb_nx : (SO.nx ρ).bind m1 = m1 ρ := rfl
@[simp] theorem sb_ret : (SO.ret r ρ).bind m1 = .ret r ρ := rfl
@[simp] theorem sb_exc : (SO.exc x).bind m1 = .exc x := rfl
@[simp] theorem sb_bk : (SO.bk ρ).bind m1 = .bk ρ := rfl
@[simp] theorem sb_ct : (SO.ct ρ).bind m1 = .ct ρ := rfl
@[simp] theorem mNext_x : mNext ρ = .nx ρ := rfl
@[simp] theorem mSeq_x : mSeq m1 m2 ρ = (m1 ρ).bind m2 := rfl
def kDrop : EO → SO
  | .fail => .fail
  | .exc x => .exc x
  | .ok _ ρ1 => .nx ρ1
@[simp] theorem mDrop_x : mDrop me ρ = kDrop (me ρ) := by unfold mDrop kDrop; cases me ρ <;> rfl
@[simp] theorem kDrop_ok : kDrop (.ok r ρ) = .nx ρ := rfl
@[simp] theorem kDrop_exc : kDrop (.exc x) = .exc x := rfl
def kRet : EO → SO
  | .fail => .fail
  | .exc x => .exc x
  | .ok r ρ1 => .ret r ρ1
@[simp] theorem mRet_x : mRet me ρ = kRet (me ρ) := by unfold mRet kRet; cases me ρ <;> rfl
@[simp] theorem kRet_ok : kRet (.ok r ρ) = .ret r ρ := rfl
@[simp] theorem kRet_exc : kRet (.exc x) = .exc x := rfl
def kMove (i : Nat) (ρ : En) : Option Slot → EO
  | some (.val d) => .ok (.val d) ρ
  | some (.own ds) => .ok (.new ds) (ρ.set i .no)
  | _ => .fail
@[simp] theorem mMove_x : mMove i ρ = kMove i ρ ρ[i]? := by
  unfold mMove kMove
  cases ρ[i]? with
  | none => rfl
  | some s => cases s <;> rfl
@[simp] theorem kMove_val : kMove i ρ (some (.val d)) = .ok (.val d) ρ := rfl
@[simp] theorem kMove_own : kMove i ρ (some (.own ds)) = .ok (.new ds) (ρ.set i .no) := rfl
def kIfS (m1 m2 : En → SO) : D → En → SO := fun d ρ => match d with
  | .bool b => if b = true then m1 ρ else m2 ρ
  | _ => .fail
@[simp] theorem mIfS_x : mIfS mc m1 m2 ρ = (mc ρ).bindS (kIfS m1 m2) := rfl
@[simp] theorem kIfS_t : kIfS m1 m2 (.bool true) ρ = m1 ρ := rfl
@[simp] theorem kIfS_f : kIfS m1 m2 (.bool false) ρ = m2 ρ := rfl
def kSet (i : Nat) (r : Res) (ρ : En) : Option Slot → SO
  | some (.io _ _) => .fail
  | none => .fail
  | _ => .nx (ρ.set i r.slot)
theorem setRes_x : setRes i r ρ = kSet i r ρ ρ[i]? := by
  unfold setRes kSet
  cases ρ[i]? with
  | none => rfl
  | some s => cases s <;> cases r <;> rfl
@[simp] theorem kSet_no : kSet i r ρ (some .no) = .nx (ρ.set i r.slot) := rfl
@[simp] theorem kSet_val : kSet i r ρ (some (.val d)) = .nx (ρ.set i r.slot) := rfl
@[simp] theorem kSet_own : kSet i r ρ (some (.own ds)) = .nx (ρ.set i r.slot) := rfl
@[simp] theorem slot_val : (Res.val d).slot = .val d := rfl
@[simp] theorem slot_new : (Res.new ds).slot = .own ds := rfl
def kAsg (i : Nat) : EO → SO
  | .fail => .fail
  | .exc x => .exc x
  | .ok r ρ1 => kSet i r ρ1 ρ1[i]?
@[simp] theorem mAsg_x : mAsg i me ρ = kAsg i (me ρ) := by
  unfold mAsg kAsg
  cases me ρ with
  | ok r ρ1 => exact setRes_x
  | _ => rfl
@[simp] theorem kAsg_ok : kAsg i (.ok r ρ) = kSet i r ρ ρ[i]? := rfl
@[simp] theorem kAsg_exc : kAsg i (.exc x) = .exc x := rfl
-- targets
def kG (i : Nat) (d : D) (ρ : En) : Option Slot → Option En
  | some (.io _ _) => none
  | none => none
  | _ => some (ρ.set i (.val d))
@[simp] theorem gSet_x : gSet i d ρ = kG i d ρ ρ[i]? := by
  unfold gSet kG
  cases ρ[i]? with
  | none => rfl
  | some s => cases s <;> rfl
@[simp] theorem kG_no : kG i d ρ (some .no) = some (ρ.set i (.val d)) := rfl
@[simp] theorem kG_val : kG i d ρ (some (.val e)) = some (ρ.set i (.val d)) := rfl
@[simp] theorem kG_own : kG i d ρ (some (.own ds)) = some (ρ.set i (.val d)) := rfl
@[simp] theorem gsNil_x : gsNil [] ρ = some ρ := rfl
def kGs (gs : List D → En → Option En) (ds : List D) : Option En → Option En
  | some ρ => gs ds ρ
  | none => none
@[simp] theorem gsCons_x {g1 : D → En → Option En} {gs : List D → En → Option En} : gsCons g1 gs (d :: ds) ρ = kGs gs ds (g1 d ρ) := by
  unfold gsCons kGs
  dsimp only
  cases g1 d ρ <;> rfl
@[simp] theorem kGs_some {gs : List D → En → Option En} : kGs gs ds (some ρ) = gs ds ρ := rfl
@[simp] theorem gTupD_x {gs : List D → En → Option En} : gTupD n gs (.tuple ds) ρ = if ds.length = n then gs ds ρ else none := rfl
def kIx (i : Nat) (k : Int) (d : D) (ρ : En) : Option Slot → Option En
  | some s => match s.data with
    | some ds => (putAt k d ds).map fun es => ρ.set i (s.put es)
    | none => none
  | none => none
@[simp] theorem gIx_x {q : Int} : gIx i q d ρ = kIx i q d ρ ρ[i]? := by
  unfold gIx kIx
  cases ρ[i]? with
  | none => rfl
  | some s => rfl
def kPt (i : Nat) (ρ : En) (s : Slot) : Option (List D) → Option En
  | some es => some (ρ.set i (s.put es))
  | none => none
@[simp] theorem kIx_own {q : Int} : kIx i q d ρ (some (.own ds)) = kPt i ρ (.own ds) (putAt q d ds) := by show Option.map _ _ = _; unfold kPt; cases putAt q d ds <;> rfl
@[simp] theorem kIx_io {q : Int} : kIx i q d ρ (some (.io j ds)) = kPt i ρ (.io j ds) (putAt q d ds) := by show Option.map _ _ = _; unfold kPt; cases putAt q d ds <;> rfl
@[simp] theorem kPt_x {s : Slot} : kPt i ρ s (some es) = some (ρ.set i (s.put es)) := rfl
@[simp] theorem put_own : (Slot.own ds).put es = .own es := rfl
@[simp] theorem put_io : (Slot.io j ds).put es = .io j es := rfl
def kAG2 : Option En → SO
  | some ρ => .nx ρ
  | none => .fail
def kAG (g1 : D → En → Option En) : D → En → SO := fun d ρ => kAG2 (g1 d ρ)
@[simp] theorem mAsgG_x {g1 : D → En → Option En} : mAsgG g1 me ρ = (me ρ).bindS (kAG g1) := by
  unfold mAsgG EO.bindS
  cases me ρ with
  | ok r ρ1 => unfold kAG kAG2; first | rfl | (dsimp only; cases g1 r.d ρ1 <;> rfl)
  | _ => rfl
@[simp] theorem kAG_x {g1 : D → En → Option En} : kAG g1 d ρ = kAG2 (g1 d ρ) := rfl
@[simp] theorem kAG2_some : kAG2 (some ρ) = .nx ρ := rfl
-- parallel
def kPar2 (i j : Nat) (r1 : Res) : EO → SO
  | .fail => .fail
  | .exc x => .exc x
  | .ok r2 ρ2 => if okS ρ2 i = true ∧ okS ρ2 j = true then .nx ((ρ2.set i r1.slot).set j r2.slot) else .fail
def kPar1 (i j : Nat) (mb : En → EO) : EO → SO
  | .fail => .fail
  | .exc x => .exc x
  | .ok r1 ρ1 => kPar2 i j r1 (mb ρ1)
@[simp] theorem mPar_x : mPar i j ma mb ρ = kPar1 i j mb (ma ρ) := by
  unfold mPar two kPar1 kPar2
  cases ma ρ with
  | ok r1 ρ1 => first | rfl | (dsimp only; cases mb ρ1 <;> rfl)
  | _ => rfl
@[simp] theorem kPar1_ok : kPar1 i j mb (.ok r ρ) = kPar2 i j r (mb ρ) := rfl
@[simp] theorem kPar2_ok {r2 : Res} : kPar2 i j r (.ok r2 ρ) = if okS ρ i = true ∧ okS ρ j = true then .nx ((ρ.set i r.slot).set j r2.slot) else .fail := rfl
def kPar3 (i j l : Nat) (ρ1 : En) : Option (List D) → SO
  | some [d, e, f] => if okS ρ1 i = true ∧ okS ρ1 j = true ∧ okS ρ1 l = true then .nx (((ρ1.set i (.val d)).set j (.val e)).set l (.val f)) else .fail
  | _ => .fail
def kPar3a (i j l : Nat) : AO → SO
  | .fail => .fail
  | .exc x => .exc x
  | .ok as ρ1 => kPar3 i j l ρ1 (vals as)
@[simp] theorem mPar3_x {l : Nat} : mPar3 i j l mr ρ = kPar3a i j l (mr ρ) := by
  unfold mPar3 kPar3a kPar3
  cases mr ρ <;> rfl
@[simp] theorem kPar3a_ok {l : Nat} : kPar3a i j l (.ok as ρ) = kPar3 i j l ρ (vals as) := rfl
@[simp] theorem kPar3_x {l : Nat} {w : D} : kPar3 i j l ρ (some [d, e, w]) = if okS ρ i = true ∧ okS ρ j = true ∧ okS ρ l = true then .nx (((ρ.set i (.val d)).set j (.val e)).set l (.val w)) else .fail := rfl
def kOk : Option Slot → Bool
  | some (.io _ _) => false
  | none => false
  | _ => true
@[simp] theorem okS_x : okS ρ i = kOk ρ[i]? := by
  unfold okS kOk
  cases ρ[i]? with
  | none => rfl
  | some s => cases s <;> rfl
@[simp] theorem kOk_no : kOk (some .no) = true := rfl
@[simp] theorem kOk_val : kOk (some (.val d)) = true := rfl
@[simp] theorem kOk_own : kOk (some (.own ds)) = true := rfl
-- def
def kDef2 (r : Res) : Option (List (List D)) → FO
  | some outs => .ok r outs
  | none => .fail
def kDef (args : List Arg) : SO → FO
  | .nx ρ => kDef2 (.val .none) (outsOf args 0 ρ)
  | .ret r ρ => kDef2 r (outsOf args 0 ρ)
  | .exc x => .exc x
  | _ => .fail
@[simp] theorem mDef_x {args : List Arg} : mDef n N m1 args = kDef args (m1 (slotsOf args 0 ++ List.replicate (N - n) .no)) := by
  unfold mDef kDef kDef2
  cases m1 (slotsOf args 0 ++ List.replicate (N - n) .no) with
  | nx ρ => first | rfl | (dsimp only; cases outsOf args 0 ρ <;> rfl)
  | ret r ρ => first | rfl | (dsimp only; cases outsOf args 0 ρ <;> rfl)
  | _ => rfl
@[simp] theorem kDef_nx {args : List Arg} : kDef args (.nx ρ) = kDef2 (.val .none) (outsOf args 0 ρ) := rfl
@[simp] theorem kDef_ret {args : List Arg} : kDef args (.ret r ρ) = kDef2 r (outsOf args 0 ρ) := rfl
@[simp] theorem kDef_exc {args : List Arg} : kDef args (.exc x) = .exc x := rfl
@[simp] theorem kDef2_some {outs : List (List D)} : kDef2 r (some outs) = .ok r outs := rfl
@[simp] theorem slotsOf_nil : slotsOf [] j = [] := rfl
@[simp] theorem slotsOf_val {args : List Arg} : slotsOf (.val d :: args) j = .val d :: slotsOf args j := rfl
@[simp] theorem slotsOf_io {args : List Arg} : slotsOf (.io ds :: args) j = .io j ds :: slotsOf args (j + 1) := rfl
@[simp] theorem outsOf_nil : outsOf [] j ρ = some [] := rfl
@[simp] theorem outsOf_val {s : Slot} {args : List Arg} : outsOf (.val d :: args) j (s :: ρ) = outsOf args j ρ := rfl
@[simp] theorem outsOf_io {args : List Arg} : outsOf (.io es :: args) j (.io j ds :: ρ) = (outsOf args (j + 1) ρ).map (ds :: ·) := by
  show (if j = j then _ else _) = _
  rw [if_pos rfl]
-- written lists in passing
def kPk (i : Nat) (f : D → D → Option Res) (e : D) (ρ : En) : Option D → EO
  | none => .fail
  | some d => pkOk (f d e) ρ
def kPkI (e : D) (ρ : En) : Option D → EO
  | none => .fail
  | some d => .of (fIx d e) ρ
def pkS : Option Slot → Option D
  | some s => pkD s
  | none => none
@[simp] theorem pkS_val : pkS (some (.val d)) = some d := rfl
@[simp] theorem pkS_own : pkS (some (.own ds)) = some (.list ds) := rfl
@[simp] theorem pkS_io : pkS (some (.io j ds)) = some (.list ds) := rfl
def kPL (i : Nat) (f : D → D → Option Res) : D → En → EO := fun e ρ => kPk i f e ρ (pkS ρ[i]?)
def kPIx (i : Nat) : D → En → EO := fun e ρ => kPkI e ρ (pkS ρ[i]?)
def kPkX (m : EO) (k : D → En → EO) : Option D → EO
  | none => .fail
  | some _ => m.bind k
theorem pk_bind {o : Option Slot} : o.bind pkD = pkS o := by cases o <;> rfl
@[simp] theorem mPkL_x : mPkL i f mb ρ = kPkX (mb ρ) (kPL i f) (pkS ρ[i]?) := by
  unfold mPkL kPkX
  rw [pk_bind]
  cases pkS ρ[i]? with
  | none => rfl
  | some d =>
    dsimp only
    congr 1
    funext e ρ1
    rw [pk_bind]
    unfold kPL kPk
    cases pkS ρ1[i]? <;> rfl
@[simp] theorem mPkIx_x : mPkIx i mb ρ = kPkX (mb ρ) (kPIx i) (pkS ρ[i]?) := by
  unfold mPkIx kPkX
  rw [pk_bind]
  cases pkS ρ[i]? with
  | none => rfl
  | some d =>
    dsimp only
    congr 1
    funext e ρ1
    rw [pk_bind]
    unfold kPIx kPkI
    cases pkS ρ1[i]? <;> rfl
@[simp] theorem kPkX_some {m : EO} : kPkX m k (some d) = m.bind k := rfl
@[simp] theorem kPL_x : kPL i f e ρ = kPk i f e ρ (pkS ρ[i]?) := rfl
@[simp] theorem kPIx_x : kPIx i e ρ = kPkI e ρ (pkS ρ[i]?) := rfl
@[simp] theorem kPk_some : kPk i f e ρ (some d) = pkOk (f d e) ρ := rfl
@[simp] theorem kPkI_some : kPkI e ρ (some d) = .of (fIx d e) ρ := rfl
@[simp] theorem pkOk_some : pkOk (some r) ρ = if r.scal = true then .ok r ρ else .fail := rfl
@[simp] theorem scal_int {z : Int} : (Res.val (.int z)).scal = true := rfl
@[simp] theorem scal_bool {z : Bool} : (Res.val (.bool z)).scal = true := rfl
@[simp] theorem scal_str {z : Str} : (Res.val (.str z)).scal = true := rfl
@[simp] theorem scal_none : (Res.val .none).scal = true := rfl
def kPR (i : Nat) (f : D → D → Option Res) : D → En → EO := fun e ρ => match pkS ρ[i]? with
  | none => .fail
  | some d => pkOk (f e d) ρ
@[simp] theorem mPkR_x : mPkR i f ma ρ = (ma ρ).bind (kPR i f) := by
  unfold mPkR
  congr 1
  funext e ρ1
  rw [pk_bind]
  rfl
def kPRs (f : D → D → Option Res) (e : D) (ρ : En) : Option D → EO
  | none => .fail
  | some d => pkOk (f e d) ρ
@[simp] theorem kPR_x : kPR i f e ρ = kPRs f e ρ (pkS ρ[i]?) := by
  unfold kPR kPRs
  cases pkS ρ[i]? <;> rfl
@[simp] theorem kPRs_some : kPRs f e ρ (some d) = pkOk (f e d) ρ := rfl
def kPU (u : D → Option Res) (ρ : En) : Option D → EO
  | none => .fail
  | some d => pkOk (u d) ρ
@[simp] theorem mPkU_x : mPkU i u ρ = kPU u ρ (pkS ρ[i]?) := by
  unfold mPkU
  rw [pk_bind]
  unfold kPU
  cases pkS ρ[i]? <;> rfl
@[simp] theorem kPU_some : kPU u ρ (some d) = pkOk (u d) ρ := rfl
-- methods
def kM4 (i : Nat) (ρ : En) (s : Slot) : Option (D × List D) → EO
  | some (r, es) => .ok (.val r) (ρ.set i (s.put es))
  | none => .fail
def kM3 (i : Nat) (f : List D → D → Option (D × List D)) (d : D) (ρ : En) (s : Slot) : Option (List D) → EO
  | none => .fail
  | some ds => kM4 i ρ s (f ds d)
def kM2 (i : Nat) (f : List D → D → Option (D × List D)) (d : D) (ρ : En) : Option Slot → EO
  | none => .fail
  | some s => kM3 i f d ρ s s.data
def kM1 (i : Nat) (f : List D → D → Option (D × List D)) : D → En → EO := fun d ρ => kM2 i f d ρ ρ[i]?
def kM0 (m : EO) (k : D → En → EO) : Option Slot → EO
  | some s => if s.data.isSome = true then m.bind k else .fail
  | none => .fail
@[simp] theorem mMeth_x {f : List D → D → Option (D × List D)} : mMeth i f me ρ = kM0 (me ρ) (kM1 i f) ρ[i]? := by
  unfold mMeth kM0
  cases ρ[i]? with
  | none => rfl
  | some s =>
    show (match s.data with | none => _ | some _ => _) = (if s.data.isSome = true then _ else _)
    cases s.data with
    | none => rfl
    | some ds0 =>
      rw [if_pos (show (some ds0).isSome = true from rfl)]
      dsimp only
      congr 1
@[simp] theorem kM0_own {m : EO} : kM0 m k (some (.own ds)) = m.bind k := rfl
@[simp] theorem kM0_io {m : EO} : kM0 m k (some (.io j ds)) = m.bind k := rfl
@[simp] theorem kM1_x {f : List D → D → Option (D × List D)} : kM1 i f d ρ = kM2 i f d ρ ρ[i]? := rfl
@[simp] theorem kM2_own {f : List D → D → Option (D × List D)} : kM2 i f d ρ (some (.own ds)) = kM4 i ρ (.own ds) (f ds d) := rfl
@[simp] theorem kM2_io {f : List D → D → Option (D × List D)} : kM2 i f d ρ (some (.io j ds)) = kM4 i ρ (.io j ds) (f ds d) := rfl
@[simp] theorem kM4_some {s : Slot} : kM4 i ρ s (some (d, es)) = .ok (.val d) (ρ.set i (s.put es)) := rfl
-- iteration
def kWalk2 (ρ : En) : Option (List D) → WO
  | some ds => .ok ds ρ
  | none => .fail
def kWalk : EO → WO
  | .fail => .fail
  | .exc x => .exc x
  | .ok r ρ1 => kWalk2 ρ1 (seqOf r.d)
@[simp] theorem mWalk_x : mWalk me ρ = kWalk (me ρ) := by
  unfold mWalk kWalk kWalk2
  cases me ρ with
  | ok r ρ1 => first | rfl | (dsimp only; cases seqOf r.d <;> rfl)
  | _ => rfl
@[simp] theorem kWalk_ok : kWalk (.ok r ρ) = kWalk2 ρ (seqOf r.d) := rfl
@[simp] theorem kWalk2_some : kWalk2 ρ (some ds) = .ok ds ρ := rfl
@[simp] theorem seqOf_list : seqOf (.list ds) = some ds := rfl
@[simp] theorem seqOf_tuple : seqOf (.tuple ds) = some ds := rfl
def kWA2 (f : List D → Option (List D)) (ρ : En) : Option (List D) → WO
  | some ds => kWalk2 ρ (f ds)
  | none => .fail
def kWA (f : List D → Option (List D)) : AO → WO
  | .fail => .fail
  | .exc x => .exc x
  | .ok as ρ1 => kWA2 f ρ1 (vals as)
@[simp] theorem mWA_x {f : List D → Option (List D)} : mWA f mr ρ = kWA f (mr ρ) := by
  unfold mWA kWA kWA2 kWalk2
  cases mr ρ with
  | ok as ρ1 =>
    dsimp only
    cases vals as with
    | none => rfl
    | some ds => show (match f ds with | some ds => _ | none => _) = (match f ds with | some ds => _ | none => _); cases f ds <;> rfl
  | _ => rfl
@[simp] theorem kWA_ok {f : List D → Option (List D)} : kWA f (.ok as ρ) = kWA2 f ρ (vals as) := rfl
@[simp] theorem kWA2_some {f : List D → Option (List D)} : kWA2 f ρ (some ds) = kWalk2 ρ (f ds) := rfl
/-- the items with their numbers -/
def idx (ds : List D) : List (Nat × D) := ds.mapIdx fun i d => (i, d)
theorem idx_len : (idx ds).length = ds.length := by simp [idx]
theorem idx_mem {p : Nat × D} (h : p ∈ idx ds) : p.2 ∈ ds ∧ ds[p.1]? = some p.2 := by
  unfold idx at h
  rw [List.mem_mapIdx] at h
  obtain ⟨i, hi, rfl⟩ := h
  exact ⟨List.getElem_mem hi, List.getElem?_eq_getElem hi⟩
@[simp] theorem wEnum_x : wEnum [d] = (seqOf d).map fun ds => (idx ds).map fun p => .tuple [.int (p.1 : Int), p.2] := by
  unfold wEnum
  dsimp only
  congr 1
  funext ds
  unfold idx
  apply List.ext_getElem?
  intro i
  simp [List.getElem?_mapIdx]
  cases ds[i]? <;> rfl
@[simp] theorem wRng1_x {z : Int} (hz : -(2 ^ 62) ≤ z ∧ z < 2 ^ 62) : wRng1 [.int z] = some ((List.range z.toNat).map fun (i : Nat) => .int (i : Int)) := if_pos hz
@[simp] theorem wRng2_x {y z : Int} (hz : -(2 ^ 62) ≤ y ∧ y < 2 ^ 62 ∧ -(2 ^ 62) ≤ z ∧ z < 2 ^ 62) : wRng2 [.int y, .int z] = some ((List.range (z - y).toNat).map fun (k : Nat) => .int (y + (k : Int))) := if_pos hz
-- loops
def kFor (g1 : D → En → Option En) (m1 : En → SO) : WO → SO
  | .fail => .fail
  | .exc x => .exc x
  | .ok ds ρ1 => loopS g1 m1 ds ρ1
@[simp] theorem mFor_x {mi : En → WO} {g1 : D → En → Option En} : mFor mi g1 m1 ρ = kFor g1 m1 (mi ρ) := by
  unfold mFor kFor
  cases mi ρ <;> rfl
@[simp] theorem kFor_ok {g1 : D → En → Option En} : kFor g1 m1 (.ok ds ρ) = loopS g1 m1 ds ρ := rfl
def kL1 (g1 : D → En → Option En) (m1 : En → SO) (ds : List D) : SO → SO
  | .nx ρ2 => loopS g1 m1 ds ρ2
  | .ct ρ2 => loopS g1 m1 ds ρ2
  | .bk ρ2 => .nx ρ2
  | .ret r ρ2 => .ret r ρ2
  | .exc x => .exc x
  | .fail => .fail
def kL0 (g1 : D → En → Option En) (m1 : En → SO) (ds : List D) : Option En → SO
  | none => .fail
  | some ρ1 => kL1 g1 m1 ds (m1 ρ1)
theorem loopS_nil {g1 : D → En → Option En} : loopS g1 m1 [] ρ = .nx ρ := rfl
theorem loopS_cons {g1 : D → En → Option En} : loopS g1 m1 (d :: ds) ρ = kL0 g1 m1 ds (g1 d ρ) := by
  conv => lhs; unfold loopS
  unfold kL0 kL1
  cases g1 d ρ with
  | none => rfl
  | some ρ1 => first | rfl | (dsimp only; cases m1 ρ1 <;> rfl)
@[simp] theorem kL0_some {g1 : D → En → Option En} : kL0 g1 m1 ds (some ρ) = kL1 g1 m1 ds (m1 ρ) := rfl
@[simp] theorem kL1_nx {g1 : D → En → Option En} : kL1 g1 m1 ds (.nx ρ) = loopS g1 m1 ds ρ := rfl
@[simp] theorem kL1_ct {g1 : D → En → Option En} : kL1 g1 m1 ds (.ct ρ) = loopS g1 m1 ds ρ := rfl
@[simp] theorem kL1_bk {g1 : D → En → Option En} : kL1 g1 m1 ds (.bk ρ) = .nx ρ := rfl
@[simp] theorem kL1_ret {g1 : D → En → Option En} : kL1 g1 m1 ds (.ret r ρ) = .ret r ρ := rfl
@[simp] theorem kL1_exc {g1 : D → En → Option En} : kL1 g1 m1 ds (.exc x) = .exc x := rfl
def kWh2 (mc : En → EO) (m1 : En → SO) (n : Nat) : SO → SO
  | .nx ρ2 => whileF mc m1 n ρ2
  | .ct ρ2 => whileF mc m1 n ρ2
  | .bk ρ2 => .nx ρ2
  | .ret r ρ2 => .ret r ρ2
  | .exc x => .exc x
  | .fail => .fail
def kWh (mc : En → EO) (m1 : En → SO) (n : Nat) : D → En → SO := fun d ρ => match d with
  | .bool true => kWh2 mc m1 n (m1 ρ)
  | .bool false => .nx ρ
  | _ => .fail
theorem whileF_succ : whileF mc m1 (n + 1) ρ = (mc ρ).bindS (kWh mc m1 n) := by
  conv => lhs; unfold whileF EO.testS
  congr 1
  funext d ρ1
  cases d with
  | bool b =>
    cases b
    · rfl
    · unfold kWh kWh2
      first
      | rfl
      | (dsimp only
         rw [if_pos rfl]
         cases m1 ρ1 <;> rfl)
  | _ => rfl
@[simp] theorem kWh_t : kWh mc m1 n (.bool true) ρ = kWh2 mc m1 n (m1 ρ) := rfl
@[simp] theorem kWh_f : kWh mc m1 n (.bool false) ρ = .nx ρ := rfl
@[simp] theorem kWh2_nx : kWh2 mc m1 n (.nx ρ) = whileF mc m1 n ρ := rfl
@[simp] theorem kWh2_ret : kWh2 mc m1 n (.ret r ρ) = .ret r ρ := rfl
-- slices
def kI (k : Int → En → EO) : D → En → EO := fun d ρ => match d with
  | .int i => k i ρ
  | _ => .fail
def kS3 (d : D) (l : Option Int) (hh : Option Int) : En → EO := fun ρ => .of (fSl d l hh) ρ
def kS2b (d : D) (l : Option Int) : D → En → EO := fun e ρ => match e with
  | .int i => kS3 d l (some i) ρ
  | _ => .fail
def kS2 (d : D) (hi : Option (En → EO)) (l : Option Int) : En → EO := fun ρ => match hi with
  | none => kS3 d l none ρ
  | some m => (m ρ).bind (kS2b d l)
def kS1b (d : D) (hi : Option (En → EO)) : D → En → EO := fun e ρ => match e with
  | .int i => kS2 d hi (some i) ρ
  | _ => .fail
def kS1 (lo hi : Option (En → EO)) : D → En → EO := fun d ρ => match lo with
  | none => kS2 d hi none ρ
  | some m => (m ρ).bind (kS1b d hi)
@[simp] theorem mSl_x {lo hi : Option (En → EO)} : mSl ma lo hi ρ = (ma ρ).bind (kS1 lo hi) := by
  unfold mSl
  congr 1
@[simp] theorem kS1_none {hi : Option (En → EO)} : kS1 none hi d ρ = kS2 d hi none ρ := rfl
@[simp] theorem kS1_some {hi : Option (En → EO)} : kS1 (some ma) hi d ρ = (ma ρ).bind (kS1b d hi) := rfl
@[simp] theorem kS1b_x {hi : Option (En → EO)} {z : Int} : kS1b d hi (.int z) ρ = kS2 d hi (some z) ρ := rfl
@[simp] theorem kS2_none {l : Option Int} : kS2 d none l ρ = kS3 d l none ρ := rfl
@[simp] theorem kS2_some {l : Option Int} : kS2 d (some ma) l ρ = (ma ρ).bind (kS2b d l) := rfl
@[simp] theorem kS2b_x {l : Option Int} {z : Int} : kS2b d l (.int z) ρ = kS3 d l (some z) ρ := rfl
@[simp] theorem kS3_x {l hh : Option Int} : kS3 d l hh ρ = .of (fSl d l hh) ρ := rfl
@[simp] theorem fSl_list {l hh : Option Int} : fSl (.list ds) l hh = some (.new (cutD ds l hh)) := rfl
@[simp] theorem fSl_tuple {l hh : Option Int} : fSl (.tuple ds) l hh = some (.val (.tuple (cutD ds l hh))) := rfl
-- keywords, raise, try
def kKw2 (np nk n : Nat) (p : List Nat) (mf : List Arg → FO) (as : List AR) : AO → EO
  | .fail => .fail
  | .exc x => .exc x
  | .ok bs ρ2 => if as.length = np ∧ bs.length = nk then AO.fun (.ok (permL p (as ++ bs)) ρ2) n mf else .fail
def kKw1 (np nk n : Nat) (p : List Nat) (mf : List Arg → FO) (mk : En → AO) : AO → EO
  | .fail => .fail
  | .exc x => .exc x
  | .ok as ρ1 => kKw2 np nk n p mf as (mk ρ1)
@[simp] theorem mKw_x {np nk : Nat} {p : List Nat} {mf : List Arg → FO} {mk : En → AO} : mKw np nk n p mf mr mk ρ = kKw1 np nk n p mf mk (mr ρ) := by
  unfold mKw kKw1 kKw2
  cases mr ρ with
  | ok as ρ1 => first | rfl | (dsimp only; cases mk ρ1 <;> rfl)
  | _ => rfl
@[simp] theorem kKw1_ok {np nk : Nat} {p : List Nat} {mf : List Arg → FO} {mk : En → AO} : kKw1 np nk n p mf mk (.ok as ρ) = kKw2 np nk n p mf as (mk ρ) := rfl
@[simp] theorem kKw2_ok {np nk : Nat} {p : List Nat} {mf : List Arg → FO} {bs : List AR} : kKw2 np nk n p mf as (.ok bs ρ) = if as.length = np ∧ bs.length = nk then AO.fun (.ok (permL p (as ++ bs)) ρ) n mf else .fail := rfl
def kRs2 (x : Str) (fs : List Str) : Option (List D) → SO
  | some ds => if ds.length = fs.length ∧ fs.length ≤ 1000 then .exc ⟨x, fs.zip ds⟩ else .fail
  | none => .fail
def kRs (x : Str) (fs : List Str) : AO → SO
  | .fail => .fail
  | .exc y => .exc y
  | .ok as _ => kRs2 x fs (vals as)
@[simp] theorem mRaise_x {x : Str} {fs : List Str} : mRaise x fs mr ρ = kRs x fs (mr ρ) := by
  unfold mRaise kRs kRs2
  cases mr ρ with
  | ok as ρ1 => first | rfl | (dsimp only; cases vals as <;> rfl)
  | _ => rfl
@[simp] theorem kRs_ok {x : Str} {fs : List Str} : kRs x fs (.ok as ρ) = kRs2 x fs (vals as) := rfl
@[simp] theorem kRs2_some {x : Str} {fs : List Str} : kRs2 x fs (some ds) = if ds.length = fs.length ∧ fs.length ≤ 1000 then .exc ⟨x, fs.zip ds⟩ else .fail := rfl
def kTr2 (N i : Nat) (x : Exc) (ms : Exc → En → SO) : Option Bool → SO
  | some false => .exc x
  | some true => if x.fs.isEmpty = true then .fail else SO.clean i (ms x ((noE N).set i .exc))
  | none => .fail
def kTr (N i : Nat) (tst : Str → Option Bool) (ms : Exc → En → SO) : SO → SO
  | .exc x => kTr2 N i x ms (tst x.cls)
  | o => o
@[simp] theorem mTryAs_x {tst : Str → Option Bool} {ms : Exc → En → SO} : mTryAs N i tst m1 ms ρ = kTr N i tst ms (m1 ρ) := by
  unfold mTryAs kTr kTr2
  cases m1 ρ with
  | exc x =>
    first
    | rfl
    | (dsimp only
       cases tst x.cls with
       | none => rfl
       | some b => cases b <;> rfl)
  | _ => rfl
@[simp] theorem kTr_nx {tst : Str → Option Bool} {ms : Exc → En → SO} : kTr N i tst ms (.nx ρ) = .nx ρ := rfl
@[simp] theorem kTr_ret {tst : Str → Option Bool} {ms : Exc → En → SO} : kTr N i tst ms (.ret r ρ) = .ret r ρ := rfl
@[simp] theorem kTr_exc {tst : Str → Option Bool} {ms : Exc → En → SO} : kTr N i tst ms (.exc x) = kTr2 N i x ms (tst x.cls) := rfl
@[simp] theorem kTr2_f {ms : Exc → En → SO} : kTr2 N i x ms (some false) = .exc x := rfl
@[simp] theorem kTr2_t {ms : Exc → En → SO} : kTr2 N i x ms (some true) = if x.fs.isEmpty = true then .fail else SO.clean i (ms x ((noE N).set i .exc)) := rfl
@[simp] theorem clean_nx : (SO.nx ρ).clean i = .nx (cleanE i ρ) := rfl
@[simp] theorem clean_ret : (SO.ret r ρ).clean i = .ret r (cleanE i ρ) := rfl
end
end DL

set_option maxRecDepth 100000
set_option maxHeartbeats 2000000
/-! PW: comprehensions, loops, numbers, items -/
namespace DL
open PySem L2

def kBk (ρ : En) (v : Nat) : Option Slot → En
  | some (.val d) => ρ.set v (.val d)
  | _ => ρ
@[simp] theorem wipeE_nil {ρ : En} : wipeE ρ [] = ρ := rfl
@[simp] theorem wipeE_cons {ρ : En} {v : Nat} {vs : List Nat} : wipeE ρ (v :: vs) = (wipeE ρ vs).set v .no := rfl
@[simp] theorem backF_nil {ρ ρ1 : En} : backF ρ1 [] ρ = ρ := rfl
@[simp] theorem backF_cons {ρ ρ1 : En} {v : Nat} {vs : List Nat} : backF ρ1 (v :: vs) ρ = backF ρ1 vs (kBk ρ v ρ1[v]?) := by
  conv => lhs; unfold backF
  unfold kBk
  rfl
@[simp] theorem kBk_val {ρ : En} {v : Nat} {d : D} : kBk ρ v (some (.val d)) = ρ.set v (.val d) := rfl
@[simp] theorem kBk_no {ρ : En} {v : Nat} : kBk ρ v (some .no) = ρ := rfl
@[simp] theorem kBk_own {ρ : En} {v : Nat} {ds : List D} : kBk ρ v (some (.own ds)) = ρ := rfl
/-! ### one item of a comprehension -/
def lcD : EO → Option (Option D × En)
  | .ok r ρ3 => some (some r.d, ρ3)
  | _ => none
def lcC (me : En → EO) : D → En → Option (Option D × En) := fun d ρ => match d with
  | .bool true => lcD (me ρ)
  | .bool false => some (none, ρ)
  | _ => none
def lcB (me : En → EO) : EO → Option (Option D × En)
  | .ok r ρ2 => lcC me r.d ρ2
  | _ => none
def lcA (mt me : En → EO) : Option En → Option (Option D × En)
  | some ρ1 => lcB me (mt ρ1)
  | none => none
def lcS (g : D → En → Option En) (mt me : En → EO) (w : En) (d : D) : Option (Option D × En) := lcA mt me (g d w)
section
variable {ρ ρ1 ρ2 : En} {d e a b c : D} {r : Res} {x : Exc} {i j n N : Nat} {ma mb mc me mt : En → EO} {mr : En → AO} {m1 m2 : En → SO} {ds es : List D} {as : List AR}
@[simp] theorem lcD_ok : lcD (.ok r ρ) = some (some r.d, ρ) := rfl
@[simp] theorem lcC_t : lcC me (.bool true) ρ = lcD (me ρ) := rfl
@[simp] theorem lcC_f : lcC me (.bool false) ρ = some (none, ρ) := rfl
@[simp] theorem lcB_ok : lcB me (.ok r ρ) = lcC me r.d ρ := rfl
@[simp] theorem lcA_some : lcA mt me (some ρ) = lcB me (mt ρ) := rfl
theorem compL_cons {g : D → En → Option En} {vs : List Nat} : compL g mt me vs (d :: ds) ρ = (lcS g mt me (wipeE ρ vs) d).bind fun p => (compL g mt me vs ds p.2).map fun q => (p.1.toList ++ q.1, q.2) := by
  conv => lhs; unfold compL
  unfold lcS lcA
  cases g d (wipeE ρ vs) with
  | none => rfl
  | some ρ1 =>
    dsimp only
    unfold lcB
    cases mt ρ1 with
    | ok r ρ2 =>
      dsimp only
      cases hr : r.d with
      | bool b =>
        cases b with
        | true =>
          unfold lcC lcD
          dsimp only
          cases me ρ2 with
          | ok r3 ρ3 => rfl
          | _ => rfl
        | false =>
          unfold lcC
          dsimp only
          show compL g mt me vs ds ρ2 = Option.map _ _
          dsimp only [Option.toList, List.nil_append]
          cases compL g mt me vs ds ρ2 <;> rfl
      | _ => rfl
    | _ => rfl
/-- a comprehension whose items carry a state -/
theorem comp_st {S : Type} {g : D → En → Option En} {vs : List Nat} (w : S → En) (P : D → Option D → Prop) :
    ∀ (ds : List D) (s : S) (ρ : En), wipeE ρ vs = w s → (∀ d ∈ ds, ∀ s, ∃ s' o ρ3, lcS g mt me (w s) d = some (o, ρ3) ∧ wipeE ρ3 vs = w s' ∧ P d o) →
      ∃ (os : List (Option D)) (s' : S) (ρ' : En), compL g mt me vs ds ρ = some (os.filterMap id, ρ') ∧ wipeE ρ' vs = w s' ∧ os.length = ds.length ∧ ∀ (i : Nat) (d : D) (o : Option D), ds[i]? = some d → os[i]? = some o → P d o
  | [], s, ρ, hw, _ => ⟨[], s, ρ, rfl, hw, rfl, fun i d o h => by simp at h⟩
  | d :: ds, s, ρ, hw, h => by
    obtain ⟨s1, o, ρ3, h1, h2, h3⟩ := h d List.mem_cons_self s
    obtain ⟨os, s2, ρ', e1, e2, e3, e4⟩ := comp_st w P ds s1 ρ3 h2 fun d hd => h d (List.mem_cons_of_mem _ hd)
    refine ⟨o :: os, s2, ρ', ?_, e2, by simp [e3], fun i d' o' hd ho => ?_⟩
    · rw [compL_cons, hw, h1]
      show Option.map _ (compL g mt me vs ds ρ3) = _
      rw [e1]
      cases o <;> rfl
    · cases i with
      | zero => simp at hd ho; subst hd; subst ho; exact h3
      | succ i => exact e4 i d' o' (by simpa using hd) (by simpa using ho)
/-- .. and one whose items carry none -/
theorem comp_pure {g : D → En → Option En} {vs : List Nat} (w : En) (f : D → Option D) :
    ∀ (ds : List D) (ρ : En), wipeE ρ vs = w → (∀ d ∈ ds, ∃ ρ3, lcS g mt me w d = some (f d, ρ3) ∧ wipeE ρ3 vs = w) → ∃ ρ', compL g mt me vs ds ρ = some (ds.filterMap f, ρ') ∧ wipeE ρ' vs = w
  | [], ρ, hw, _ => ⟨ρ, rfl, hw⟩
  | d :: ds, ρ, hw, h => by
    obtain ⟨ρ3, h1, h2⟩ := h d List.mem_cons_self
    obtain ⟨ρ', e1, e2⟩ := comp_pure w f ds ρ3 h2 fun d hd => h d (List.mem_cons_of_mem _ hd)
    refine ⟨ρ', ?_, e2⟩
    rw [compL_cons, hw, h1]
    show Option.map _ (compL g mt me vs ds ρ3) = _
    rw [e1]
    cases hf : f d <;> simp [hf]
theorem mLc_of {mi : En → WO} {g : D → En → Option En} {vs : List Nat} {ρ' : En} {out : List D} (hi : mi ρ = .ok ds ρ1) (hl : ds.length ≤ 100000) (hc : compL g mt me vs ds ρ1 = some (out, ρ')) :
    mLc mi g mt me vs ρ = .ok (.new out) (backF ρ1 vs (wipeE ρ' vs)) := by
  unfold mLc
  rw [hi]
  dsimp only
  rw [if_pos hl, hc]
/-- [f(x) for x in ds if ..], nothing written -/
theorem lc_pure {mi : En → WO} {g : D → En → Option En} {vs : List Nat} (f : D → Option D) (ds : List D) (ρ1 : En) (hi : mi ρ = .ok ds ρ1) (hl : ds.length ≤ 100000)
    (h : ∀ d ∈ ds, ∃ ρ3, lcS g mt me (wipeE ρ1 vs) d = some (f d, ρ3) ∧ wipeE ρ3 vs = wipeE ρ1 vs) : mLc mi g mt me vs ρ = .ok (.new (ds.filterMap f)) (backF ρ1 vs (wipeE ρ1 vs)) := by
  obtain ⟨ρ', h1, h2⟩ := comp_pure (mt := mt) (me := me) (wipeE ρ1 vs) f ds ρ1 rfl h
  rw [mLc_of hi hl h1, h2]
theorem lc_st {S : Type} {mi : En → WO} {g : D → En → Option En} {vs : List Nat} (w : S → En) (s : S) (P : D → Option D → Prop) (ds : List D) (ρ1 : En) (hi : mi ρ = .ok ds ρ1) (hl : ds.length ≤ 100000) (hw : wipeE ρ1 vs = w s)
    (h : ∀ d ∈ ds, ∀ s, ∃ s' o ρ3, lcS g mt me (w s) d = some (o, ρ3) ∧ wipeE ρ3 vs = w s' ∧ P d o) :
    ∃ (os : List (Option D)) (s' : S), mLc mi g mt me vs ρ = .ok (.new (os.filterMap id)) (backF ρ1 vs (w s')) ∧ os.length = ds.length ∧ ∀ (i : Nat) (d : D) (o : Option D), ds[i]? = some d → os[i]? = some o → P d o := by
  obtain ⟨os, s', ρ', h1, h2, h3, h4⟩ := comp_st (mt := mt) (me := me) w P ds s ρ1 hw h
  exact ⟨os, s', by rw [mLc_of hi hl h1, h2], h3, h4⟩
/-- a comprehension with a state, each item of it as R says -/
theorem lc_stR {S : Type} {mi : En → WO} {g : D → En → Option En} {vs : List Nat} (w : S → En) (s : S) (R : D → Prop) (ds : List D) (ρ1 : En) (hi : mi ρ = .ok ds ρ1) (hl : ds.length ≤ 100000) (hw : wipeE ρ1 vs = w s)
    (h : ∀ d ∈ ds, ∀ s, ∃ s' o ρ3, lcS g mt me (w s) d = some (o, ρ3) ∧ wipeE ρ3 vs = w s' ∧ ∀ x, o = some x → R x) :
    ∃ (out : List D) (s' : S), mLc mi g mt me vs ρ = .ok (.new out) (backF ρ1 vs (w s')) ∧ out.length ≤ ds.length ∧ ∀ x ∈ out, R x := by
  obtain ⟨os, s', h1, h2, h3⟩ := lc_st (mt := mt) (me := me) w s (fun _ o => ∀ x, o = some x → R x) ds ρ1 hi hl hw h
  refine ⟨_, s', h1, by rw [← h2]; exact List.length_filterMap_le _ _, fun x hx => ?_⟩
  obtain ⟨o, ho, e⟩ := List.mem_filterMap.mp hx
  obtain ⟨i, hi2, e2⟩ := List.getElem_of_mem ho
  have hd : i < ds.length := by omega
  exact h3 i _ o (List.getElem?_eq_getElem hd) (by rw [List.getElem?_eq_getElem hi2, e2]) x e
/-- .. and one without a test -/
theorem lc_stA {S : Type} {mi : En → WO} {g : D → En → Option En} {vs : List Nat} (w : S → En) (s : S) (R : D → Prop) (ds : List D) (ρ1 : En) (hi : mi ρ = .ok ds ρ1) (hl : ds.length ≤ 100000) (hw : wipeE ρ1 vs = w s)
    (h : ∀ d ∈ ds, ∀ s, ∃ s' x ρ3, lcS g mt me (w s) d = some (some x, ρ3) ∧ wipeE ρ3 vs = w s' ∧ R x) :
    ∃ (out : List D) (s' : S), mLc mi g mt me vs ρ = .ok (.new out) (backF ρ1 vs (w s')) ∧ out.length ≤ ds.length ∧ ∀ x ∈ out, R x :=
  lc_stR w s R ds ρ1 hi hl hw fun d hd s => by
    obtain ⟨s', x, ρ3, h1, h2, h3⟩ := h d hd s
    exact ⟨s', some x, ρ3, h1, h2, fun y e => by cases e; exact h3⟩
/-- a loop by its invariant: over the items behind, with an early return -/
theorem loop_inv {g : D → En → Option En} (I : List D → List D → En → Prop) (R : SO → Prop) : ∀ (post pre : List D) (ρ : En), I pre post ρ →
    (∀ pre d post ρ, I pre (d :: post) ρ → ∃ ρ1, g d ρ = some ρ1 ∧ ((∃ ρ2, (m1 ρ1 = .nx ρ2 ∨ m1 ρ1 = .ct ρ2) ∧ I (pre ++ [d]) post ρ2) ∨ ∃ r ρ2, m1 ρ1 = .ret r ρ2 ∧ R (.ret r ρ2))) →
    (∃ ρ', loopS g m1 post ρ = .nx ρ' ∧ I (pre ++ post) [] ρ') ∨ R (loopS g m1 post ρ)
  | [], pre, ρ, hI, _ => .inl ⟨ρ, rfl, by rw [List.append_nil]; exact hI⟩
  | d :: post, pre, ρ, hI, h => by
    obtain ⟨ρ1, hg, h1⟩ := h pre d post ρ hI
    rw [loopS_cons, hg, kL0_some]
    rcases h1 with ⟨ρ2, hm, hI2⟩ | ⟨r, ρ2, hm, hr⟩
    · have e : kL1 g m1 post (m1 ρ1) = loopS g m1 post ρ2 := by rcases hm with hm | hm <;> rw [hm] <;> rfl
      rw [e]
      have q := loop_inv I R post (pre ++ [d]) ρ2 hI2 h
      rw [List.append_assoc] at q
      exact q
    · rw [hm]
      exact .inr hr
/-- .. with no early return -/
theorem loop_nx {g : D → En → Option En} (I : List D → List D → En → Prop) (ds : List D) (ρ : En) (h0 : I [] ds ρ)
    (h : ∀ pre d post ρ, I pre (d :: post) ρ → ∃ ρ1 ρ2, g d ρ = some ρ1 ∧ m1 ρ1 = .nx ρ2 ∧ I (pre ++ [d]) post ρ2) : ∃ ρ', loopS g m1 ds ρ = .nx ρ' ∧ I ds [] ρ' := by
  rcases loop_inv (m1 := m1) (g := g) I (fun _ => False) ds [] ρ h0 (fun pre d post ρ hI => by
    obtain ⟨ρ1, ρ2, h1, h2, h3⟩ := h pre d post ρ hI
    exact ⟨ρ1, h1, .inl ⟨ρ2, .inl h2, h3⟩⟩) with q | q
  · exact q
  · exact q.elim
/-- while, by a measure -/
theorem while_nx {I : Nat → En → Prop} (h : ∀ n ρ, I n ρ → (∃ ρ1, mc ρ = .ok (.val (.bool false)) ρ1 ∧ I 0 ρ1 ∧ n = 0) ∨ ∃ m ρ1 ρ2, n = m + 1 ∧ mc ρ = .ok (.val (.bool true)) ρ1 ∧ m1 ρ1 = .nx ρ2 ∧ I m ρ2) :
    ∀ (n : Nat) (ρ : En) (k : Nat), I n ρ → n < k → ∃ ρ', whileF mc m1 k ρ = .nx ρ' ∧ I 0 ρ' := by
  intro n
  induction n with
  | zero =>
    intro ρ k hI hk
    obtain ⟨k, rfl⟩ : ∃ k', k = k' + 1 := ⟨k - 1, by omega⟩
    rcases h 0 ρ hI with ⟨ρ1, h1, h2, _⟩ | ⟨m, ρ1, ρ2, e, _⟩
    · exact ⟨ρ1, by rw [whileF_succ, h1]; rfl, h2⟩
    · omega
  | succ n ih =>
    intro ρ k hI hk
    obtain ⟨k, rfl⟩ : ∃ k', k = k' + 1 := ⟨k - 1, by omega⟩
    rcases h _ ρ hI with ⟨ρ1, h1, h2, e⟩ | ⟨m, ρ1, ρ2, e, h1, h2, h3⟩
    · omega
    · have e' : m = n := by omega
      subst e'
      obtain ⟨ρ', q1, q2⟩ := ih ρ2 k h3 (by omega)
      exact ⟨ρ', by rw [whileF_succ, h1, es_ok, rd_val, kWh_t, h2, kWh2_nx, q1], q2⟩
/-! ### plain operators at given values -/
variable {y z : Int} {p q : Bool} {s t : Str}
@[simp] theorem fAdd_int : fAdd (.int y) (.int z) = some (.val (.int (y + z))) := rfl
@[simp] theorem fSub_int : fSub (.int y) (.int z) = some (.val (.int (y - z))) := rfl
theorem fMul_int (h : cMul y z = true) : fMul (.int y) (.int z) = some (.val (.int (y * z))) := if_pos h
theorem fAdd_tup (h : ds.length + es.length ≤ 100000) : fAdd (.tuple ds) (.tuple es) = some (.val (.tuple (ds ++ es))) := if_pos h
theorem fAdd_lst (h : ds.length + es.length ≤ 100000) : fAdd (.list ds) (.list es) = some (.new (ds ++ es)) := if_pos h
theorem fMod_int (h : 0 < z) : fMod (.int y) (.int z) = some (.val (.int (y % z))) := if_pos (decide_eq_true h)
theorem fDiv_int (h : 0 < z ∧ z < 1073741824) : fDiv (.int y) (.int z) = some (.val (.int (y / z))) := if_pos (decide_eq_true h)
@[simp] theorem fC_int {G : Int → Int → Bool} : fC G (.int y) (.int z) = some (.val (.bool (G y z))) := rfl
@[simp] theorem fIsN_x : fIsN d .none = some (.val (.bool (isNon d))) := by cases d <;> rfl
@[simp] theorem fNotN_x : fNotN d .none = some (.val (.bool (!isNon d))) := by cases d <;> rfl
@[simp] theorem fIx_tup : fIx (.tuple ds) (.int z) = (atI ds z).map .val := rfl
@[simp] theorem fIx_lst : fIx (.list ds) (.int z) = (atI ds z).map .val := rfl
@[simp] theorem fLen_tup : fLen (.tuple ds) = some (.val (.int ds.length)) := rfl
@[simp] theorem fLen_lst : fLen (.list ds) = some (.val (.int ds.length)) := rfl
@[simp] theorem fTuple_lst : fTuple (.list ds) = some (.val (.tuple ds)) := rfl
@[simp] theorem fTuple_tup : fTuple (.tuple ds) = some (.val (.tuple ds)) := rfl
@[simp] theorem fList_lst : fList (.list ds) = some (.new ds) := rfl
@[simp] theorem fList_tup : fList (.tuple ds) = some (.new ds) := rfl
@[simp] theorem fInt_int : fInt (.int y) = some (.val (.int y)) := rfl
@[simp] theorem fInt_bool : fInt (.bool p) = some (.val (.int (if p then 1 else 0))) := rfl
@[simp] theorem fAbs_int : fAbs (.int y) = some (.val (.int (if y < 0 then -y else y))) := rfl
@[simp] theorem fMax_int : fMax (.int y) (.int z) = some (.val (.int (if z > y then z else y))) := rfl
@[simp] theorem fMin_int : fMin (.int y) (.int z) = some (.val (.int (if z < y then z else y))) := rfl
@[simp] theorem fNeg_int : fNeg (.int y) = some (.val (.int (-y))) := rfl
@[simp] theorem fRev_tup : fRev (.tuple ds) = some (.val (.tuple ds.reverse)) := rfl
@[simp] theorem fRev_lst : fRev (.list ds) = some (.new ds.reverse) := rfl
@[simp] theorem f1_x {u : D → Option Res} : f1 u [d] = u d := rfl
@[simp] theorem f2_x {u : D → D → Option Res} : f2 u [d, e] = u d e := rfl
theorem fTup_x (h : ds.length ≤ 100000) : fTup ds = some (.val (.tuple ds)) := if_pos h
theorem fLst_x (h : ds.length ≤ 100000) : fLst ds = some (.new ds) := if_pos h
@[simp] theorem fTup0 : fTup [] = some (.val (.tuple [])) := rfl
@[simp] theorem fTup1 : fTup [a] = some (.val (.tuple [a])) := rfl
@[simp] theorem fTup2 : fTup [a, b] = some (.val (.tuple [a, b])) := rfl
@[simp] theorem fTup3 : fTup [a, b, c] = some (.val (.tuple [a, b, c])) := rfl
@[simp] theorem fTup4 : fTup [a, b, c, d] = some (.val (.tuple [a, b, c, d])) := rfl
@[simp] theorem fLst0 : fLst [] = some (.new []) := rfl
@[simp] theorem fLst1 : fLst [a] = some (.new [a]) := rfl
@[simp] theorem fLst2 : fLst [a, b] = some (.new [a, b]) := rfl
@[simp] theorem fLst3 : fLst [a, b, c] = some (.new [a, b, c]) := rfl
@[simp] theorem fLst4 : fLst [a, b, c, d] = some (.new [a, b, c, d]) := rfl
@[simp] theorem fLst5 {x1 : D} : fLst [a, b, c, d, x1] = some (.new [a, b, c, d, x1]) := rfl
@[simp] theorem fLst6 {x1 x2 : D} : fLst [a, b, c, d, x1, x2] = some (.new [a, b, c, d, x1, x2]) := rfl
theorem fEq_x (h1 : shaped d = true) (h2 : shaped e = true) : fEq d e = some (.val (.bool (PyData.eqv d e))) := if_pos ⟨h1, h2⟩
theorem fNe_x (h1 : shaped d = true) (h2 : shaped e = true) : fNe d e = some (.val (.bool (!PyData.eqv d e))) := if_pos ⟨h1, h2⟩
@[simp] theorem sh_int : shaped (.int y) = true := by unfold shaped SeqAt.shaped; simp [PyData.canLay0, PyData.depth]
@[simp] theorem sh_bool : shaped (.bool p) = true := by unfold shaped SeqAt.shaped; simp [PyData.canLay0, PyData.depth]
@[simp] theorem sh_none : shaped .none = true := by unfold shaped SeqAt.shaped; simp [PyData.canLay0, PyData.depth]
@[simp] theorem sh_str : shaped (.str s) = PyData.strOk s := by unfold shaped SeqAt.shaped; simp [PyData.canLay0, PyData.depth]
@[simp] theorem sh_nilL : shaped (.list []) = true := by unfold shaped SeqAt.shaped; simp [PyData.canLay0, PyData.canLayAll0, PyData.depth, PyData.depthAll]
@[simp] theorem sh_nilT : shaped (.tuple []) = true := by unfold shaped SeqAt.shaped; simp [PyData.canLay0, PyData.canLayAll0, PyData.depth, PyData.depthAll]
@[simp] theorem fEq_int : fEq (.int y) (.int z) = some (.val (.bool (y == z))) := by rw [fEq_x sh_int sh_int]; simp only [PyData.eqv]
@[simp] theorem fNe_int : fNe (.int y) (.int z) = some (.val (.bool (!(y == z)))) := by rw [fNe_x sh_int sh_int]; simp only [PyData.eqv]
theorem fEq_str (h1 : PyData.strOk s = true) (h2 : PyData.strOk t = true) : fEq (.str s) (.str t) = some (.val (.bool (s == t))) := by rw [fEq_x (by simpa using h1) (by simpa using h2)]; simp only [PyData.eqv]
theorem fNe_str (h1 : PyData.strOk s = true) (h2 : PyData.strOk t = true) : fNe (.str s) (.str t) = some (.val (.bool (!(s == t)))) := by rw [fNe_x (by simpa using h1) (by simpa using h2)]; simp only [PyData.eqv]
theorem eqv_nil : PyData.eqv (.list ds) (.list []) = ds.isEmpty := by cases ds <;> simp [PyData.eqv, PyData.eqvAll]
theorem fNe_nilL (h : shaped (.list ds) = true) : fNe (.list ds) (.list []) = some (.val (.bool (!ds.isEmpty))) := by rw [fNe_x h sh_nilL, eqv_nil]
theorem fEq_nilL (h : shaped (.list ds) = true) : fEq (.list ds) (.list []) = some (.val (.bool ds.isEmpty)) := by rw [fEq_x h sh_nilL, eqv_nil]
@[simp] theorem fLenL (k : Nat) : fLen (.list (List.replicate k d)) = some (.val (.int k)) := by simp
theorem atI_nat (k : Nat) : atI ds (k : Int) = ds[k]? := by
  unfold atI ixN
  rw [if_pos (by omega)]
  split
  · simp
  · rename_i h
    rw [List.getElem?_eq_none (by omega)]; rfl
@[simp] theorem atI_0 : atI ds 0 = ds[0]? := atI_nat 0
@[simp] theorem atI_1 : atI ds 1 = ds[1]? := atI_nat 1
@[simp] theorem atI_2 : atI ds 2 = ds[2]? := atI_nat 2
@[simp] theorem atI_3 : atI ds 3 = ds[3]? := atI_nat 3
@[simp] theorem atI_4 : atI ds 4 = ds[4]? := atI_nat 4
@[simp] theorem atI_5 : atI ds 5 = ds[5]? := atI_nat 5
theorem atI_of (h0 : 0 ≤ z) (h : ds[z.toNat]? = some d) : atI ds z = some d := by
  obtain ⟨k, rfl⟩ : ∃ k : Nat, z = k := ⟨z.toNat, by omega⟩
  rw [atI_nat]; simpa using h
@[simp] theorem putAt_0 : putAt 0 d (a :: ds) = some (d :: ds) := by
  unfold putAt ixN
  rw [if_pos (by omega), if_pos (by simp only [List.length_cons]; omega)]
  rfl
@[simp] theorem putAt_1 : putAt 1 d (a :: b :: ds) = some (a :: d :: ds) := by
  unfold putAt ixN
  rw [if_pos (by omega), if_pos (by simp only [List.length_cons]; omega)]
  rfl
theorem fAppend_x (h : ds.length < 100000) : fAppend ds d = some (.none, ds ++ [d]) := if_pos h
theorem fExtend_x (h : ds.length + es.length ≤ 100000) : fExtend ds (.list es) = some (.none, ds ++ es) := if_pos h
@[simp] theorem bools_map (bs : List Bool) : bools (bs.map PyData.bool) = some bs := by
  induction bs with
  | nil => rfl
  | cons b bs ih => show Option.map _ (bools (bs.map PyData.bool)) = _; rw [ih]; rfl
theorem fAll_map {bs : List Bool} : fAll (.list (bs.map PyData.bool)) = some (.val (.bool (bs.all id))) := by
  show Option.map _ (bools _) = _
  rw [bools_map]; rfl
@[simp] theorem fAll_m {α : Type} {l : List α} {h : α → Bool} : fAll (.list (l.map fun x => PyData.bool (h x))) = some (.val (.bool (l.all h))) := by
  have e : (l.map fun x => PyData.bool (h x)) = (l.map h).map PyData.bool := by simp
  rw [e, fAll_map, List.all_map]
  rfl
theorem fAll_fm {α : Type} {l : List α} {f : α → Option D} {h : α → Bool} (hf : ∀ x ∈ l, f x = some (.bool (h x))) : fAll (.list (l.filterMap f)) = some (.val (.bool (l.all h))) := by
  have e : l.filterMap f = (l.map h).map PyData.bool := by
    induction l with
    | nil => rfl
    | cons x l ih => rw [List.filterMap_cons, hf x List.mem_cons_self]; dsimp only; rw [ih fun y hy => hf y (List.mem_cons_of_mem _ hy)]; rfl
  rw [e, fAll_map, List.all_map]
  rfl
@[simp] theorem kCh3_C {G : Int → Int → Bool} : kCh3 (fC G) (mC (.int z)) (.int y) (some (.val (.bool p))) ρ = .ok (.val (.bool (p && G y z))) ρ := kCh3_i rfl
theorem len1 {l : List D} (h : l.length = 1) : ∃ a, l = [a] := by
  match l, h with | [a], _ => exact ⟨a, rfl⟩
theorem len2 {l : List D} (h : l.length = 2) : ∃ a b, l = [a, b] := by
  match l, h with | [a, b], _ => exact ⟨a, b, rfl⟩
theorem len3 {l : List D} (h : l.length = 3) : ∃ a b c, l = [a, b, c] := by
  match l, h with | [a, b, c], _ => exact ⟨a, b, c, rfl⟩
theorem len4 {l : List D} (h : l.length = 4) : ∃ a b c d, l = [a, b, c, d] := by
  match l, h with | [a, b, c, d], _ => exact ⟨a, b, c, d, rfl⟩
def ok0 (d : D) : Prop := d.canLay0 = true
theorem ok0_all {ds : List D} : PyData.canLayAll0 ds = true ↔ ∀ d ∈ ds, ok0 d := by
  induction ds with
  | nil => simp [PyData.canLayAll0]
  | cons d ds ih => simp [PyData.canLayAll0, ih, ok0]
@[simp] theorem ok0_tup {ds : List D} : ok0 (.tuple ds) ↔ ∀ d ∈ ds, ok0 d := by rw [← ok0_all]; simp [ok0, PyData.canLay0]
@[simp] theorem ok0_lst {ds : List D} : ok0 (.list ds) ↔ ∀ d ∈ ds, ok0 d := by rw [← ok0_all]; simp [ok0, PyData.canLay0]
@[simp] theorem ok0_int : ok0 (.int y) := rfl
@[simp] theorem ok0_bool : ok0 (.bool p) := rfl
@[simp] theorem ok0_none : ok0 .none := rfl
@[simp] theorem ok0_str {s : Str} : ok0 (.str s) ↔ PyData.strOk s = true := by simp [ok0, PyData.canLay0]
theorem fNotIn_t (h1 : shaped d = true) (h2 : shaped (.tuple ds) = true) : fNotIn d (.tuple ds) = some (.val (.bool (!ds.any fun z => PyData.eqv z d))) := by
  unfold fNotIn
  rw [seqOf_tuple]
  exact if_pos ⟨h1, h2⟩
theorem fIn_t (h1 : shaped d = true) (h2 : shaped (.tuple ds) = true) : fIn d (.tuple ds) = some (.val (.bool (ds.any fun z => PyData.eqv z d))) := by
  unfold fIn
  rw [seqOf_tuple]
  exact if_pos ⟨h1, h2⟩
theorem fIn_l (h1 : shaped d = true) (h2 : shaped (.list ds) = true) : fIn d (.list ds) = some (.val (.bool (ds.any fun z => PyData.eqv z d))) := by
  unfold fIn
  rw [seqOf_list]
  exact if_pos ⟨h1, h2⟩
theorem depthAll_le {k : Nat} : PyData.depthAll ds ≤ k ↔ ∀ d ∈ ds, PyData.depth d ≤ k := by
  induction ds with
  | nil => simp [PyData.depthAll]
  | cons d ds ih => simp only [PyData.depthAll, List.mem_cons, forall_eq_or_imp, ← ih]; omega
theorem sh_of (h1 : ok0 d) (h2 : d.depth ≤ 64) : shaped d = true := by
  unfold shaped SeqAt.shaped
  have h1' : d.canLay0 = true := h1
  simp [h1', h2]
theorem dpt {k : Nat} : PyData.depth (.tuple ds) ≤ k + 1 ↔ ∀ d ∈ ds, PyData.depth d ≤ k := by rw [← depthAll_le, PyData.depth]; omega
theorem dpl {k : Nat} : PyData.depth (.list ds) ≤ k + 1 ↔ ∀ d ∈ ds, PyData.depth d ≤ k := by rw [← depthAll_le, PyData.depth]; omega
theorem fs_G {s : Slot} (h : s = .no ∨ ∃ e, s = .val e) : kG i d ρ (some s) = some (ρ.set i (.val d)) := by rcases h with rfl | ⟨e, rfl⟩ <;> rfl
@[simp] theorem wZip2_t {xs ys : List D} : wZip2 [.tuple xs, .tuple ys] = some (List.zipWith (fun x y => .tuple [x, y]) xs ys) := rfl
theorem fMul_tup {k : Int} (h : -1000 ≤ k ∧ k ≤ 1000 ∧ ds.length ≤ 1000) : fMul (.tuple ds) (.int k) = some (.val (.tuple (List.replicate k.toNat ds).flatten)) := if_pos h
theorem fMul_lst {k : Int} (h : -1000 ≤ k ∧ k ≤ 1000 ∧ ds.length ≤ 1000) : fMul (.list ds) (.int k) = some (.new (List.replicate k.toNat ds).flatten) := if_pos h
theorem cMul_r (h : -(2 ^ 64) < z ∧ z < 2 ^ 64) : cMul y z = true := by unfold cMul; simp only [Bool.or_eq_true, decide_eq_true_eq]; exact .inr h
theorem cMul_l (h : -(2 ^ 64) < y ∧ y < 2 ^ 64) : cMul y z = true := by unfold cMul; simp only [Bool.or_eq_true, decide_eq_true_eq]; exact .inl h
-- a lambda handed over
def kHeard (ρ : En) : Option Res → EO
  | some r => .ok r ρ
  | none => .fail
def kRun : SO → Option Res
  | .ret r _ => some r
  | .nx _ => some (.val .none)
  | _ => none
@[simp] theorem mHeard_x {mb : LO → En → SO} : mHeard N mb me ρ = kHeard ρ (kRun (mb (LO.of (me (hide ρ))) ((noE N).set 0 .exc))) := by
  unfold mHeard runF kHeard kRun
  cases mb (LO.of (me (hide ρ))) ((noE N).set 0 .exc) <;> rfl
@[simp] theorem kRun_ret : kRun (.ret r ρ) = some r := rfl
@[simp] theorem kHeard_some : kHeard ρ (some r) = .ok r ρ := rfl
@[simp] theorem LO_ok : LO.of (.ok r ρ) = .ok r := rfl
@[simp] theorem LO_exc : LO.of (.exc x) = .exc x := rfl
@[simp] theorem hide_nil : hide [] = [] := rfl
@[simp] theorem hide_val : hide (.val d :: ρ) = .val d :: hide ρ := rfl
@[simp] theorem hide_no : hide (.no :: ρ) = .no :: hide ρ := rfl
@[simp] theorem hide_own : hide (.own ds :: ρ) = .no :: hide ρ := rfl
@[simp] theorem noE3 : noE 3 = [.no, .no, .no] := rfl
@[simp] theorem noE4 : noE 4 = [.no, .no, .no, .no] := rfl
def kC0 (o : LO) (ρ : En) : Option Slot → EO
  | some .exc => mAct o ρ
  | _ => .fail
@[simp] theorem mCall0_x {o : LO} : mCall0 o ρ = kC0 o ρ ρ[0]? := by
  unfold mCall0 kC0
  cases ρ[0]? with
  | none => rfl
  | some s => cases s <;> rfl
@[simp] theorem kC0_e {o : LO} : kC0 o ρ (some .exc) = mAct o ρ := rfl
@[simp] theorem mAct_ok : mAct (.ok r) ρ = .ok r ρ := rfl
@[simp] theorem mAct_exc : mAct (.exc x) ρ = .exc x := rfl
def kXf (f : Str) (y : Exc) (ρ : En) : Option Slot → EO
  | some .exc => match y.fs.lookup f with
    | some d => .ok (.val d) ρ
    | none => .fail
  | _ => .fail
@[simp] theorem mXf_x {f : Str} {y : Exc} : mXf i f y ρ = kXf f y ρ ρ[i]? := by
  unfold mXf kXf
  cases ρ[i]? with
  | none => rfl
  | some s => cases s <;> rfl
theorem kXf_e {f : Str} {y : Exc} (h : y.fs.lookup f = some d) : kXf f y ρ (some .exc) = .ok (.val d) ρ := by
  show (match y.fs.lookup f with | some d => _ | none => _) = _
  rw [h]
def kIsE (b : Bool) (ρ : En) : Option Slot → EO
  | some .exc => .ok (.val (.bool b)) ρ
  | _ => .fail
@[simp] theorem mIsE_x {b : Bool} : mIsE i b ρ = kIsE b ρ ρ[i]? := by
  unfold mIsE kIsE
  cases ρ[i]? with
  | none => rfl
  | some s => cases s <;> rfl
@[simp] theorem kIsE_e {b : Bool} : kIsE b ρ (some .exc) = .ok (.val (.bool b)) ρ := rfl
@[simp] theorem kSet_exc : kSet i r ρ (some .exc) = .nx (ρ.set i r.slot) := rfl
@[simp] theorem cleanE_x : cleanE i ρ = (ρ.map Slot.clean).set i .no := rfl
@[simp] theorem clean_e : Slot.clean .exc = .no := rfl
@[simp] theorem clean_n : Slot.clean .no = .no := rfl
@[simp] theorem clean_v : Slot.clean (.val d) = .val d := rfl
@[simp] theorem clean_o : Slot.clean (.own ds) = .own ds := rfl
def kFT2 (ρ : En) : FO → EO
  | .fail => .fail
  | .exc x => .exc x
  | .ok r _ => .ok r ρ
def kFT (mf : List Arg → FO) : EO → EO
  | .ok (.new ds) ρ1 => kFT2 ρ1 (mf [.io ds])
  | .exc x => .exc x
  | _ => .fail
@[simp] theorem mFunT_x {mf : List Arg → FO} : mFunT mf me ρ = kFT mf (me ρ) := by
  unfold mFunT kFT kFT2
  cases me ρ with
  | ok r ρ1 =>
    cases r with
    | val d => rfl
    | new ds => first | rfl | (dsimp only; cases mf [.io ds] <;> rfl)
  | _ => rfl
@[simp] theorem kFT_x {mf : List Arg → FO} : kFT mf (.ok (.new ds) ρ) = kFT2 ρ (mf [.io ds]) := rfl
@[simp] theorem kFT2_x {outs : List (List D)} : kFT2 ρ (.ok r outs) = .ok r ρ := rfl
theorem fm_none (l : List D) : l.filterMap (fun _ : D => (none : Option D)) = [] := by
  induction l with
  | nil => rfl
  | cons x l ih => rw [List.filterMap_cons]; exact ih
@[simp] theorem permL_1 {a1 : AR} : permL [0] [a1] = [a1] := rfl
@[simp] theorem isTy_n {t : String} : isTy t .none = isT "NoneType" t := rfl
@[simp] theorem isTy_b {t : String} : isTy t (.bool p) = isT "bool" t := rfl
@[simp] theorem isTy_i {t : String} : isTy t (.int y) = isT "int" t := rfl
@[simp] theorem isTy_s {t : String} {v : Str} : isTy t (.str v) = isT "str" t := rfl
@[simp] theorem isTy_l {t : String} : isTy t (.list ds) = isT "list" t := rfl
@[simp] theorem isTy_t {t : String} : isTy t (.tuple ds) = isT "tuple" t := rfl
@[simp] theorem isTy_d {t : String} {kv : List (PyData × PyData)} : isTy t (.dict kv) = isT "dict" t := rfl
@[simp] theorem isT_x {a t : String} : isT a t = (a == t || (a == "bool" && t == "int")) := rfl
@[simp] theorem ty_x {ts : List String} : mIsi ts ma ρ = (ma ρ).bind (kUn fun d => some (.val (.bool (ts.any fun t => isTy t d)))) := rfl
end
end DL

set_option maxRecDepth 100000
set_option maxHeartbeats 2000000
/-! PW: bounded data: what repr and == ask of it; paths into data -/
namespace DL
open PySem L2
theorem strOk_lit (s : String) : PyData.strOk (s : Str) = true := by
  have e : (s : Str) = ⟨(s.toList.map Char.toNat).toArray⟩ := Str.ofString_eq_toList s
  rw [e]
  unfold PyData.strOk
  rw [← Array.all_toList]
  simp only [List.all_map]
  refine List.all_eq_true.mpr fun c _ => ?_
  have := c.valid
  simp only [Function.comp_apply, decide_eq_true_eq]
  have h2 : c.toNat.isValidChar := c.valid
  unfold Nat.isValidChar at h2
  omega
theorem strOk_app (a b : Str) : PyData.strOk (a ++ b) = (PyData.strOk a && PyData.strOk b) := by
  unfold PyData.strOk
  show Array.all (a.cps ++ b.cps) _ = _
  simp
theorem len_app (a b : Str) : (a ++ b).length = a.length + b.length := by
  show (a.cps ++ b.cps).size = _
  simp [Str.length]
theorem strOk_join (sep : Str) (hs : PyData.strOk sep = true) : ∀ ts : List Str, (∀ t ∈ ts, PyData.strOk t = true) → PyData.strOk (Str.join sep ts) = true
  | [], _ => by rw [Str.join]; decide +kernel
  | [x], h => h x List.mem_cons_self
  | x :: y :: r, h => by
    show PyData.strOk (x ++ sep ++ Str.join sep (y :: r)) = true
    rw [strOk_app, strOk_app, h x List.mem_cons_self, hs, strOk_join sep hs (y :: r) fun t ht => h t (List.mem_cons_of_mem _ ht)]
    rfl
theorem len_join : ∀ ts : List Str, (Str.join ", " ts).length ≤ (ts.map fun t => t.length + 2).sum
  | [] => Nat.zero_le _
  | [x] => by simp [Str.join]
  | x :: y :: r => by
    have ih := len_join (y :: r)
    show (x ++ ((", " : String) : Str) ++ Str.join ", " (y :: r)).length ≤ _
    rw [len_app, len_app]
    have : (((", " : String) : Str)).length = 2 := by decide +kernel
    simp only [List.map_cons, List.sum_cons] at ih ⊢
    omega
def strNice (x : Str) : Bool := PyData.strOk x && PyData.strOk (reprText x) && decide ((reprText x).length ≤ 12)
mutual
def nice (B : Nat) : D → Bool
  | .none | .bool _ => true
  | .int i => decide (i.natAbs ≤ B)
  | .str x => strNice x
  | .list xs | .tuple xs => niceAll B xs
  | .dict _ => false
def niceAll (B : Nat) : List D → Bool
  | [] => true
  | x :: xs => nice B x && niceAll B xs
end
mutual
def wt : D → Nat
  | .list xs | .tuple xs => wtAll xs + 1
  | .none | .bool _ | .int _ | .str _ | .dict _ => 1
def wtAll : List D → Nat
  | [] => 0
  | x :: xs => wt x + wtAll xs
end
theorem niceAll_iff {B : Nat} {ds : List D} : niceAll B ds = true ↔ ∀ d ∈ ds, nice B d = true := by
  induction ds with
  | nil => simp [niceAll]
  | cons d ds ih => simp [niceAll, ih]
theorem nice_tup {B : Nat} {ds : List D} : nice B (.tuple ds) = true ↔ ∀ d ∈ ds, nice B d = true := by rw [← niceAll_iff, nice]
theorem nice_lst {B : Nat} {ds : List D} : nice B (.list ds) = true ↔ ∀ d ∈ ds, nice B d = true := by rw [← niceAll_iff, nice]
theorem wt_tup {ds : List D} : wt (.tuple ds) = wtAll ds + 1 := by rw [wt]
theorem wt_lst {ds : List D} : wt (.list ds) = wtAll ds + 1 := by rw [wt]
theorem wtAll_app {a b : List D} : wtAll (a ++ b) = wtAll a + wtAll b := by
  induction a with
  | nil => simp [wtAll]
  | cons x a ih => simp [wtAll, ih]; omega
theorem wtAll_nil : wtAll [] = 0 := by rw [wtAll]
theorem wtAll_cons {x : D} {a : List D} : wtAll (x :: a) = wt x + wtAll a := by rw [wtAll]
theorem wt_pos : ∀ d : D, 1 ≤ wt d
  | .list xs => by rw [wt]; omega
  | .tuple xs => by rw [wt]; omega
  | .none => by rw [wt]; omega
  | .bool _ => by rw [wt]; omega
  | .int _ => by rw [wt]; omega
  | .str _ => by rw [wt]; omega
  | .dict _ => by rw [wt]; omega
theorem wtAll_len (ds : List D) : ds.length ≤ wtAll ds := by
  induction ds with
  | nil => simp
  | cons d ds ih => have := wt_pos d; simp [wtAll]; omega
theorem wtAll_mem {d : D} {ds : List D} (h : d ∈ ds) : wt d ≤ wtAll ds := by
  induction ds with
  | nil => cases h
  | cons x ds ih =>
    rw [wtAll]
    rcases List.mem_cons.mp h with rfl | h
    · omega
    · have := ih h; omega
theorem wtAll_rev (ds : List D) : wtAll ds.reverse = wtAll ds := by
  induction ds with
  | nil => rfl
  | cons d ds ih => rw [List.reverse_cons, wtAll_app, ih, wtAll, wtAll, wtAll]; omega
theorem wtAll_le {ds : List D} {k : Nat} (h : ∀ d ∈ ds, wt d ≤ k) : wtAll ds ≤ ds.length * k := by
  induction ds with
  | nil => simp [wtAll]
  | cons d ds ih =>
    have h1 := h d List.mem_cons_self
    have h2 := ih fun x hx => h x (List.mem_cons_of_mem _ hx)
    rw [wtAll, List.length_cons, Nat.succ_mul]
    omega
theorem wtAll_sub {a b : List D} (h : a.Sublist b) : wtAll a ≤ wtAll b := by
  induction h with
  | slnil => simp
  | cons x _ ih => rw [wtAll]; omega
  | cons_cons x _ ih => rw [wtAll, wtAll]; omega
mutual
theorem nice_facts {B : Nat} (hB : B ≤ 1000000) : ∀ d : D, nice B d = true → d.showable = true ∧ d.hasDict = false ∧ ok0 d ∧ PyData.strOk d.shown = true ∧ d.shown.length + 2 ≤ 16 * wt d
  | .none, _ => ⟨by simp [PyData.showable], by simp [PyData.hasDict], rfl, by rw [PyData.shown_none]; exact strOk_lit _, by rw [PyData.shown_none, wt]; decide +kernel⟩
  | .bool b, _ => ⟨by simp [PyData.showable], by simp [PyData.hasDict], rfl, by rw [PyData.shown_bool]; cases b <;> exact strOk_lit _, by rw [PyData.shown_bool, wt]; cases b <;> decide +kernel⟩
  | .int i, h => by
    have hi : i.natAbs ≤ B := by simpa [nice] using h
    refine ⟨?_, by simp [PyData.hasDict], rfl, by rw [PyData.shown_int]; exact strOk_lit _, ?_⟩
    · simp only [PyData.showable, decide_eq_true_eq]
      have h1 : i.natAbs < 2 ^ 1920 := Nat.lt_of_le_of_lt (Nat.le_trans hi hB) (by decide)
      rcases Nat.eq_zero_or_pos i.natAbs with z | z
      · rw [z]; decide
      · exact (Nat.log2_lt (by omega)).mpr h1
    · have := PyData.shown_int_le2 (i := i) (by omega) (by omega)
      rw [wt]
      omega
  | .str x, h => by
    have h' : (PyData.strOk x = true ∧ PyData.strOk (reprText x) = true) ∧ (reprText x).length ≤ 12 := by simpa [nice, strNice] using h
    exact ⟨by simp [PyData.showable], by simp [PyData.hasDict], ok0_str.mpr h'.1.1, by rw [PyData.shown_str]; exact h'.1.2, by rw [PyData.shown_str, wt]; omega⟩
  | .list xs, h => by
    have h' : niceAll B xs = true := by simpa [nice] using h
    obtain ⟨h1, h2, h3, h4, h5⟩ := niceAll_facts hB xs h'
    refine ⟨by rw [PyData.showable]; exact h1, by rw [PyData.hasDict]; exact h2, by simpa [ok0, PyData.canLay0] using h3, ?_, ?_⟩
    · rw [PyData.shown_list, strOk_app, strOk_app, strOk_lit, strOk_lit, strOk_join _ (strOk_lit _) _ h4]; rfl
    · rw [PyData.shown_list, len_app, len_app, wt]
      have a := len_join (PyData.shownAll xs)
      have b : (((("[" : String) : Str)).length = 1) := by decide +kernel
      have c : (((("]" : String) : Str)).length = 1) := by decide +kernel
      omega
  | .tuple xs, h => by
    have h' : niceAll B xs = true := by simpa [nice] using h
    obtain ⟨h1, h2, h3, h4, h5⟩ := niceAll_facts hB xs h'
    refine ⟨by rw [PyData.showable]; exact h1, by rw [PyData.hasDict]; exact h2, by simpa [ok0, PyData.canLay0] using h3, ?_, ?_⟩
    · rw [PyData.shown_tuple, strOk_app, strOk_app, strOk_lit, strOk_lit, strOk_join _ (strOk_lit _) _ h4]; rfl
    · rw [PyData.shown_tuple, len_app, len_app, wt]
      have a := len_join (PyData.shownAll xs)
      have b : (((("(" : String) : Str)).length = 1) := by decide +kernel
      have c : ((((if xs.length == 1 then ",)" else ")" : String) : Str)).length ≤ 2) := by split <;> decide +kernel
      omega
  | .dict _, h => by simp [nice] at h
theorem niceAll_facts {B : Nat} (hB : B ≤ 1000000) : ∀ ds : List D, niceAll B ds = true → PyData.showableAll ds = true ∧ PyData.hasDictAll ds = false ∧ PyData.canLayAll0 ds = true ∧ (∀ t ∈ PyData.shownAll ds, PyData.strOk t = true) ∧ ((PyData.shownAll ds).map fun t => t.length + 2).sum ≤ 16 * wtAll ds
  | [], _ => ⟨by rw [PyData.showableAll], by rw [PyData.hasDictAll], by rw [PyData.canLayAll0], by rw [PyData.shownAll_nil]; simp, by rw [PyData.shownAll_nil]; simp⟩
  | x :: xs, h => by
    have h' : nice B x = true ∧ niceAll B xs = true := by simpa [niceAll] using h
    obtain ⟨h1, h2, h3, h4, h5⟩ := nice_facts hB x h'.1
    obtain ⟨k1, k2, k3, k4, k5⟩ := niceAll_facts hB xs h'.2
    refine ⟨by rw [PyData.showableAll, h1, k1]; rfl, by rw [PyData.hasDictAll, h2, k2]; rfl, by rw [PyData.canLayAll0, h3, k3]; rfl, ?_, ?_⟩
    · rw [PyData.shownAll_cons]
      intro t ht
      rcases List.mem_cons.mp ht with rfl | ht
      · exact h4
      · exact k4 t ht
    · rw [PyData.shownAll_cons, List.map_cons, List.sum_cons, wtAll]
      omega
end
mutual
theorem nice_mono {B B' : Nat} (hB : B ≤ B') : ∀ d : D, nice B d = true → nice B' d = true
  | .none, _ => by rw [nice]
  | .bool _, _ => by rw [nice]
  | .int i, h => by
    have hi : i.natAbs ≤ B := by simpa [nice] using h
    rw [nice]
    exact decide_eq_true (by omega)
  | .str x, h => by rw [nice] at h ⊢; exact h
  | .list xs, h => by rw [nice] at h ⊢; exact niceAll_mono hB xs h
  | .tuple xs, h => by rw [nice] at h ⊢; exact niceAll_mono hB xs h
  | .dict _, h => by simp [nice] at h
theorem niceAll_mono {B B' : Nat} (hB : B ≤ B') : ∀ ds : List D, niceAll B ds = true → niceAll B' ds = true
  | [], _ => by rw [niceAll]
  | x :: xs, h => by
    have h' : nice B x = true ∧ niceAll B xs = true := by simpa [niceAll] using h
    rw [niceAll, nice_mono hB x h'.1, niceAll_mono hB xs h'.2]; rfl
end
/-! ### paths -/
mutual
def pathsD : D → List (List Nat)
  | .list xs => [] :: pathsAll 0 xs
  | .tuple xs => [] :: pathsAll 0 xs
  | .none | .bool _ | .int _ | .str _ | .dict _ => [[]]
def pathsAll (i : Nat) : List D → List (List Nat)
  | [] => []
  | x :: xs => (pathsD x).map (i :: ·) ++ pathsAll (i + 1) xs
end
mutual
theorem paths_len : ∀ d : D, (pathsD d).length = wt d
  | .list xs => by rw [pathsD, wt, List.length_cons, pathsAll_len]
  | .tuple xs => by rw [pathsD, wt, List.length_cons, pathsAll_len]
  | .none => by rw [pathsD, wt]; rfl
  | .bool _ => by rw [pathsD, wt]; rfl
  | .int _ => by rw [pathsD, wt]; rfl
  | .str _ => by rw [pathsD, wt]; rfl
  | .dict _ => by rw [pathsD, wt]; rfl
theorem pathsAll_len (i : Nat) : ∀ ds : List D, (pathsAll i ds).length = wtAll ds
  | [] => by rw [pathsAll, wtAll]; rfl
  | x :: xs => by rw [pathsAll, wtAll, List.length_append, List.length_map, paths_len, pathsAll_len]
end
def kids : D → List D
  | .list xs => xs
  | .tuple xs => xs
  | _ => []
def getAt : D → List Nat → Option D
  | d, [] => some d
  | d, i :: p => (kids d)[i]?.bind fun e => getAt e p
def withD : D → List Nat → D → D
  | _, [], part => part
  | .list xs, i :: p, part => .list (xs.take i ++ [withD (xs[i]?.getD .none) p part] ++ xs.drop (i + 1))
  | .tuple xs, i :: p, part => .tuple (xs.take i ++ [withD (xs[i]?.getD .none) p part] ++ xs.drop (i + 1))
  | d, _ :: _, _ => d
theorem pathsAll_mem {p : List Nat} : ∀ (ds : List D) (i : Nat), p ∈ pathsAll i ds → ∃ j q d, p = (i + j) :: q ∧ ds[j]? = some d ∧ q ∈ pathsD d
  | [], i, h => by rw [pathsAll] at h; cases h
  | x :: xs, i, h => by
    rw [pathsAll] at h
    rcases List.mem_append.mp h with h | h
    · obtain ⟨q, hq, rfl⟩ := List.mem_map.mp h
      exact ⟨0, q, x, rfl, rfl, hq⟩
    · obtain ⟨j, q, d, rfl, h1, h2⟩ := pathsAll_mem xs (i + 1) h
      exact ⟨j + 1, q, d, by congr 1; omega, by simpa using h1, h2⟩
theorem paths_kid {p : List Nat} {d : D} (h : p ∈ pathsD d) : p = [] ∨ ∃ i q e, p = i :: q ∧ (kids d)[i]? = some e ∧ q ∈ pathsD e := by
  cases d with
  | list xs =>
    rw [pathsD] at h
    rcases List.mem_cons.mp h with h | h
    · exact .inl h
    · obtain ⟨j, q, e, rfl, h1, h2⟩ := pathsAll_mem xs 0 h
      exact .inr ⟨0 + j, q, e, rfl, by rw [Nat.zero_add]; exact h1, h2⟩
  | tuple xs =>
    rw [pathsD] at h
    rcases List.mem_cons.mp h with h | h
    · exact .inl h
    · obtain ⟨j, q, e, rfl, h1, h2⟩ := pathsAll_mem xs 0 h
      exact .inr ⟨0 + j, q, e, rfl, by rw [Nat.zero_add]; exact h1, h2⟩
  | _ => rw [pathsD] at h; simp at h; exact .inl h
theorem kid_facts {d e : D} {i : Nat} {B : Nat} (h : (kids d)[i]? = some e) : (nice B d = true → nice B e = true) ∧ wt e + 1 ≤ wt d ∧ e.depth + 1 ≤ d.depth := by
  have hm : e ∈ kids d := List.mem_of_getElem? h
  cases d with
  | list xs => exact ⟨fun n => nice_lst.mp n e hm, by rw [wt_lst]; have : wt e ≤ wtAll xs := wtAll_mem hm; omega, by
      have := dpl (ds := xs) (k := PyData.depthAll xs)
      have q := depthAll_le.mp (Nat.le_refl (PyData.depthAll xs)) e hm
      rw [PyData.depth]; omega⟩
  | tuple xs => exact ⟨fun n => nice_tup.mp n e hm, by rw [wt_tup]; have : wt e ≤ wtAll xs := wtAll_mem hm; omega, by
      have q := depthAll_le.mp (Nat.le_refl (PyData.depthAll xs)) e hm
      rw [PyData.depth]; omega⟩
  | _ => cases hm
theorem paths_get {B : Nat} : ∀ (p : List Nat) (d : D), p ∈ pathsD d → ∃ e, getAt d p = some e ∧ (nice B d = true → nice B e = true) ∧ wt e + p.length ≤ wt d ∧ e.depth + p.length ≤ d.depth
  | [], d, _ => ⟨d, rfl, id, by simp, by simp⟩
  | i :: p, d, h => by
    rcases paths_kid h with h | ⟨i', q, e, he, h1, h2⟩
    · cases h
    · cases he
      obtain ⟨e', g1, g2, g3, g4⟩ := paths_get p e h2
      obtain ⟨k1, k2, k3⟩ := kid_facts (B := B) h1
      refine ⟨e', by rw [getAt, h1]; exact g1, fun n => g2 (k1 n), ?_, ?_⟩
      · rw [List.length_cons]; omega
      · rw [List.length_cons]; omega
theorem depthAll_app {a b : List D} : PyData.depthAll (a ++ b) = max (PyData.depthAll a) (PyData.depthAll b) := by
  induction a with
  | nil => simp [PyData.depthAll]
  | cons x a ih => simp [PyData.depthAll, ih] <;> omega
theorem wtAll_split {xs : List D} {i : Nat} {e : D} (h : xs[i]? = some e) : wtAll (xs.take i) + wt e + wtAll (xs.drop (i + 1)) = wtAll xs := by
  obtain ⟨hl, rfl⟩ := List.getElem?_eq_some_iff.mp h
  have q : xs = xs.take i ++ xs[i] :: xs.drop (i + 1) := by rw [← List.drop_eq_getElem_cons hl, List.take_append_drop]
  conv => rhs; rw [q, wtAll_app, wtAll]
  omega
theorem with_facts {B : Nat} {part : D} : ∀ (p : List Nat) (d : D), p ∈ pathsD d → (nice B d = true → nice B part = true → nice B (withD d p part) = true) ∧ wt (withD d p part) ≤ wt d + wt part ∧ (withD d p part).depth ≤ d.depth + part.depth
  | [], d, _ => by
    have e : withD d [] part = part := by cases d <;> rw [withD]
    rw [e]
    exact ⟨fun _ h => h, by omega, by omega⟩
  | i :: p, d, h => by
    rcases paths_kid h with h | ⟨i', q, e, he, h1, h2⟩
    · cases h
    · cases he
      obtain ⟨g1, g2, g3⟩ := with_facts (B := B) (part := part) p e h2
      obtain ⟨k1, k2, k3⟩ := kid_facts (B := B) h1
      have key : ∀ xs : List D, xs[i]? = some e → (∀ d ∈ xs.take i ++ [withD e p part] ++ xs.drop (i + 1), d ∈ xs ∨ d = withD e p part) ∧ wtAll (xs.take i ++ [withD e p part] ++ xs.drop (i + 1)) ≤ wtAll xs + wt part := by
        intro xs hx
        refine ⟨fun d hd => ?_, ?_⟩
        · rcases List.mem_append.mp hd with hd | hd
          · rcases List.mem_append.mp hd with hd | hd
            · exact .inl (List.mem_of_mem_take hd)
            · exact .inr (List.mem_singleton.mp hd)
          · exact .inl (List.mem_of_mem_drop hd)
        · have := wtAll_split hx
          rw [wtAll_app, wtAll_app, wtAll, wtAll]
          omega
      cases d with
      | list xs =>
        have h1' : xs[i]? = some e := h1
        obtain ⟨m1, m2⟩ := key xs h1'
        rw [withD, h1', Option.getD_some]
        refine ⟨fun n np => nice_lst.mpr fun d hd => ?_, by rw [wt_lst, wt_lst]; omega, ?_⟩
        · rcases m1 d hd with hd | rfl
          · exact nice_lst.mp n d hd
          · exact g1 (k1 n) np
        · have : PyData.depth (.list (xs.take i ++ [withD e p part] ++ xs.drop (i + 1))) ≤ (PyData.depthAll xs + part.depth) + 1 := dpl.mpr fun d hd => by
            rcases m1 d hd with hd | rfl
            · have := depthAll_le.mp (Nat.le_refl (PyData.depthAll xs)) d hd; omega
            · rw [PyData.depth] at k3; omega
          rw [PyData.depth.eq_def (.list xs)]
          exact Nat.le_trans this (by simp only []; omega)
      | tuple xs =>
        have h1' : xs[i]? = some e := h1
        obtain ⟨m1, m2⟩ := key xs h1'
        rw [withD, h1', Option.getD_some]
        refine ⟨fun n np => nice_tup.mpr fun d hd => ?_, by rw [wt_tup, wt_tup]; omega, ?_⟩
        · rcases m1 d hd with hd | rfl
          · exact nice_tup.mp n d hd
          · exact g1 (k1 n) np
        · have : PyData.depth (.tuple (xs.take i ++ [withD e p part] ++ xs.drop (i + 1))) ≤ (PyData.depthAll xs + part.depth) + 1 := dpt.mpr fun d hd => by
            rcases m1 d hd with hd | rfl
            · have := depthAll_le.mp (Nat.le_refl (PyData.depthAll xs)) d hd; omega
            · rw [PyData.depth] at k3; omega
          rw [PyData.depth.eq_def (.tuple xs)]
          exact Nat.le_trans this (by simp only []; omega)
      | _ => cases h1
end DL

set_option maxRecDepth 100000
set_option maxHeartbeats 400000
/-! plain: books -/
namespace K
open PySem PySem.Spec PyProof.Rows L2 DL
def isInt : D → Bool
  | .int _ => true
  | _ => false
def isW (d : D) (lo hi : Int) : Bool := match d with
  | .int i => decide (lo ≤ i) && decide (i ≤ hi)
  | _ => false
@[simp] theorem is_integer_x (d : D) : m_is_integer [.val d] = .ok (.val (.bool (isInt d))) [] := by
  unfold m_is_integer b_is_integer
  cases d <;> simp [isInt]
@[simp] theorem is_within_x (d : D) (lo hi : Int) : m_is_within [.val d, .val (.int lo), .val (.int hi)] = .ok (.val (.bool (isW d lo hi))) [] := by
  unfold m_is_within b_is_within
  cases d with
  | int i => by_cases h : lo ≤ i <;> simp [isInt, isW, h]
  | _ => simp [isInt, isW]
def isTup (d : D) (k : Int) : Bool := match d with
  | .tuple ds => ((ds.length : Int) == k)
  | _ => false
@[simp] theorem is_tuple_x (d : D) (k : Int) : m_is_tuple [.val d, .val (.int k)] = .ok (.val (.bool (isTup d k))) [] := by
  unfold m_is_tuple b_is_tuple
  cases d <;> simp [isTup]
def inLen (ds : List D) (k : Int) : Bool := decide ((1 : Int) ≤ ds.length) && decide ((ds.length : Int) ≤ k)
theorem inLen_le {ds : List D} {k : Int} (h : inLen ds k = true) : 1 ≤ ds.length ∧ (ds.length : Int) ≤ k := by
  unfold inLen at h
  simp only [Bool.and_eq_true, decide_eq_true_eq] at h
  omega
def isMosts : D → Bool
  | .tuple ds => inLen ds 10 && ds.all fun d => isW d 1 9
  | _ => false
@[simp] theorem are_mosts_x (d : D) : m_are_mosts [.val d] = .ok (.val (.bool (isMosts d))) [] := by
  unfold m_are_mosts b_are_mosts
  cases d with
  | tuple ds =>
    cases h : inLen ds 10
    · have h' := h
      unfold inLen at h'
      simp [isMosts, h, h']
    · have hl : ds.length ≤ 100000 := by have := inLen_le h; omega
      have h' := h
      unfold inLen at h'
      simp [isMosts, h, h']
      rw [lc_pure (fun d => some (.bool (isW d 1 9))) ds _ (by simp; rfl) hl (fun d _ => ⟨_, by simp [lcS]; rfl, by simp⟩)]
      simp
  | _ => simp [isMosts]
def sFact : Str := "fact"
def sIssue : Str := "issue"
def isGround (d : D) (facts issues own : Int) : Bool := match d with
  | .tuple [.str s, n, z] => isW z 0 1 && (if s == ("fact" : Str) then isW n 0 (facts - 1) else s == ("issue" : Str) && isW n (own + 1) (issues - 1))
  | _ => false
theorem okFact : PyData.strOk ("fact" : Str) = true := by decide +kernel
theorem okIssue : PyData.strOk ("issue" : Str) = true := by decide +kernel
theorem okBook : PyData.strOk ("book" : Str) = true := by decide +kernel
theorem is_ground_x (d : D) (facts issues own : Int) (h : ok0 d) : m_is_ground [.val d, .val (.int facts), .val (.int issues), .val (.int own)] = .ok (.val (.bool (isGround d facts issues own))) [] := by
  unfold m_is_ground b_is_ground
  cases d with
  | tuple ds =>
    by_cases hl : ds.length = 3
    · obtain ⟨a, n, z, rfl⟩ := len3 hl
      cases a with
      | str s =>
        have hs : PyData.strOk s = true := by simpa using (ok0_tup.mp h) (.str s) (by simp)
        cases hz : isW z 0 1
        · simp [isTup, isGround, hz]
        · cases h1 : s == ("fact" : Str)
          · cases h2 : s == ("issue" : Str)
            · simp [isTup, isGround, hz, fEq_str hs okFact, fEq_str hs okIssue, h1, h2]
            · simp [isTup, isGround, hz, fEq_str hs okFact, fEq_str hs okIssue, h1, h2]
          · simp [isTup, isGround, hz, fEq_str hs okFact, fEq_str hs okIssue, h1]
      | _ => simp [isTup, isGround]
    · have e : (((ds.length : Int)) == 3) = false := by simp; omega
      have e2 : isGround (.tuple ds) facts issues own = false := by
        unfold isGround
        split
        · rename_i q
          cases q
          simp at hl
        · rfl
      simp [isTup, e, e2]
  | _ => simp [isTup, isGround]
/-- the first two parts of a row -/
def key2 (d : D) : D := match d with
  | .tuple ds => .tuple (ds.take 2)
  | d => d
def isIssue (d : D) (facts issues own : Int) : Bool := match d with
  | .tuple ds => inLen ds 8 && (ds.all fun d => isGround d facts issues own) && ((dist (ds.map key2)).length == ds.length)
  | _ => false
theorem ground_of {d : D} {facts issues own : Int} (h : isGround d facts issues own = true) : ∃ s n z, d = .tuple [.str s, .int n, .int z] ∧ (z = 0 ∨ z = 1) ∧ ((s = "fact" ∧ 0 ≤ n ∧ n < facts) ∨ (s = "issue" ∧ own < n ∧ n < issues)) := by
  unfold isGround at h
  split at h
  · rename_i s n z
    simp only [Bool.and_eq_true] at h
    obtain ⟨h1, h2⟩ := h
    cases z with
    | int z =>
      simp only [isW, Bool.and_eq_true, decide_eq_true_eq] at h1
      split at h2
      · rename_i hs
        cases n with
        | int n =>
          simp only [isW, Bool.and_eq_true, decide_eq_true_eq] at h2
          exact ⟨s, n, z, rfl, by omega, .inl ⟨eq_of_beq hs, by omega, by omega⟩⟩
        | _ => simp [isW] at h2
      · simp only [Bool.and_eq_true] at h2
        cases n with
        | int n =>
          simp only [isW, Bool.and_eq_true, decide_eq_true_eq] at h2
          exact ⟨s, n, z, rfl, by omega, .inr ⟨eq_of_beq h2.1, by omega, by omega⟩⟩
        | _ => simp [isW] at h2
    | _ => simp [isW] at h1
  · cases h
theorem cutD_02 (ds : List D) : DL.cutD ds none (some 2) = ds.take 2 := by
  unfold DL.cutD HT.sIx
  simp
  try omega
theorem is_issue_of_x (d : D) (facts issues own : Int) (h : ok0 d) : m_is_issue_of [.val d, .val (.int facts), .val (.int issues), .val (.int own)] = .ok (.val (.bool (isIssue d facts issues own))) [] := by
  unfold m_is_issue_of b_is_issue_of
  cases d with
  | tuple ds =>
    have h0 := ok0_tup.mp h
    cases hl : inLen ds 8
    · have h' := hl
      unfold inLen at h'
      simp [isIssue, hl, h']
    · have hl8 : ds.length ≤ 8 := by have := inLen_le hl; omega
      have h' := hl
      unfold inLen at h'
      simp [h']
      rw [lc_pure (fun d => some (.bool (isGround d facts issues own))) ds _ (by simp; rfl) (by omega) (fun d hd => ⟨_, by simp [lcS, is_ground_x d facts issues own (h0 d hd)]; rfl, by simp⟩)]
      simp
      cases hg : ds.all fun d => isGround d facts issues own
      · simp [isIssue, hg]
      · simp
        have hg' := List.all_eq_true.mp hg
        rw [lc_pure (fun d => some (key2 d)) ds _ (by simp; rfl) (by omega) (fun d hd => by
          obtain ⟨s, n, z, rfl, _⟩ := ground_of (hg' d hd)
          exact ⟨_, by simp [lcS, cutD_02, key2]; rfl, by simp⟩)]
        have hu : fLenSet (.list (ds.map key2)) = some (.val (.int (dist (ds.map key2)).length)) := by
          unfold fLenSet
          dsimp only
          rw [if_pos]
          refine ⟨by simp; omega, ?_⟩
          rw [List.all_map]
          refine List.all_eq_true.mpr fun d hd => ?_
          obtain ⟨s, n, z, rfl, _⟩ := ground_of (hg' d hd)
          rfl
        simp [hu, isIssue, hl, hg]
        rw [Bool.eq_iff_iff]
        simp
        omega
  | _ => simp [isIssue]
def isCourt (d : D) (own : Int) : Bool := match d with
  | .tuple [x, .bool _] => if own == 0 then isNon x else isW x 0 (own - 1)
  | _ => false
@[simp] theorem is_court_of_x (d : D) (own : Int) : m_is_court_of [.val d, .val (.int own)] = .ok (.val (.bool (isCourt d own))) [] := by
  unfold m_is_court_of b_is_court_of
  cases d with
  | tuple ds =>
    by_cases hl : ds.length = 2
    · obtain ⟨x, y, rfl⟩ := len2 hl
      cases y with
      | bool b =>
        cases ho : own == 0
        · simp [isTup, isCourt, ho]
        · simp [isTup, isCourt, ho]
      | _ => simp [isTup, isCourt]
    · have e : (((ds.length : Int)) == 2) = false := by simp; omega
      have e2 : isCourt (.tuple ds) own = false := by
        unfold isCourt
        split
        · rename_i q
          cases q
          simp at hl
        · rfl
      simp [isTup, e, e2]
  | _ => simp [isTup, isCourt]

def tN (s : Str) : D := .tuple [.str s, .none]
def tI (s : Str) (i : Nat) : D := .tuple [.str s, .int (i : Int)]
def issuesFlaw (i : D) (nm : Int) : Option D := match i with
  | .tuple is => if inLen is 6 = true then ((idx is).find? fun p => !isIssue p.2 nm is.length p.1).map fun p => tI "issue" p.1 else some (tN "issues")
  | _ => some (tN "issues")
def courtsFlaw (c : D) : Option D := match c with
  | .tuple cs => if inLen cs 8 = true then ((idx cs).find? fun p => !isCourt p.2 p.1).map fun p => tI "court" p.1 else some (tN "courts")
  | _ => some (tN "courts")
def lenD : D → Int
  | .tuple ds => ds.length
  | _ => 0
def orD (o p : Option D) : D := match o with
  | some d => d
  | none => match p with
    | some d => d
    | none => .none
def flaw (d : D) : D := match d with
  | .tuple [.str s, m, i, c] => if s == ("book" : Str) then if isMosts m = true then orD (issuesFlaw i (lenD m)) (courtsFlaw c) else tN "mosts" else tN "form"
  | _ => tN "form"
theorem flaw_len {ds : List D} (h : ds.length ≠ 4) : flaw (.tuple ds) = tN "form" := by
  unfold flaw
  split
  · rename_i q
    cases q
    simp at h
  · rfl
theorem find_all {α : Type} {l : List α} {P : α → Bool} : (l.find? fun p => !P p) = none ↔ l.all P = true := by
  rw [List.find?_eq_none, List.all_eq_true]
  simp
theorem all_find {α : Type} {l : List α} {P : α → Bool} : l.all P = (l.find? fun p => !P p).isNone := by
  rw [Bool.eq_iff_iff, ← find_all]
  cases l.find? fun p => !P p <;> simp
theorem filt_find {l : List (Nat × D)} {P : Nat × D → Bool} : (l.filter P)[0]? = l.find? P := by
  rw [← List.head?_eq_getElem?, List.head?_filter]
/-- the issues, item by item -/
def fIss (nm ni : Int) : D → Option D := fun t => match t with
  | .tuple [.int i, d] => some (.bool (isIssue d nm ni i))
  | _ => none
def fIssW (nm ni : Int) : D → Option D := fun t => match t with
  | .tuple [.int i, d] => if isIssue d nm ni i = true then none else some (.int i)
  | _ => none
def fCou : D → Option D := fun t => match t with
  | .tuple [.int i, d] => some (.bool (isCourt d i))
  | _ => none
def fCouW : D → Option D := fun t => match t with
  | .tuple [.int i, d] => if isCourt d i = true then none else some (.int i)
  | _ => none
abbrev pairs (l : List (Nat × D)) : List D := l.map fun p => .tuple [.int (p.1 : Int), p.2]
@[simp] theorem fIss_c {a b : Int} : (fIss a b ∘ fun p : Nat × D => PyData.tuple [.int (p.1 : Int), p.2]) = fun p => some (.bool (isIssue p.2 a b p.1)) := rfl
@[simp] theorem fCou_c : (fCou ∘ fun p : Nat × D => PyData.tuple [.int (p.1 : Int), p.2]) = fun p => some (.bool (isCourt p.2 p.1)) := rfl
@[simp] theorem isNon_tN {s : Str} : isNon (tN s) = false := rfl
@[simp] theorem isNon_tI {s : Str} {i : Nat} : isNon (tI s i) = false := rfl
theorem is_book_any_x (d : D) (h : ok0 d) : m_is_book_any [.val d] = .ok (.val (.bool (isNon (flaw d)))) [] := by
  unfold m_is_book_any b_is_book_any
  cases d with
  | tuple ds =>
    by_cases hl : ds.length = 4
    · obtain ⟨a, m, is, cs, rfl⟩ := len4 hl
      have h0 := ok0_tup.mp h
      cases a with
      | str s =>
        have hs : PyData.strOk s = true := by simpa using h0 (.str s) (by simp)
        cases h1 : s == ("book" : Str)
        · simp [isTup, flaw, fNe_str hs okBook, h1]
        · cases hm : isMosts m
          · simp [isTup, flaw, fNe_str hs okBook, h1, hm]
          · obtain ⟨ms, rfl⟩ : ∃ ms, m = .tuple ms := by
              cases m <;> simp [isMosts] at hm
              exact ⟨_, rfl⟩
            simp [isTup, flaw, fNe_str hs okBook, h1, hm]
            cases is with
            | tuple is =>
              have hi0 := ok0_tup.mp (h0 (.tuple is) (by simp))
              cases hi : inLen is 6
              · have hi' := hi
                unfold inLen at hi'
                simp [hi', issuesFlaw, hi, orD]
              · have hil := inLen_le hi
                have hi' := hi
                unfold inLen at hi'
                simp [hi']
                rw [lc_pure (fIss ms.length is.length) ((idx is).map fun p => .tuple [.int (p.1 : Int), p.2]) _ (by simp; rfl) (by simp [idx_len]; omega) (fun d hd => by
                  obtain ⟨p, hp, rfl⟩ := List.mem_map.mp hd
                  exact ⟨_, by simp [lcS, is_issue_of_x p.2 _ _ _ (hi0 _ (idx_mem hp).1)]; exact ⟨rfl, rfl⟩, by simp⟩)]
                simp [fIss]
                rw [all_find]
                cases hf : (idx is).find? fun p => !isIssue p.2 ms.length is.length p.1 with
                | some p => simp [issuesFlaw, hi, hf, lenD, orD]
                | none =>
                  simp
                  cases cs with
                  | tuple cs =>
                    cases hc : inLen cs 8
                    · have hc' := hc
                      unfold inLen at hc'
                      simp [hc', issuesFlaw, hi, orD, hf, lenD, courtsFlaw, hc]
                    · have hcl := inLen_le hc
                      have hc' := hc
                      unfold inLen at hc'
                      simp [hc']
                      rw [lc_pure fCou (pairs (idx cs)) _ (by simp; rfl) (by simp [idx_len]; omega) (fun d hd => by
                        obtain ⟨p, hp, rfl⟩ := List.mem_map.mp hd
                        exact ⟨_, by simp [lcS]; exact ⟨rfl, rfl⟩, by simp⟩)]
                      simp
                      rw [all_find]
                      cases hg : (idx cs).find? fun p => !isCourt p.2 p.1 with
                      | some p => simp [issuesFlaw, hi, hf, lenD, orD, courtsFlaw, hc, hg]
                      | none => simp [issuesFlaw, hi, hf, lenD, orD, courtsFlaw, hc, hg, DL.isNon]
                  | _ => simp [issuesFlaw, hi, hf, lenD, courtsFlaw, orD]
            | _ => simp [issuesFlaw, orD]
      | _ => simp [isTup, flaw]
    · have e : (((ds.length : Int)) == 4) = false := by simp; omega
      simp [isTup, e, flaw_len hl]
  | _ => simp [isTup, flaw]

@[simp] theorem fIssW_c {a b : Int} : (fIssW a b ∘ fun p : Nat × D => PyData.tuple [.int (p.1 : Int), p.2]) = fun p => if isIssue p.2 a b p.1 = true then none else some (.int p.1) := rfl
@[simp] theorem fCouW_c : (fCouW ∘ fun p : Nat × D => PyData.tuple [.int (p.1 : Int), p.2]) = fun p => if isCourt p.2 p.1 = true then none else some (.int p.1) := rfl
theorem fm_find {l : List (Nat × D)} {P : Nat × D → Bool} : (l.filterMap fun p => if P p = true then none else some (PyData.int (p.1 : Int))) = (l.filter fun p => !P p).map fun p => .int (p.1 : Int) := by
  induction l with
  | nil => rfl
  | cons p l ih => cases h : P p <;> simp [h, ih]
theorem fm_0 {l : List (Nat × D)} {P : Nat × D → Bool} {d : D} (h : (l.filter P).map (fun p => PyData.int (p.1 : Int)) = d :: (l.filter P).tail.map (fun p => PyData.int (p.1 : Int))) : True := trivial
theorem filt_some {l : List (Nat × D)} {P : Nat × D → Bool} {p : Nat × D} (h : l.find? P = some p) : ∃ r, l.filter P = p :: r := by
  have q := filt_find (l := l) (P := P)
  rw [h] at q
  cases e : l.filter P with
  | nil => rw [e] at q; cases q
  | cons a r => rw [e] at q; cases q; exact ⟨r, rfl⟩
theorem filt_none {l : List (Nat × D)} {P : Nat × D → Bool} (h : l.find? P = none) : l.filter P = [] := by
  have q := filt_find (l := l) (P := P)
  rw [h] at q
  cases e : l.filter P with
  | nil => rfl
  | cons a r => rw [e] at q; cases q
theorem sh_ints {l : List (Nat × D)} : shaped (.list (l.map fun p => .int (p.1 : Int))) = true := by
  have h1 : PyData.canLayAll0 (l.map fun p => .int (p.1 : Int)) = true := ok0_all.mpr fun d hd => by
    obtain ⟨p, _, rfl⟩ := List.mem_map.mp hd
    rfl
  have h2 : PyData.depthAll (l.map fun p => .int (p.1 : Int)) = 0 := by
    clear h1
    induction l with
    | nil => rfl
    | cons p l ih => rw [List.map_cons, PyData.depthAll, ih]; rfl
  unfold shaped SeqAt.shaped
  simp [PyData.canLay0, PyData.depth, h1, h2]
theorem flaw_of_book_x (d : D) (h : ok0 d) : m_flaw_of_book [.val d] = .ok (.val (flaw d)) [] := by
  unfold m_flaw_of_book b_flaw_of_book
  cases d with
  | tuple ds =>
    by_cases hl : ds.length = 4
    · obtain ⟨a, m, is, cs, rfl⟩ := len4 hl
      have h0 := ok0_tup.mp h
      cases a with
      | str s =>
        have hs : PyData.strOk s = true := by simpa using h0 (.str s) (by simp)
        cases h1 : s == ("book" : Str)
        · simp [isTup, flaw, fNe_str hs okBook, h1, tN]
        · have ec : DL.cutD [PyData.str s, m, is, cs] (some 1) none = [m, is, cs] := by
            unfold DL.cutD HT.sIx
            simp
          cases hm : isMosts m
          · simp [isTup, flaw, fNe_str hs okBook, h1, hm, ec, tN]
          · obtain ⟨ms, rfl⟩ : ∃ ms, m = .tuple ms := by
              cases m <;> simp [isMosts] at hm
              exact ⟨_, rfl⟩
            simp [isTup, flaw, fNe_str hs okBook, h1, hm, ec]
            cases is with
            | tuple is =>
              have hi0 := ok0_tup.mp (h0 (.tuple is) (by simp))
              cases hi : inLen is 6
              · have hi' := hi
                unfold inLen at hi'
                simp [hi', issuesFlaw, hi, orD, tN]
              · have hil := inLen_le hi
                have hi' := hi
                unfold inLen at hi'
                simp [hi']
                rw [lc_pure (fIssW ms.length is.length) (pairs (idx is)) _ (by simp; rfl) (by simp [idx_len]; omega) (fun d hd => by
                  obtain ⟨p, hp, rfl⟩ := List.mem_map.mp hd
                  cases hq : isIssue p.2 ms.length is.length p.1
                  · exact ⟨_, by simp [lcS, is_issue_of_x p.2 _ _ _ (hi0 _ (idx_mem hp).1), hq, fIssW]; rfl, by simp⟩
                  · exact ⟨_, by simp [lcS, is_issue_of_x p.2 _ _ _ (hi0 _ (idx_mem hp).1), hq, fIssW]; rfl, by simp⟩)]
                simp [fm_find, fNe_nilL sh_ints]
                cases hf : (idx is).find? fun p => !isIssue p.2 ms.length is.length p.1 with
                | some p =>
                  obtain ⟨r, hr⟩ := filt_some hf
                  simp [hr, issuesFlaw, hi, hf, lenD, orD, tI]
                | none =>
                  have hr := filt_none hf
                  simp [hr]
                  cases cs with
                  | tuple cs =>
                    cases hc : inLen cs 8
                    · have hc' := hc
                      unfold inLen at hc'
                      simp [hc', issuesFlaw, hi, orD, hf, lenD, courtsFlaw, hc, tN]
                    · have hcl := inLen_le hc
                      have hc' := hc
                      unfold inLen at hc'
                      simp [hc']
                      rw [lc_pure fCouW (pairs (idx cs)) _ (by simp; rfl) (by simp [idx_len]; omega) (fun d hd => by
                        obtain ⟨p, hp, rfl⟩ := List.mem_map.mp hd
                        cases hq : isCourt p.2 p.1
                        · exact ⟨_, by simp [lcS, hq, fCouW]; rfl, by simp⟩
                        · exact ⟨_, by simp [lcS, hq, fCouW]; rfl, by simp⟩)]
                      simp [fm_find, fNe_nilL sh_ints]
                      cases hg : (idx cs).find? fun p => !isCourt p.2 p.1 with
                      | some p =>
                        obtain ⟨r, hr⟩ := filt_some hg
                        simp [hr, issuesFlaw, hi, hf, lenD, orD, courtsFlaw, hc, hg, tI]
                      | none =>
                        have hr := filt_none hg
                        simp [hr, issuesFlaw, hi, hf, lenD, orD, courtsFlaw, hc, hg]
                  | _ => simp [issuesFlaw, hi, hf, lenD, courtsFlaw, orD, tN]
            | _ => simp [issuesFlaw, orD, tN]
      | _ => simp [isTup, flaw, tN]
    · have e : (((ds.length : Int)) == 4) = false := by simp; omega
      simp [isTup, e, flaw_len hl, tN]
  | _ => simp [isTup, flaw, tN]
end K

set_option maxRecDepth 100000
set_option maxHeartbeats 400000
/-! plain: the law's own looks (k10) -/
namespace K
open PySem PySem.Spec PyProof.Rows L2 DL
@[simp] theorem law_is_whole_x (d : D) : m__law_is_whole [.val d] = .ok (.val (.bool (isInt d))) [] := by
  unfold m__law_is_whole b__law_is_whole
  cases d <;> simp [isInt]
@[simp] theorem law_is_court_x (d : D) (own : Int) : m__law_is_court [.val d, .val (.int own)] = .ok (.val (.bool (isCourt d own))) [] := by
  unfold m__law_is_court b__law_is_court
  cases d with
  | tuple ds =>
    by_cases hl : ds.length = 2
    · obtain ⟨x, y, rfl⟩ := len2 hl
      cases y with
      | bool b =>
        cases ho : own == 0
        · cases x with
          | int i =>
            by_cases hi : 0 ≤ i
            · simp [isCourt, ho, isInt, isW, hi]
              omega
            · simp [isCourt, ho, isInt, isW, hi]
          | _ => simp [isCourt, ho, isInt, isW]
        · simp [isCourt, ho]
      | _ => simp [isCourt]
    · have e : (((ds.length : Int)) == 2) = false := by simp; omega
      have e2 : isCourt (.tuple ds) own = false := by
        unfold isCourt
        split
        · rename_i q
          cases q
          simp at hl
        · rfl
      simp [e, e2]
  | _ => simp [isCourt]
def ndF : List D → List D → Bool
  | _, [] => true
  | acc, k :: ks => !(acc.any fun e => PyData.eqv e k) && ndF (acc ++ [k]) ks
theorem dist_go (ds : List D) : ∀ acc : List D, (ds.foldl (fun acc d => if (acc.any fun e => PyData.eqv e d) = true then acc else acc ++ [d]) acc).length ≤ acc.length + ds.length ∧
    (((ds.foldl (fun acc d => if (acc.any fun e => PyData.eqv e d) = true then acc else acc ++ [d]) acc).length = acc.length + ds.length) ↔ ndF acc ds = true) := by
  induction ds with
  | nil => simp [ndF]
  | cons d ds ih =>
    intro acc
    rw [List.foldl_cons]
    unfold ndF
    by_cases h : (acc.any fun e => PyData.eqv e d) = true
    · rw [if_pos h, h]
      have q := ih acc
      simp only [List.length_cons, Bool.not_true, Bool.false_and]
      constructor
      · omega
      · constructor
        · omega
        · intro z; cases z
    · rw [if_neg h]
      have h' : (acc.any fun e => PyData.eqv e d) = false := by simpa using h
      rw [h']
      have q := ih (acc ++ [d])
      simp only [List.length_append, List.length_cons, List.length_nil] at q
      simp only [List.length_cons, Bool.not_false, Bool.true_and, ← q.2]
      constructor <;> omega
theorem dist_nd (ds : List D) : ((dist ds).length == ds.length) = ndF [] ds := by
  have q := (dist_go ds []).2
  rw [Bool.eq_iff_iff, ← q]
  simp [dist]
theorem ndF_app (ks : List D) (k : D) : ∀ acc, ndF acc (ks ++ [k]) = (ndF acc ks && !((acc ++ ks).any fun e => PyData.eqv e k)) := by
  induction ks with
  | nil => intro acc; simp [ndF]
  | cons x ks ih =>
    intro acc
    rw [List.cons_append, ndF, ndF, ih, Bool.and_assoc]
    simp
theorem ndF_pre (a b : List D) : ∀ acc, ndF acc (a ++ b) = true → ndF acc a = true := by
  induction a with
  | nil => intro acc _; rfl
  | cons x a ih =>
    intro acc h
    rw [List.cons_append, ndF] at h
    rw [ndF]
    simp only [Bool.and_eq_true] at h ⊢
    exact ⟨h.1, ih _ h.2⟩
theorem shFI : shaped (.tuple [.str ("fact" : Str), .str ("issue" : Str)]) = true := by decide +kernel
theorem sh01 : shaped (.tuple [.int 0, .int 1]) = true := by decide +kernel
theorem key_sh {d : D} {facts issues own : Int} (h : isGround d facts issues own = true) : ok0 (key2 d) ∧ (key2 d).depth ≤ 1 := by
  obtain ⟨s, n, z, rfl, _, h⟩ := ground_of h
  have hs : PyData.strOk s = true := by rcases h with h | h; rw [h.1]; exact okFact; rw [h.1]; exact okIssue
  refine ⟨by simp [key2, hs], by simp [key2, PyData.depth, PyData.depthAll]⟩
def goodRows (ds : List D) (facts issues own : Int) : Bool := (ds.all fun d => isGround d facts issues own) && ndF [] (ds.map key2)
theorem isIssue_good (ds : List D) (facts issues own : Int) : isIssue (.tuple ds) facts issues own = (inLen ds 8 && goodRows ds facts issues own) := by
  unfold isIssue goodRows
  rw [← Bool.and_assoc]
  congr 1
  rw [← dist_nd]
  simp
theorem good_pre {a b : List D} {facts issues own : Int} (h : goodRows (a ++ b) facts issues own = true) : goodRows a facts issues own = true := by
  unfold goodRows at h ⊢
  simp only [Bool.and_eq_true, List.all_append, List.map_append] at h ⊢
  exact ⟨h.1.1, ndF_pre _ _ _ h.2⟩
theorem good_app {a : List D} {d : D} {facts issues own : Int} : goodRows (a ++ [d]) facts issues own = (goodRows a facts issues own && isGround d facts issues own && !((a.map key2).any fun e => PyData.eqv e (key2 d))) := by
  unfold goodRows
  rw [List.map_append, List.map_cons, List.map_nil, ndF_app, List.all_append]
  simp only [List.all_cons, List.all_nil, Bool.and_true, List.nil_append]
  cases (a.all fun d => isGround d facts issues own) <;> cases isGround d facts issues own <;> simp
abbrev free (s : Slot) : Prop := s = .no ∨ ∃ e, s = .val e
abbrev gStep : En → SO := mSeq (mIfS (mOr (mNot (mB (mIsi ["tuple"] (mVar 5)))) (mOr (mB (mOp fNe (mCall (f1 fLen) (mACons (mVar 5) (mANil))) (mC (.int 3)))) (mOr (mNot (mB (mIsi ["str"] (mOp fIx (mVar 5) (mC (.int 0)))))) (mB (mOp fNotIn (mOp fIx (mVar 5) (mC (.int 0))) (mCall fTup (mACons (mC (.str "fact")) (mACons (mC (.str "issue")) (mANil))))))))) (mRet (mC (.bool false))) (mNext)) (mSeq (mIfS (mOr (mNot (mB (mFun 1 (m__law_is_whole) (mACons (mOp fIx (mVar 5) (mC (.int 1))) (mANil))))) (mOr (mNot (mB (mFun 1 (m__law_is_whole) (mACons (mOp fIx (mVar 5) (mC (.int 2))) (mANil))))) (mB (mOp fNotIn (mOp fIx (mVar 5) (mC (.int 2))) (mCall fTup (mACons (mC (.int 0)) (mACons (mC (.int 1)) (mANil)))))))) (mRet (mC (.bool false))) (mNext)) (mSeq (mAsgG (gTupD 2 (gsCons (gSet 6) (gsCons (gSet 7) (gsNil)))) (mIf (mB (mOp fEq (mOp fIx (mVar 5) (mC (.int 0))) (mC (.str "fact")))) (mCall fTup (mACons (mC (.int 0)) (mACons (mVar 2) (mANil)))) (mCall fTup (mACons (mOp fAdd (mVar 1) (mC (.int 1))) (mACons (mVar 3) (mANil)))))) (mSeq (mIfS (mOr (mNot (mB (mChain (fC fun i j => decide (i ≤ j)) (fC fun i j => decide (i < j)) (mVar 6) (mOp fIx (mVar 5) (mC (.int 1))) (mVar 7)))) (mB (mPkR 4 fIn (mSl (mVar 5) none (some (mC (.int 2))))))) (mRet (mC (.bool false))) (mNext)) (mDrop (mMeth 4 fAppend (mSl (mVar 5) none (some (mC (.int 2)))))))))
section
variable {d g : D} {own facts issues : Int} {sk : List D} {lo hi : Slot}
theorem bc_str {s t : Str} {b : Bool} (h : (s == t) = b) : (t == s) = b := by rw [← h]; exact BEq.comm
theorem law_ground_bad (hg : ok0 g) (hsk : ∀ k ∈ sk, ok0 k ∧ k.depth ≤ 1) (f2 : free lo) (f3 : free hi) (hb : (isGround g facts issues own && !(sk.any fun e => PyData.eqv e (key2 g))) = false) :
    ∃ t, gStep [.val d, .val (.int own), .val (.int facts), .val (.int issues), .own sk, .val g, lo, hi] = .ret (.val (.bool false)) (.val d :: .val (.int own) :: .val (.int facts) :: .val (.int issues) :: t) := by
  have hsl : shaped (.list sk) = true := sh_of (ok0_lst.mpr fun k hk => (hsk k hk).1) (Nat.le_trans (dpl.mpr fun k hk => (hsk k hk).2) (by omega))
  cases g with
  | tuple ds =>
    by_cases hl : ds.length = 3
    · obtain ⟨a, n, z, rfl⟩ := len3 hl
      cases a with
      | str s =>
        have hs : PyData.strOk s = true := by simpa using (ok0_tup.mp hg) (.str s) (by simp)
        have hss : shaped (.str s) = true := by simpa using hs
        have go : ∀ (h12 : (s == ("fact" : Str) || s == ("issue" : Str)) = true), ∃ t, gStep [.val d, .val (.int own), .val (.int facts), .val (.int issues), .own sk, .val (.tuple [.str s, n, z]), lo, hi] = .ret (.val (.bool false)) (.val d :: .val (.int own) :: .val (.int facts) :: .val (.int issues) :: t) := by
          intro h12
          have hni : fNotIn (.str s) (.tuple [.str ("fact" : Str), .str ("issue" : Str)]) = some (.val (.bool false)) := by
            rw [fNotIn_t hss shFI]
            simp only [List.any_cons, List.any_nil, PyData.eqv, Bool.or_false]
            simp only [Bool.or_eq_true] at h12
            rcases h12 with h | h
            · simp [bc_str h]
            · simp [bc_str h]
          cases n with
          | int n =>
            cases z with
            | int z =>
              have hz0 : fNotIn (.int z) (.tuple [.int 0, .int 1]) = some (.val (.bool (!(isW (.int z) 0 1)))) := by
                rw [fNotIn_t sh_int sh01]
                simp only [List.any_cons, List.any_nil, PyData.eqv, Bool.or_false, isW]
                congr 4
                rw [Bool.eq_iff_iff]
                simp
                omega
              cases hz : isW (.int z) 0 1
              · simp [hni, isInt, hz0, hz]
              · have hk : shaped (.tuple [.str s, .int n]) = true := sh_of (by simp [hs]) (by simp [PyData.depth, PyData.depthAll])
                cases h1 : s == ("fact" : Str)
                · have h2 : (s == ("issue" : Str)) = true := by simpa [h1] using h12
                  by_cases hn : own + 1 ≤ n
                  · by_cases hn2 : n < issues
                    · have hw : isW (.int n) (own + 1) (issues - 1) = true := by simp [isW]; omega
                      have hs2 : (sk.any fun e => PyData.eqv e (.tuple [.str s, .int n])) = true := by simpa [isGround, hz, h1, h2, hw, key2, -List.any_eq_true, -List.any_eq_false] using hb
                      simp [hni, isInt, hz0, hz, fEq_str hs okFact, h1, fs_G f2, fs_G f3, hn, hn2, cutD_02, fIn_l hk hsl, hs2, -List.any_eq_true, -List.any_eq_false]
                    · simp [hni, isInt, hz0, hz, fEq_str hs okFact, h1, fs_G f2, fs_G f3, hn, hn2]
                  · simp [hni, isInt, hz0, hz, fEq_str hs okFact, h1, fs_G f2, fs_G f3, hn]
                · by_cases hn : 0 ≤ n
                  · by_cases hn2 : n < facts
                    · have hw : isW (.int n) 0 (facts - 1) = true := by simp [isW]; omega
                      have hs2 : (sk.any fun e => PyData.eqv e (.tuple [.str s, .int n])) = true := by simpa [isGround, hz, h1, hw, key2, -List.any_eq_true, -List.any_eq_false] using hb
                      simp [hni, isInt, hz0, hz, fEq_str hs okFact, h1, fs_G f2, fs_G f3, hn, hn2, cutD_02, fIn_l hk hsl, hs2, -List.any_eq_true, -List.any_eq_false]
                    · simp [hni, isInt, hz0, hz, fEq_str hs okFact, h1, fs_G f2, fs_G f3, hn, hn2]
                  · simp [hni, isInt, hz0, hz, fEq_str hs okFact, h1, fs_G f2, fs_G f3, hn]
            | _ => simp [hni, isInt]
          | _ => simp [hni, isInt]
        cases h1 : s == ("fact" : Str)
        · cases h2 : s == ("issue" : Str)
          · have hni : fNotIn (.str s) (.tuple [.str ("fact" : Str), .str ("issue" : Str)]) = some (.val (.bool true)) := by
              rw [fNotIn_t hss shFI]
              simp only [List.any_cons, List.any_nil, PyData.eqv, Bool.or_false, bc_str h1, bc_str h2]
              rfl
            simp [hni]
          · exact go (by rw [h1, h2]; rfl)
        · exact go (by rw [h1]; rfl)
      | _ => simp
    · have e : (((ds.length : Int)) == 3) = false := by simp; omega
      simp [e]
  | _ => simp
theorem law_ground_good (hg : isGround g facts issues own = true) (hsk : ∀ k ∈ sk, ok0 k ∧ k.depth ≤ 1) (hlen : sk.length < 100000) (f2 : free lo) (f3 : free hi) (hb : (sk.any fun e => PyData.eqv e (key2 g)) = false) :
    ∃ p q, gStep [.val d, .val (.int own), .val (.int facts), .val (.int issues), .own sk, .val g, lo, hi] = .nx [.val d, .val (.int own), .val (.int facts), .val (.int issues), .own (sk ++ [key2 g]), .val g, .val p, .val q] := by
  have hsl : shaped (.list sk) = true := sh_of (ok0_lst.mpr fun k hk => (hsk k hk).1) (Nat.le_trans (dpl.mpr fun k hk => (hsk k hk).2) (by omega))
  obtain ⟨s, n, z, rfl, hz, h⟩ := ground_of hg
  have hs : PyData.strOk s = true := by rcases h with h | h; rw [h.1]; exact okFact; rw [h.1]; exact okIssue
  have hss : shaped (.str s) = true := by simpa using hs
  have hk : shaped (.tuple [.str s, .int n]) = true := sh_of (by simp [hs]) (by simp [PyData.depth, PyData.depthAll])
  have hni : fNotIn (.str s) (.tuple [.str ("fact" : Str), .str ("issue" : Str)]) = some (.val (.bool false)) := by
    rw [fNotIn_t hss shFI]
    rcases h with h | h <;> rw [h.1] <;> simp [PyData.eqv]
  have hz0 : fNotIn (.int z) (.tuple [.int 0, .int 1]) = some (.val (.bool false)) := by
    rw [fNotIn_t sh_int sh01]
    rcases hz with rfl | rfl <;> rfl
  have hb' : (sk.any fun e => PyData.eqv e (.tuple [.str s, .int n])) = false := by simpa [key2, -List.any_eq_true, -List.any_eq_false] using hb
  rcases h with ⟨rfl, h1, h2⟩ | ⟨rfl, h1, h2⟩
  · simp [hni, isInt, hz0, fEq_str hs okFact, fs_G f2, fs_G f3, h1, h2, cutD_02, fIn_l hk hsl, hb', fAppend_x hlen, key2, -List.any_eq_true, -List.any_eq_false]
  · have h3 : (("issue" : Str) == ("fact" : Str)) = false := by decide +kernel
    simp [hni, isInt, hz0, fEq_str hs okFact, h3, fs_G f2, fs_G f3, show own + 1 ≤ n by omega, h2, cutD_02, fIn_l hk hsl, hb', fAppend_x hlen, key2, -List.any_eq_true, -List.any_eq_false]
end
theorem law_is_issue_x (d : D) (own facts issues : Int) (h : ok0 d) : m__law_is_issue [.val d, .val (.int own), .val (.int facts), .val (.int issues)] = .ok (.val (.bool (isIssue d facts issues own))) [] := by
  unfold m__law_is_issue b__law_is_issue
  cases d with
  | tuple ds =>
    have h0 := ok0_tup.mp h
    rw [isIssue_good]
    cases hl : inLen ds 8
    · have h' := hl
      unfold inLen at h'
      simp [h']
    · have hl8 : ds.length ≤ 8 := by have := inLen_le hl; omega
      have h' := hl
      unfold inLen at h'
      simp [h']
      rcases loop_inv (m1 := gStep) (g := gSet 5) (fun pre post ρ => pre ++ post = ds ∧ goodRows pre facts issues own = true ∧ ∃ x lo hi, free x ∧ free lo ∧ free hi ∧ ρ = [.val (.tuple ds), .val (.int own), .val (.int facts), .val (.int issues), .own (pre.map key2), x, lo, hi])
          (fun so => goodRows ds facts issues own = false ∧ ∃ t, so = .ret (.val (.bool false)) (.val (.tuple ds) :: .val (.int own) :: .val (.int facts) :: .val (.int issues) :: t)) ds [] [.val (.tuple ds), .val (.int own), .val (.int facts), .val (.int issues), .own [], .no, .no, .no]
          ⟨rfl, rfl, .no, .no, .no, .inl rfl, .inl rfl, .inl rfl, rfl⟩ (fun pre g post ρ hI => by
            obtain ⟨hp, hgp, x, lo, hi, f1, f2, f3, rfl⟩ := hI
            have hg0 : ok0 g := h0 g (by rw [← hp]; simp)
            have hsk : ∀ k ∈ pre.map key2, ok0 k ∧ k.depth ≤ 1 := fun k hk => by
              obtain ⟨q, hq, rfl⟩ := List.mem_map.mp hk
              unfold goodRows at hgp
              simp only [Bool.and_eq_true] at hgp
              exact key_sh (List.all_eq_true.mp hgp.1 q hq)
            have hln : (pre.map key2).length < 100000 := by
              have : ds.length = pre.length + (post.length + 1) := by rw [← hp]; simp
              rw [List.length_map]; omega
            refine ⟨[.val (.tuple ds), .val (.int own), .val (.int facts), .val (.int issues), .own (pre.map key2), .val g, lo, hi], by simp [fs_G f1], ?_⟩
            cases hb : (isGround g facts issues own && !((pre.map key2).any fun e => PyData.eqv e (key2 g)))
            · obtain ⟨t, ht⟩ := law_ground_bad (d := .tuple ds) hg0 hsk f2 f3 hb
              refine .inr ⟨_, _, ht, ?_, t, rfl⟩
              have hq : goodRows (pre ++ [g]) facts issues own = false := by rw [good_app, hgp, Bool.true_and]; exact hb
              cases hz : goodRows ds facts issues own
              · rfl
              · rw [← hp, show pre ++ g :: post = (pre ++ [g]) ++ post by simp] at hz
                rw [good_pre hz] at hq
                cases hq
            · simp only [Bool.and_eq_true] at hb
              obtain ⟨p, q, ht⟩ := law_ground_good (d := .tuple ds) hb.1 hsk hln f2 f3 (by simpa using hb.2)
              refine .inl ⟨_, .inl ht, by rw [List.append_assoc]; exact hp, by rw [good_app, hgp, hb.1]; exact hb.2, .val g, .val p, .val q, .inr ⟨_, rfl⟩, .inr ⟨_, rfl⟩, .inr ⟨_, rfl⟩, by simp⟩) with ⟨ρ', h1, h2⟩ | ⟨hgd, t, ht⟩
      · obtain ⟨hp, hgp, x, lo, hi, f1, f2, f3, rfl⟩ := h2
        rw [List.nil_append] at hgp
        rw [hgp, h1]
        simp
      · rw [hgd, ht]
        simp
  | _ => simp [isIssue]

def findRes (tag : Str) (P : Nat × D → Bool) (d0 : D) : List (Nat × D) → Slot → Slot → SO
  | [], x1, x2 => .nx [.val d0, x1, x2]
  | p :: l, _, _ => if P p = true then findRes tag P d0 l (.val (.int (p.1 : Int))) (.val p.2) else .ret (.val (tI tag p.1)) [.val d0, .val (.int (p.1 : Int)), .val p.2]
theorem find_loop {body : En → SO} {d0 : D} (tag : Str) (P : Nat × D → Bool) : ∀ (l : List (Nat × D)) (x1 x2 : Slot), free x1 → free x2 →
    (∀ p ∈ l, body [.val d0, .val (.int (p.1 : Int)), .val p.2] = if P p = true then .nx [.val d0, .val (.int (p.1 : Int)), .val p.2] else .ret (.val (tI tag p.1)) [.val d0, .val (.int (p.1 : Int)), .val p.2]) →
      loopS (gTupD 2 (gsCons (gSet 1) (gsCons (gSet 2) gsNil))) body (pairs l) [.val d0, x1, x2] = findRes tag P d0 l x1 x2
  | [], x1, x2, f1, f2, _ => rfl
  | p :: l, x1, x2, f1, f2, h => by
    show loopS _ body (_ :: pairs l) _ = _
    rw [loopS_cons, findRes]
    have : gTupD 2 (gsCons (gSet 1) (gsCons (gSet 2) gsNil)) (.tuple [.int (p.1 : Int), p.2]) [.val d0, x1, x2] = some [.val d0, .val (.int (p.1 : Int)), .val p.2] := by simp [fs_G f1, fs_G f2]
    rw [this, kL0_some, h p List.mem_cons_self]
    split
    · rw [kL1_nx]
      exact find_loop tag P l _ _ (.inr ⟨_, rfl⟩) (.inr ⟨_, rfl⟩) fun q hq => h q (List.mem_cons_of_mem _ hq)
    · rfl
theorem findRes_some {tag : Str} {P : Nat × D → Bool} {d0 : D} : ∀ {l : List (Nat × D)} {x1 x2 : Slot} {p : Nat × D}, l.find? (fun p => !P p) = some p → ∃ t, findRes tag P d0 l x1 x2 = .ret (.val (tI tag p.1)) (.val d0 :: t)
  | [], _, _, _, h => by simp at h
  | q :: l, x1, x2, p, h => by
    rw [findRes]
    cases hq : P q
    · rw [List.find?_cons_of_pos (by simp [hq])] at h
      cases h
      exact ⟨_, rfl⟩
    · rw [List.find?_cons_of_neg (by simp [hq])] at h
      exact findRes_some h
theorem findRes_none {tag : Str} {P : Nat × D → Bool} {d0 : D} : ∀ {l : List (Nat × D)} {x1 x2 : Slot}, free x1 → free x2 → l.find? (fun p => !P p) = none → ∃ y1 y2, free y1 ∧ free y2 ∧ findRes tag P d0 l x1 x2 = .nx [.val d0, y1, y2]
  | [], x1, x2, f1, f2, h => ⟨x1, x2, f1, f2, rfl⟩
  | q :: l, x1, x2, f1, f2, h => by
    rw [findRes]
    cases hq : P q
    · rw [List.find?_cons_of_pos (by simp [hq])] at h
      cases h
    · rw [List.find?_cons_of_neg (by simp [hq])] at h
      exact findRes_none (.inr ⟨_, rfl⟩) (.inr ⟨_, rfl⟩) h
theorem dp_tupmem {ds : List D} {d : D} {k : Nat} (h : (PyData.tuple ds).depth ≤ k + 1) (hd : d ∈ ds) : d.depth ≤ k := dpt.mp h d hd
def fMo : D → Option D := fun d => if isW d 1 9 = true then none else some d
theorem fMo_filt (ds : List D) : ds.filterMap fMo = ds.filter fun d => !isW d 1 9 := by
  induction ds with
  | nil => rfl
  | cons d ds ih => cases h : isW d 1 9 <;> simp [fMo, h, ← ih]
theorem law_flaw_x (d : D) (h : ok0 d) (hk : d.depth ≤ 60) : m__law_flaw [.val d] = .ok (.val (flaw d)) [] := by
  unfold m__law_flaw b__law_flaw
  cases d with
  | tuple ds =>
    by_cases hl : ds.length = 4
    · obtain ⟨a, m, is, cs, rfl⟩ := len4 hl
      have h0 := ok0_tup.mp h
      have k0 : ∀ d ∈ [a, m, is, cs], PyData.depth d ≤ 59 := fun d hd => dp_tupmem hk hd
      cases a with
      | str s =>
        have hs : PyData.strOk s = true := by simpa using h0 (.str s) (by simp)
        cases h1 : s == ("book" : Str)
        · simp [flaw, fNe_str hs okBook, h1, tN]
        · cases m with
          | tuple ms =>
            have hm0 := ok0_tup.mp (h0 (.tuple ms) (by simp))
            have hmk : ∀ d ∈ ms, PyData.depth d ≤ 58 := fun d hd => dp_tupmem (k0 (.tuple ms) (by simp)) hd
            have shf : shaped (.list (ms.filterMap fMo)) = true := by
              rw [fMo_filt]
              refine sh_of (ok0_lst.mpr fun d hd => hm0 d ((List.mem_filter.mp hd).1)) (Nat.le_trans (dpl.mpr fun d hd => hmk d ((List.mem_filter.mp hd).1)) (by omega))
            cases hml : inLen ms 10
            · have h' := hml
              unfold inLen at h'
              simp [flaw, fNe_str hs okBook, h1, isMosts, hml, h', tN]
            · have hml' := inLen_le hml
              have h' := hml
              unfold inLen at h'
              simp [fNe_str hs okBook, h1, h']
              rw [lc_pure fMo ms _ (by simp; rfl) (by omega) (fun d hd => by
                cases d with
                | int i =>
                  by_cases hi : 1 ≤ i
                  · by_cases hi2 : i ≤ 9
                    · exact ⟨_, by simp [lcS, isInt, hi, hi2, fMo, isW]; rfl, by simp⟩
                    · exact ⟨_, by simp [lcS, isInt, hi, hi2, fMo, isW]; rfl, by simp⟩
                  · exact ⟨_, by simp [lcS, isInt, hi, fMo, isW]; rfl, by simp⟩
                | _ => exact ⟨_, by simp [lcS, isInt, fMo, isW]; rfl, by simp⟩)]
              simp [fNe_nilL shf]
              cases ha : ms.all fun d => isW d 1 9
              · have : (ms.filterMap fMo).isEmpty = false := by
                  rw [fMo_filt]
                  cases hz : ms.filter fun d => !isW d 1 9 with
                  | nil =>
                    rw [List.filter_eq_nil_iff] at hz
                    rw [List.all_eq_true.mpr fun d hd => by simpa using hz d hd] at ha
                    cases ha
                  | cons _ _ => rfl
                simp [this, flaw, h1, isMosts, hml, ha, tN]
              · have : (ms.filterMap fMo).isEmpty = true := by
                  rw [fMo_filt]
                  have q := List.all_eq_true.mp ha
                  rw [List.filter_eq_nil_iff.mpr fun d hd => by simp [q d hd]]
                  rfl
                have hmm : isMosts (.tuple ms) = true := by simp [isMosts, hml, ha]
                simp [this, flaw, h1, hmm, lenD]
                cases is with
                | tuple is =>
                  have hi0 := ok0_tup.mp (h0 (.tuple is) (by simp))
                  cases hi : inLen is 6
                  · have hi' := hi
                    unfold inLen at hi'
                    simp [hi', issuesFlaw, hi, orD, tN]
                  · have hil := inLen_le hi
                    have hi' := hi
                    unfold inLen at hi'
                    simp [hi']
                    rw [find_loop "issue" (fun p => isIssue p.2 ms.length is.length p.1) (idx is) _ _ (.inl rfl) (.inl rfl) (fun p hp => by
                      cases hq : isIssue p.2 ms.length is.length p.1
                      · simp [law_is_issue_x p.2 _ _ _ (hi0 _ (idx_mem hp).1), hq, tI]
                      · simp [law_is_issue_x p.2 _ _ _ (hi0 _ (idx_mem hp).1), hq])]
                    cases hf : (idx is).find? fun p => !isIssue p.2 ms.length is.length p.1 with
                    | some p =>
                      obtain ⟨t, ht⟩ := findRes_some (tag := "issue") (d0 := .tuple [.str s, .tuple ms, .tuple is, cs]) (x1 := .no) (x2 := .no) hf
                      simp [ht, issuesFlaw, hi, hf, orD]
                    | none =>
                      obtain ⟨y1, y2, f1, f2, ht⟩ := findRes_none (tag := "issue") (d0 := .tuple [.str s, .tuple ms, .tuple is, cs]) (x1 := .no) (x2 := .no) (.inl rfl) (.inl rfl) hf
                      simp [ht]
                      cases cs with
                      | tuple cs =>
                        cases hc : inLen cs 8
                        · have hc' := hc
                          unfold inLen at hc'
                          simp [hc', issuesFlaw, hi, orD, hf, courtsFlaw, hc, tN]
                        · have hcl := inLen_le hc
                          have hc' := hc
                          unfold inLen at hc'
                          simp [hc']
                          rw [find_loop "court" (fun p => isCourt p.2 p.1) (idx cs) _ _ f1 f2 (fun p hp => by
                            cases hq : isCourt p.2 p.1
                            · simp [hq, tI]
                            · simp [hq])]
                          cases hg : (idx cs).find? fun p => !isCourt p.2 p.1 with
                          | some p =>
                            obtain ⟨t, ht⟩ := findRes_some (tag := "court") (d0 := .tuple [.str s, .tuple ms, .tuple is, .tuple cs]) (x1 := y1) (x2 := y2) hg
                            simp [ht, issuesFlaw, hi, hf, orD, courtsFlaw, hc, hg]
                          | none =>
                            obtain ⟨z1, z2, _, _, ht⟩ := findRes_none (tag := "court") (d0 := .tuple [.str s, .tuple ms, .tuple is, .tuple cs]) (x1 := y1) (x2 := y2) f1 f2 hg
                            simp [ht, issuesFlaw, hi, hf, orD, courtsFlaw, hc, hg]
                      | _ => simp [issuesFlaw, hi, hf, courtsFlaw, orD, tN]
                | _ => simp [issuesFlaw, orD, tN]
          | _ => simp [flaw, fNe_str hs okBook, h1, isMosts, tN]
      | _ => simp [flaw, tN]
    · have e : (((ds.length : Int)) == 4) = false := by simp; omega
      simp [e, flaw_len hl, tN]
  | _ => simp [flaw, tN]
end K

set_option maxRecDepth 100000
set_option maxHeartbeats 400000
namespace K
open PySem PySem.Spec PyProof.Rows L2 DL
/-! plain: how many points -/
def mostOf (ms : List D) (g : D) : Int := match g with
  | .tuple [.str s, .int n, _] => if s == ("fact" : Str) then match ms[n.toNat]? with
    | some (.int i) => i
    | _ => 0
    else 1
  | _ => 0
theorem most_get {ms : List D} {n : Int} (hm : ∀ m ∈ ms, isW m 1 9 = true) (h0 : 0 ≤ n) (h1 : n < ms.length) : ∃ i : Int, ms[n.toNat]? = some (.int i) ∧ 1 ≤ i ∧ i ≤ 9 := by
  have hl : n.toNat < ms.length := by omega
  have q := hm _ (List.getElem_mem hl)
  rw [List.getElem?_eq_getElem hl]
  cases hz : ms[n.toNat] with
  | int i =>
    rw [hz] at q
    simp only [isW, Bool.and_eq_true, decide_eq_true_eq] at q
    exact ⟨i, rfl, q⟩
  | _ => rw [hz] at q; simp [isW] at q
theorem neIF : (("issue" : Str) == ("fact" : Str)) = false := by decide +kernel
theorem most_ok {ms : List D} {g : D} {issues own : Int} (hm : ∀ m ∈ ms, isW m 1 9 = true) (hg : isGround g ms.length issues own = true) : 1 ≤ mostOf ms g ∧ mostOf ms g ≤ 9 := by
  obtain ⟨s, n, z, rfl, _, ⟨rfl, h1, h2⟩ | ⟨rfl, h1, h2⟩⟩ := ground_of hg
  · obtain ⟨i, e, h3, h4⟩ := most_get hm h1 h2
    simp [mostOf, e, h3, h4]
  · simp [mostOf, neIF]
section
variable {s cs : D} {ms is gs : List D} {i issues own : Int}
theorem mosts_in_x (hr : atI is i = some (.tuple gs)) (hl : gs.length ≤ 100000) (hm : ∀ m ∈ ms, isW m 1 9 = true) (hg : ∀ g ∈ gs, isGround g ms.length issues own = true) :
    m_mosts_in [.val (.tuple [s, .tuple ms, .tuple is, cs]), .val (.int i)] = .ok (.new (gs.map fun g => .int (mostOf ms g))) [] := by
  unfold m_mosts_in b_mosts_in
  simp [hr]
  rw [lc_pure (fun g => some (.int (mostOf ms g))) gs _ (by simp [hr]; rfl) hl (fun g hd => by
    obtain ⟨s, n, z, rfl, _, ⟨rfl, h1, h2⟩ | ⟨rfl, h1, h2⟩⟩ := ground_of (hg g hd)
    · obtain ⟨j, e, h3, h4⟩ := most_get hm h1 h2
      exact ⟨_, by simp [lcS, fEq_str okFact okFact, atI_of h1 e, mostOf, e]; rfl, by simp⟩
    · exact ⟨_, by simp [lcS, fEq_str okIssue okFact, neIF, mostOf]; rfl, by simp⟩)]
  simp
theorem box_of_x (zs : List D) (hr : atI is i = some (.tuple gs)) (hl : gs.length ≤ 100000) (hm : ∀ m ∈ ms, isW m 1 9 = true) (hg : ∀ g ∈ gs, isGround g ms.length issues own = true) :
    m_box_of [.val (.tuple [s, .tuple ms, .tuple is, cs]), .val (.int i), .val (.tuple [.tuple zs, .int 1])] = .ok (.val (.tuple [.tuple zs, .tuple (gs.map fun g => .int (mostOf ms g))])) [] := by
  unfold m_box_of b_box_of
  simp [mosts_in_x (s := s) (cs := cs) hr hl hm hg]
def prodM (ms : List D) (gs : List D) : Int := gs.foldl (fun a g => a * (mostOf ms g + 1)) 1
theorem zip_rep (gs : List D) (z : D) (f : D → D → D) (h : D → D) : List.zipWith f (List.replicate gs.length z) (gs.map h) = gs.map fun g => f z (h g) := by
  induction gs with
  | nil => rfl
  | cons g gs ih => simp [List.replicate_succ, ih]
theorem many_loop (b : D) (hm : ∀ m ∈ ms, isW m 1 9 = true) : ∀ (gs : List D) (a : Int) (x y : Slot), free x → free y → (∀ g ∈ gs, isGround g ms.length issues own = true) →
    ∃ x' y', loopS (gTupD 2 (gsCons (gSet 2) (gsCons (gSet 3) gsNil))) (mAsg 1 (mOp fMul (mVar 1) (mOp fAdd (mOp fSub (mVar 3) (mVar 2)) (mC (.int 1))))) (gs.map fun g => .tuple [.int 0, .int (mostOf ms g)]) [.val b, .val (.int a), x, y] = .nx [.val b, .val (.int (gs.foldl (fun a g => a * (mostOf ms g + 1)) a)), x', y']
  | [], a, x, y, _, _, _ => ⟨x, y, rfl⟩
  | g :: gs, a, x, y, fx, fy, hg => by
    have hq := most_ok hm (hg g List.mem_cons_self)
    obtain ⟨x', y', e⟩ := many_loop b hm gs (a * (mostOf ms g + 1)) (.val (.int 0)) (.val (.int (mostOf ms g))) (.inr ⟨_, rfl⟩) (.inr ⟨_, rfl⟩) fun q hq => hg q (List.mem_cons_of_mem _ hq)
    refine ⟨x', y', ?_⟩
    rw [List.map_cons, loopS_cons, List.foldl_cons, ← e]
    simp [fs_G fx, fs_G fy, fMul_int (cMul_r (y := a) (z := mostOf ms g + 1) (by omega))]
theorem many_in_x (hm : ∀ m ∈ ms, isW m 1 9 = true) (hg : ∀ g ∈ gs, isGround g ms.length issues own = true) :
    m_many_in [.val (.tuple [.tuple (List.replicate gs.length (.int 0)), .tuple (gs.map fun g => .int (mostOf ms g))])] = .ok (.val (.int (prodM ms gs))) [] := by
  unfold m_many_in b_many_in
  simp [zip_rep]
  obtain ⟨x', y', e⟩ := many_loop (.tuple [.tuple (List.replicate gs.length (.int 0)), .tuple (gs.map fun g => .int (mostOf ms g))]) hm gs 1 .no .no (.inl rfl) (.inl rfl) hg
  rw [e]
  simp [prodM]
end
theorem want_book_x (d : D) (h : ok0 d) : m_want_book [.val d] = if isNon (flaw d) = true then .ok (.val .none) [] else .exc ⟨"InvalidBook", [("value", d)]⟩ := by
  unfold m_want_book b_want_book
  cases hb : isNon (flaw d)
  · simp [is_book_any_x d h, hb]
  · simp [is_book_any_x d h, hb]
theorem want_issue_x (s m cs : D) (is : List D) (i : Int) (h : 0 ≤ i) (h2 : i < is.length) : m_want_issue [.val (.tuple [s, m, .tuple is, cs]), .val (.int i)] = .ok (.val .none) [] := by
  unfold m_want_issue b_want_issue
  have e : isW (.int i) 0 (is.length - 1) = true := by simp [isW]; omega
  simp [e]
theorem book_of {d : D} (h : isNon (flaw d) = true) : ∃ ms is cs, d = .tuple [.str "book", .tuple ms, .tuple is, .tuple cs] ∧ inLen ms 10 = true ∧ (∀ m ∈ ms, isW m 1 9 = true) ∧ inLen is 6 = true ∧ (∀ p ∈ idx is, isIssue p.2 ms.length is.length p.1 = true) ∧
    inLen cs 8 = true ∧ ∀ p ∈ idx cs, isCourt p.2 p.1 = true := by
  unfold flaw at h
  split at h
  · rename_i s m i c
    split at h
    · rename_i hs
      split at h
      · rename_i hm
        cases m with
        | tuple ms =>
          simp only [isMosts, Bool.and_eq_true, List.all_eq_true] at hm
          unfold issuesFlaw courtsFlaw at h
          cases i with
          | tuple is =>
            cases hi : inLen is 6
            · simp [hi, orD] at h
            · cases hf : (idx is).find? fun p => !isIssue p.2 ms.length is.length p.1 with
              | some p => simp [hi, lenD, hf, orD] at h
              | none =>
                cases c with
                | tuple cs =>
                  cases hc : inLen cs 8
                  · simp [hi, lenD, hf, orD, hc] at h
                  · cases hg : (idx cs).find? fun p => !isCourt p.2 p.1 with
                    | some p => simp [hi, lenD, hf, orD, hc, hg] at h
                    | none => exact ⟨ms, is, cs, by rw [eq_of_beq hs], hm.1, hm.2, hi, List.all_eq_true.mp (find_all.mp hf), hc, List.all_eq_true.mp (find_all.mp hg)⟩
                | _ => simp [hi, lenD, hf, orD] at h
          | _ => simp [orD] at h
        | _ => simp [isMosts] at hm
      · cases h
    · cases h
  · cases h
theorem idx_get {l : List D} {i : Nat} {d : D} (h : l[i]? = some d) : (i, d) ∈ idx l := by
  unfold idx
  rw [List.mem_mapIdx]
  obtain ⟨hl, e⟩ := List.getElem?_eq_some_iff.mp h
  exact ⟨i, hl, by rw [e]⟩
theorem issue_of {d : D} {facts issues own : Int} (h : isIssue d facts issues own = true) : ∃ gs, d = .tuple gs ∧ inLen gs 8 = true ∧ ∀ g ∈ gs, isGround g facts issues own = true := by
  cases d with
  | tuple gs =>
    simp only [isIssue, Bool.and_eq_true, List.all_eq_true] at h
    exact ⟨gs, rfl, h.1.1, h.1.2⟩
  | _ => simp [isIssue] at h
theorem count_points_x (d : D) (h : ok0 d) : m_count_points [.val d, .val (.int 0)] = .exc ⟨"InvalidBook", [("value", d)]⟩ ∧ isNon (flaw d) = false ∨
    isNon (flaw d) = true ∧ ∃ s ms gs is cs, d = .tuple [s, .tuple ms, .tuple (.tuple gs :: is), cs] ∧ gs.length ≤ 8 ∧ (∀ m ∈ ms, isW m 1 9 = true) ∧ (∀ g ∈ gs, isGround g ms.length (is.length + 1) 0 = true) ∧ m_count_points [.val d, .val (.int 0)] = .ok (.val (.int (prodM ms gs))) [] := by
  cases hb : isNon (flaw d)
  · refine .inl ⟨?_, rfl⟩
    unfold m_count_points b_count_points
    simp [want_book_x d h, hb]
  · refine .inr ⟨rfl, ?_⟩
    obtain ⟨ms, is, cs, rfl, h1, h2, h3, h4, h5, h6⟩ := book_of hb
    cases is with
    | nil => simp [inLen] at h3
    | cons row is =>
      obtain ⟨gs, rfl, hl, hg⟩ := issue_of (h4 (0, row) (idx_get rfl))
      have hl8 : gs.length ≤ 8 := by have := inLen_le hl; omega
      have hg' : ∀ g ∈ gs, isGround g ms.length (is.length + 1) 0 = true := fun g q => by simpa using hg g q
      refine ⟨_, ms, gs, is, _, rfl, hl8, h2, hg', ?_⟩
      unfold m_count_points b_count_points
      have hr : atI (PyData.tuple gs :: is) 0 = some (.tuple gs) := by simp
      simp [want_book_x _ h, hb, want_issue_x _ _ _ (PyData.tuple gs :: is) 0 (by omega) (by simp <;> omega), fMul_tup (ds := [PyData.int 0]) (k := gs.length) (by simp <;> omega), box_of_x (s := .str "book") (cs := .tuple cs) (List.replicate gs.length (.int 0)) hr (by omega) h2 hg', many_in_x h2 hg']

/-! plain: one value -/
theorem law_most_of_x {s is cs : D} {ms : List D} {g : D} {issues own : Int} (hm : ∀ m ∈ ms, isW m 1 9 = true) (hg : isGround g ms.length issues own = true) :
    m__law_most_of [.val (.tuple [s, .tuple ms, is, cs]), .val g] = .ok (.val (.int (mostOf ms g))) [] := by
  unfold m__law_most_of b__law_most_of
  obtain ⟨s, n, z, rfl, _, ⟨rfl, h1, h2⟩ | ⟨rfl, h1, h2⟩⟩ := ground_of hg
  · obtain ⟨j, e, h3, h4⟩ := most_get hm h1 h2
    simp [fEq_str okFact okFact, atI_of h1 e, mostOf, e]
  · simp [fEq_str okIssue okFact, neIF, mostOf]
/-- all flaws that may be told -/
def flaws : List D := [.none, tN "form", tN "mosts", tN "issues", tN "courts"] ++ (List.range 6).map (tI "issue") ++ (List.range 8).map (tI "court")
theorem idx_lt {l : List D} {p : Nat × D} (h : p ∈ idx l) : p.1 < l.length := by
  have q := (idx_mem h).2
  exact (List.getElem?_eq_some_iff.mp q).1
theorem flaw_mem (d : D) : flaw d ∈ flaws := by
  unfold flaw
  split
  · split
    · split
      · rename_i m i c _ _
        unfold issuesFlaw courtsFlaw
        have hc : ∀ o : Option D, (∀ x, o = some x → x ∈ flaws) → ∀ c : D, orD o (match c with
            | .tuple cs => if inLen cs 8 = true then ((idx cs).find? fun p => !isCourt p.2 p.1).map fun p => tI "court" p.1 else some (tN "courts")
            | _ => some (tN "courts")) ∈ flaws := by
          intro o ho c
          cases o with
          | some x => exact ho x rfl
          | none =>
            cases c with
            | tuple cs =>
              cases hi : inLen cs 8
              · simp [hi, orD, flaws]
              · cases hf : (idx cs).find? fun p => !isCourt p.2 p.1 with
                | some p =>
                  have := idx_lt (List.mem_of_find?_eq_some hf)
                  have := inLen_le hi
                  simp only [hi, hf, orD, Option.map_some, if_true]
                  refine List.mem_append.mpr (.inr (List.mem_map.mpr ⟨p.1, List.mem_range.mpr (by omega), rfl⟩))
                | none => simp [hi, hf, orD, flaws]
            | _ => simp [orD, flaws]
        refine hc _ (fun x hx => ?_) c
        cases i with
        | tuple is =>
          cases hi : inLen is 6
          · simp only [hi, Bool.false_eq_true, if_false, Option.some.injEq] at hx
            subst hx
            simp [flaws]
          · simp only [hi, if_true] at hx
            cases hf : (idx is).find? fun p => !isIssue p.2 (lenD m) is.length p.1 with
            | some p =>
              rw [hf] at hx
              cases hx
              have := idx_lt (List.mem_of_find?_eq_some hf)
              have := inLen_le hi
              exact List.mem_append.mpr (.inl (List.mem_append.mpr (.inr (List.mem_map.mpr ⟨p.1, List.mem_range.mpr (by omega), rfl⟩))))
            | none => rw [hf] at hx; cases hx
        | _ => simp at hx; subst hx; simp [flaws]
      · simp [flaws]
    · simp [flaws]
  · simp [flaws]
def okRepr (d : D) : Bool := d.showable && decide (d.depth ≤ 64) && !d.hasDict && decide (d.shown.length ≤ 1000000) && PyData.strOk d.shown
theorem fRepr_ok {d : D} (h : okRepr d = true) : fRepr d = some (.val (.str d.shown)) := by
  unfold okRepr at h
  simp only [Bool.and_eq_true, decide_eq_true_eq, Bool.not_eq_true'] at h
  unfold fRepr
  rw [if_pos ⟨h.1.1.1.1, h.1.1.1.2, h.1.1.2, h.1.2⟩]
theorem str_ok {d : D} (h : okRepr d = true) : PyData.strOk d.shown = true := by
  unfold okRepr at h
  simp only [Bool.and_eq_true] at h
  exact h.2
theorem flaws_repr : ∀ b : Bool, ∀ f ∈ flaws, okRepr (.list [.bool b, f, .bool b, f]) = true := by decide +kernel

theorem law_loop {b t1 t2 t3 : Slot} {s is cs : D} {ms : List D} {issues own : Int} (hm : ∀ m ∈ ms, isW m 1 9 = true) : ∀ (gs : List D) (a : Int) (x : Slot), free x → (∀ g ∈ gs, isGround g ms.length issues own = true) →
    ∃ x', loopS (gSet 3) (mAsg 2 (mOp fMul (mVar 2) (mOp fAdd (mFun 2 m__law_most_of (mACons (mVar 0) (mACons (mVar 3) mANil))) (mC (.int 1))))) gs [.val (.tuple [s, .tuple ms, is, cs]), t1, .val (.int a), x, t2, t3] =
      .nx [.val (.tuple [s, .tuple ms, is, cs]), t1, .val (.int (gs.foldl (fun a g => a * (mostOf ms g + 1)) a)), x', t2, t3]
  | [], a, x, _, _ => ⟨x, rfl⟩
  | g :: gs, a, x, fx, hg => by
    have hq := most_ok hm (hg g List.mem_cons_self)
    obtain ⟨x', e⟩ := law_loop (b := b) (t1 := t1) (t2 := t2) (t3 := t3) (s := s) (is := is) (cs := cs) hm gs (a * (mostOf ms g + 1)) (.val g) (.inr ⟨_, rfl⟩) fun q hq => hg q (List.mem_cons_of_mem _ hq)
    refine ⟨x', ?_⟩
    rw [loopS_cons, List.foldl_cons, ← e]
    simp [fs_G fx, law_most_of_x hm (hg g List.mem_cons_self), fMul_int (cMul_r (y := a) (z := mostOf ms g + 1) (by omega))]
theorem tst_ib : tst_InvalidBook ("InvalidBook" : Str) = some true := by decide +kernel
theorem heard_exc (d : D) (h : okRepr d = true) : kRun (hb__law_heard (.exc ⟨"InvalidBook", [("value", d)]⟩) [.exc, .no, .no]) = some (.val (.list [.str "book", .str d.shown, .bool true])) := by
  unfold hb__law_heard
  have e : (Exc.mk ("InvalidBook" : Str) [(("value" : Str), d)]).fs.lookup ("value" : Str) = some d := by simp [List.lookup]
  simp [tst_ib, kXf_e e, fRepr_ok h]
theorem heard_ok (d : D) : kRun (hb__law_heard (.ok (.val d)) [.exc, .no, .no]) = some (.val d) := by
  unfold hb__law_heard
  simp
theorem value_right_x (d : D) (h : ok0 d) (hk : d.depth ≤ 60) (hr : okRepr d = true) : m__law_value_right [.val d] = .ok (.val (.bool true)) [] := by
  unfold m__law_value_right b__law_value_right
  have hs := str_ok hr
  have hne : fNe (.str (PyData.list [.bool (isNon (flaw d)), flaw d, .bool (isNon (flaw d)), flaw d]).shown) (.str (PyData.list [.bool (isNon (flaw d)), flaw d, .bool (isNon (flaw d)), flaw d]).shown) = some (.val (.bool false)) := by
    have := str_ok (flaws_repr (isNon (flaw d)) _ (flaw_mem d))
    rw [fNe_str this this]
    simp
  have hfr := fRepr_ok (flaws_repr (isNon (flaw d)) _ (flaw_mem d))
  have hbk : m_is_book [.val d] = .ok (.val (.bool (isNon (flaw d)))) [] := by
    unfold m_is_book b_is_book
    simp [is_book_any_x d h]
  have hbf : m_book_flaw [.val d] = .ok (.val (flaw d)) [] := by
    unfold m_book_flaw b_book_flaw
    simp [flaw_of_book_x d h]
  have hrep : (List.replicate (Int.toNat 2) [PyData.bool (isNon (flaw d)), flaw d]).flatten = [.bool (isNon (flaw d)), flaw d, .bool (isNon (flaw d)), flaw d] := rfl
  simp [law_flaw_x d h hk, fRepr_ok hr, hbk, hbf, hfr, hne, fMul_lst (ds := [PyData.bool (isNon (flaw d)), flaw d]) (k := 2) (by simp), hrep]
  have hrr : fEq (.str d.shown) (.str d.shown) = some (.val (.bool true)) := by rw [fEq_str hs hs]; simp
  rcases count_points_x d h with ⟨e, hb⟩ | ⟨hb, s, ms, gs, is, cs, rfl, hl, hm, hg, e⟩
  · have ho : ok0 (.list [.str ("book" : Str), .str d.shown, .bool true]) := by simp [okBook, hs]
    have hsh : shaped (.list [.str ("book" : Str), .str d.shown, .bool true]) = true := sh_of ho (by simp [PyData.depth, PyData.depthAll])
    have hq : fEq (.list [.str ("book" : Str), .str d.shown, .bool true]) (.list [.str ("book" : Str), .str d.shown, .bool true]) = some (.val (.bool true)) := by
      rw [fEq_x hsh hsh, SeqAt.eqv_refl _ ho]
    simp [e, heard_exc d hr, hb, hq, fRepr_ok hr, hrr]
  · simp [e, heard_ok, hb]
    obtain ⟨x', hx⟩ := law_loop (b := .no) (t1 := .val (.int (prodM ms gs))) (t2 := .val (flaw (.tuple [s, .tuple ms, .tuple (.tuple gs :: is), cs]))) (t3 := .val (.str (PyData.tuple [s, .tuple ms, .tuple (.tuple gs :: is), cs]).shown)) (s := s) (is := .tuple (.tuple gs :: is)) (cs := cs) hm gs 1 .no (.inl rfl) hg
    rw [hx]
    simp [fRepr_ok hr, hrr, prodM]
end K

set_option maxRecDepth 100000
set_option maxHeartbeats 400000
namespace K
open PySem PySem.Spec PyProof.Rows L2 DL
/-! plain: draws -/
abbrev pot (q : Int × Int) : List D := [.int q.1, .int q.2]
theorem draw_x (q : Int × Int) (n : Int) (h : 0 < n) (h2 : n < 1073741824) : ∃ k q', 0 ≤ k ∧ k < n ∧ m__law_draw [.io (pot q), .val (.int n)] = .ok (.val (.int k)) [pot q'] := by
  unfold m__law_draw b__law_draw
  obtain ⟨a, b⟩ := q
  by_cases ha : a > 0
  · refine ⟨a % n, (a / n, b), Int.emod_nonneg _ (by omega), Int.emod_lt_of_pos _ h, ?_⟩
    have hd : fDivmod (.int a) (.int n) = some (.val (.tuple [.int (a / n), .int (a % n)])) := if_pos (decide_eq_true (p := 0 < n ∧ n < 1073741824) ⟨h, h2⟩)
    simp [ha, hd]
  · have hz : ∀ z : Int, 0 ≤ z % 2147483587 ∧ z % 2147483587 < 2147483587 := fun z => ⟨Int.emod_nonneg _ (by omega), Int.emod_lt_of_pos _ (by omega)⟩
    have h1 := hz (b * 40692 + 8467)
    refine ⟨((b * 40692 + 8467) % 2147483587 * ((b * 40692 + 8467) % 2147483587)) % 2147483549 / 1031 % n, (a, (b * 40692 + 8467) % 2147483587), Int.emod_nonneg _ (by omega), Int.emod_lt_of_pos _ h, ?_⟩
    simp [ha, fMul_int (cMul_r (y := b) (z := 40692) (by omega)), fMod_int, fMul_int (cMul_r (y := (b * 40692 + 8467) % 2147483587) (z := (b * 40692 + 8467) % 2147483587) (by omega)), fDiv_int, h]
theorem pick_x (q : Int × Int) (ds : List D) (h : ds ≠ []) (h2 : ds.length ≤ 100000) : ∃ d q', d ∈ ds ∧ m__law_pick [.io (pot q), .val (.list ds)] = .ok (.val d) [pot q'] := by
  have hl : 0 < ds.length := List.length_pos_iff.mpr h
  obtain ⟨k, q', h0, h1, e⟩ := draw_x q ds.length (by omega) (by omega)
  have hk : ds[k.toNat]? = some ds[k.toNat] := List.getElem?_eq_getElem (by omega)
  refine ⟨ds[k.toNat], q', List.getElem_mem _, ?_⟩
  unfold m__law_pick b__law_pick
  simp [e, atI_of h0 hk]
theorem pot_x (ns : List Int) (k : Int) (h0 : 0 ≤ k) (h1 : k ≤ 1000) : ∃ q, m__law_pot [.val (.list (ns.map PyData.int)), .val (.int k)] = .ok (.new (pot q)) [] := by
  unfold m__law_pot b__law_pot
  have hp : fPow (.int 10) (.int 18) = some (.val (.int (10 ^ 18))) := rfl
  have fin : ∀ c : Int, ∃ q : Int × Int, kDef [Arg.val (.list (ns.map PyData.int)), Arg.val (.int k)] (mRet (mCall fLst (mACons (mCall (f2 fMax) (mACons (mC (.int 0)) (mACons (mOp fSub (mVar 2) (mOp fPow (mC (.int 10)) (mC (.int 18)))) (mANil)))) (mACons (mOp fAdd (mOp fMod (mCall (f1 fInt) (mACons (mOp fAdd (mOp fAdd (mOp fMul (mOp fMod (mCall (f1 fInt) (mACons (mVar 2) (mANil))) (mC (.int 2147483549))) (mC (.int 41953))) (mOp fMul (mC (.int 9419)) (mVar 1))) (mC (.int 1297))) (mANil))) (mC (.int 2147483563))) (mC (.int 1))) (mANil)))) [.val (.list (ns.map PyData.int)), .val (.int k), .val (.int c)]) = .ok (.new (pot q)) [] := by
    intro c
    refine ⟨(if c - 10 ^ 18 > 0 then c - 10 ^ 18 else 0, (c % 2147483549 * 41953 + 9419 * k + 1297) % 2147483563 + 1), ?_⟩
    simp [hp, fMod_int, fMul_int (cMul_r (y := c % 2147483549) (z := 41953) (by omega)), fMul_int (cMul_l (y := 9419) (z := k) (by omega))]
  by_cases hk : k < ns.length
  · have hg : (ns.map PyData.int)[k.toNat]? = some (.int (ns[k.toNat]'(by omega))) := by simp
    obtain ⟨q, e⟩ := fin (if ns[k.toNat]'(by omega) < 0 then -(ns[k.toNat]'(by omega)) else ns[k.toNat]'(by omega))
    refine ⟨q, ?_⟩
    rw [← e]
    simp [hk, atI_of h0 hg]
  · obtain ⟨q, e⟩ := fin (2437 * k + 1487)
    refine ⟨q, ?_⟩
    rw [← e]
    simp [hk, fMul_int (cMul_l (y := 2437) (z := k) (by omega))]

/-! plain: paths, bends -/
def nats (p : List Nat) : List D := p.map fun (i : Nat) => PyData.int (i : Int)
def tupN (p : List Nat) : D := .tuple (nats p)
theorem nats_len (p : List Nat) : (nats p).length = p.length := by simp [nats]
theorem nats_app (a b : List Nat) : nats (a ++ b) = nats a ++ nats b := by simp [nats]
theorem sh_nats (p : List Nat) : shaped (tupN p) = true :=
  sh_of (ok0_tup.mpr fun d hd => by obtain ⟨i, _, rfl⟩ := List.mem_map.mp hd; rfl) (Nat.le_trans (dpt.mpr fun d hd => by obtain ⟨i, _, rfl⟩ := List.mem_map.mp hd; exact Nat.le_of_eq (by rw [PyData.depth])) (by omega : 0 + 1 ≤ 64))
theorem fAdd_nats {p : List Nat} {i : Nat} (h : p.length < 1000) : fAdd (tupN p) (.tuple [.int (i : Int)]) = some (.val (tupN (p ++ [i]))) := by
  unfold tupN
  rw [fAdd_tup (by simp [nats_len]; omega), nats_app]
  rfl
def isSeq (d : D) : Bool := match d with
  | .list _ => true
  | .tuple _ => true
  | _ => false
/-- the paths below the items -/
def pathsI : List (Nat × D) → List (List Nat)
  | [] => []
  | p :: l => (pathsD p.2).map (p.1 :: ·) ++ pathsI l
theorem mapIdx_from (xs : List D) : ∀ i, pathsI (xs.mapIdx fun j d => (i + j, d)) = pathsAll i xs := by
  induction xs with
  | nil => intro i; simp [pathsI, pathsAll]
  | cons x xs ih =>
    intro i
    rw [List.mapIdx_cons, pathsI, pathsAll]
    congr 1
    rw [← ih (i + 1)]
    congr 1
    apply List.ext_getElem?
    intro j
    simp only [List.getElem?_mapIdx]
    cases xs[j]? with
    | none => rfl
    | some d => simp; omega
theorem pathsI_idx (xs : List D) : pathsI (idx xs) = pathsAll 0 xs := by
  rw [← mapIdx_from xs 0]
  unfold idx
  simp
theorem paths_x : ∀ (n : Nat) (v : D) (pre : List Nat), v.depth < n → pre.length + n ≤ 1000 → wt v ≤ 90000 →
    m__law_paths n [.val v, .val (tupN pre)] = .ok (.new ((pathsD v).map fun p => tupN (pre ++ p))) []
  | 0, v, pre, h, _, _ => absurd h (by omega)
  | n + 1, v, pre, h, hp, hw => by
    unfold m__law_paths
    have loop : ∀ (l : List (Nat × D)) (acc : List D) (x y : Slot), free x → free y → (∀ p ∈ l, p.2.depth < n ∧ wt p.2 ≤ 90000) → acc.length + (pathsI l).length ≤ 100000 →
        ∃ x' y', loopS (gTupD 2 (gsCons (gSet 3) (gsCons (gSet 4) (gsNil)))) (mDrop (mMeth 2 fExtend (mFun 2 (m__law_paths n) (mACons (mVar 4) (mACons (mOp fAdd (mVar 1) (mCall fTup (mACons (mVar 3) (mANil)))) (mANil)))))) (pairs l) [.val v, .val (tupN pre), .own acc, x, y] =
          .nx [.val v, .val (tupN pre), .own (acc ++ (pathsI l).map fun p => tupN (pre ++ p)), x', y'] := by
      intro l
      induction l with
      | nil => intro acc x y _ _ _ _; exact ⟨x, y, by simp [pathsI, loopS_nil]⟩
      | cons p l ih =>
        intro acc x y fx fy hl hc
        have e := paths_x n p.2 (pre ++ [p.1]) (hl p List.mem_cons_self).1 (by simp; omega) (hl p List.mem_cons_self).2
        rw [pathsI, List.length_append, List.length_map] at hc
        obtain ⟨x', y', e2⟩ := ih (acc ++ (pathsD p.2).map fun q => tupN (pre ++ [p.1] ++ q)) (.val (.int (p.1 : Int))) (.val p.2) (.inr ⟨_, rfl⟩) (.inr ⟨_, rfl⟩) (fun q hq => hl q (List.mem_cons_of_mem _ hq)) (by simp; omega)
        refine ⟨x', y', ?_⟩
        show loopS _ _ (_ :: pairs l) _ = _
        rw [loopS_cons]
        have ea : fAdd (tupN pre) (.tuple [.int (p.1 : Int)]) = some (.val (tupN (pre ++ [p.1]))) := by
          exact fAdd_nats (by omega)
        simp only [List.append_assoc, List.cons_append, List.nil_append] at e e2
        have ex : fExtend acc (.list ((pathsD p.2).map fun q => tupN (pre ++ p.1 :: q))) = some (.none, acc ++ (pathsD p.2).map fun q => tupN (pre ++ p.1 :: q)) := fExtend_x (by simp; omega)
        simp [fs_G fx, fs_G fy, ea, e, ex]
        rw [e2]
        simp [pathsI, Function.comp_def]
    cases v with
    | list xs =>
      obtain ⟨x', y', e⟩ := loop (idx xs) [tupN pre] .no .no (.inl rfl) (.inl rfl) (fun p hp => by
        have q := kid_facts (B := 0) (d := .list xs) (idx_mem hp).2
        omega) (by rw [pathsI_idx, pathsAll_len]; rw [wt_lst] at hw; simp; omega)
      simp [e]
      simp [pathsD, pathsI_idx]
    | tuple xs =>
      obtain ⟨x', y', e⟩ := loop (idx xs) [tupN pre] .no .no (.inl rfl) (.inl rfl) (fun p hp => by
        have q := kid_facts (B := 0) (d := .tuple xs) (idx_mem hp).2
        omega) (by rw [pathsI_idx, pathsAll_len]; rw [wt_tup] at hw; simp; omega)
      simp [e]
      simp [pathsD, pathsI_idx]
    | _ => simp [pathsD]
theorem cutD_to (ds : List D) (i : Nat) : DL.cutD ds none (some (i : Int)) = ds.take i := by
  unfold DL.cutD
  rw [HT.sIx_nat, HT.sIx_none, List.drop_zero, Nat.sub_zero, ← List.take_eq_take_min]
theorem cutD_from (ds : List D) (i : Nat) : DL.cutD ds (some (i : Int)) none = ds.drop i := by
  unfold DL.cutD
  rw [HT.sIx_nat, HT.sIx_none]
  by_cases h : i ≤ ds.length
  · rw [Nat.min_eq_left h, List.take_of_length_le (by simp)]
  · rw [Nat.min_eq_right (by omega), List.drop_of_length_le (by omega), List.drop_of_length_le (by omega)]
    simp
theorem with_x (part : D) : ∀ (n : Nat) (v : D) (p : List Nat), p ∈ pathsD v → v.depth < n → wt v ≤ 90000 → ∃ r, m__law_with n [.val v, .val (tupN p), .val part] = .ok r [] ∧ r.d = withD v p part
  | 0, v, p, _, h, _ => absurd h (by omega)
  | n + 1, v, [], _, h, hw => by
    have e : withD v [] part = part := by cases v <;> rw [withD]
    refine ⟨.val part, ?_, e.symm⟩
    unfold m__law_with
    have eq : fEq (tupN []) (.tuple []) = some (.val (.bool true)) := rfl
    simp [eq]
  | n + 1, v, i :: p, hp, h, hw => by
    rcases paths_kid hp with hp | ⟨i', q, e, he, h1, h2⟩
    · cases hp
    · cases he
      have k := kid_facts (B := 0) h1
      obtain ⟨r, e1, e2⟩ := with_x part n e p h2 (by omega) (by omega)
      unfold m__law_with
      have q1 : fEq (tupN (i :: p)) (.tuple []) = some (.val (.bool false)) := by
        rw [fEq_x (sh_nats _) sh_nilT]
        rfl
      have q2 : fIx (tupN (i :: p)) (.int 0) = some (.val (.int (i : Int))) := by simp [tupN, nats]
      have q3 : fSl (tupN (i :: p)) (some 1) none = some (.val (tupN p)) := by
        unfold tupN
        rw [fSl_tuple, show (1 : Int) = ((1 : Nat) : Int) from rfl, cutD_from]
        rfl
      have q4 : ∀ xs : List D, xs[i]? = some e → atI xs (i : Int) = some e := fun xs hx => L2.atI_nat hx
      have q5 : ∀ xs : List D, DL.cutD xs (some ((i : Int) + 1)) none = xs.drop (i + 1) := fun xs => cutD_from xs (i + 1)
      have ln : ∀ xs : List D, wtAll xs ≤ 90000 → xs.length ≤ 90000 := fun xs hx => Nat.le_trans (wtAll_len xs) hx
      have q6 : kVar 4 [Slot.val v, Slot.val (tupN (i :: p)), Slot.val part, Slot.val (.int (i : Int)), r.slot] (some r.slot) = .ok (.val r.d) [Slot.val v, Slot.val (tupN (i :: p)), Slot.val part, Slot.val (.int (i : Int)), .val r.d] := by cases r <;> rfl
      cases v with
      | tuple xs =>
        have hx : xs[i]? = some e := h1
        have hl := ln xs (by rw [wt_tup] at hw; omega)
        refine ⟨.val (withD (.tuple xs) (i :: p) part), ?_, rfl⟩
        have a1 : fAdd (.tuple (xs.take i)) (.tuple [r.d]) = some (.val (.tuple (xs.take i ++ [r.d]))) := fAdd_tup (by simp; omega)
        have a2 : fAdd (.tuple (xs.take i ++ [r.d])) (.tuple (xs.drop (i + 1))) = some (.val (.tuple (xs.take i ++ [r.d] ++ xs.drop (i + 1)))) := fAdd_tup (by simp; omega)
        simp [q1, q2, q3, q4 xs hx, e1, q6, cutD_to, q5, a1, a2]
        rw [withD, hx, Option.getD_some, e2]
        simp
      | list xs =>
        have hx : xs[i]? = some e := h1
        have hl := ln xs (by rw [wt_lst] at hw; omega)
        refine ⟨.new (xs.take i ++ [r.d] ++ xs.drop (i + 1)), ?_, ?_⟩
        · have a1 : fAdd (.list (xs.take i)) (.list [r.d]) = some (.new (xs.take i ++ [r.d])) := fAdd_lst (by simp; omega)
          have a2 : fAdd (.list (xs.take i ++ [r.d])) (.list (xs.drop (i + 1))) = some (.new (xs.take i ++ [r.d] ++ xs.drop (i + 1))) := fAdd_lst (by simp; omega)
          simp [q1, q2, q3, q4 xs hx, e1, q6, cutD_to, q5, a1, a2]
        · rw [withD, hx, Option.getD_some, e2]
          rfl
      | _ => cases h1

theorem kid_ix {d e : D} {i : Nat} (h : (kids d)[i]? = some e) : fIx d (.int (i : Int)) = some (.val e) := by
  cases d with
  | list xs => rw [fIx_lst, L2.atI_nat (show xs[i]? = some e from h)]; rfl
  | tuple xs => rw [fIx_tup, L2.atI_nat (show xs[i]? = some e from h)]; rfl
  | _ => cases h
theorem old_loop {s0 s1 s2 s5 : Slot} {e : D} : ∀ (p : List Nat) (old : D) (y : Slot), free y → getAt old p = some e →
    ∃ y', free y' ∧ loopS (gSet 4) (mAsg 3 (mOp fIx (mVar 3) (mVar 4))) (nats p) [s0, s1, s2, .val old, y, s5] = .nx [s0, s1, s2, .val e, y', s5]
  | [], old, y, fy, h => by cases h; exact ⟨y, fy, rfl⟩
  | i :: p, old, y, fy, h => by
    rw [getAt] at h
    cases hk : (kids old)[i]? with
    | none => rw [hk] at h; cases h
    | some k =>
      rw [hk] at h
      obtain ⟨y', fy', q⟩ := old_loop (s0 := s0) (s1 := s1) (s2 := s2) (s5 := s5) p k (.val (.int (i : Int))) (.inr ⟨_, rfl⟩) h
      refine ⟨y', fy', ?_⟩
      show loopS _ _ (_ :: nats p) _ = _
      rw [loopS_cons, ← q]
      simp [fs_G fy, kid_ix hk]
theorem ints_str : ((List.range 41).all fun k => strNice ((toString ((k : Int) - 20) : String) : Str)) = true := by decide +kernel
theorem int_str {i : Int} (h : i.natAbs ≤ 20) : strNice ((toString i : String) : Str) = true := by
  have q := List.all_eq_true.mp ints_str (i + 20).toNat (List.mem_range.mpr (by omega))
  have e : (((i + 20).toNat : Int) - 20) = i := by omega
  rw [e] at q
  exact q
def okPart (B W K : Nat) (d : D) : Prop := nice B d = true ∧ wt d ≤ W ∧ d.depth ≤ K
theorem cut_sub (ds : List D) (lo hi : Option Int) : (DL.cutD ds lo hi).Sublist ds := (List.take_sublist _ _).trans (List.drop_sublist _ _)
theorem okP_seq {B W K : Nat} {ds es : List D} (h : ∀ d ∈ es, d ∈ ds) (hn : ∀ d ∈ ds, nice B d = true) (hw : wtAll es + 1 ≤ W) (hk : ∀ d ∈ ds, d.depth ≤ K) : okPart B W (K + 1) (.list es) ∧ okPart B W (K + 1) (.tuple es) :=
  ⟨⟨nice_lst.mpr fun d hd => hn d (h d hd), by rw [wt_lst]; exact hw, dpl.mpr fun d hd => hk d (h d hd)⟩, ⟨nice_tup.mpr fun d hd => hn d (h d hd), by rw [wt_tup]; exact hw, dpt.mpr fun d hd => hk d (h d hd)⟩⟩
/-- what stands in the place of a part -/
theorem parts_x {B : Nat} {q : Int × Int} {v e : D} {p : List Nat} {y : Slot} (fy : free y) (hn : nice B e = true) (hB : B ≤ 19) (hw : wt e ≤ 40000) :
    ∃ L, (mIfS (mB (mIsi ["tuple", "list"] (mVar 3))) (mAsg 5 (mCall fLst (mACons (mIf (mB (mIsi ["tuple"] (mVar 3))) (mCall (f1 fList) (mACons (mVar 3) (mANil))) (mCall (f1 fTuple) (mACons (mVar 3) (mANil)))) (mACons (mSl (mVar 3) none (some (mUn fNeg (mC (.int 1))))) (mACons (mOp fAdd (mVar 3) (mSl (mVar 3) (some (mUn fNeg (mC (.int 1)))) none)) (mACons (mOp fAdd (mVar 3) (mVar 3)) (mACons (mCall fTup (mANil)) (mACons (mC .none) (mACons (mUn fRev (mVar 3)) (mACons (mC (.int 1)) (mANil))))))))))) (mIfS (mB (mIsi ["bool"] (mVar 3))) (mAsg 5 (mCall fLst (mACons (mNot (mVar 3)) (mACons (mCall (f1 fInt) (mACons (mVar 3) (mANil))) (mACons (mC .none) (mACons (mC (.str "True")) (mANil))))))) (mIfS (mB (mIsi ["int"] (mVar 3))) (mAsg 5 (mCall fLst (mACons (mOp fAdd (mVar 3) (mC (.int 1))) (mACons (mOp fSub (mVar 3) (mC (.int 1))) (mACons (mOp fSub (mC (.int 0)) (mVar 3)) (mACons (mC (.bool true)) (mACons (mC (.bool false)) (mACons (mC .none) (mACons (mC (.int 10)) (mACons (mC (.int 9)) (mACons (mC (.int 0)) (mACons (mCall fTup (mACons (mVar 3) (mANil))) (mACons (mCall (f1 fStrI) (mACons (mVar 3) (mANil))) (mANil)))))))))))))) (mIfS (mB (mIsi ["str"] (mVar 3))) (mAsg 5 (mCall fLst (mACons (mC (.str "fact")) (mACons (mC (.str "issue")) (mACons (mC (.str "Book")) (mACons (mC (.str "")) (mACons (mC .none) (mACons (mCall fTup (mACons (mC (.str "fact")) (mANil))) (mANil))))))))) (mAsg 5 (mCall fLst (mACons (mC (.int 0)) (mACons (mC (.bool false)) (mACons (mCall fTup (mANil)) (mACons (mC (.str "None")) (mANil)))))))))) ) [.io 0 (pot q), .val v, .val (tupN p), .val e, y, .no] = .nx [.io 0 (pot q), .val v, .val (tupN p), .val e, y, .own L] ∧ L ≠ [] ∧ L.length ≤ 100 ∧ ∀ d ∈ L, okPart (max (B + 1) 10) (2 * wt e + 1) (max e.depth 1) d := by
  have c0 : ∀ d : D, wt d = 1 → d.depth = 0 → nice (max (B + 1) 10) d = true → okPart (max (B + 1) 10) (2 * wt e + 1) (max e.depth 1) d := fun d h1 h2 h3 => ⟨h3, by have := wt_pos e; omega, by omega⟩
  have l1 : strNice ("fact" : Str) = true := by decide +kernel
  have l2 : strNice ("issue" : Str) = true := by decide +kernel
  have l3 : strNice ("Book" : Str) = true := by decide +kernel
  have l4 : strNice ("" : Str) = true := by decide +kernel
  have l5 : strNice ("True" : Str) = true := by decide +kernel
  have l6 : strNice ("None" : Str) = true := by decide +kernel
  cases e with
  | int i =>
    have hi : i.natAbs ≤ B := by simpa [nice] using hn
    have hs : fStrI (.int i) = some (.val (.str (toString i : String))) := if_pos (by
      have : i.natAbs < 2 ^ 1920 := Nat.lt_of_le_of_lt (show i.natAbs ≤ 1000 by omega) (by decide)
      rcases Nat.eq_zero_or_pos i.natAbs with z | z
      · rw [z]; decide
      · exact (Nat.log2_lt (by omega)).mpr this)
    have hf : ∀ a b c d x1 x2 x3 x4 x5 x6 x7 : D, fLst [a, b, c, d, x1, x2, x3, x4, x5, x6, x7] = some (.new [a, b, c, d, x1, x2, x3, x4, x5, x6, x7]) := fun _ _ _ _ _ _ _ _ _ _ _ => rfl
    refine ⟨[.int (i + 1), .int (i - 1), .int (0 - i), .bool true, .bool false, .none, .int 10, .int 9, .int 0, .tuple [.int i], .str (toString i : String)], by simp [hs, hf], by simp, by simp, fun d hd => ?_⟩
    simp only [List.mem_cons, List.not_mem_nil, or_false] at hd
    rcases hd with rfl | rfl | rfl | rfl | rfl | rfl | rfl | rfl | rfl | rfl | rfl
    · exact c0 _ (by rw [wt]) (by rw [PyData.depth]) (by rw [nice]; exact decide_eq_true (by omega))
    · exact c0 _ (by rw [wt]) (by rw [PyData.depth]) (by rw [nice]; exact decide_eq_true (by omega))
    · exact c0 _ (by rw [wt]) (by rw [PyData.depth]) (by rw [nice]; exact decide_eq_true (by omega))
    · exact c0 _ (by rw [wt]) (by rw [PyData.depth]) (by rw [nice])
    · exact c0 _ (by rw [wt]) (by rw [PyData.depth]) (by rw [nice])
    · exact c0 _ (by rw [wt]) (by rw [PyData.depth]) (by rw [nice])
    · exact c0 _ (by rw [wt]) (by rw [PyData.depth]) (by rw [nice]; exact decide_eq_true (by omega))
    · exact c0 _ (by rw [wt]) (by rw [PyData.depth]) (by rw [nice]; exact decide_eq_true (by omega))
    · exact c0 _ (by rw [wt]) (by rw [PyData.depth]) (by rw [nice]; exact decide_eq_true (by omega))
    · refine ⟨nice_tup.mpr fun d hd => ?_, by simp [wt, wtAll], by simp [PyData.depth, PyData.depthAll]⟩
      rw [List.mem_singleton.mp hd, nice]
      exact decide_eq_true (by omega)
    · exact c0 _ (by rw [wt]) (by rw [PyData.depth]) (by rw [nice]; exact int_str (by omega))
  | bool b =>
    refine ⟨[.bool (!b), .int (if b then 1 else 0), .none, .str "True"], by simp, by simp, by simp, fun d hd => ?_⟩
    simp only [List.mem_cons, List.not_mem_nil, or_false] at hd
    rcases hd with rfl | rfl | rfl | rfl
    · exact c0 _ (by rw [wt]) (by rw [PyData.depth]) (by rw [nice])
    · exact c0 _ (by rw [wt]) (by rw [PyData.depth]) (by rw [nice]; cases b <;> exact decide_eq_true (by simp; try omega))
    · exact c0 _ (by rw [wt]) (by rw [PyData.depth]) (by rw [nice])
    · exact c0 _ (by rw [wt]) (by rw [PyData.depth]) (by rw [nice]; exact l5)
  | str s =>
    refine ⟨[.str "fact", .str "issue", .str "Book", .str "", .none, .tuple [.str "fact"]], by simp, by simp, by simp, fun d hd => ?_⟩
    simp only [List.mem_cons, List.not_mem_nil, or_false] at hd
    rcases hd with rfl | rfl | rfl | rfl | rfl | rfl
    · exact c0 _ (by rw [wt]) (by rw [PyData.depth]) (by rw [nice]; exact l1)
    · exact c0 _ (by rw [wt]) (by rw [PyData.depth]) (by rw [nice]; exact l2)
    · exact c0 _ (by rw [wt]) (by rw [PyData.depth]) (by rw [nice]; exact l3)
    · exact c0 _ (by rw [wt]) (by rw [PyData.depth]) (by rw [nice]; exact l4)
    · exact c0 _ (by rw [wt]) (by rw [PyData.depth]) (by rw [nice])
    · refine ⟨nice_tup.mpr fun d hd => ?_, by simp [wt, wtAll], by simp [PyData.depth, PyData.depthAll]⟩
      rw [List.mem_singleton.mp hd, nice]
      exact l1
  | none =>
    refine ⟨[.int 0, .bool false, .tuple [], .str "None"], by simp, by simp, by simp, fun d hd => ?_⟩
    simp only [List.mem_cons, List.not_mem_nil, or_false] at hd
    rcases hd with rfl | rfl | rfl | rfl
    · exact c0 _ (by rw [wt]) (by rw [PyData.depth]) (by rw [nice]; exact decide_eq_true (by simp))
    · exact c0 _ (by rw [wt]) (by rw [PyData.depth]) (by rw [nice])
    · exact ⟨nice_tup.mpr fun d hd => (by cases hd), by simp [wt, wtAll], by simp [PyData.depth, PyData.depthAll]⟩
    · exact c0 _ (by rw [wt]) (by rw [PyData.depth]) (by rw [nice]; exact l6)
  | dict _ => simp [nice] at hn
  | list ds =>
    have hds := nice_lst.mp (nice_mono (by omega : B ≤ max (B + 1) 10) _ hn)
    rw [wt_lst] at hw
    have hlen : ds.length ≤ 40000 := Nat.le_trans (wtAll_len ds) (by omega)
    have hk : ∀ d ∈ ds, d.depth ≤ PyData.depthAll ds := depthAll_le.mp (Nat.le_refl _)
    have hdep : (PyData.list ds).depth = PyData.depthAll ds + 1 := by rw [PyData.depth]
    have s1 := cut_sub ds none (some (-1))
    have s2 := cut_sub ds (some (-1)) none
    have a1 : fAdd (.list ds) (.list (DL.cutD ds (some (-1)) none)) = some (.new (ds ++ DL.cutD ds (some (-1)) none)) := fAdd_lst (by have := s2.length_le; omega)
    have a2 : fAdd (.list ds) (.list ds) = some (.new (ds ++ ds)) := fAdd_lst (by omega)
    have hf : ∀ a b c d x1 x2 x3 x4 : D, fLst [a, b, c, d, x1, x2, x3, x4] = some (.new [a, b, c, d, x1, x2, x3, x4]) := fun _ _ _ _ _ _ _ _ => rfl
    have sq := fun es h hw => okP_seq (B := max (B + 1) 10) (W := 2 * wt (.list ds) + 1) (K := PyData.depthAll ds) (ds := ds) (es := es) h hds hw hk
    have e0 : max (PyData.list ds).depth 1 = PyData.depthAll ds + 1 := by rw [hdep]; omega
    rw [e0]
    have w2 : wtAll (DL.cutD ds (some (-1)) none) ≤ wtAll ds := wtAll_sub s2
    have w1 : wtAll (DL.cutD ds none (some (-1))) ≤ wtAll ds := wtAll_sub s1
    have q0 := sq ds (fun _ h => h) (by rw [wt_lst]; omega)
    have q1 := sq (DL.cutD ds none (some (-1))) (fun _ h => s1.subset h) (by rw [wt_lst]; omega)
    have q2 := sq (ds ++ DL.cutD ds (some (-1)) none) (fun _ h => (List.mem_append.mp h).elim id fun h => s2.subset h) (by rw [wt_lst, wtAll_app]; omega)
    have q3 := sq (ds ++ ds) (fun _ h => (List.mem_append.mp h).elim id id) (by rw [wt_lst, wtAll_app]; omega)
    have q4 := sq ds.reverse (fun _ h => List.mem_reverse.mp h) (by rw [wt_lst, wtAll_rev]; omega)
    refine ⟨[.tuple ds, .list (DL.cutD ds none (some (-1))), .list (ds ++ DL.cutD ds (some (-1)) none), .list (ds ++ ds), .tuple [], .none, .list ds.reverse, .int 1], by simp [a1, a2, hf], by simp, by simp, fun d hd => ?_⟩
    simp only [List.mem_cons, List.not_mem_nil, or_false] at hd
    rcases hd with rfl | rfl | rfl | rfl | rfl | rfl | rfl | rfl
    · exact q0.2
    · exact q1.1
    · exact q2.1
    · exact q3.1
    · exact ⟨nice_tup.mpr fun d hd => (by cases hd), by simp [wt, wtAll], by simp [PyData.depth, PyData.depthAll]⟩
    · exact ⟨by rw [nice], by rw [wt.eq_def .none]; simp only []; omega, by rw [PyData.depth.eq_def .none]; simp⟩
    · exact q4.1
    · exact ⟨by rw [nice]; exact decide_eq_true (by show 1 ≤ _; omega), by rw [wt.eq_def (.int 1)]; simp only []; omega, by rw [PyData.depth.eq_def (.int 1)]; simp⟩
  | tuple ds =>
    have hds := nice_tup.mp (nice_mono (by omega : B ≤ max (B + 1) 10) _ hn)
    rw [wt_tup] at hw
    have hlen : ds.length ≤ 40000 := Nat.le_trans (wtAll_len ds) (by omega)
    have hk : ∀ d ∈ ds, d.depth ≤ PyData.depthAll ds := depthAll_le.mp (Nat.le_refl _)
    have hdep : (PyData.tuple ds).depth = PyData.depthAll ds + 1 := by rw [PyData.depth]
    have s1 := cut_sub ds none (some (-1))
    have s2 := cut_sub ds (some (-1)) none
    have a1 : fAdd (.tuple ds) (.tuple (DL.cutD ds (some (-1)) none)) = some (.val (.tuple (ds ++ DL.cutD ds (some (-1)) none))) := fAdd_tup (by have := s2.length_le; omega)
    have a2 : fAdd (.tuple ds) (.tuple ds) = some (.val (.tuple (ds ++ ds))) := fAdd_tup (by omega)
    have hf : ∀ a b c d x1 x2 x3 x4 : D, fLst [a, b, c, d, x1, x2, x3, x4] = some (.new [a, b, c, d, x1, x2, x3, x4]) := fun _ _ _ _ _ _ _ _ => rfl
    have sq := fun es h hw => okP_seq (B := max (B + 1) 10) (W := 2 * wt (.tuple ds) + 1) (K := PyData.depthAll ds) (ds := ds) (es := es) h hds hw hk
    have e0 : max (PyData.tuple ds).depth 1 = PyData.depthAll ds + 1 := by rw [hdep]; omega
    rw [e0]
    have w2 : wtAll (DL.cutD ds (some (-1)) none) ≤ wtAll ds := wtAll_sub s2
    have w1 : wtAll (DL.cutD ds none (some (-1))) ≤ wtAll ds := wtAll_sub s1
    have q0 := sq ds (fun _ h => h) (by rw [wt_tup]; omega)
    have q1 := sq (DL.cutD ds none (some (-1))) (fun _ h => s1.subset h) (by rw [wt_tup]; omega)
    have q2 := sq (ds ++ DL.cutD ds (some (-1)) none) (fun _ h => (List.mem_append.mp h).elim id fun h => s2.subset h) (by rw [wt_tup, wtAll_app]; omega)
    have q3 := sq (ds ++ ds) (fun _ h => (List.mem_append.mp h).elim id id) (by rw [wt_tup, wtAll_app]; omega)
    have q4 := sq ds.reverse (fun _ h => List.mem_reverse.mp h) (by rw [wt_tup, wtAll_rev]; omega)
    refine ⟨[.list ds, .tuple (DL.cutD ds none (some (-1))), .tuple (ds ++ DL.cutD ds (some (-1)) none), .tuple (ds ++ ds), .tuple [], .none, .tuple ds.reverse, .int 1], by simp [a1, a2, hf], by simp, by simp, fun d hd => ?_⟩
    simp only [List.mem_cons, List.not_mem_nil, or_false] at hd
    rcases hd with rfl | rfl | rfl | rfl | rfl | rfl | rfl | rfl
    · exact q0.1
    · exact q1.2
    · exact q2.2
    · exact q3.2
    · exact ⟨nice_tup.mpr fun d hd => (by cases hd), by simp [wt, wtAll], by simp [PyData.depth, PyData.depthAll]⟩
    · exact ⟨by rw [nice], by rw [wt.eq_def .none]; simp only []; omega, by rw [PyData.depth.eq_def .none]; simp⟩
    · exact q4.2
    · exact ⟨by rw [nice]; exact decide_eq_true (by show 1 ≤ _; omega), by rw [wt.eq_def (.int 1)]; simp only []; omega, by rw [PyData.depth.eq_def (.int 1)]; simp⟩
/-- a part is bent -/
theorem bent_x {B : Nat} (q : Int × Int) (v : D) (hn : nice B v = true) (hB : B ≤ 19) (hw : wt v ≤ 30000) (hk : v.depth ≤ 11) :
    ∃ r q', m__law_bent [.io (pot q), .val v] = .ok r [pot q'] ∧ okPart (max (B + 1) 10) (3 * wt v + 1) (v.depth + max v.depth 1) r.d := by
  have hp := paths_x 12 v [] (by omega) (by simp) (by omega)
  have hne : ((pathsD v).map fun p => tupN ([] ++ p)) ≠ [] := by
    intro z
    have q := congrArg List.length z
    rw [List.length_map, paths_len] at q
    have := wt_pos v
    simp at q
    omega
  obtain ⟨pd, q1, hpm, e1⟩ := pick_x q ((pathsD v).map fun p => tupN ([] ++ p)) hne (by rw [List.length_map, paths_len]; omega)
  obtain ⟨p, hpp, rfl⟩ := List.mem_map.mp hpm
  rw [List.nil_append] at e1
  obtain ⟨e, g1, g2, g3, g4⟩ := paths_get (B := B) p v hpp
  obtain ⟨y', fy', e2⟩ := old_loop (s0 := .io 0 (pot q1)) (s1 := .val v) (s2 := .val (tupN p)) (s5 := .no) p v .no (.inl rfl) g1
  obtain ⟨L, e3, hL, hl, hP⟩ := parts_x (B := B) (q := q1) (v := v) (e := e) (p := p) fy' (g2 hn) hB (by omega)
  obtain ⟨part, q2, hm, e4⟩ := pick_x q1 L hL (by omega)
  obtain ⟨r, e5, e6⟩ := with_x part 12 v p hpp (by omega) (by omega)
  have hq := hP part hm
  obtain ⟨w1, w2, w3⟩ := with_facts (B := max (B + 1) 10) (part := part) p v hpp
  have hd : e.depth ≤ v.depth := by omega
  refine ⟨r, q2, ?_, ?_⟩
  · have e0 : tupN [] = .tuple [] := rfl
    rw [e0] at hp
    simp only [List.nil_append] at hp e1
    have hs : seqOf (tupN p) = some (nats p) := rfl
    unfold m__law_bent b__law_bent
    simp [hp, e1, hs, e2, -mIfS_x]
    rw [e3]
    simp [e4, e5]
  · rw [e6]
    exact ⟨w1 (nice_mono (by omega) _ hn) hq.1, by have := hq.2.1; omega, by have := hq.2.2; omega⟩
end K

set_option maxRecDepth 100000
set_option maxHeartbeats 400000
namespace K
open PySem PySem.Spec PyProof.Rows L2 DL
/-! plain: drawn books -/
def rowOk (d : D) : Prop := nice 10 d = true ∧ wt d ≤ 4 ∧ d.depth ≤ 1 ∧ ok0 d
theorem rowOk_of {s : Str} {i z : Int} (hs : strNice s = true) (hi : i.natAbs ≤ 10) (hz : z.natAbs ≤ 10) : rowOk (.tuple [.str s, .int i, .int z]) := by
  have hs' : PyData.strOk s = true := by
    unfold strNice at hs
    simp only [Bool.and_eq_true] at hs
    exact hs.1.1
  refine ⟨nice_tup.mpr fun d hd => ?_, by simp [wt, wtAll], by simp [PyData.depth, PyData.depthAll], by simp [hs']⟩
  simp only [List.mem_cons, List.not_mem_nil, or_false] at hd
  rcases hd with rfl | rfl | rfl
  · rw [nice]; exact hs
  · rw [nice]; exact decide_eq_true hi
  · rw [nice]; exact decide_eq_true hz
theorem nF : strNice ("fact" : Str) = true := by decide +kernel
theorem nI : strNice ("issue" : Str) = true := by decide +kernel
theorem rows_sh {l : List D} (h : ∀ d ∈ l, rowOk d) : shaped (.list l) = true :=
  sh_of (ok0_lst.mpr fun d hd => (h d hd).2.2.2) (Nat.le_trans (dpl.mpr fun d hd => (h d hd).2.2.1) (by omega))
theorem issue_x (q : Int × Int) (facts issue issues : Int) (h1 : 1 ≤ facts) (h2 : facts ≤ 3) (h3 : 0 ≤ issue) (h4 : issue ≤ 3) (h5 : issues ≤ 3) (h6 : 0 ≤ issues) :
    ∃ gs q', m__law_issue [.io (pot q), .val (.int facts), .val (.int issue), .val (.int issues), .val (.int 8)] = .ok (.val (.tuple gs)) [pot q'] ∧ gs.length ≤ 8 ∧ ∀ g ∈ gs, rowOk g := by
  unfold m__law_issue b__law_issue
  obtain ⟨L1, q1, e1, l1, r1⟩ := lc_stR (mi := mWA wRng1 (mACons (mVar 1) mANil)) (g := gSet 8) (mt := mB (mOp (fC fun i j => decide (i > j)) (mFun 2 (m__law_draw) (mAIo 0 (mACons (mC (.int 3)) (mANil)))) (mC (.int 0)))) (me := mCall fTup (mACons (mC (.str "fact")) (mACons (mVar 8) (mACons (mFun 2 (m__law_draw) (mAIo 0 (mACons (mC (.int 2)) (mANil)))) (mANil))))) (vs := [8])
    (ρ := [.io 0 (pot q), .val (.int facts), .val (.int issue), .val (.int issues), .val (.int 8), .no, .no, .no, .no, .no])
    (fun q : Int × Int => [.io 0 (pot q), .val (.int facts), .val (.int issue), .val (.int issues), .val (.int 8), .no, .no, .no, .no, .no]) q rowOk ((List.range facts.toNat).map fun (i : Nat) => .int (i : Int)) _ (by simp [wRng1_x (z := facts) (by omega)]; rfl) (by simp; omega) (by simp)
    (fun d hd s => by
      obtain ⟨i, hi, rfl⟩ := List.mem_map.mp hd
      have hi' := List.mem_range.mp hi
      obtain ⟨k, s1, k0, k1, d1⟩ := draw_x s 3 (by omega) (by omega)
      by_cases hk : k > 0
      · obtain ⟨z, s2, z0, z1, d2⟩ := draw_x s1 2 (by omega) (by omega)
        exact ⟨s2, some (.tuple [.str "fact", .int (i : Int), .int z]), _, by simp [lcS, d1, hk, d2]; rfl, by simp, fun x hx => by cases hx; exact rowOk_of nF (by omega) (by omega)⟩
      · exact ⟨s1, none, _, by simp [lcS, d1, hk]; rfl, by simp, fun x hx => by cases hx⟩)
  obtain ⟨L2, q2, e2, l2, r2⟩ := lc_stR (mi := mWA wRng2 (mACons (mOp fAdd (mVar 2) (mC (.int 1))) (mACons (mVar 3) mANil))) (g := gSet 9) (mt := mB (mOp (fC fun i j => decide (i > j)) (mFun 2 (m__law_draw) (mAIo 0 (mACons (mC (.int 3)) (mANil)))) (mC (.int 0)))) (me := mCall fTup (mACons (mC (.str "issue")) (mACons (mVar 9) (mACons (mFun 2 (m__law_pick) (mAIo 0 (mACons (mCall fLst (mACons (mC (.int 1)) (mACons (mC (.int 1)) (mACons (mC (.int 0)) (mANil))))) (mANil)))) (mANil))))) (vs := [9])
    (ρ := [.io 0 (pot q1), .val (.int facts), .val (.int issue), .val (.int issues), .val (.int 8), .val (.list L1), .no, .no, .no, .no])
    (fun q : Int × Int => [.io 0 (pot q), .val (.int facts), .val (.int issue), .val (.int issues), .val (.int 8), .val (.list L1), .no, .no, .no, .no]) q1 rowOk ((List.range (issues - (issue + 1)).toNat).map fun (i : Nat) => .int (issue + 1 + (i : Int))) _ (by simp [wRng2_x (y := issue + 1) (z := issues) (by omega)]; rfl) (by simp; omega) (by simp)
    (fun d hd s => by
      obtain ⟨i, hi, rfl⟩ := List.mem_map.mp hd
      have hi' := List.mem_range.mp hi
      obtain ⟨k, s1, k0, k1, d1⟩ := draw_x s 3 (by omega) (by omega)
      by_cases hk : k > 0
      · obtain ⟨z, s2, z0, d2⟩ := pick_x s1 [.int 1, .int 1, .int 0] (by simp) (by simp)
        have hz : ∃ y : Int, z = .int y ∧ y.natAbs ≤ 10 := by
          simp only [List.mem_cons, List.not_mem_nil, or_false] at z0
          rcases z0 with rfl | rfl | rfl <;> exact ⟨_, rfl, by decide⟩
        obtain ⟨y, rfl, hy⟩ := hz
        exact ⟨s2, some (.tuple [.str "issue", .int (issue + 1 + (i : Int)), .int y]), _, by simp [lcS, d1, hk, d2]; rfl, by simp, fun x hx => by cases hx; exact rowOk_of nI (by omega) hy⟩
      · exact ⟨s1, none, _, by simp [lcS, d1, hk]; rfl, by simp, fun x hx => by cases hx⟩)
  simp at e1 e2 l1 l2
  have hadd : fAdd (.list L1) (.list L2) = some (.new (L1 ++ L2)) := fAdd_lst (by omega)
  have r12 : ∀ d ∈ L1 ++ L2, rowOk d := fun d hd => (List.mem_append.mp hd).elim (r1 d) (r2 d)
  -- what is left: the rows in some order
  have rest : ∀ (q0 q : Int × Int) (L : List D) (s5 : Slot), (s5 = .own L ∨ s5 = .val (.list L)) → (∀ d ∈ L, rowOk d) → L.length ≤ 100 → ∃ gs q', kDef [Arg.io (pot q0), Arg.val (.int facts), Arg.val (.int issue), Arg.val (.int issues), Arg.val (.int 8)]
      (mSeq (mPar 6 7 (mSl (mVar 5) none (some (mVar 4))) (mCall fLst (mANil))) (mSeq (whileF (mB (mPkL 6 fNe (mCall fLst (mANil)))) (mDrop (mMeth 7 fAppend (mMeth 6 fPopAt (mFun 2 (m__law_draw) (mAIo 0 (mACons (mPkU 6 fLen) (mANil))))))) 100000) (mRet (mCall (f1 fTuple) (mACons (mVar 7) (mANil)))))
        [.io 0 (pot q), .val (.int facts), .val (.int issue), .val (.int issues), .val (.int 8), s5, .no, .no, .no, .no]) = .ok (.val (.tuple gs)) [pot q'] ∧ gs.length ≤ 8 ∧ ∀ g ∈ gs, rowOk g := by
    intro q0 q L s5 h5s hL hlen
    have hc : DL.cutD L none (some 8) = L.take 8 := cutD_to L 8
    obtain ⟨ρ', w1, w2⟩ := while_nx (mc := mB (mPkL 6 fNe (mCall fLst (mANil)))) (m1 := mDrop (mMeth 7 fAppend (mMeth 6 fPopAt (mFun 2 (m__law_draw) (mAIo 0 (mACons (mPkU 6 fLen) (mANil)))))))
      (I := fun n ρ => ∃ q left found, ρ = [.io 0 (pot q), .val (.int facts), .val (.int issue), .val (.int issues), .val (.int 8), .val (.list L), .own left, .own found, .no, .no] ∧ left.length = n ∧ left.length + found.length ≤ 8 ∧ (∀ d ∈ left, rowOk d) ∧ ∀ d ∈ found, rowOk d)
      (fun n ρ hI => by
        obtain ⟨q, left, found, rfl, hn, hs, hl, hf⟩ := hI
        cases left with
        | nil => exact .inl ⟨_, by simp [fNe_nilL (rows_sh hl)] <;> rfl, ⟨q, [], found, rfl, rfl, hs, hl, hf⟩, hn.symm⟩
        | cons x left =>
          obtain ⟨k, q', k0, k1, d1⟩ := draw_x q (x :: left).length (by simp <;> omega) (by simp at hs ⊢; omega)
          have hk : k.toNat < (x :: left).length := by omega
          have hp : fPopAt (x :: left) (.int k) = some ((x :: left)[k.toNat], (x :: left).eraseIdx k.toNat) := by
            unfold fPopAt
            dsimp only
            rw [if_pos ⟨k0, hk, by simp at hs ⊢; omega⟩, List.getElem?_eq_getElem hk]
            rfl
          have hfl : found.length < 100000 := by omega
          refine .inr ⟨((x :: left).eraseIdx k.toNat).length, _, _, ?_, by simp [fNe_nilL (rows_sh hl)]; rfl, by simp at d1; simp [d1, hp, fAppend_x hfl], q', (x :: left).eraseIdx k.toNat, found ++ [(x :: left)[k.toNat]], rfl, rfl, ?_, fun d hd => hl d (List.mem_of_mem_eraseIdx hd), fun d hd => ?_⟩
          · rw [List.length_eraseIdx_of_lt hk]; simp at hn ⊢; omega
          · rw [List.length_eraseIdx_of_lt hk]; simp at hs ⊢; omega
          · rcases List.mem_append.mp hd with hd | hd
            · exact hf d hd
            · rw [List.mem_singleton.mp hd]; exact hl _ (List.getElem_mem _)) (L.take 8).length
      [.io 0 (pot q), .val (.int facts), .val (.int issue), .val (.int issues), .val (.int 8), .val (.list L), .own (L.take 8), .own [], .no, .no] 100000 ⟨q, L.take 8, [], rfl, rfl, by simp <;> omega, fun d hd => hL d (List.mem_of_mem_take hd), fun d hd => by cases hd⟩ (by simp <;> omega)
    obtain ⟨q', left, found, rfl, hn, hs, hl, hf⟩ := w2
    refine ⟨found, q', ?_, by omega, hf⟩
    rcases h5s with rfl | rfl <;> simp [hc, w1]
  cases hE : (L1 ++ L2).isEmpty
  · obtain ⟨gs, q', e3, g1, g2⟩ := rest q q2 (L1 ++ L2) _ (.inr rfl) r12 (by simp; omega)
    refine ⟨gs, q', ?_, g1, g2⟩
    rw [← e3]
    simp [e1, e2, hadd, fEq_nilL (rows_sh r12), hE, -List.append_eq_nil_iff]
  · obtain ⟨k, q3, k0, k1, d1⟩ := draw_x q2 facts (by omega) (by omega)
    obtain ⟨z, q4, z0, z1, d2⟩ := draw_x q3 2 (by omega) (by omega)
    have hr : rowOk (.tuple [.str "fact", .int k, .int z]) := rowOk_of nF (by omega) (by omega)
    obtain ⟨gs, q', e3, g1, g2⟩ := rest q q4 [.tuple [.str "fact", .int k, .int z]] _ (.inl rfl) (fun d hd => by rw [List.mem_singleton.mp hd]; exact hr) (by simp)
    refine ⟨gs, q', ?_, g1, g2⟩
    rw [← e3]
    simp [e1, e2, hadd, fEq_nilL (rows_sh r12), hE, d1, d2, -List.append_eq_nil_iff]

theorem book_x (q : Int × Int) : ∃ b q', m__law_book [.io (pot q), .val (.int 3), .val (.int 3), .val (.int 3)] = .ok (.val b) [pot q'] ∧ nice 10 b = true ∧ wt b ≤ 200 ∧ b.depth ≤ 4 := by
  unfold m__law_book b__law_book
  obtain ⟨f, q1, f0, f1, d1⟩ := draw_x q 3 (by omega) (by omega)
  obtain ⟨i, q2, i0, i1, d2⟩ := draw_x q1 3 (by omega) (by omega)
  obtain ⟨c, q3, c0, c1, d3⟩ := draw_x q2 3 (by omega) (by omega)
  obtain ⟨M, q4, e1, l1, r1⟩ := lc_stA (mi := mWA wRng1 (mACons (mVar 1) mANil)) (g := gSet 8) (mt := mC (.bool true)) (me := mOp fAdd (mC (.int 1)) (mFun 2 (m__law_draw) (mAIo 0 (mACons (mC (.int 3)) (mANil))))) (vs := [8])
    (ρ := [.io 0 (pot q3), .val (.int (1 + f)), .val (.int (1 + i)), .val (.int (1 + c)), .no, .no, .no, .no, .no, .no])
    (fun q : Int × Int => [.io 0 (pot q), .val (.int (1 + f)), .val (.int (1 + i)), .val (.int (1 + c)), .no, .no, .no, .no, .no, .no]) q3 (fun d => ∃ i : Int, d = .int i ∧ i.natAbs ≤ 10) ((List.range (1 + f).toNat).map fun (i : Nat) => .int (i : Int)) _ (by simp [wRng1_x (z := 1 + f) (by omega)]; rfl) (by simp; omega) (by simp)
    (fun d hd s => by
      obtain ⟨k, s1, k0, k1, dd⟩ := draw_x s 3 (by omega) (by omega)
      exact ⟨s1, .int (1 + k), _, by simp [lcS, dd]; rfl, by simp, _, rfl, by omega⟩)
  obtain ⟨R, q5, e2, l2, r2⟩ := lc_stA (mi := mWA wRng1 (mACons (mVar 2) mANil)) (g := gSet 9) (mt := mC (.bool true)) (me := mFun 5 (m__law_issue) (mAIo 0 (mACons (mVar 1) (mACons (mVar 9) (mACons (mVar 2) (mACons (mC (.int 8)) (mANil))))))) (vs := [9])
    (ρ := [.io 0 (pot q4), .val (.int (1 + f)), .val (.int (1 + i)), .val (.int (1 + c)), .val (.tuple M), .no, .no, .no, .no, .no])
    (fun q : Int × Int => [.io 0 (pot q), .val (.int (1 + f)), .val (.int (1 + i)), .val (.int (1 + c)), .val (.tuple M), .no, .no, .no, .no, .no]) q4 (fun d => ∃ gs, d = .tuple gs ∧ gs.length ≤ 8 ∧ ∀ g ∈ gs, rowOk g) ((List.range (1 + i).toNat).map fun (i : Nat) => .int (i : Int)) _ (by simp [wRng1_x (z := 1 + i) (by omega)]; rfl) (by simp; omega) (by simp)
    (fun d hd s => by
      obtain ⟨j, hj, rfl⟩ := List.mem_map.mp hd
      have hj' := List.mem_range.mp hj
      obtain ⟨gs, s1, dd, g1, g2⟩ := issue_x s (1 + f) j (1 + i) (by omega) (by omega) (by omega) (by omega) (by omega) (by omega)
      exact ⟨s1, .tuple gs, _, by simp [lcS, dd]; rfl, by simp, gs, rfl, g1, g2⟩)
  obtain ⟨b0, q6, _, _, d6⟩ := draw_x q5 3 (by omega) (by omega)
  obtain ⟨ρ', e3, h3⟩ := loop_nx (m1 := mDrop (mMeth 6 fAppend (mCall fTup (mACons (mFun 2 (m__law_draw) (mAIo 0 (mACons (mVar 7) (mANil)))) (mACons (mOp fEq (mFun 2 (m__law_draw) (mAIo 0 (mACons (mC (.int 2)) (mANil)))) (mC (.int 0))) (mANil)))))) (g := gSet 7)
    (fun pre post ρ => (∀ d ∈ post, ∃ k : Int, d = .int k ∧ 1 ≤ k ∧ k ≤ 2) ∧ ∃ q C x, free x ∧ ρ = [.io 0 (pot q), .val (.int (1 + f)), .val (.int (1 + i)), .val (.int (1 + c)), .val (.tuple M), .val (.tuple R), .own C, x, .no, .no] ∧ C.length + post.length ≤ 3 ∧ ∀ d ∈ C, nice 10 d = true ∧ wt d ≤ 3 ∧ d.depth ≤ 1)
    ((List.range (1 + c - 1).toNat).map fun (k : Nat) => .int (1 + (k : Int))) [.io 0 (pot q6), .val (.int (1 + f)), .val (.int (1 + i)), .val (.int (1 + c)), .val (.tuple M), .val (.tuple R), .own [.tuple [.none, .bool (decide (b0 > 0))]], .no, .no, .no]
    ⟨fun d hd => by
      obtain ⟨k, hk, rfl⟩ := List.mem_map.mp hd
      have := List.mem_range.mp hk
      exact ⟨_, rfl, by omega, by omega⟩, q6, [.tuple [.none, .bool (decide (b0 > 0))]], .no, .inl rfl, rfl, by simp <;> omega, fun d hd => by
      rw [List.mem_singleton.mp hd]
      exact ⟨nice_tup.mpr fun d hd => (by simp only [List.mem_cons, List.not_mem_nil, or_false] at hd; rcases hd with rfl | rfl <;> rw [nice]), by simp [wt, wtAll], by simp [PyData.depth, PyData.depthAll]⟩⟩
    (fun pre d post ρ hI => by
      obtain ⟨hp, q, C, x, fx, rfl, hl, hC⟩ := hI
      obtain ⟨k, rfl, k1, k2⟩ := hp d List.mem_cons_self
      obtain ⟨y, q', y0, y1, dd⟩ := draw_x q k (by omega) (by omega)
      obtain ⟨z, q'', z0, z1, de⟩ := draw_x q' 2 (by omega) (by omega)
      have hCl : C.length < 100000 := by simp at hl; omega
      refine ⟨_, _, by simp [fs_G fx] <;> rfl, by simp [dd, de, fAppend_x hCl] <;> rfl, fun d hd => hp d (List.mem_cons_of_mem _ hd), q'', C ++ [.tuple [.int y, .bool (z == 0)]], .val (.int k), .inr ⟨_, rfl⟩, rfl, by simp at hl ⊢; omega, fun d hd => ?_⟩
      rcases List.mem_append.mp hd with hd | hd
      · exact hC d hd
      · rw [List.mem_singleton.mp hd]
        refine ⟨nice_tup.mpr fun d hd => ?_, by simp [wt, wtAll], by simp [PyData.depth, PyData.depthAll]⟩
        simp only [List.mem_cons, List.not_mem_nil, or_false] at hd
        rcases hd with rfl | rfl
        · rw [nice]; exact decide_eq_true (by omega)
        · rw [nice])
  obtain ⟨_, q7, C, x, fx, rfl, hl, hC⟩ := h3
  refine ⟨.tuple [.str "book", .tuple M, .tuple R, .tuple C], q7, ?_, ?_, ?_, ?_⟩
  · simp at e1 e2 e3
    simp [d1, d2, d3, e1, e2, d6, wRng2_x (y := 1) (z := 1 + c) (by omega)]
    rw [e3]
    simp
  · have nb : strNice ("book" : Str) = true := by decide +kernel
    refine nice_tup.mpr fun d hd => ?_
    simp only [List.mem_cons, List.not_mem_nil, or_false] at hd
    rcases hd with rfl | rfl | rfl | rfl
    · rw [nice]; exact nb
    · refine nice_tup.mpr fun d hd => ?_
      obtain ⟨j, rfl, hj⟩ := r1 d hd
      rw [nice]; exact decide_eq_true hj
    · refine nice_tup.mpr fun d hd => ?_
      obtain ⟨gs, rfl, _, hg⟩ := r2 d hd
      exact nice_tup.mpr fun g hg' => (hg g hg').1
    · exact nice_tup.mpr fun d hd => (hC d hd).1
  · have w1 : wtAll M ≤ M.length * 1 := wtAll_le fun d hd => by obtain ⟨j, rfl, _⟩ := r1 d hd; rw [wt]; omega
    have w2 : wtAll R ≤ R.length * 33 := wtAll_le fun d hd => by
      obtain ⟨gs, rfl, hl, hg⟩ := r2 d hd
      have := wtAll_le (ds := gs) (k := 4) fun g hg' => (hg g hg').2.1
      rw [wt_tup]; omega
    have w3 : wtAll C ≤ C.length * 3 := wtAll_le fun d hd => (hC d hd).2.1
    simp at l1 l2 hl
    rw [wt_tup, wtAll, wtAll, wtAll, wtAll, wtAll, wt_tup, wt_tup, wt_tup, wt.eq_def (.str _)]
    simp only []
    omega
  · refine dpt.mpr fun d hd => ?_
    simp only [List.mem_cons, List.not_mem_nil, or_false] at hd
    rcases hd with rfl | rfl | rfl | rfl
    · rw [PyData.depth]; omega
    · exact Nat.le_trans (dpt.mpr fun d hd => by obtain ⟨j, rfl, _⟩ := r1 d hd; exact Nat.le_of_eq (by rw [PyData.depth])) (by omega : 0 + 1 ≤ 3)
    · exact dpt.mpr fun d hd => by
        obtain ⟨gs, rfl, _, hg⟩ := r2 d hd
        exact dpt.mpr fun g hg' => (hg g hg').2.2.1
    · exact Nat.le_trans (dpt.mpr fun d hd => (hC d hd).2.2) (by omega : 1 + 1 ≤ 3)
/-- one value of bounded form is looked at rightly -/
theorem value_ok {d : D} {B : Nat} (hB : B ≤ 20) (hn : nice B d = true) (hw : wt d ≤ 50000) (hk : d.depth ≤ 40) : m__law_value_right [.val d] = .ok (.val (.bool true)) [] := by
  obtain ⟨h1, h2, h3, h4, h5⟩ := nice_facts (B := B) (by omega) d hn
  refine value_right_x d h3 (by omega) ?_
  unfold okRepr
  simp only [h1, h2, h4, Bool.true_and, Bool.and_true, Bool.not_false, Bool.and_eq_true, decide_eq_true_eq]
  omega
theorem bent_ok (q : Int × Int) (v : D) (B : Nat) (hn : nice B v = true) (hB : B ≤ 19) (hw : wt v ≤ 10000) (hk : v.depth ≤ 11) :
    ∃ r q', m__law_bent [.io (pot q), .val v] = .ok r [pot q'] ∧ nice (max (B + 1) 10) r.d = true ∧ wt r.d ≤ 3 * wt v + 1 ∧ r.d.depth ≤ v.depth + max v.depth 1 := by
  obtain ⟨r, q', e, h⟩ := bent_x q v hn hB (by omega) hk
  exact ⟨r, q', e, h.1, h.2.1, h.2.2⟩
def valOk (d : D) : Prop := nice 13 d = true ∧ wt d ≤ 5000 ∧ d.depth ≤ 16
theorem valOk_right {d : D} (h : valOk d) : m__law_value_right [.val d] = .ok (.val (.bool true)) [] := value_ok (B := 13) (by omega) h.1 (by have := h.2.1; omega) (by have := h.2.2; omega)
theorem right_x (q : Int × Int) : ∃ q', m__law_right [.io (pot q)] = .ok (.val (.bool true)) [pot q'] := by
  unfold m__law_right b__law_right
  obtain ⟨ρ', e, h⟩ := loop_nx (g := gSet 1) (m1 := (mSeq (mAsg 2 (mFun 4 (m__law_book) (mAIo 0 (mACons (mC (.int 3)) (mACons (mC (.int 3)) (mACons (mC (.int 3)) (mANil))))))) (mSeq (mAsg 3 (mOp fAdd (mOp fAdd (mCall fLst (mACons (mVar 2) (mANil))) (mLc (mWA wRng1 (mACons (mC (.int 9)) (mANil))) (gSet 4) (mC (.bool true)) (mFun 2 (m__law_bent) (mAIo 0 (mACons (mVar 2) (mANil)))) [4])) (mLc (mWA wRng1 (mACons (mC (.int 3)) (mANil))) (gSet 4) (mC (.bool true)) (mFun 2 (m__law_bent) (mAIo 0 (mACons (mFun 2 (m__law_bent) (mAIo 0 (mACons (mVar 2) (mANil)))) (mANil)))) [4]))) (mIfS (mB (mOp fNe (mLc (mWalk (mVar 3)) (gSet 5) (mNot (mB (mFun 1 (m__law_value_right) (mACons (mVar 5) (mANil))))) (mVar 5) [5]) (mCall fLst (mANil)))) (mRet (mC (.bool false))) (mNext)))))
    (fun pre post ρ => ∃ q x1 x2 x3, free x1 ∧ free x2 ∧ free x3 ∧ ρ = [.io 0 (pot q), x1, x2, x3, .no, .no]) ((List.range 3).map fun (i : Nat) => .int (i : Int)) [.io 0 (pot q), .no, .no, .no, .no, .no] ⟨q, .no, .no, .no, .inl rfl, .inl rfl, .inl rfl, rfl⟩
    (fun pre d post ρ hI => by
      obtain ⟨q, x1, x2, x3, f1, f2, f3, rfl⟩ := hI
      obtain ⟨b, q1, eb, hn, hw, hk⟩ := book_x q
      have s2 : ∀ ρ : En, kSet 2 (.val b) ρ (some x2) = .nx (ρ.set 2 (.val b)) := fun ρ => by rcases f2 with rfl | ⟨_, rfl⟩ <;> rfl
      obtain ⟨A, q2, eA, lA, rA⟩ := lc_stA (mi := mWA wRng1 (mACons (mC (.int 9)) mANil)) (g := gSet 4) (mt := mC (.bool true)) (me := mFun 2 (m__law_bent) (mAIo 0 (mACons (mVar 2) (mANil)))) (vs := [4])
        (ρ := [.io 0 (pot q1), .val d, .val b, x3, .no, .no]) (fun q : Int × Int => [.io 0 (pot q), .val d, .val b, x3, .no, .no]) q1 valOk ((List.range (9 : Int).toNat).map fun (i : Nat) => .int (i : Int)) _ (by simp [wRng1_x (z := 9) (by omega)]; rfl) (by simp) (by simp)
        (fun t ht s => by
          obtain ⟨r, s1, er, h1, h2, h3⟩ := bent_ok s b 10 hn (by omega) (by omega) (by omega)
          exact ⟨s1, r.d, _, by simp [lcS, er]; rfl, by simp, nice_mono (by omega) _ h1, by omega, by omega⟩)
      obtain ⟨C, q3, eC, lC, rC⟩ := lc_stA (mi := mWA wRng1 (mACons (mC (.int 3)) mANil)) (g := gSet 4) (mt := mC (.bool true)) (me := mFun 2 (m__law_bent) (mAIo 0 (mACons (mFun 2 (m__law_bent) (mAIo 0 (mACons (mVar 2) (mANil)))) (mANil)))) (vs := [4])
        (ρ := [.io 0 (pot q2), .val d, .val b, x3, .no, .no]) (fun q : Int × Int => [.io 0 (pot q), .val d, .val b, x3, .no, .no]) q2 valOk ((List.range (3 : Int).toNat).map fun (i : Nat) => .int (i : Int)) _ (by simp [wRng1_x (z := 3) (by omega)]; rfl) (by simp) (by simp)
        (fun t ht s => by
          obtain ⟨r, s1, er, h1, h2, h3⟩ := bent_ok s b 10 hn (by omega) (by omega) (by omega)
          obtain ⟨r', s2, er', k1, k2, k3⟩ := bent_ok s1 r.d _ h1 (by omega) (by omega) (by omega)
          exact ⟨s2, r'.d, _, by simp [lcS, er, er']; rfl, by simp, nice_mono (by omega) _ k1, by omega, by omega⟩)
      have hv : ∀ d ∈ [b] ++ A ++ C, valOk d := fun d hd => by
        rcases List.mem_append.mp hd with hd | hd
        · rcases List.mem_append.mp hd with hd | hd
          · rw [List.mem_singleton.mp hd]; exact ⟨nice_mono (by omega) _ hn, by omega, by omega⟩
          · exact rA d hd
        · exact rC d hd
      simp at lA lC
      have a1 : fAdd (.list [b]) (.list A) = some (.new ([b] ++ A)) := fAdd_lst (by simp; omega)
      have a2 : fAdd (.list ([b] ++ A)) (.list C) = some (.new ([b] ++ A ++ C)) := fAdd_lst (by simp; omega)
      have s3 : ∀ (ρ : En) (V : List D), kSet 3 (.new V) ρ (some x3) = .nx (ρ.set 3 (.own V)) := fun ρ V => by rcases f3 with rfl | ⟨_, rfl⟩ <;> rfl
      have eF := lc_pure (mi := mWalk (mVar 3)) (g := gSet 5) (mt := mNot (mB (mFun 1 (m__law_value_right) (mACons (mVar 5) (mANil))))) (me := mVar 5) (vs := [5]) (ρ := [.io 0 (pot q3), .val d, .val b, .own ([b] ++ A ++ C), .no, .no]) (fun _ => none) ([b] ++ A ++ C) _ (by simp; rfl) (by simp; omega) (fun v hv' => ⟨_, by simp [lcS, valOk_right (hv v hv')]; rfl, by simp⟩)
      refine ⟨[.io 0 (pot q), .val d, x2, x3, .no, .no], [.io 0 (pot q3), .val d, .val b, .val (.list ([b] ++ A ++ C)), .no, .no], by simp [fs_G f1], ?_, q3, _, _, _, .inr ⟨_, rfl⟩, .inr ⟨_, rfl⟩, .inr ⟨_, rfl⟩, rfl⟩
      have fmn : ∀ l : List D, l.filterMap (fun _ : D => (none : Option D)) = [] := fun l => by induction l with | nil => rfl | cons x l ih => rw [List.filterMap_cons]; exact ih
      rw [fmn] at eF
      simp at eA eC eF a2
      simp [eb, s2, eA, eC, a1, a2, s3, eF, fNe_nilL sh_nilL])
  obtain ⟨q', x1, x2, x3, f1, f2, f3, rfl⟩ := h
  refine ⟨q', ?_⟩
  simp [wRng1_x (z := 3) (by omega)]
  rw [e]
  simp

def valB (d : D) : Bool := nice 13 d && decide (wt d ≤ 5000) && decide (d.depth ≤ 16)
theorem valB_ok {d : D} (h : valB d = true) : valOk d := by
  unfold valB at h
  simp only [Bool.and_eq_true, decide_eq_true_eq] at h
  exact ⟨h.1.1, h.1.2, h.2⟩
def greatB : FO → Bool
  | .ok (.new gs) [] => gs.all valB && decide (gs.length ≤ 100)
  | _ => false
theorem greatest_b : greatB (m__law_greatest []) = true := by decide +kernel
theorem greatest_x : ∃ gs, m__law_greatest [] = .ok (.new gs) [] ∧ gs.length ≤ 100 ∧ ∀ d ∈ gs, valOk d := by
  have h := greatest_b
  cases hm : m__law_greatest [] with
  | ok r outs =>
    rw [hm] at h
    cases r with
    | val d => cases h
    | new gs =>
      cases outs with
      | nil =>
        simp only [greatB, Bool.and_eq_true, decide_eq_true_eq] at h
        exact ⟨gs, rfl, h.2, fun d hd => valB_ok (List.all_eq_true.mp h.1 d hd)⟩
      | cons _ _ => cases h
  | _ => rw [hm] at h; cases h
theorem odd_b : (valB .none && valB (.int 0) && valB (.tuple []) && valB (.str "book") && valB (.list [.str "book"])) = true := by decide +kernel
theorem plain (ns : List Int) : m_law [.val (.list (ns.map PyData.int))] = .ok (.val (.bool true)) [] := by
  unfold m_law b_law
  obtain ⟨gs, eg, hl, hg⟩ := greatest_x
  have ho := odd_b
  simp only [Bool.and_eq_true] at ho
  have hv : ∀ d ∈ gs ++ [.none, .int 0, .tuple [], .str "book", .list [.str "book"]], valOk d := fun d hd => by
    rcases List.mem_append.mp hd with hd | hd
    · exact hg d hd
    · simp only [List.mem_cons, List.not_mem_nil, or_false] at hd
      rcases hd with rfl | rfl | rfl | rfl | rfl
      · exact valB_ok ho.1.1.1.1
      · exact valB_ok ho.1.1.1.2
      · exact valB_ok ho.1.1.2
      · exact valB_ok ho.1.2
      · exact valB_ok ho.2
  have a1 : fAdd (.list gs) (.list [.none, .int 0, .tuple [], .str "book", .list [.str "book"]]) = some (.new (gs ++ [.none, .int 0, .tuple [], .str "book", .list [.str "book"]])) := fAdd_lst (by simp; omega)
  have eF := lc_pure (mi := mWalk (mOp fAdd (mFun 0 (m__law_greatest) mANil) (mCall fLst (mACons (mC .none) (mACons (mC (.int 0)) (mACons (mCall fTup (mANil)) (mACons (mC (.str "book")) (mACons (mCall fLst (mACons (mC (.str "book")) (mANil))) (mANil))))))))) (g := gSet 1) (mt := mNot (mB (mFun 1 (m__law_value_right) (mACons (mVar 1) (mANil))))) (me := mVar 1) (vs := [1])
    (ρ := [.val (.list (ns.map PyData.int)), .no, .no]) (fun _ => none) (gs ++ [.none, .int 0, .tuple [], .str "book", .list [.str "book"]]) _ (by simp [eg, a1]; rfl) (by simp; omega) (fun v hv' => ⟨_, by simp [lcS, valOk_right (hv v hv')]; rfl, by simp⟩)
  rw [fm_none] at eF
  simp at eF
  obtain ⟨m, k, hm, hk, k0, k1⟩ : ∃ m k : Int, fMin (.int 2) (.int ns.length) = some (.val (.int m)) ∧ fMax (.int 1) (.int m) = some (.val (.int k)) ∧ 0 ≤ k ∧ k ≤ 2 := by
    refine ⟨if (ns.length : Int) < 2 then (ns.length : Int) else 2, _, fMin_int, fMax_int, ?_, ?_⟩ <;> split <;> split <;> omega
  have eG := lc_pure (mi := mWA wRng1 (mACons (mCall (f2 fMax) (mACons (mC (.int 1)) (mACons (mCall (f2 fMin) (mACons (mC (.int 2)) (mACons (mCall (f1 fLen) (mACons (mVar 0) (mANil))) (mANil)))) (mANil)))) (mANil))) (g := gSet 2) (mt := mC (.bool true)) (me := mFunT (m__law_right) (mFun 2 (m__law_pot) (mACons (mVar 0) (mACons (mVar 2) (mANil))))) (vs := [2])
    (ρ := [.val (.list (ns.map PyData.int)), .no, .no]) (fun _ => some (.bool true)) ((List.range k.toNat).map fun (i : Nat) => .int (i : Int)) [.val (.list (ns.map PyData.int)), .no, .no] (by simp [hm, hk, wRng1_x (z := k) (by omega), -fMin_int, -fMax_int]) (by simp; omega) (fun v hv' => by
      obtain ⟨i, hi, rfl⟩ := List.mem_map.mp hv'
      have := List.mem_range.mp hi
      obtain ⟨q, e1⟩ := pot_x ns i (by omega) (by omega)
      obtain ⟨q', e2⟩ := right_x q
      exact ⟨_, by simp [lcS, e1, e2]; rfl, by simp⟩)
  have hall : ∀ l : List Nat, fAll (.list (l.filterMap ((fun _ : D => some (PyData.bool true)) ∘ fun (i : Nat) => PyData.int (i : Int)))) = some (.val (.bool true)) := fun l => by
    have h1 := fAll_m (l := l) (h := fun _ => true)
    have e : l.filterMap ((fun _ : D => some (PyData.bool true)) ∘ fun (i : Nat) => PyData.int (i : Int)) = l.map fun _ => PyData.bool true := by
      induction l with
      | nil => rfl
      | cons x l ih => rw [List.filterMap_cons]; dsimp only [Function.comp]; rw [ih (by have := fAll_m (l := l) (h := fun _ => true); exact this)]; rfl
    rw [e, h1]
    simp
  have eG' := eG.trans (by simp; rfl)
  simp [eF, fNe_nilL sh_nilL, eG', hall]
end K

set_option maxHeartbeats 0
open PySem PySem.W PyProof.Rows
theorem PySem.Challenge.cw_leadcases_k10_whole_any_values_as_books_holds : PySem.Challenge.rw_leadcases_k10_whole_any_values_as_books.Holds := by
  w_on; o_law; k_head; (case hw => w_witness2)
  k_fill
  refine DL.walk_ofM (l := PySem.Challenge.rw_leadcases_k10_whole_any_values_as_books) (n := 63) (k := 16) (x := "script") rfl (by decide) rfl ⟨rfl, by decide, by decide⟩ (fun w h Y => PySem.W.km_in_of Y) ?F
  case F =>
    intro w mg fa h Y KX G hmg
    refine' K.law_mk (l := PySem.Challenge.rw_leadcases_k10_whole_any_values_as_books) KX G hmg ?a_is_integer ?l_is_integer ?c_is_integer ?k_is_integer ?a_is_within ?l_is_within ?c_is_within ?k_is_within ?a_is_tuple ?l_is_tuple ?c_is_tuple ?k_is_tuple ?a_are_mosts ?l_are_mosts ?c_are_mosts ?k_are_mosts ?a_is_ground ?l_is_ground ?c_is_ground ?k_is_ground ?a_is_issue_of ?l_is_issue_of ?c_is_issue_of ?k_is_issue_of ?a_is_court_of ?l_is_court_of ?c_is_court_of ?k_is_court_of ?a_is_book_any ?l_is_book_any ?c_is_book_any ?k_is_book_any ?a_want_book ?l_want_book ?c_want_book ?k_want_book ?a_want_issue ?l_want_issue ?c_want_issue ?k_want_issue ?a_mosts_in ?l_mosts_in ?c_mosts_in ?k_mosts_in ?a_flaw_of_book ?l_flaw_of_book ?c_flaw_of_book ?k_flaw_of_book ?a_box_of ?l_box_of ?c_box_of ?k_box_of ?a_many_in ?l_many_in ?c_many_in ?k_many_in ?a_is_book ?l_is_book ?c_is_book ?k_is_book ?a_book_flaw ?l_book_flaw ?c_book_flaw ?k_book_flaw ?a_count_points ?l_count_points ?c_count_points ?k_count_points ?a__law_pot ?l__law_pot ?c__law_pot ?k__law_pot ?a__law_draw ?l__law_draw ?c__law_draw ?k__law_draw ?a__law_pick ?l__law_pick ?c__law_pick ?k__law_pick ?a__law_most_of ?l__law_most_of ?c__law_most_of ?k__law_most_of ?a__law_issue ?l__law_issue ?c__law_issue ?k__law_issue ?a__law_book ?l__law_book ?c__law_book ?k__law_book ?a__law_is_whole ?l__law_is_whole ?c__law_is_whole ?k__law_is_whole ?a__law_is_issue ?l__law_is_issue ?c__law_is_issue ?k__law_is_issue ?a__law_is_court ?l__law_is_court ?c__law_is_court ?k__law_is_court ?a__law_flaw ?l__law_flaw ?c__law_flaw ?k__law_flaw ?a__law_paths ?l__law_paths ?c__law_paths ?k__law_paths ?a__law_with ?l__law_with ?c__law_with ?k__law_with ?a__law_bent ?l__law_bent ?c__law_bent ?k__law_bent ?a__law_greatest ?l__law_greatest ?c__law_greatest ?k__law_greatest ?a__law_heard ?l__law_heard ?c__law_heard ?k__law_heard ?a__law_value_right ?l__law_value_right ?c__law_value_right ?k__law_value_right ?o__law_value_right ?a__law_right ?l__law_right ?c__law_right ?k__law_right ?a_law ?l_law ?c_law ?k_law ?g_FACT ?g_ISSUE ?g_MOST_AMOUNT ?g_MOST_COURTS ?g_MOST_FACTS ?g_MOST_GROUNDS ?g_MOST_ISSUES ?z_abs ?z_all ?z_bool ?z_divmod ?z_enumerate ?z_int ?z_isinstance ?z_len ?z_list ?z_max ?z_min ?z_range ?z_repr ?z_set ?z_str ?z_tuple ?z_zip ?ac_InvalidBook ?ac_InvalidIssue ?ac_WorkError ?ex_InvalidBook_InvalidBook ?ex_InvalidIssue_InvalidBook ?ki_InvalidBook_WorkError ?no_InvalidBook_value ?xfb_InvalidBook ?edb_InvalidBook ?li_WorkError ?cdk_WorkError ?ti_WorkError ?df_WorkError ?kpi_WorkError ?ii_InvalidBook ?oc1_InvalidBook ?oc2_InvalidBook ?oc3_InvalidBook ?oc4_InvalidBook ?oc5_InvalidBook ?oc6_InvalidBook ?ii_InvalidIssue ?oc1_InvalidIssue ?oc2_InvalidIssue ?oc3_InvalidIssue ?oc4_InvalidIssue ?oc5_InvalidIssue ?oc6_InvalidIssue ?no_InvalidIssue_value ?hemp ?hcdh ?plain
    (case plain => exact fun ns _ _ => K.plain ns)
    (case a_is_integer => k_is)
    (case l_is_integer => k_is)
    (case a_is_within => k_is)
    (case l_is_within => k_is)
    (case a_is_tuple => k_is)
    (case l_is_tuple => k_is)
    (case a_are_mosts => k_is)
    (case l_are_mosts => k_is)
    (case a_is_ground => k_is)
    (case l_is_ground => k_is)
    (case a_is_issue_of => k_is)
    (case l_is_issue_of => k_is)
    (case a_is_court_of => k_is)
    (case l_is_court_of => k_is)
    (case a_is_book_any => k_is)
    (case l_is_book_any => k_is)
    (case a_want_book => k_is)
    (case l_want_book => k_is)
    (case a_want_issue => k_is)
    (case l_want_issue => k_is)
    (case a_mosts_in => k_is)
    (case l_mosts_in => k_is)
    (case a_flaw_of_book => k_is)
    (case l_flaw_of_book => k_is)
    (case a_box_of => k_is)
    (case l_box_of => k_is)
    (case a_many_in => k_is)
    (case l_many_in => k_is)
    (case a_is_book => k_is)
    (case l_is_book => k_is)
    (case a_book_flaw => k_is)
    (case l_book_flaw => k_is)
    (case a_count_points => k_is)
    (case l_count_points => k_is)
    (case a__law_pot => k_is)
    (case l__law_pot => k_is)
    (case a__law_draw => k_is)
    (case l__law_draw => k_is)
    (case a__law_pick => k_is)
    (case l__law_pick => k_is)
    (case a__law_most_of => k_is)
    (case l__law_most_of => k_is)
    (case a__law_issue => k_is)
    (case l__law_issue => k_is)
    (case a__law_book => k_is)
    (case l__law_book => k_is)
    (case a__law_is_whole => k_is)
    (case l__law_is_whole => k_is)
    (case a__law_is_issue => k_is)
    (case l__law_is_issue => k_is)
    (case a__law_is_court => k_is)
    (case l__law_is_court => k_is)
    (case a__law_flaw => k_is)
    (case l__law_flaw => k_is)
    (case a__law_paths => k_is)
    (case l__law_paths => k_is)
    (case a__law_with => k_is)
    (case l__law_with => k_is)
    (case a__law_bent => k_is)
    (case l__law_bent => k_is)
    (case a__law_greatest => k_is)
    (case l__law_greatest => k_is)
    (case a__law_heard => k_is)
    (case l__law_heard => k_is)
    (case a__law_value_right => k_is)
    (case l__law_value_right => k_is)
    (case a__law_right => k_is)
    (case l__law_right => k_is)
    (case a_law => k_is)
    (case l_law => k_is)
    (case ac_InvalidBook => k_is)
    (case ac_InvalidIssue => k_is)
    (case ac_WorkError => k_is)
    (case ii_InvalidBook => k_is)
    (case ii_InvalidIssue => k_is)
    (case li_WorkError => k_is)
    (case oc1_InvalidBook => k_is)
    (case oc1_InvalidIssue => k_is)
    (case hemp => exact PySem.W.km_tabs_of Y _ List.mem_cons_self)
    (case c_is_integer => k_is)
    (case k_is_integer => k_is)
    (case c_is_within => k_is)
    (case k_is_within => k_is)
    (case c_is_tuple => k_is)
    (case k_is_tuple => k_is)
    (case c_are_mosts => k_is)
    (case k_are_mosts => k_is)
    (case c_is_ground => k_is)
    (case k_is_ground => k_is)
    (case c_is_issue_of => k_is)
    (case k_is_issue_of => k_is)
    (case c_is_court_of => k_is)
    (case k_is_court_of => k_is)
    (case c_is_book_any => k_is)
    (case k_is_book_any => k_is)
    (case c_want_book => k_is)
    (case k_want_book => k_is)
    (case c_want_issue => k_is)
    (case k_want_issue => k_is)
    (case c_mosts_in => k_is)
    (case k_mosts_in => k_is)
    (case c_flaw_of_book => k_is)
    (case k_flaw_of_book => k_is)
    (case c_box_of => k_is)
    (case k_box_of => k_is)
    (case c_many_in => k_is)
    (case k_many_in => k_is)
    (case c_is_book => k_is)
    (case k_is_book => k_is)
    (case c_book_flaw => k_is)
    (case k_book_flaw => k_is)
    (case c_count_points => k_is)
    (case k_count_points => k_is)
    (case c__law_pot => k_is)
    (case k__law_pot => k_is)
    (case c__law_draw => k_is)
    (case k__law_draw => k_is)
    (case c__law_pick => k_is)
    (case k__law_pick => k_is)
    (case c__law_most_of => k_is)
    (case k__law_most_of => k_is)
    (case c__law_issue => k_is)
    (case k__law_issue => k_is)
    (case c__law_book => k_is)
    (case k__law_book => k_is)
    (case c__law_is_whole => k_is)
    (case k__law_is_whole => k_is)
    (case c__law_is_issue => k_is)
    (case k__law_is_issue => k_is)
    (case c__law_is_court => k_is)
    (case k__law_is_court => k_is)
    (case c__law_flaw => k_is)
    (case k__law_flaw => k_is)
    (case c__law_paths => k_is)
    (case k__law_paths => k_is)
    (case c__law_with => k_is)
    (case k__law_with => k_is)
    (case c__law_bent => k_is)
    (case k__law_bent => k_is)
    (case c__law_greatest => k_is)
    (case k__law_greatest => k_is)
    (case c__law_heard => k_is)
    (case k__law_heard => k_is)
    (case c__law_value_right => k_is)
    (case k__law_value_right => k_is)
    (case o__law_value_right => first | kernel_rfl | k_is | decide +kernel | rfl)
    (case c__law_right => k_is)
    (case k__law_right => k_is)
    (case c_law => k_is)
    (case k_law => k_is)
    (case g_FACT => k_is)
    (case g_ISSUE => k_is)
    (case g_MOST_AMOUNT => k_is)
    (case g_MOST_COURTS => k_is)
    (case g_MOST_FACTS => k_is)
    (case g_MOST_GROUNDS => k_is)
    (case g_MOST_ISSUES => k_is)
    (case z_abs => k_is)
    (case z_all => k_is)
    (case z_bool => k_is)
    (case z_divmod => k_is)
    (case z_enumerate => k_is)
    (case z_int => k_is)
    (case z_isinstance => k_is)
    (case z_len => k_is)
    (case z_list => k_is)
    (case z_max => k_is)
    (case z_min => k_is)
    (case z_range => k_is)
    (case z_repr => k_is)
    (case z_set => k_is)
    (case z_str => k_is)
    (case z_tuple => k_is)
    (case z_zip => k_is)
    (case ex_InvalidBook_InvalidBook => first | kernel_rfl | k_is | decide +kernel | rfl)
    (case ex_InvalidIssue_InvalidBook => first | kernel_rfl | k_is | decide +kernel | rfl)
    (case ki_InvalidBook_WorkError => first | kernel_rfl | k_is | decide +kernel | rfl)
    (case no_InvalidBook_value => k_is)
    (case xfb_InvalidBook => first | kernel_rfl | k_is | decide +kernel | rfl)
    (case edb_InvalidBook => first | kernel_rfl | k_is | decide +kernel | rfl)
    (case cdk_WorkError => k_is)
    (case ti_WorkError => k_is)
    (case df_WorkError => exact .inr ⟨by simp, _, _, _, _, rfl, by k_is, rfl, .cons rfl .nil⟩)
    (case kpi_WorkError => k_is)
    (case oc2_InvalidBook => decide +kernel)
    (case oc3_InvalidBook => k_is)
    (case oc4_InvalidBook => k_is)
    (case oc5_InvalidBook => k_is)
    (case oc6_InvalidBook => k_is)
    (case oc2_InvalidIssue => decide +kernel)
    (case oc3_InvalidIssue => k_is)
    (case oc4_InvalidIssue => k_is)
    (case oc5_InvalidIssue => k_is)
    (case oc6_InvalidIssue => k_is)
    (case no_InvalidIssue_value => k_is)
    (case hcdh => first | kernel_rfl | k_is | decide +kernel | rfl)

