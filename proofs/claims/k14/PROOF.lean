import PyProof.Rows.All
import Wide.All
import OpenK.AllK
import Wide.FinOn
import HandS.ForMost
import HandS.ForExc
import HandS.Lambda
import HandS.TupAny
import HandS.Zip
import HandS.Rev
import HandS.RevRange
import KE.SortData
import HandS.Conv
import HandS.IsInst
import HandS.TupMul
import HandS.Style
import HandS.Set
import HandS.SetFor
import HandS.Strs
import HandS.Deep
import KE.DataMinMax
import KE.KRevSl
import HandS.ExcIs
import HandS.ExcOwn
import KE.GoesComp
import KE.KAsSuite
import HandS.Iter
import HandS.Text
import KE.SortKeyHeap
import KE.KNestM
import HandS.EndTab
import HandS.Flow
import PySem.Challenge.RW_fretways_k14_asked_again
set_option Elab.async false
set_option linter.all false
set_option maxRecDepth 100000
set_option maxHeartbeats 2000000
set_option autoImplicit false
/-! FW: values as trees (PyData), a def's state as a list of slots, one rule for each construct over these. -/
namespace FW
open PySem PySem.Spec PyProof.Rows L2

abbrev D := PyData
abbrev Ex (H H' : Hp) : Prop := ∀ a o, H a = some o → H' a = some o
theorem Ex.refl (H : Hp) : Ex H H := fun _ _ h => h
theorem Ex.trans {H H1 H2 : Hp} (a : Ex H H1) (b : Ex H1 H2) : Ex H H2 := fun x o h => b x o (a x o h)
theorem Ex.upd {H : Hp} {p : Addr} {o : HO} (h : H p = none) : Ex H (upd H p o) := fun a u e => by
  rw [upd_ne (ne_of_none e h)]; exact e
theorem Ex.none {H H' : Hp} {p : Addr} (e : Ex H H') (h : H' p = none) : H p = none := by
  cases q : H p with
  | none => rfl
  | some o => rw [e p o q] at h; cases h
theorem Ex.upd2 {H H' : Hp} {p : Addr} {o : HO} (e : Ex H H') : Ex (L2.upd H p o) (L2.upd H' p o) := fun a u h => by
  by_cases q : a = p
  · subst q; rw [upd_same] at h ⊢; exact h
  · rw [upd_ne q] at h ⊢; exact e a u h
theorem Ex.mut {H H' : Hp} {p : Addr} {o : HO} (e : Ex H H') (h : H p = Option.none) : Ex H (L2.upd H' p o) := fun a u ha => by
  rw [upd_ne (ne_of_none ha h)]; exact e a u ha

/-! ### trees and what stands for them -/
mutual
inductive Rp (H : Hp) : V → D → Prop
  | non : Rp H .non .none
  | bl (b : Bool) : Rp H (.bl b) (.bool b)
  | int (i : Int) : Rp H (.int i) (.int i)
  | str (x : Str) : Rp H (.str x) (.str x)
  | lst {a : Addr} {xs : List V} {ds : List D} : H a = some (.lst xs) → Rps H xs ds → Rp H (.ref a) (.list ds)
  | tup {a : Addr} {xs : List V} {ds : List D} : H a = some (.tup xs) → Rps H xs ds → Rp H (.ref a) (.tuple ds)
inductive Rps (H : Hp) : List V → List D → Prop
  | nil : Rps H [] []
  | cons {v : V} {vs : List V} {d : D} {ds : List D} : Rp H v d → Rps H vs ds → Rps H (v :: vs) (d :: ds)
end
mutual
theorem Rp.mono {H H' : Hp} (e : Ex H H') : ∀ {v : V} {d : D}, Rp H v d → Rp H' v d
  | _, _, .non => .non
  | _, _, .bl b => .bl b
  | _, _, .int i => .int i
  | _, _, .str x => .str x
  | _, _, .lst h r => .lst (e _ _ h) (Rps.mono e r)
  | _, _, .tup h r => .tup (e _ _ h) (Rps.mono e r)
theorem Rps.mono {H H' : Hp} (e : Ex H H') : ∀ {vs : List V} {ds : List D}, Rps H vs ds → Rps H' vs ds
  | _, _, .nil => .nil
  | _, _, .cons a b => .cons (Rp.mono e a) (Rps.mono e b)
end
mutual
theorem Rp.dp {K : PySem.W.Frag} {H : Hp} : ∀ {v : V} {d : D}, Rp H v d → Dp K H v d
  | _, _, .non => .non
  | _, _, .bl b => .bl b
  | _, _, .int i => .int i
  | _, _, .str x => .str x
  | _, _, .lst h r => .lst (SqL.of h) (Rps.dp r)
  | _, _, .tup h r => .tup (SqT.of h) (Rps.dp r)
theorem Rps.dp {K : PySem.W.Frag} {H : Hp} : ∀ {vs : List V} {ds : List D}, Rps H vs ds → DpAll K H vs ds
  | _, _, .nil => .nil
  | _, _, .cons a b => .cons (Rp.dp a) (Rps.dp b)
end
theorem Rps.length {H : Hp} : ∀ {vs : List V} {ds : List D}, Rps H vs ds → vs.length = ds.length
  | _, _, .nil => rfl
  | _, _, .cons _ r => by rw [List.length_cons, List.length_cons, Rps.length r]
theorem Rps.get {H : Hp} : ∀ {vs : List V} {ds : List D} {i : Nat} {d : D}, Rps H vs ds → ds[i]? = some d → ∃ v, vs[i]? = some v ∧ Rp H v d
  | _, _, _, _, .nil, e => by simp at e
  | _, _, 0, _, .cons r _, e => by simp at e; subst e; exact ⟨_, rfl, r⟩
  | _, _, i + 1, d, .cons _ t, e => by
    obtain ⟨v, h1, h2⟩ := Rps.get (i := i) (d := d) t (by simpa using e)
    exact ⟨v, by simpa using h1, h2⟩
theorem Rps.get' {H : Hp} : ∀ {vs : List V} {ds : List D} {i : Nat} {v : V}, Rps H vs ds → vs[i]? = some v → ∃ d, ds[i]? = some d ∧ Rp H v d
  | _, _, _, _, .nil, e => by simp at e
  | _, _, 0, _, .cons r _, e => by simp at e; subst e; exact ⟨_, rfl, r⟩
  | _, _, i + 1, v, .cons _ t, e => by
    obtain ⟨d, h1, h2⟩ := Rps.get' (i := i) (v := v) t (by simpa using e)
    exact ⟨d, by simpa using h1, h2⟩
theorem Rps.append {H : Hp} : ∀ {vs ws : List V} {ds es : List D}, Rps H vs ds → Rps H ws es → Rps H (vs ++ ws) (ds ++ es)
  | _, _, _, _, .nil, s => s
  | _, _, _, _, .cons r t, s => .cons r (Rps.append t s)
theorem Rps.take {H : Hp} : ∀ {vs : List V} {ds : List D} (n : Nat), Rps H vs ds → Rps H (vs.take n) (ds.take n)
  | _, _, 0, _ => .nil
  | _, _, _ + 1, .nil => .nil
  | _, _, n + 1, .cons r t => .cons r (Rps.take n t)
theorem Rps.drop {H : Hp} : ∀ {vs : List V} {ds : List D} (n : Nat), Rps H vs ds → Rps H (vs.drop n) (ds.drop n)
  | _, _, 0, r => r
  | _, _, _ + 1, .nil => .nil
  | _, _, n + 1, .cons _ t => Rps.drop n t
theorem Rps.set {H : Hp} {v : V} {d : D} (r : Rp H v d) : ∀ {vs : List V} {ds : List D} (i : Nat), Rps H vs ds → Rps H (vs.set i v) (ds.set i d)
  | _, _, _, .nil => .nil
  | _, _, 0, .cons _ t => .cons r t
  | _, _, i + 1, .cons q t => .cons q (Rps.set r i t)
theorem Rps.erase {H : Hp} : ∀ {vs : List V} {ds : List D} (i : Nat), Rps H vs ds → Rps H (vs.eraseIdx i) (ds.eraseIdx i)
  | _, _, _, .nil => .nil
  | _, _, 0, .cons _ t => t
  | _, _, i + 1, .cons q t => .cons q (Rps.erase i t)
theorem Rps.reverse {H : Hp} : ∀ {vs : List V} {ds : List D}, Rps H vs ds → Rps H vs.reverse ds.reverse
  | _, _, .nil => .nil
  | _, _, .cons r t => by
    rw [List.reverse_cons, List.reverse_cons]
    exact Rps.append (Rps.reverse t) (.cons r .nil)
theorem Rps.rep {H : Hp} {vs : List V} {ds : List D} (h : Rps H vs ds) : ∀ k : Nat, Rps H (List.replicate k vs).flatten (List.replicate k ds).flatten
  | 0 => .nil
  | k + 1 => by
    rw [List.replicate_succ, List.replicate_succ, List.flatten_cons, List.flatten_cons]
    exact Rps.append h (Rps.rep h k)
theorem Rps.ints {H : Hp} : ∀ {ns : List Int} {vs : List V}, Rps H vs (ns.map PyData.int) → vs = ns.map V.int
  | [], _, h => by cases h; rfl
  | n :: ns, _, h => by
    cases h with
    | cons a b => cases a; rw [Rps.ints b, List.map_cons]
theorem Rps.ofInts {H : Hp} : ∀ {ns : List Int}, Rps H (ns.map V.int) (ns.map PyData.int)
  | [] => .nil
  | n :: ns => .cons (.int n) Rps.ofInts
theorem Rps.filter {H : Hp} {f : V → Bool} {g : D → Bool} (hf : ∀ v d, Rp H v d → f v = g d) : ∀ {vs : List V} {ds : List D}, Rps H vs ds → Rps H (vs.filter f) (ds.filter g)
  | _, _, .nil => .nil
  | v :: vs, d :: ds, .cons r t => by
    rw [List.filter_cons, List.filter_cons, hf v d r]
    split
    · exact .cons r (Rps.filter hf t)
    · exact Rps.filter hf t

/-! ### .. whose lists all stand at places of a kind -/
mutual
inductive Rn (N : Addr → Prop) (H : Hp) : V → D → Prop
  | non : Rn N H .non .none
  | bl (b : Bool) : Rn N H (.bl b) (.bool b)
  | int (i : Int) : Rn N H (.int i) (.int i)
  | str (x : Str) : Rn N H (.str x) (.str x)
  | lst {a : Addr} {xs : List V} {ds : List D} : N a → H a = some (.lst xs) → Rns N H xs ds → Rn N H (.ref a) (.list ds)
  | tup {a : Addr} {xs : List V} {ds : List D} : H a = some (.tup xs) → Rns N H xs ds → Rn N H (.ref a) (.tuple ds)
inductive Rns (N : Addr → Prop) (H : Hp) : List V → List D → Prop
  | nil : Rns N H [] []
  | cons {v : V} {vs : List V} {d : D} {ds : List D} : Rn N H v d → Rns N H vs ds → Rns N H (v :: vs) (d :: ds)
end
mutual
theorem Rn.mono {N N' : Addr → Prop} {H H' : Hp} (e : Ex H H') (n : ∀ a, N a → N' a) : ∀ {v : V} {d : D}, Rn N H v d → Rn N' H' v d
  | _, _, .non => .non
  | _, _, .bl b => .bl b
  | _, _, .int i => .int i
  | _, _, .str x => .str x
  | _, _, .lst z h r => .lst (n _ z) (e _ _ h) (Rns.mono e n r)
  | _, _, .tup h r => .tup (e _ _ h) (Rns.mono e n r)
theorem Rns.mono {N N' : Addr → Prop} {H H' : Hp} (e : Ex H H') (n : ∀ a, N a → N' a) : ∀ {vs : List V} {ds : List D}, Rns N H vs ds → Rns N' H' vs ds
  | _, _, .nil => .nil
  | _, _, .cons a b => .cons (Rn.mono e n a) (Rns.mono e n b)
end
mutual
theorem Rn.rp {N : Addr → Prop} {H : Hp} : ∀ {v : V} {d : D}, Rn N H v d → Rp H v d
  | _, _, .non => .non
  | _, _, .bl b => .bl b
  | _, _, .int i => .int i
  | _, _, .str x => .str x
  | _, _, .lst _ h r => .lst h (Rns.rps r)
  | _, _, .tup h r => .tup h (Rns.rps r)
theorem Rns.rps {N : Addr → Prop} {H : Hp} : ∀ {vs : List V} {ds : List D}, Rns N H vs ds → Rps H vs ds
  | _, _, .nil => .nil
  | _, _, .cons a b => .cons (Rn.rp a) (Rns.rps b)
end
mutual
/-- no list in it -/
def noL : D → Bool
  | .list _ => false
  | .tuple ds => noLs ds
  | _ => true
def noLs : List D → Bool
  | [] => true
  | d :: ds => noL d && noLs ds
end
mutual
theorem Rp.rn {N : Addr → Prop} {H : Hp} : ∀ {v : V} {d : D}, Rp H v d → noL d = true → Rn N H v d
  | _, _, .non, _ => .non
  | _, _, .bl b, _ => .bl b
  | _, _, .int i, _ => .int i
  | _, _, .str x, _ => .str x
  | _, _, .lst _ _, z => by simp [noL] at z
  | _, _, .tup h r, z => .tup h (Rps.rns r (by simpa [noL] using z))
theorem Rps.rns {N : Addr → Prop} {H : Hp} : ∀ {vs : List V} {ds : List D}, Rps H vs ds → noLs ds = true → Rns N H vs ds
  | _, _, .nil, _ => .nil
  | _, _, .cons a b, z => .cons (Rp.rn a (by simp [noLs] at z; exact z.1)) (Rps.rns b (by simp [noLs] at z; exact z.2))
end
theorem noLs_of : ∀ {ds : List D}, (∀ d ∈ ds, noL d = true) → noLs ds = true
  | [], _ => by simp [noLs]
  | d :: ds, h => by
    simp only [noLs, Bool.and_eq_true]
    exact ⟨h d List.mem_cons_self, noLs_of fun x hx => h x (List.mem_cons_of_mem _ hx)⟩
theorem noLs_ints (ns : List Int) : noLs (ns.map PyData.int) = true := noLs_of fun d h => by
  obtain ⟨i, _, rfl⟩ := List.mem_map.mp h
  simp [noL]
theorem noL_tints (ns : List Int) : noL (.tuple (ns.map PyData.int)) = true := by simp only [noL]; exact noLs_ints ns
theorem Rns.append {N : Addr → Prop} {H : Hp} : ∀ {vs ws : List V} {ds es : List D}, Rns N H vs ds → Rns N H ws es → Rns N H (vs ++ ws) (ds ++ es)
  | _, _, _, _, .nil, s => s
  | _, _, _, _, .cons r t, s => .cons r (Rns.append t s)

/-! ### slots -/
inductive Sl where
  | unk
  | val (d : D)
  | own (ds : List D)
  | row
  | fix (v : V)
  | new (d : D)
  | ownN (ds : List D)
  | wild (n : Nat)
  | hld (v : V) (a : Addr) (o : HO)
def Sl.mut : Sl → Bool
  | .own _ => true
  | .row => true
  | .ownN _ => true
  | .wild _ => true
  | _ => false

/-- a def's frame: B what its data lean on at the entry, H0 the heap there, r the row -/
structure Fr where
  B : Hp
  H0 : Hp
  r : Option Addr

/-- the row that a law draws from: the script, how far it is read, what is mixed, what is left of a great cell -/
structure RowIn (sc : List Int) (a b c : Int) : Prop where
  l : sc.length ≤ 63
  a0 : 0 ≤ a
  b0 : 0 ≤ b
  b1 : b < 2147483647
  c0 : 0 ≤ c
def RowAt (K : PySem.W.Frag) (G H : Hp) (p : Addr) : Prop := ∃ q sc a b c, H p = some (.lst [.ref q, .int a, .int b, .int c]) ∧ SqL K G q (sc.map V.int) ∧ RowIn sc a b c
def SlOk (K : PySem.W.Frag) (F : Fr) (G H : Hp) (o : Option (Option V)) : Sl → Prop
  | .unk => True
  | .val d => ∃ v, o = some (some v) ∧ Rp G v d
  | .own ds => ∃ p vs, o = some (some (.ref p)) ∧ G p = none ∧ H p = some (.lst vs) ∧ Rps G vs ds
  | .row => ∃ p, F.r = some p ∧ o = some (some (.ref p)) ∧ G p = none ∧ RowAt K G H p
  | .fix v => o = some (some v)
  | .new d => ∃ v, o = some (some v) ∧ Rn (fun a => F.H0 a = none) G v d
  | .ownN ds => ∃ p vs, o = some (some (.ref p)) ∧ G p = none ∧ H p = some (.lst vs) ∧ F.H0 p = none ∧ Rns (fun a => F.H0 a = none) G vs ds
  | .wild n => ∃ p us, o = some (some (.ref p)) ∧ G p = none ∧ H p = some (.lst us) ∧ F.H0 p = none ∧ us.length ≤ n
  | .hld v a u => o = some (some v) ∧ G a = some u

def MutAt (S : List Sl) (σ : L2.St) (p : Addr) (j : Nat) : Prop := (∃ sl : Sl, S[j]? = some sl ∧ sl.mut = true) ∧ σ[j]? = some (some (.ref p))
def NotMut (S : List Sl) (σ : L2.St) (p : Addr) : Prop := ∀ j, ¬ MutAt S σ p j
def Less (S' S : List Sl) : Prop := ∀ (j : Nat) (sl : Sl), S'[j]? = some sl → sl.mut = true → ∃ sl' : Sl, S[j]? = some sl' ∧ sl'.mut = true

/-- no table of code objects -/
def NT (o : HO) : Prop := ∀ ps, o ≠ .tbl ps
theorem nt_lst {xs : List V} : NT (.lst xs) := fun _ z => by cases z
theorem nt_tup {xs : List V} : NT (.tup xs) := fun _ z => by cases z
/-- the tables of code objects that a law's lambdas write, each with the one name of what is made there -/
class Tb where
  T : List (Addr × Str)
variable [Tb]
/-- tables that were good are good -/
def TabG (H H' : Hp) : Prop := LamX.Tabs Tb.T H → LamX.Tabs Tb.T H'
theorem TabG.refl (H : Hp) : TabG H H := fun h => h
theorem TabG.trans {H H1 H2 : Hp} (a : TabG H H1) (b : TabG H1 H2) : TabG H H2 := fun h => b (a h)
theorem TabG.of {H H' : Hp} (h : ∀ a o, H a = some o → (∀ xs, o ≠ .lst xs) → H' a = some o) : TabG H H' := fun t p hp => by
  obtain ⟨ps, h1, h2, h3⟩ := t p hp
  refine ⟨ps, h p.1 _ h1 (fun xs z => by cases z), h2, fun pos cv hc => ?_⟩
  obtain ⟨c, e1, e2⟩ := h3 pos cv hc
  exact ⟨c, e1, h c _ e2 fun xs z => by unfold LamX.CodeO at z; cases z⟩
structure SV (K : PySem.W.Frag) (F : Fr) (S : List Sl) (G : Hp) (σ : L2.St) (H : Hp) : Prop where
  base : Ex F.B G
  gh : Ex G H
  keep : ∀ a o, some a ≠ F.r → F.H0 a = some o → NT o → H a = some o
  live : (∀ r, F.r = some r → ∃ o, H r = some o) ∧ (∀ a o, F.H0 a = some o → ∃ o', H a = some o') ∧ TabG F.H0 H
  new : ∀ a o, G a = some o → F.B a = some o ∨ F.H0 a = none
  slot : ∀ (i : Nat) (sl : Sl), S[i]? = some sl → SlOk K F G H σ[i]? sl
  sep : ∀ i j p, i ≠ j → MutAt S σ p i → MutAt S σ p j → False
  own0 : ∀ (i : Nat) (ds : List D) (p : Addr), S[i]? = some (.own ds) → σ[i]? = some (some (.ref p)) → F.H0 p = none
  len : S.length = σ.length
  bh : Ex F.B F.H0

theorem sqL_mono {K : PySem.W.Frag} {H H' : Hp} {a : Addr} {xs : List V} (e : Ex H H') (h : SqL K H a xs) : SqL K H' a xs := by
  rcases h with (h | ⟨o, h⟩) | h
  · exact .inl (.inl (e _ _ h))
  · exact .inl (.inr ⟨o, e _ _ h⟩)
  · exact .inr h

section
variable {K : PySem.W.Frag} {F : Fr} {S S' S1 S2 : List Sl} {G G' G1 G2 H H' H1 H2 : Hp} {σ : L2.St} {p : Addr} {o : HO}
theorem SV.mutH (sv : SV K F S G σ H) {j : Nat} (m : MutAt S σ p j) : ∃ vs, H p = some (.lst vs) ∧ G p = none := by
  obtain ⟨⟨sl, hs, hm⟩, e⟩ := m
  have k := sv.slot j sl hs
  cases sl with
  | unk => cases hm
  | val d => cases hm
  | own ds =>
    obtain ⟨q, vs, e', g, h, _⟩ := k
    rw [e] at e'; cases e'
    exact ⟨vs, h, g⟩
  | row =>
    obtain ⟨q, _, e', g, _, _, _, _, _, h, _⟩ := k
    rw [e] at e'; cases e'
    exact ⟨_, h, g⟩
  | fix v => cases hm
  | new d => cases hm
  | ownN ds =>
    obtain ⟨q, vs, e', g, h, _⟩ := k
    rw [e] at e'; cases e'
    exact ⟨vs, h, g⟩
  | wild n =>
    obtain ⟨q, vs, e', g, h, _⟩ := k
    rw [e] at e'; cases e'
    exact ⟨vs, h, g⟩
  | hld v a u => cases hm
theorem SV.rown (sv : SV K F S G σ H) {j : Nat} (m : MutAt S σ p j) : some p = F.r ∨ F.H0 p = none := by
  obtain ⟨⟨sl, hs, hm⟩, e⟩ := m
  have k := sv.slot j sl hs
  cases sl with
  | unk => cases hm
  | val d => cases hm
  | own ds => exact .inr (sv.own0 j ds p hs e)
  | row =>
    obtain ⟨q, f, e', _⟩ := k
    rw [e] at e'; cases e'
    exact .inl f.symm
  | fix v => cases hm
  | new d => cases hm
  | ownN ds =>
    obtain ⟨q, vs, e', g, h, h0, _⟩ := k
    rw [e] at e'; cases e'
    exact .inr h0
  | wild n =>
    obtain ⟨q, vs, e', g, h, h0, _⟩ := k
    rw [e] at e'; cases e'
    exact .inr h0
  | hld v a u => cases hm
theorem SV.fresh (sv : SV K F S G σ H) (hp : H p = none) : NotMut S σ p := fun j m => by
  obtain ⟨vs, h, _⟩ := sv.mutH m
  rw [h] at hp; cases hp
theorem SV.inG (sv : SV K F S G σ H) (hp : G p = some o) : NotMut S σ p := fun j m => by
  obtain ⟨vs, _, h⟩ := sv.mutH m
  rw [h] at hp; cases hp
theorem SV.h0 (sv : SV K F S G σ H) (hp : H p = none) : F.H0 p = none := by
  cases q : F.H0 p with
  | none => rfl
  | some o =>
    obtain ⟨o', h⟩ := sv.live.2.1 p o q
    rw [h] at hp; cases hp
theorem SlOk.mono {sl : Sl} {ov : Option (Option V)} (e : Ex G G') (h : SlOk K F G H ov sl) (hm : ∀ p, ov = some (some (.ref p)) → sl.mut = true → G' p = none ∧ H' p = H p) : SlOk K F G' H' ov sl := by
  cases sl with
  | unk => trivial
  | val d => obtain ⟨v, a, b⟩ := h; exact ⟨v, a, b.mono e⟩
  | own ds =>
    obtain ⟨q, vs, e', g, h, r⟩ := h
    obtain ⟨m1, m2⟩ := hm q e' rfl
    exact ⟨q, vs, e', m1, m2.trans h, r.mono e⟩
  | row =>
    obtain ⟨q, f, e', g, s, sc, a, b, c, h, r, i⟩ := h
    obtain ⟨m1, m2⟩ := hm q e' rfl
    exact ⟨q, f, e', m1, s, sc, a, b, c, m2.trans h, sqL_mono e r, i⟩
  | fix v => exact h
  | new d => obtain ⟨v, a, b⟩ := h; exact ⟨v, a, b.mono e fun _ z => z⟩
  | ownN ds =>
    obtain ⟨q, vs, e', g, h, h0, r⟩ := h
    obtain ⟨m1, m2⟩ := hm q e' rfl
    exact ⟨q, vs, e', m1, m2.trans h, h0, r.mono e fun _ z => z⟩
  | wild n =>
    obtain ⟨q, vs, e', g, h, h0, r⟩ := h
    obtain ⟨m1, m2⟩ := hm q e' rfl
    exact ⟨q, vs, e', m1, m2.trans h, h0, r⟩
  | hld v a u => exact ⟨h.1, e _ _ h.2⟩
/-- more in the ground and in the heap, at places that no slot changes; tables may be written -/
theorem SV.growT (sv : SV K F S G σ H) (e : Ex G G') (gh : Ex G' H') (eh : ∀ a o, NotMut S σ a → H a = some o → NT o → H' a = some o) (el : ∀ a o, H a = some o → ∃ o', H' a = some o') (et : TabG H H') (hm : ∀ j p, MutAt S σ p j → G' p = none ∧ H' p = H p)
    (hn : ∀ a o, G' a = some o → G a = some o ∨ F.H0 a = none) : SV K F S G' σ H' where
  base := sv.base.trans e
  gh := gh
  keep := fun a o ha h0 nt => by
    by_cases q : ∃ j, MutAt S σ a j
    · obtain ⟨j, m⟩ := q
      rw [(hm j a m).2]; exact sv.keep a o ha h0 nt
    · exact eh a o (fun j m => q ⟨j, m⟩) (sv.keep a o ha h0 nt) nt
  live := ⟨fun r hr => by
    obtain ⟨o, h⟩ := sv.live.1 r hr
    exact el r o h, fun a o h => by
    obtain ⟨o', h'⟩ := sv.live.2.1 a o h
    exact el a o' h', sv.live.2.2.trans et⟩
  new := fun a o h => (hn a o h).elim (sv.new a o) .inr
  slot := fun i sl h => (sv.slot i sl h).mono e fun p ho hmt => hm i p ⟨⟨sl, h, hmt⟩, ho⟩
  sep := sv.sep
  own0 := sv.own0
  len := sv.len
  bh := sv.bh
/-- more in the ground and in the heap, at places that no slot changes -/
theorem SV.grow (sv : SV K F S G σ H) (e : Ex G G') (gh : Ex G' H') (eh : ∀ a o, NotMut S σ a → H a = some o → H' a = some o) (hm : ∀ j p, MutAt S σ p j → G' p = none ∧ H' p = H p)
    (hn : ∀ a o, G' a = some o → G a = some o ∨ F.H0 a = none) : SV K F S G' σ H' :=
  sv.growT e gh (fun a o n h _ => eh a o n h) (fun a o h => by
    by_cases q : ∃ j, MutAt S σ a j
    · obtain ⟨j, m⟩ := q
      exact ⟨o, by rw [(hm j a m).2]; exact h⟩
    · exact ⟨o, eh a o (fun j m => q ⟨j, m⟩) h⟩) (TabG.of fun a o h nl => eh a o (fun j m => by
      obtain ⟨vs, h1, _⟩ := sv.mutH m
      rw [h1] at h; cases h
      exact nl _ rfl) h) hm hn
/-- a new thing, on the ground -/
theorem SV.alloc (sv : SV K F S G σ H) (hp : H p = none) : SV K F S (upd G p o) σ (upd H p o) := by
  have gp : G p = none := sv.gh.none hp
  refine sv.grow (Ex.upd gp) sv.gh.upd2 (fun a o _ h => Ex.upd hp a o h) (fun j q m => ?_) (fun a o' h => ?_)
  · have ne : q ≠ p := fun z => sv.fresh hp j (z ▸ m)
    obtain ⟨vs, h1, h2⟩ := sv.mutH m
    rw [upd_ne ne, upd_ne ne]; exact ⟨h2, rfl⟩
  · by_cases z : a = p
    · subst z; exact .inr (sv.h0 hp)
    · rw [upd_ne z] at h; exact .inl h
/-- a new thing, beside the ground -/
theorem SV.allocO (sv : SV K F S G σ H) (hp : H p = none) : SV K F S G σ (upd H p o) := by
  have gp : G p = none := sv.gh.none hp
  refine sv.grow (Ex.refl G) (sv.gh.mut gp) (fun a o _ h => Ex.upd hp a o h) (fun j q m => ?_) (fun a o' h => .inl h)
  have ne : q ≠ p := fun z => sv.fresh hp j (z ▸ m)
  obtain ⟨vs, h1, h2⟩ := sv.mutH m
  rw [upd_ne ne]; exact ⟨h2, rfl⟩
/-- a list is written: all that stood is something, tables stay good -/
theorem SV.live_upd (sv : SV K F S G σ H) {ws us : List V} (hh : H p = some (.lst ws)) : (∀ r, F.r = some r → ∃ o, upd H p (.lst us) r = some o) ∧ (∀ a o, F.H0 a = some o → ∃ o', upd H p (.lst us) a = some o') ∧ TabG F.H0 (upd H p (.lst us)) := by
  have l : ∀ a o, H a = some o → ∃ o', upd H p (.lst us) a = some o' := fun a o h => by
    by_cases z : a = p
    · subst z; exact ⟨_, upd_same⟩
    · exact ⟨o, by rw [upd_ne z]; exact h⟩
  refine ⟨fun r hr => ?_, fun a o q => ?_, sv.live.2.2.trans (TabG.of fun a o' q nl => ?_)⟩
  · obtain ⟨o', h⟩ := sv.live.1 r hr
    exact l r o' h
  · obtain ⟨o', h⟩ := sv.live.2.1 a o q
    exact l a o' h
  · rw [upd_ne (fun z => by subst z; rw [hh] at q; cases q; exact nl _ rfl)]; exact q
/-- a thing beside the ground that no slot holds is written -/
theorem SV.write (sv : SV K F S G σ H) (gp : G p = none) (hp : NotMut S σ p) (h0 : F.H0 p = none) {ws : List V} (hh : H p = some (.lst ws)) : SV K F S G σ (upd H p o) := by
  refine ⟨sv.base, sv.gh.mut gp, fun a o' ha q nt => ?_, ⟨fun r hr => ?_, fun a o' q => ?_, sv.live.2.2.trans (TabG.of fun a o' q nl => ?_)⟩, sv.new, fun i sl h => (sv.slot i sl h).mono (Ex.refl G) fun q ho hmt => ?_, sv.sep, sv.own0, sv.len, sv.bh⟩
  · rw [upd_ne (ne_of_none q h0)]; exact sv.keep a o' ha q nt
  · obtain ⟨o', h⟩ := sv.live.1 r hr
    by_cases z : r = p
    · subst z; exact ⟨o, upd_same⟩
    · exact ⟨o', by rw [upd_ne z]; exact h⟩
  · rw [upd_ne (ne_of_none q h0)]; exact sv.live.2.1 a o' q
  · rw [upd_ne (fun z => by subst z; rw [hh] at q; cases q; exact nl _ rfl)]; exact q
  · have m : MutAt S σ q i := ⟨⟨sl, h, hmt⟩, ho⟩
    have ne : q ≠ p := fun z => hp i (z ▸ m)
    rw [upd_ne ne]
    obtain ⟨vs, _, g⟩ := sv.mutH m
    exact ⟨g, rfl⟩
/-- the ground takes in what stands beside it -/
theorem SV.ground (sv : SV K F S G σ H) (gp : G p = none) (hp : NotMut S σ p) (h0 : F.H0 p = none) (hh : H p = some o) : SV K F S (upd G p o) σ H := by
  refine sv.grow (Ex.upd gp) (fun a o' h => ?_) (fun a o _ h => h) (fun j q m => ?_) (fun a o' h => ?_)
  · by_cases z : a = p
    · subst z; rw [upd_same] at h; cases h; exact hh
    · rw [upd_ne z] at h; exact sv.gh a o' h
  · have ne : q ≠ p := fun z => hp j (z ▸ m)
    obtain ⟨vs, _, g⟩ := sv.mutH m
    rw [upd_ne ne]; exact ⟨g, rfl⟩
  · by_cases z : a = p
    · subst z; exact .inr h0
    · rw [upd_ne z] at h; exact .inl h

/-- a step: from S, G, H to S', G', H' -/
structure Stp (K : PySem.W.Frag) (F : Fr) (σ : L2.St) (S : List Sl) (G H : Hp) (S' : List Sl) (G' H' : Hp) : Prop where
  g : Ex G G'
  kp : ∀ a o, H a = some o → NotMut S σ a → NT o → H' a = some o
  less : Less S' S
  sv : SV K F S' G' σ H'
  lv : ∀ a o, H a = some o → ∃ o', H' a = some o'
  nw : ∀ a o, G' a = some o → G a = some o ∨ H a = none
theorem Less.refl (S : List Sl) : Less S S := fun j sl h m => ⟨sl, h, m⟩
theorem Less.trans (a : Less S1 S) (b : Less S2 S1) : Less S2 S := fun j sl h m => by
  obtain ⟨s1, h1, m1⟩ := b j sl h m
  exact a j s1 h1 m1
theorem Less.not (l : Less S' S) (h : NotMut S σ p) : NotMut S' σ p := fun j m => by
  obtain ⟨⟨sl, h1, h2⟩, e⟩ := m
  obtain ⟨sl', h3, h4⟩ := l j sl h1 h2
  exact h j ⟨⟨sl', h3, h4⟩, e⟩
theorem Stp.refl (sv : SV K F S G σ H) : Stp K F σ S G H S G H := ⟨Ex.refl G, fun _ _ h _ _ => h, Less.refl S, sv, fun _ o h => ⟨o, h⟩, fun _ _ h => .inl h⟩
theorem Stp.trans (a : Stp K F σ S G H S1 G1 H1) (b : Stp K F σ S1 G1 H1 S2 G2 H2) : Stp K F σ S G H S2 G2 H2 :=
  ⟨a.g.trans b.g, fun x o h n nt => b.kp x o (a.kp x o h n nt) (a.less.not n) nt, a.less.trans b.less, b.sv, fun x o h => by
    obtain ⟨o', h'⟩ := a.lv x o h
    exact b.lv x o' h', fun x o h => by
    rcases b.nw x o h with h | h
    · exact a.nw x o h
    · right
      cases q : H x with
      | none => rfl
      | some u =>
        obtain ⟨o', h'⟩ := a.lv x u q
        rw [h'] at h; cases h⟩
theorem Stp.alloc (sv : SV K F S G σ H) (hp : H p = none) : Stp K F σ S G H S (upd G p o) (upd H p o) :=
  ⟨Ex.upd (sv.gh.none hp), fun a o' h _ _ => Ex.upd hp a o' h, Less.refl S, sv.alloc hp, fun a o' h => ⟨o', Ex.upd hp a o' h⟩, fun a o' h => by
    by_cases z : a = p
    · subst z; exact .inr hp
    · rw [upd_ne z] at h; exact .inl h⟩
theorem Stp.allocO (sv : SV K F S G σ H) (hp : H p = none) : Stp K F σ S G H S G (upd H p o) :=
  ⟨Ex.refl G, fun a o' h _ _ => Ex.upd hp a o' h, Less.refl S, sv.allocO hp, fun a o' h => ⟨o', Ex.upd hp a o' h⟩, fun a o' h => .inl h⟩
end
end FW

namespace FW
open PySem PySem.Spec PyProof.Rows L2
variable [Tb]

/-! ### judgements: what is shown of an expression in a state of slots -/
abbrev PD := D → List Sl → Prop
def rd (K : PySem.W.Frag) (F : Fr) (S : List Sl) (P : PD) : TE := fun σ H Q => ∃ G, SV K F S G σ H ∧
  ∀ d S' G' v H', P d S' → Stp K F σ S G H S' G' H' → Rp G' v d → Q v H'
/-- a new list -/
def rdO (K : PySem.W.Frag) (F : Fr) (S : List Sl) (P : List D → List Sl → Prop) : TE := fun σ H Q => ∃ G, SV K F S G σ H ∧
  ∀ ds S' G' p vs H', P ds S' → Stp K F σ S G H S' G' H' → G' p = none → H p = none → NotMut S' σ p → H' p = some (.lst vs) → Rps G' vs ds → Q (.ref p) H'
def rdT (K : PySem.W.Frag) (F : Fr) (S : List Sl) (P : Bool → List Sl → Prop) : TT := fun σ H Q => ∃ G, SV K F S G σ H ∧
  ∀ b S' G' H', P b S' → Stp K F σ S G H S' G' H' → Q b H'
def rdA (K : PySem.W.Frag) (F : Fr) (S : List Sl) (P : List D → List Sl → Prop) : TA := fun σ H Q => ∃ G, SV K F S G σ H ∧
  ∀ ds S' G' vs H', P ds S' → Stp K F σ S G H S' G' H' → Rps G' vs ds → Q vs H'
def DE (X : Cx) (F : Fr) (S : List Sl) (e : Expr) (P : PD) : Prop := PE X e (rd X.K F S P)
def DO (X : Cx) (F : Fr) (S : List Sl) (e : Expr) (P : List D → List Sl → Prop) : Prop := PE X e (rdO X.K F S P)
def DT (X : Cx) (F : Fr) (S : List Sl) (e : Expr) (P : Bool → List Sl → Prop) : Prop := PT X e (rdT X.K F S P)
def DW (X : Cx) (F : Fr) (S : List Sl) (e : Expr) (P : Bool → List Sl → Prop) : Prop := PW X e (rdT X.K F S P)
def DA (X : Cx) (F : Fr) (S : List Sl) (es : List Expr) (P : List D → List Sl → Prop) : Prop := PA X es (rdA X.K F S P)

/-- the reading that takes whatever has been shown -/
def tE (X : Cx) (F : Fr) (e : Expr) : TE := fun σ H Q => ∃ S P, DE X F S e P ∧ rd X.K F S P σ H Q
def tT (X : Cx) (F : Fr) (e : Expr) : TT := fun σ H Q => ∃ S P, DT X F S e P ∧ rdT X.K F S P σ H Q
def tW (X : Cx) (F : Fr) (e : Expr) : TT := fun σ H Q => ∃ S P, DW X F S e P ∧ rdT X.K F S P σ H Q
def tA (X : Cx) (F : Fr) (es : List Expr) : TA := fun σ H Q => ∃ S P, DA X F S es P ∧ rdA X.K F S P σ H Q
section
variable {X : Cx} {F : Fr} {S : List Sl} {e a b c : Expr} {es rest : List Expr} {P P' : PD} {pos : Pos}
theorem pe_any : PE X e (tE X F e) := ⟨fun pins s σ H Q I ⟨_, _, h, r⟩ => PE.run h pins s σ H Q I r⟩
theorem pt_any : PT X e (tT X F e) := ⟨fun pins s σ H Q I ⟨_, _, h, r⟩ => PT.run h pins s σ H Q I r⟩
theorem pw_any : PW X e (tW X F e) := ⟨fun wh pins s σ H Q I ⟨_, _, h, r⟩ => PW.run h wh pins s σ H Q I r⟩
theorem pa_any : PA X es (tA X F es) := ⟨fun p pins s σ H Q I ⟨_, _, h, r⟩ => PA.run h p pins s σ H Q I r⟩
theorem de_mk {t : TE} (h : PE X e t) (k : ∀ σ H Q, rd X.K F S P σ H Q → t σ H Q) : DE X F S e P := ⟨fun pins s σ H Q I r => h.run pins s σ H Q I (k σ H Q r)⟩
theorem do_mk {P : List D → List Sl → Prop} {t : TE} (h : PE X e t) (k : ∀ σ H Q, rdO X.K F S P σ H Q → t σ H Q) : DO X F S e P := ⟨fun pins s σ H Q I r => h.run pins s σ H Q I (k σ H Q r)⟩
theorem dt_mk {P : Bool → List Sl → Prop} {t : TT} (h : PT X e t) (k : ∀ σ H Q, rdT X.K F S P σ H Q → t σ H Q) : DT X F S e P := ⟨fun pins s σ H Q I r => h.run pins s σ H Q I (k σ H Q r)⟩
theorem dw_mk {P : Bool → List Sl → Prop} {t : TT} (h : PW X e t) (k : ∀ σ H Q, rdT X.K F S P σ H Q → t σ H Q) : DW X F S e P := ⟨fun wh pins s σ H Q I r => h.run wh pins s σ H Q I (k σ H Q r)⟩
theorem da_mk {P : List D → List Sl → Prop} {t : TA} (h : PA X es t) (k : ∀ σ H Q, rdA X.K F S P σ H Q → t σ H Q) : DA X F S es P := ⟨fun p pins s σ H Q I r => h.run p pins s σ H Q I (k σ H Q r)⟩
theorem DE.imp (h : DE X F S e P) (k : ∀ d S', P d S' → P' d S') : DE X F S e P' := de_mk h fun _ _ _ ⟨G, sv, q⟩ => ⟨G, sv, fun d S' G' v H' hp => q d S' G' v H' (k d S' hp)⟩
theorem DT.imp {P P' : Bool → List Sl → Prop} (h : DT X F S e P) (k : ∀ d S', P d S' → P' d S') : DT X F S e P' := dt_mk h fun _ _ _ ⟨G, sv, q⟩ => ⟨G, sv, fun d S' G' H' hp => q d S' G' H' (k d S' hp)⟩
theorem DO.imp {P P' : List D → List Sl → Prop} (h : DO X F S e P) (k : ∀ d S', P d S' → P' d S') : DO X F S e P' := do_mk h fun _ _ _ ⟨G, sv, q⟩ => ⟨G, sv, fun d S' G' p vs H' hp => q d S' G' p vs H' (k d S' hp)⟩

/-- a new list as a value -/
theorem de_o (h : DO X F S e (fun ds S' => P (.list ds) S')) : DE X F S e P := de_mk h fun σ H Q ⟨G, sv, q⟩ => ⟨G, sv, fun ds S' G' p vs H' hp st gp hpn nm hh r => by
  have e0 : F.H0 p = none := sv.h0 hpn
  have sv2 := st.sv.ground gp nm e0 hh
  refine q _ S' (upd G' p (.lst vs)) _ H' hp ⟨st.g.trans (Ex.upd gp), st.kp, st.less, sv2, st.lv, fun x o h => ?_⟩ (.lst upd_same (r.mono (Ex.upd gp)))
  by_cases z : x = p
  · subst z; exact .inr hpn
  · rw [upd_ne z] at h; exact st.nw x o h⟩

/-! ### names, constants -/
theorem de_v (i : Nat) {x : Str} {d : D} (hS : S[i]? = some (.val d)) (h : P d S) (hN : X.N[i]? = some x := by rfl) (hv : Vis X.env.scope x := by first | exact Or.inl rfl | exact Or.inr (Or.inl rfl) | exact Or.inr (Or.inr rfl))
    (hd : (x == ("__debug__" : Str)) = false := by decide) (hcd : (x == ("__classdict__" : Str)) = false := by decide) : DE X F S (.Name x pos) P :=
  de_mk (pe_var hN hv hd hcd) fun σ H Q ⟨G, sv, q⟩ => by
    obtain ⟨v, e, r⟩ := sv.slot i _ hS
    exact ⟨v, e, q d S G v H h (.refl sv) r⟩
theorem de_const {d : D} {v : V} (he : PE X e (tC v)) (r : ∀ G, Rp G v d) (h : P d S) : DE X F S e P := de_mk he fun σ H Q ⟨G, sv, q⟩ => q d S G v H h (.refl sv) (r G)
theorem de_int {i j} (h : P (.int i) S) : DE X F S (.Constant (.int i) j pos) P := de_const pe_int (fun _ => .int i) h
theorem de_bl {i j} (h : P (.bool i) S) : DE X F S (.Constant (.bool i) j pos) P := de_const pe_bl (fun _ => .bl i) h
theorem de_non {j} (h : P .none S) : DE X F S (.Constant .none j pos) P := de_const pe_non (fun _ => .non) h
theorem de_str {i j} (h : P (.str i) S) : DE X F S (.Constant (.str i) j pos) P := de_const pe_str (fun _ => .str i) h
theorem de_gi {x : Str} {i : Int} (hm : ∃ t, X.mg x = some (.int i t)) (h : P (.int i) S) (hg : Gl X x := by rfl) (hd : (x == ("__debug__" : Str)) = false := by decide) : DE X F S (.Name x pos) P := by
  obtain ⟨t, hm⟩ := hm
  exact de_const (pe_glob (v := .int i) hg hm ⟨t, rfl⟩ hd) (fun _ => .int i) h
theorem de_gs {x : Str} {i : Str} (hm : ∃ t, X.mg x = some (.str i t)) (h : P (.str i) S) (hg : Gl X x := by rfl) (hd : (x == ("__debug__" : Str)) = false := by decide) : DE X F S (.Name x pos) P := by
  obtain ⟨t, hm⟩ := hm
  exact de_const (pe_glob (v := .str i) hg hm ⟨t, rfl⟩ hd) (fun _ => .str i) h

/-! ### operators by values -/
def OpD (K : PySem.W.Frag) (F : Fr) (r : R2) (d1 d2 : D) (S : List Sl) (P : PD) : Prop :=
  ∀ x y G σ H Q, SV K F S G σ H → Rp G x d1 → Rp G y d2 → (∀ d S' G' v H', P d S' → Stp K F σ S G H S' G' H' → Rp G' v d → Q v H') → r x y H Q
theorem de_op {op : Operator} {r : R2} (ho : OpR X (binaryOp op) r) (h : DE X F S a (fun d1 S1 => DE X F S1 b (fun d2 S2 => OpD X.K F r d1 d2 S2 P))) : DE X F S (.BinOp a op b pos) P :=
  de_mk (pe_op ho h pe_any) fun σ H Q ⟨G, sv, k⟩ => ⟨G, sv, fun d1 S1 G1 x H1 h1 st1 r1 => ⟨S1, _, h1, G1, st1.sv, fun d2 S2 G2 y H2 h2 st2 r2 =>
    h2 x y G2 σ H2 Q st2.sv (r1.mono st2.g) r2 fun d S' G' v H' hp st r => k d S' G' v H' hp ((st1.trans st2).trans st) r⟩⟩
theorem opd_int {K : PySem.W.Frag} {g : Int → Int → Int} {i j : Int} (h : P (.int (g i j)) S) : OpD K F (rI0 fun i j => .int (g i j)) (.int i) (.int j) S P := fun x y G σ H Q sv rx ry k => by
  cases rx; cases ry
  exact ⟨i, j, rfl, rfl, k _ S G _ H h (.refl sv) (.int _)⟩
theorem opd_intC {K : PySem.W.Frag} {C : Int → Int → Prop} {g : Int → Int → Int} {i j : Int} (hc : C i j) (h : P (.int (g i j)) S) : OpD K F (rI C fun i j => .int (g i j)) (.int i) (.int j) S P := fun x y G σ H Q sv rx ry k => by
  cases rx; cases ry
  exact ⟨i, j, rfl, rfl, hc, k _ S G _ H h (.refl sv) (.int _)⟩
theorem opd_bl {K : PySem.W.Frag} {g : Int → Int → Bool} {i j : Int} (h : P (.bool (g i j)) S) : OpD K F (rI0 fun i j => .bl (g i j)) (.int i) (.int j) S P := fun x y G σ H Q sv rx ry k => by
  cases rx; cases ry
  exact ⟨i, j, rfl, rfl, k _ S G _ H h (.refl sv) (.bl _)⟩
/-- two ints -/
def I2 (d1 d2 : D) (k : Int → Int → Prop) : Prop := ∃ i j, d1 = .int i ∧ d2 = .int j ∧ k i j
theorem i2 {i j : Int} {k : Int → Int → Prop} (h : k i j) : I2 (.int i) (.int j) k := ⟨i, j, rfl, rfl, h⟩
theorem de_add (h : DE X F S a (fun d1 S1 => DE X F S1 b (fun d2 S2 => I2 d1 d2 fun i j => P (.int (i + j)) S2))) : DE X F S (.BinOp a .Add b pos) P :=
  de_op op_add (h.imp fun d1 S1 h1 => h1.imp fun d2 S2 ⟨i, j, e1, e2, h2⟩ => by subst e1; subst e2; exact opd_int h2)
theorem de_sub (h : DE X F S a (fun d1 S1 => DE X F S1 b (fun d2 S2 => I2 d1 d2 fun i j => P (.int (i - j)) S2))) : DE X F S (.BinOp a .Sub b pos) P :=
  de_op op_sub (h.imp fun d1 S1 h1 => h1.imp fun d2 S2 ⟨i, j, e1, e2, h2⟩ => by subst e1; subst e2; exact opd_int h2)
theorem de_mul (h : DE X F S a (fun d1 S1 => DE X F S1 b (fun d2 S2 => I2 d1 d2 fun i j => CMul i j ∧ P (.int (i * j)) S2))) : DE X F S (.BinOp a .Mult b pos) P :=
  de_op op_mul (h.imp fun d1 S1 h1 => h1.imp fun d2 S2 ⟨i, j, e1, e2, hc, h2⟩ => by subst e1; subst e2; exact opd_intC hc h2)
theorem de_mod (h : DE X F S a (fun d1 S1 => DE X F S1 b (fun d2 S2 => I2 d1 d2 fun i j => 0 < j ∧ P (.int (i % j)) S2))) : DE X F S (.BinOp a .Mod b pos) P :=
  de_op op_mod (h.imp fun d1 S1 h1 => h1.imp fun d2 S2 ⟨i, j, e1, e2, hc, h2⟩ => by subst e1; subst e2; exact opd_intC hc h2)
theorem de_fdiv (h : DE X F S a (fun d1 S1 => DE X F S1 b (fun d2 S2 => I2 d1 d2 fun i j => CDiv i j ∧ P (.int (i / j)) S2))) : DE X F S (.BinOp a .FloorDiv b pos) P :=
  de_op op_fdiv (h.imp fun d1 S1 h1 => h1.imp fun d2 S2 ⟨i, j, e1, e2, hc, h2⟩ => by subst e1; subst e2; exact opd_intC hc h2)
theorem de_pow (h : DE X F S a (fun d1 S1 => DE X F S1 b (fun d2 S2 => I2 d1 d2 fun i j => CPow i j ∧ P (.int (i ^ j.toNat)) S2))) : DE X F S (.BinOp a .Pow b pos) P :=
  de_op op_pow (h.imp fun d1 S1 h1 => h1.imp fun d2 S2 ⟨i, j, e1, e2, hc, h2⟩ => by subst e1; subst e2; exact opd_intC hc h2)
theorem de_neg (h : DE X F S a (fun d1 S1 => ∃ i, d1 = .int i ∧ P (.int (-i)) S1)) : DE X F S (.UnaryOp .USub a pos) P :=
  de_mk (pe_un un_neg h) fun σ H Q ⟨G, sv, k⟩ => ⟨G, sv, fun d1 S1 G1 x H1 ⟨i, e, h1⟩ st1 r1 => by
    subst e; cases r1
    exact ⟨i, rfl, k _ S1 G1 _ H1 h1 st1 (.int _)⟩⟩

/-! ### comparisons -/
theorem de_cmp {op : CmpOp} {r : R2} (ho : OpR X (compareOp op) r) (hm : behindInMarks op b = false) (h : DE X F S a (fun d1 S1 => DE X F S1 b (fun d2 S2 => OpD X.K F r d1 d2 S2 P))) : DE X F S (.Compare a [op] [b] pos) P :=
  de_mk (pe_cmpR ho h pe_any hm) fun σ H Q ⟨G, sv, k⟩ => ⟨G, sv, fun d1 S1 G1 x H1 h1 st1 r1 => ⟨S1, _, h1, G1, st1.sv, fun d2 S2 G2 y H2 h2 st2 r2 =>
    h2 x y G2 σ H2 Q st2.sv (r1.mono st2.g) r2 fun d S' G' v H' hp st r => k d S' G' v H' hp ((st1.trans st2).trans st) r⟩⟩
/-- what is True or False, as a test -/
def B1 (d : D) (k : Bool → Prop) : Prop := ∃ b, d = .bool b ∧ k b
theorem b1 {b : Bool} {k : Bool → Prop} (h : k b) : B1 (.bool b) k := ⟨b, rfl, h⟩
theorem dt_val (he : ∀ whole, isTrue e X.env whole = (do let v ← whole; standAt e.pos; holding [v] (truthy v))) {P : Bool → List Sl → Prop} (h : DE X F S e (fun d S' => B1 d fun b => P b S')) : DT X F S e P :=
  dt_mk (pt_val h he) fun σ H Q ⟨G, sv, k⟩ => ⟨G, sv, fun d S1 G1 x H1 ⟨b, e, h1⟩ st r => by
    subst e; cases r
    exact ⟨b, rfl, k b S1 G1 H1 h1 st⟩⟩
theorem dt_cmp {op : CmpOp} {r : R2} {P : Bool → List Sl → Prop} (ho : OpR X (compareOp op) r) (hm : behindInMarks op b = false) (h : DE X F S a (fun d1 S1 => DE X F S1 b (fun d2 S2 => OpD X.K F r d1 d2 S2 (fun d S3 => B1 d fun b => P b S3)))) : DT X F S (.Compare a [op] [b] pos) P :=
  dt_mk (pt_cmpR ho h pe_any hm) fun σ H Q ⟨G, sv, k⟩ => ⟨G, sv, fun d1 S1 G1 x H1 h1 st1 r1 => ⟨S1, _, h1, G1, st1.sv, fun d2 S2 G2 y H2 h2 st2 r2 =>
    h2 x y G2 σ H2 _ st2.sv (r1.mono st2.g) r2 fun d S' G' v H' ⟨b, eb, hp⟩ st r => by
      subst eb; cases r
      exact ⟨b, rfl, k b S' G' H' hp ((st1.trans st2).trans st)⟩⟩⟩
/-- the four orders of ints, by the operator -/
inductive OrdOp : CmpOp → (Int → Int → Bool) → Prop
  | lt : OrdOp .Lt fun i j => decide (i < j)
  | le : OrdOp .LtE fun i j => decide (i ≤ j)
  | gt : OrdOp .Gt fun i j => decide (j < i)
  | ge : OrdOp .GtE fun i j => decide (j ≤ i)
theorem OrdOp.op {op : CmpOp} {g : Int → Int → Bool} (o : OrdOp op g) : OpR X (compareOp op) (rI0 fun i j => .bl (g i j)) := by
  cases o
  · exact op_lt
  · exact op_le
  · exact op_gt
  · exact op_ge
theorem OrdOp.mark {op : CmpOp} {g : Int → Int → Bool} (o : OrdOp op g) (b : Expr) : behindInMarks op b = false := by
  cases o <;> exact nomark b (by decide) (by decide)
theorem de_ord {op : CmpOp} {g : Int → Int → Bool} (o : OrdOp op g) (h : DE X F S a (fun d1 S1 => DE X F S1 b (fun d2 S2 => I2 d1 d2 fun i j => P (.bool (g i j)) S2))) : DE X F S (.Compare a [op] [b] pos) P :=
  de_cmp o.op (o.mark b) (h.imp fun d1 S1 h1 => h1.imp fun d2 S2 ⟨i, j, e1, e2, h2⟩ => by subst e1; subst e2; exact opd_bl h2)
theorem dt_ord {op : CmpOp} {g : Int → Int → Bool} {P : Bool → List Sl → Prop} (o : OrdOp op g) (h : DE X F S a (fun d1 S1 => DE X F S1 b (fun d2 S2 => I2 d1 d2 fun i j => P (g i j) S2))) : DT X F S (.Compare a [op] [b] pos) P :=
  dt_cmp o.op (o.mark b) (h.imp fun d1 S1 h1 => h1.imp fun d2 S2 ⟨i, j, e1, e2, h2⟩ => by subst e1; subst e2; exact opd_bl (b1 h2))

/-- == and != of data -/
abbrev Sh (d : D) : Prop := SeqAt.shaped d = true
def E2 (d1 d2 : D) (k : Bool → Prop) : Prop := Sh d1 ∧ Sh d2 ∧ k (PyData.eqv d1 d2)
theorem opd_eq {K : PySem.W.Frag} {d1 d2 : D} (h : E2 d1 d2 fun b => P (.bool b) S) : OpD K F (rEqD K) d1 d2 S P := fun x y G σ H Q sv rx ry k =>
  ⟨d1, d2, (rx.mono sv.gh).dp, (ry.mono sv.gh).dp, h.1, h.2.1, k _ S G _ H h.2.2 (.refl sv) (.bl _)⟩
theorem opd_ne {K : PySem.W.Frag} {d1 d2 : D} (h : E2 d1 d2 fun b => P (.bool (!b)) S) : OpD K F (rNeD K) d1 d2 S P := fun x y G σ H Q sv rx ry k =>
  ⟨d1, d2, (rx.mono sv.gh).dp, (ry.mono sv.gh).dp, h.1, h.2.1, k _ S G _ H h.2.2 (.refl sv) (.bl _)⟩
theorem de_eq {k : Nat} (hr : Room k X.A) (h : DE X F S a (fun d1 S1 => DE X F S1 b (fun d2 S2 => E2 d1 d2 fun b => P (.bool b) S2))) : DE X F S (.Compare a [.Eq] [b] pos) P :=
  de_cmp (op_eqD hr.units) (nomark b) (h.imp fun d1 S1 h => h.imp fun d2 S2 h => opd_eq h)
theorem de_ne {k : Nat} (hr : Room k X.A) (h : DE X F S a (fun d1 S1 => DE X F S1 b (fun d2 S2 => E2 d1 d2 fun b => P (.bool (!b)) S2))) : DE X F S (.Compare a [.NotEq] [b] pos) P :=
  de_cmp (op_neD hr.units) (nomark b) (h.imp fun d1 S1 h => h.imp fun d2 S2 h => opd_ne h)
theorem dt_eq {k : Nat} {P : Bool → List Sl → Prop} (hr : Room k X.A) (h : DE X F S a (fun d1 S1 => DE X F S1 b (fun d2 S2 => E2 d1 d2 fun b => P b S2))) : DT X F S (.Compare a [.Eq] [b] pos) P :=
  dt_cmp (op_eqD hr.units) (nomark b) (h.imp fun d1 S1 h => h.imp fun d2 S2 h => opd_eq ⟨h.1, h.2.1, b1 h.2.2⟩)
theorem dt_ne {k : Nat} {P : Bool → List Sl → Prop} (hr : Room k X.A) (h : DE X F S a (fun d1 S1 => DE X F S1 b (fun d2 S2 => E2 d1 d2 fun b => P (!b) S2))) : DT X F S (.Compare a [.NotEq] [b] pos) P :=
  dt_cmp (op_neD hr.units) (nomark b) (h.imp fun d1 S1 h => h.imp fun d2 S2 h => opd_ne ⟨h.1, h.2.1, b1 h.2.2⟩)
/-- == and != of flat things: ints, truth values, texts (no room asked) -/
def isNone : D → Bool
  | .none => true
  | _ => false
theorem rp_non_iff {G : Hp} {x : V} {d : D} (r : Rp G x d) : decide (x = .non) = isNone d := by
  cases r <;> simp [isNone]
theorem opd_isN {K : PySem.W.Frag} {d1 : D} (h : P (.bool (isNone d1)) S) : OpD K F (fun x y H Q => y = .non ∧ Q (.bl (decide (x = .non))) H) d1 .none S P := fun x y G σ H Q sv rx ry k => by
  cases ry
  refine ⟨rfl, ?_⟩
  rw [rp_non_iff rx]
  exact k _ S G _ H h (.refl sv) (.bl _)
theorem opd_notN {K : PySem.W.Frag} {d1 : D} (h : P (.bool (!isNone d1)) S) : OpD K F (fun x y H Q => y = .non ∧ Q (.bl (!decide (x = .non))) H) d1 .none S P := fun x y G σ H Q sv rx ry k => by
  cases ry
  refine ⟨rfl, ?_⟩
  rw [rp_non_iff rx]
  exact k _ S G _ H h (.refl sv) (.bl _)
theorem de_isN {j pos'} (h : DE X F S a (fun d1 S1 => P (.bool (isNone d1)) S1)) : DE X F S (.Compare a [.Is] [.Constant .none j pos'] pos) P :=
  de_cmp op_isN (nomark _) (h.imp fun d1 S1 h => de_non (opd_isN h))
theorem dt_isN {j pos'} {P : Bool → List Sl → Prop} (h : DE X F S a (fun d1 S1 => P (isNone d1) S1)) : DT X F S (.Compare a [.Is] [.Constant .none j pos'] pos) P :=
  dt_cmp op_isN (nomark _) (h.imp fun d1 S1 h => de_non (opd_isN (b1 h)))
theorem de_notN {j pos'} (h : DE X F S a (fun d1 S1 => P (.bool (!isNone d1)) S1)) : DE X F S (.Compare a [.IsNot] [.Constant .none j pos'] pos) P :=
  de_cmp op_notN (nomark _) (h.imp fun d1 S1 h => de_non (opd_notN h))
theorem dt_notN {j pos'} {P : Bool → List Sl → Prop} (h : DE X F S a (fun d1 S1 => P (!isNone d1) S1)) : DT X F S (.Compare a [.IsNot] [.Constant .none j pos'] pos) P :=
  dt_cmp op_notN (nomark _) (h.imp fun d1 S1 h => de_non (opd_notN (b1 h)))
end
end FW

namespace FW
open PySem PySem.Spec PyProof.Rows L2
variable [Tb]

section
variable {X : Cx} {F : Fr} {S : List Sl} {e a b c d : Expr} {es rest : List Expr} {P : PD} {PT : Bool → List Sl → Prop} {pos : Pos}
/-! ### chains of comparisons of ints -/
theorem dt_ch2 {op op' : CmpOp} {g g' : Int → Int → Bool} (o : OrdOp op g) (o' : OrdOp op' g')
    (h : DE X F S a (fun d1 S1 => DE X F S1 b (fun d2 S2 => I2 d1 d2 fun i j => (g i j = false → PT false S2) ∧ (g i j = true → DE X F S2 c (fun d3 S3 => ∃ k, d3 = .int k ∧ PT (g' j k) S3)))))
    (hm : lastMarks [op, op'] [b, c] = false := by with_unfolding_all rfl) : DT X F S (.Compare a [op, op'] [b, c] pos) PT :=
  dt_mk (pt_chain o.op o'.op h pe_any pe_any hm) fun σ H Q ⟨G, sv, k⟩ => ⟨G, sv, fun d1 S1 G1 x H1 h1 st1 r1 => ⟨S1, _, h1, G1, st1.sv, fun d2 S2 G2 y H2 ⟨i, j, e1, e2, hf, ht⟩ st2 r2 => by
    subst e1; subst e2; cases r1; cases r2
    refine ⟨i, j, rfl, rfl, g i j, rfl, ?_⟩
    by_cases hg : g i j = true
    · rw [if_pos hg]
      refine ⟨S2, _, ht hg, G2, st2.sv, fun d3 S3 G3 z H3 ⟨n, e3, hp⟩ st3 r3 => ?_⟩
      subst e3; cases r3
      exact ⟨j, n, rfl, rfl, g' j n, rfl, k _ S3 G3 H3 hp ((st1.trans st2).trans st3)⟩
    · rw [if_neg hg]
      exact ⟨false, rfl, k false S2 G2 H2 (hf (by simpa using hg)) (st1.trans st2)⟩⟩⟩
theorem de_ch2 {op op' : CmpOp} {g g' : Int → Int → Bool} (o : OrdOp op g) (o' : OrdOp op' g')
    (h : DE X F S a (fun d1 S1 => DE X F S1 b (fun d2 S2 => I2 d1 d2 fun i j => (g i j = false → P (.bool false) S2) ∧ (g i j = true → DE X F S2 c (fun d3 S3 => ∃ k, d3 = .int k ∧ P (.bool (g' j k)) S3)))))
    (hm : lastMarks [op, op'] [b, c] = false := by with_unfolding_all rfl) : DE X F S (.Compare a [op, op'] [b, c] pos) P :=
  de_mk (pe_chain o.op o'.op h pe_any pe_any hm) fun σ H Q ⟨G, sv, k⟩ => ⟨G, sv, fun d1 S1 G1 x H1 h1 st1 r1 => ⟨S1, _, h1, G1, st1.sv, fun d2 S2 G2 y H2 ⟨i, j, e1, e2, hf, ht⟩ st2 r2 => by
    subst e1; subst e2; cases r1; cases r2
    refine ⟨i, j, rfl, rfl, g i j, rfl, ?_⟩
    by_cases hg : g i j = true
    · rw [if_pos hg]
      refine ⟨S2, _, ht hg, G2, st2.sv, fun d3 S3 G3 z H3 ⟨n, e3, hp⟩ st3 r3 => ?_⟩
      subst e3; cases r3
      exact ⟨j, n, rfl, rfl, k _ S3 G3 _ H3 hp ((st1.trans st2).trans st3) (.bl _)⟩
    · rw [if_neg hg]
      exact k _ S2 G2 _ H2 (hf (by simpa using hg)) (st1.trans st2) (.bl _)⟩⟩
def tChain3 (r r' r'' : R2) (ta tb tc td : TE) : TE := fun σ H Q => ta σ H fun x H1 => tb σ H1 fun y H2 => r x y H2 fun z H3 => ∃ k, z = .bl k ∧
  (if k = true then tc σ H3 fun w' H4 => r' y w' H4 fun z' H5 => ∃ k', z' = .bl k' ∧ (if k' = true then td σ H5 fun u H6 => r'' w' u H6 Q else Q (.bl false) H5) else Q (.bl false) H3)
theorem pt_chain3 {op op' op'' : CmpOp} {r r' r'' : R2} {ta tb tc td : TE} (ho : OpR X (compareOp op) r) (ho' : OpR X (compareOp op') r') (ho'' : OpR X (compareOp op'') r'') (ha : PE X a ta) (hb : PE X b tb) (hc : PE X c tc) (hd : PE X d td)
    (hm : lastMarks [op, op', op''] [b, c, d] = false := by with_unfolding_all rfl) : L2.PT X (.Compare a [op, op', op''] [b, c, d] pos) (tTest (tChain3 r r' r'' ta tb tc td)) := by
  refine ⟨fun pins s σ H Q I h => ?_⟩
  refine isTrue_chain (thn (ha.run pins s σ H _ I h) fun v s1 ⟨x, H1, I1, r1, q1⟩ => test_link (thn (hb.run pins s1 σ H1 _ I1 q1) fun u s2 ⟨y, H2, I2, r2, q2⟩ =>
    thn (ho pins s2 σ H2 x y v u _ I2 r1 r2 q2) fun d s3 ⟨z, H3, I3, r3, k, e, q3⟩ => ?_)) hm
  subst e
  cases r3
  refine wpAny_truthy_bool ?_
  cases k with
  | false =>
    obtain ⟨k', e', q'⟩ := q3
    cases e'
    exact ite_ff ⟨H3, I3, q'⟩
  | true =>
    refine ite_tt (test_link (thn (hc.run pins s3 σ H3 _ I3 q3) fun w' s4 ⟨z', H4, I4, r4, q4⟩ => thn (ho' pins s4 σ H4 y z' u w' _ I4 r2 r4 q4) fun d' s5 ⟨z2, H5, I5, r5, k2, e2, q5⟩ => ?_))
    subst e2
    cases r5
    refine wpAny_truthy_bool ?_
    cases k2 with
    | false =>
      obtain ⟨k', e', q'⟩ := q5
      cases e'
      exact ite_ff ⟨H5, I5, q'⟩
    | true =>
      refine ite_tt (test_last (thn (hd.run pins s5 σ H5 _ I5 q5) fun w6 s6 ⟨z6, H6, I6, r6, q6⟩ => thn (ho'' pins s6 σ H6 z' z6 w' w6 _ I6 r4 r6 q6) fun d7 s7 ⟨z7, H7, I7, r7, k7, e7, q7⟩ => ?_))
      subst e7
      cases r7
      exact wpAny_truthy_bool ⟨H7, I7, q7⟩
theorem dt_ch3 {op op' op'' : CmpOp} {g g' g'' : Int → Int → Bool} (o : OrdOp op g) (o' : OrdOp op' g') (o'' : OrdOp op'' g'')
    (h : DE X F S a (fun d1 S1 => DE X F S1 b (fun d2 S2 => I2 d1 d2 fun i j => (g i j = false → PT false S2) ∧ (g i j = true → DE X F S2 c (fun d3 S3 => ∃ k, d3 = .int k ∧ (g' j k = false → PT false S3) ∧ (g' j k = true → DE X F S3 d (fun d4 S4 => ∃ l, d4 = .int l ∧ PT (g'' k l) S4)))))))
    (hm : lastMarks [op, op', op''] [b, c, d] = false := by with_unfolding_all rfl) : DT X F S (.Compare a [op, op', op''] [b, c, d] pos) PT :=
  dt_mk (pt_chain3 o.op o'.op o''.op h pe_any pe_any pe_any hm) fun σ H Q ⟨G, sv, k⟩ => ⟨G, sv, fun d1 S1 G1 x H1 h1 st1 r1 => ⟨S1, _, h1, G1, st1.sv, fun d2 S2 G2 y H2 ⟨i, j, e1, e2, hf, ht⟩ st2 r2 => by
    subst e1; subst e2; cases r1; cases r2
    refine ⟨i, j, rfl, rfl, g i j, rfl, ?_⟩
    by_cases hg : g i j = true
    · rw [if_pos hg]
      refine ⟨S2, _, ht hg, G2, st2.sv, fun d3 S3 G3 z H3 ⟨n, e3, hf2, ht2⟩ st3 r3 => ?_⟩
      subst e3; cases r3
      refine ⟨j, n, rfl, rfl, g' j n, rfl, ?_⟩
      by_cases hg2 : g' j n = true
      · rw [if_pos hg2]
        refine ⟨S3, _, ht2 hg2, G3, st3.sv, fun d4 S4 G4 z4 H4 ⟨l, e4, hp⟩ st4 r4 => ?_⟩
        subst e4; cases r4
        exact ⟨n, l, rfl, rfl, g'' n l, rfl, k _ S4 G4 H4 hp (((st1.trans st2).trans st3).trans st4)⟩
      · rw [if_neg hg2]
        exact ⟨false, rfl, k false S3 G3 H3 (hf2 (by simpa using hg2)) ((st1.trans st2).trans st3)⟩
    · rw [if_neg hg]
      exact ⟨false, rfl, k false S2 G2 H2 (hf (by simpa using hg)) (st1.trans st2)⟩⟩⟩

/-! ### not, and, or -/
theorem dt_not (h : DT X F S a (fun k S' => PT (!k) S')) : DT X F S (.UnaryOp .Not a pos) PT :=
  dt_mk (pt_not h) fun σ H Q ⟨G, sv, k⟩ => ⟨G, sv, fun b S' G' H' hp st => k (!b) S' G' H' hp st⟩
theorem dt_bw (h : DW X F S e PT) : DT X F S e PT := dt_mk (PW.pt h) fun _ _ _ r => r
theorem dw_or1 (h : DT X F S a PT) : DW X F S (.BoolOp .Or [a] pos) PT := dw_mk (pw_or1 h) fun _ _ _ r => r
theorem dw_and1 (h : DT X F S a PT) : DW X F S (.BoolOp .And [a] pos) PT := dw_mk (pw_and1 h) fun _ _ _ r => r
theorem dw_or (h : DT X F S a (fun k S' => (k = true → PT true S') ∧ (k = false → DW X F S' (.BoolOp .Or (b :: rest) pos) PT))) : DW X F S (.BoolOp .Or (a :: b :: rest) pos) PT :=
  dw_mk (pw_or h pw_any) fun σ H Q ⟨G, sv, k⟩ => ⟨G, sv, fun b S' G' H' hp st => by
    cases b with
    | true => exact iteT (k true S' G' H' (hp.1 rfl) st)
    | false => exact iteF ⟨S', _, hp.2 rfl, G', st.sv, fun b2 S2 G2 H2 hp2 st2 => k b2 S2 G2 H2 hp2 (st.trans st2)⟩⟩
theorem dw_and (h : DT X F S a (fun k S' => (k = false → PT false S') ∧ (k = true → DW X F S' (.BoolOp .And (b :: rest) pos) PT))) : DW X F S (.BoolOp .And (a :: b :: rest) pos) PT :=
  dw_mk (pw_and h pw_any) fun σ H Q ⟨G, sv, k⟩ => ⟨G, sv, fun b S' G' H' hp st => by
    cases b with
    | false => exact iteF (k false S' G' H' (hp.1 rfl) st)
    | true => exact iteT ⟨S', _, hp.2 rfl, G', st.sv, fun b2 S2 G2 H2 hp2 st2 => k b2 S2 G2 H2 hp2 (st.trans st2)⟩⟩
theorem de_one {op} (h : DE X F S a P) : DE X F S (.BoolOp op [a] pos) P := de_mk (pe_one h) fun _ _ _ r => r
theorem de_or (h : DE X F S a (fun d S' => B1 d fun k => (k = true → P (.bool true) S') ∧ (k = false → DE X F S' (.BoolOp .Or (b :: rest) pos) P))) : DE X F S (.BoolOp .Or (a :: b :: rest) pos) P :=
  de_mk (pe_or h pe_any) fun σ H Q ⟨G, sv, k⟩ => ⟨G, sv, fun d S' G' v H' ⟨b, e, h1, h2⟩ st r => by
    subst e; cases r
    refine ⟨b, rfl, ?_⟩
    cases b with
    | true => exact iteT (k _ S' G' _ H' (h1 rfl) st (.bl _))
    | false => exact iteF ⟨S', _, h2 rfl, G', st.sv, fun d2 S2 G2 v2 H2 hp2 st2 r2 => k d2 S2 G2 v2 H2 hp2 (st.trans st2) r2⟩⟩
theorem de_and (h : DE X F S a (fun d S' => B1 d fun k => (k = false → P (.bool false) S') ∧ (k = true → DE X F S' (.BoolOp .And (b :: rest) pos) P))) : DE X F S (.BoolOp .And (a :: b :: rest) pos) P :=
  de_mk (pe_and h pe_any) fun σ H Q ⟨G, sv, k⟩ => ⟨G, sv, fun d S' G' v H' ⟨b, e, h1, h2⟩ st r => by
    subst e; cases r
    refine ⟨b, rfl, ?_⟩
    cases b with
    | false => exact iteF (k _ S' G' _ H' (h1 rfl) st (.bl _))
    | true => exact iteT ⟨S', _, h2 rfl, G', st.sv, fun d2 S2 G2 v2 H2 hp2 st2 r2 => k d2 S2 G2 v2 H2 hp2 (st.trans st2) r2⟩⟩
theorem de_not (h : DE X F S a (fun d S' => B1 d fun k => P (.bool (!k)) S')) : DE X F S (.UnaryOp .Not a pos) P :=
  de_mk (pe_not h) fun σ H Q ⟨G, sv, k⟩ => ⟨G, sv, fun d S' G' v H' ⟨b, e, h1⟩ st r => by
    subst e; cases r
    exact ⟨b, rfl, k _ S' G' _ H' h1 st (.bl _)⟩⟩
theorem de_if (h : DT X F S c (fun k S' => (k = true → DE X F S' a P) ∧ (k = false → DE X F S' b P))) : DE X F S (.IfExp c a b pos) P :=
  de_mk (pe_ifExp h pe_any pe_any) fun σ H Q ⟨G, sv, k⟩ => ⟨G, sv, fun t S' G' H' hp st => by
    cases t with
    | true => exact iteT ⟨S', _, hp.1 rfl, G', st.sv, fun d2 S2 G2 v2 H2 hp2 st2 r2 => k d2 S2 G2 v2 H2 hp2 (st.trans st2) r2⟩
    | false => exact iteF ⟨S', _, hp.2 rfl, G', st.sv, fun d2 S2 G2 v2 H2 hp2 st2 r2 => k d2 S2 G2 v2 H2 hp2 (st.trans st2) r2⟩⟩

/-! ### arguments, displays -/
theorem da_nil {P : List D → List Sl → Prop} (h : P [] S) : DA X F S [] P := da_mk pa_nil fun σ H Q ⟨G, sv, k⟩ => k [] S G [] H h (.refl sv) .nil
theorem da_cons {P : List D → List Sl → Prop} (h : DE X F S e (fun d S' => DA X F S' es (fun ds S2 => P (d :: ds) S2))) (hs : starEach (e :: es) X.env = (false, eval e X.env) :: starEach es X.env := by rfl) : DA X F S (e :: es) P :=
  da_mk (pa_cons h pa_any hs) fun σ H Q ⟨G, sv, k⟩ => ⟨G, sv, fun d S' G' v H' hp st r => ⟨S', _, hp, G', st.sv, fun ds S2 G2 vs H2 hp2 st2 r2 =>
    k (d :: ds) S2 G2 (v :: vs) H2 hp2 (st.trans st2) (.cons (r.mono st2.g) r2)⟩⟩
theorem de_tup {x1} (h : DA X F S es (fun ds S' => ds.length ≤ sizeLine ∧ P (.tuple ds) S')) : DE X F S (.Tuple es x1 pos) P :=
  de_mk (pe_tup h) fun σ H Q ⟨G, sv, k⟩ => ⟨G, sv, fun ds S' G' vs H' hp st r => ⟨by rw [r.length]; exact hp.1, fun p hn =>
    k _ S' _ _ _ hp.2 (st.trans (.alloc st.sv hn)) (.tup upd_same (r.mono (Ex.upd (st.sv.gh.none hn))))⟩⟩
theorem do_lst {P : List D → List Sl → Prop} (h : DA X F S es (fun ds S' => ds.length ≤ sizeLine ∧ P ds S')) : DO X F S (.List es pos) P :=
  do_mk (pe_lst h) fun σ H Q ⟨G, sv, k⟩ => ⟨G, sv, fun ds S' G' vs H' hp st r => ⟨by rw [r.length]; exact hp.1, fun p hn =>
    k _ S' _ p vs _ hp.2 (st.trans (.allocO st.sv hn)) (st.sv.gh.none hn) (by
      cases q : H p with
      | none => rfl
      | some o => obtain ⟨o', h'⟩ := st.lv p o q; rw [h'] at hn; cases hn) (st.sv.fresh hn) upd_same r⟩⟩

/-! ### items -/
theorem Rps.atI {G : Hp} {xs : List V} {ds : List D} {i : Int} {d : D} (r : Rps G xs ds) (h : atI ds i = some d) : ∃ v, L2.atI xs i = some v ∧ Rp G v d := by
  unfold L2.atI at h ⊢
  rw [r.length]
  cases q : ixN ds.length i with
  | none => rw [q] at h; cases h
  | some j =>
    rw [q] at h
    exact r.get (i := j) (d := d) h
/-- a list's or a tuple's items -/
inductive Sq : D → List D → Prop
  | l (ds : List D) : Sq (.list ds) ds
  | t (ds : List D) : Sq (.tuple ds) ds
theorem rp_sq {K : PySem.W.Frag} {G H : Hp} {v : V} {d : D} {ds : List D} (e : Ex G H) (s : Sq d ds) (r : Rp G v d) : ∃ p xs, v = .ref p ∧ (SqL K H p xs ∨ SqT K H p xs) ∧ Rps G xs ds := by
  cases s with
  | l => cases r with | lst h r => exact ⟨_, _, rfl, .inl (SqL.of (e _ _ h)), r⟩
  | t => cases r with | tup h r => exact ⟨_, _, rfl, .inr (SqT.of (e _ _ h)), r⟩
def Ix (d1 d2 : D) (k : D → Prop) : Prop := ∃ ds i d, Sq d1 ds ∧ d2 = .int i ∧ atI ds i = some d ∧ k d
theorem de_ix (h : DE X F S a (fun d1 S1 => DE X F S1 b (fun d2 S2 => Ix d1 d2 fun d => P d S2))) (hs : PlainIx b := by exact fun _ _ => rfl) : DE X F S (.Subscript a b pos) P :=
  de_mk (pe_ix ix_seq h pe_any hs) fun σ H Q ⟨G, sv, k⟩ => ⟨G, sv, fun d1 S1 G1 x H1 h1 st1 r1 => ⟨S1, _, h1, G1, st1.sv, fun d2 S2 G2 y H2 ⟨ds, i, d, sq, e2, ea, hp⟩ st2 r2 => by
    subst e2; cases r2
    obtain ⟨p, xs, rfl, hq, rs⟩ := rp_sq (K := X.K) st2.sv.gh sq (r1.mono st2.g)
    obtain ⟨v, hv, rv⟩ := rs.atI ea
    have fin := k d S2 G2 v H2 hp (st1.trans st2) rv
    rcases hq with hq | hq
    · exact .inl ⟨p, xs, i, v, rfl, rfl, hq, hv, fin⟩
    · exact .inr (.inl ⟨p, xs, i, v, rfl, rfl, hq, hv, fin⟩)⟩⟩
/-- an item of a list of one's own -/
theorem de_ixO (i : Nat) {x : Str} {p0 : Pos} (h : DE X F S b (fun d2 S2 => ∃ ds j d, S2[i]? = some (.own ds) ∧ d2 = .int j ∧ atI ds j = some d ∧ P d S2)) (hO : ∃ ds, S[i]? = some (.own ds)) (hN : X.N[i]? = some x := by rfl)
    (hv : Vis X.env.scope x := by first | exact Or.inl rfl | exact Or.inr (Or.inl rfl) | exact Or.inr (Or.inr rfl)) (hs : PlainIx b := by exact fun _ _ => rfl)
    (hd : (x == ("__debug__" : Str)) = false := by decide) (hcd : (x == ("__classdict__" : Str)) = false := by decide) : DE X F S (.Subscript (.Name x p0) b pos) P :=
  de_mk (pe_ix ix_list (pe_var hN hv hd hcd) h hs) fun σ H Q ⟨G, sv, k⟩ => by
    obtain ⟨ds0, h0⟩ := hO
    obtain ⟨p, vs, ep, gp, hp, rs⟩ := sv.slot i _ h0
    refine ⟨.ref p, ep, G, sv, fun d2 S2 G2 y H2 ⟨ds, j, d, h2, e2, ea, hP⟩ st2 r2 => ?_⟩
    subst e2; cases r2
    obtain ⟨p', vs', ep', gp', hp', rs'⟩ := st2.sv.slot i _ h2
    rw [ep] at ep'; cases ep'
    obtain ⟨v, hv, rv⟩ := rs'.atI ea
    exact ⟨p, vs', j, v, rfl, rfl, SqL.of hp', hv, k d S2 G2 v H2 hP st2 rv⟩

/-! ### slices -/
def cutD (ds : List D) (lo hi : Option Int) : List D := (ds.drop (HT.sIx ds.length 0 lo)).take (HT.sIx ds.length ds.length hi - HT.sIx ds.length 0 lo)
theorem Rps.cut {G : Hp} {xs : List V} {ds : List D} (r : Rps G xs ds) (lo hi : Option Int) : Rps G (cutV xs lo hi) (cutD ds lo hi) := by
  unfold cutV cutD
  rw [r.length]
  exact (r.drop _).take _
theorem cutD_whole {ds : List D} {lo hi : Option Int} (h : HT.sIx ds.length 0 lo = 0 ∧ HT.sIx ds.length ds.length hi = ds.length) : cutD ds lo hi = ds := by
  unfold cutD
  rw [h.1, h.2]
  exact List.take_length
def rdP (K : PySem.W.Frag) (F : Fr) (S : List Sl) (P : Option Int → List Sl → Prop) : TO := fun σ H Q => ∃ G, SV K F S G σ H ∧
  ∀ o S' G' H', P o S' → Stp K F σ S G H S' G' H' → Q o H'
def DP (X : Cx) (F : Fr) (S : List Sl) (o : Option Expr) (P : Option Int → List Sl → Prop) : Prop := PO X o (rdP X.K F S P)
def tP (X : Cx) (F : Fr) (o : Option Expr) : TO := fun σ H Q => ∃ S P, DP X F S o P ∧ rdP X.K F S P σ H Q
theorem po_any {o : Option Expr} : PO X o (tP X F o) := ⟨fun pins s σ H Q I ⟨_, _, h, r⟩ => PO.run h pins s σ H Q I r⟩
theorem dp_none {P : Option Int → List Sl → Prop} (h : P none S) : DP X F S none P := ⟨fun pins s σ H Q I ⟨G, sv, k⟩ => po_none.run pins s σ H Q I (k none S G H h (.refl sv))⟩
theorem dp_some {P : Option Int → List Sl → Prop} (h : DE X F S e (fun d S' => ∃ i, d = .int i ∧ P (some i) S')) : DP X F S (some e) P := ⟨fun pins s σ H Q I ⟨G, sv, k⟩ =>
  (po_some h).run pins s σ H Q I ⟨G, sv, fun d S' G' v H' ⟨i, e, hp⟩ st r => by subst e; cases r; exact ⟨i, rfl, k (some i) S' G' H' hp st⟩⟩⟩
theorem de_slT {lo hi : Option Expr} {p2 : Pos} (h : DE X F S a (fun d S1 => ∃ ds, d = .tuple ds ∧ DP X F S1 lo (fun l S2 => DP X F S2 hi (fun u S3 => P (.tuple (cutD ds l u)) S3)))) : DE X F S (.Subscript a (.Slice lo hi none p2) pos) P :=
  de_mk (pe_slice sl_tupA h po_any po_any) fun σ H Q ⟨G, sv, k⟩ => ⟨G, sv, fun d S1 G1 x H1 ⟨ds, e, h1⟩ st1 r1 => ⟨S1, _, h1, G1, st1.sv, fun l S2 G2 H2 h2 st2 => ⟨S2, _, h2, G2, st2.sv, fun u S3 G3 H3 h3 st3 => by
    subst e
    cases r1 with
    | tup ht rs =>
      have ht3 := st3.sv.gh _ _ (st3.g _ _ (st2.g _ _ ht))
      refine ⟨_, _, rfl, SqT.of ht3, fun hw => ?_, fun hw p hn => ?_⟩
      · rw [rs.length] at hw
        have h3' : P (.tuple (cutD ds l u)) S3 := h3
        rw [cutD_whole hw] at h3'
        exact k _ S3 G3 _ H3 h3' ((st1.trans st2).trans st3) (.tup (st3.g _ _ (st2.g _ _ ht)) ((rs.mono st2.g).mono st3.g))
      · exact k _ S3 _ _ _ h3 (((st1.trans st2).trans st3).trans (.alloc st3.sv hn)) (.tup upd_same ((((rs.mono st2.g).mono st3.g).cut l u).mono (Ex.upd (st3.sv.gh.none hn))))⟩⟩⟩
theorem do_slL {P : List D → List Sl → Prop} {lo hi : Option Expr} {p2 : Pos} (h : DE X F S a (fun d S1 => ∃ ds, d = .list ds ∧ DP X F S1 lo (fun l S2 => DP X F S2 hi (fun u S3 => P (cutD ds l u) S3)))) : DO X F S (.Subscript a (.Slice lo hi none p2) pos) P :=
  do_mk (pe_slice sl_list h po_any po_any) fun σ H Q ⟨G, sv, k⟩ => ⟨G, sv, fun d S1 G1 x H1 ⟨ds, e, h1⟩ st1 r1 => ⟨S1, _, h1, G1, st1.sv, fun l S2 G2 H2 h2 st2 => ⟨S2, _, h2, G2, st2.sv, fun u S3 G3 H3 h3 st3 => by
    subst e
    cases r1 with
    | lst ht rs =>
      have ht3 := st3.sv.gh _ _ (st3.g _ _ (st2.g _ _ ht))
      refine ⟨_, _, rfl, SqL.of ht3, fun p hn => ?_⟩
      have st := (st1.trans st2).trans st3
      exact k _ S3 _ p _ _ h3 (st.trans (.allocO st3.sv hn)) (st3.sv.gh.none hn) (by
        cases q : H p with
        | none => rfl
        | some o => obtain ⟨o', h'⟩ := st.lv p o q; rw [h'] at hn; cases hn) (st3.sv.fresh hn) upd_same (((rs.mono st2.g).mono st3.g).cut l u)⟩⟩⟩

/-! ### built-in functions and types -/
def CallD (K : PySem.W.Frag) (F : Fr) (r : List V → Hp → VK → Prop) (ds : List D) (S : List Sl) (P : PD) : Prop :=
  ∀ vs G σ H Q, SV K F S G σ H → Rps G vs ds → (∀ d S' G' v H', P d S' → Stp K F σ S G H S' G' H' → Rp G' v d → Q v H') → r vs H Q
def CallO (K : PySem.W.Frag) (F : Fr) (r : List V → Hp → VK → Prop) (ds : List D) (S : List Sl) (P : List D → List Sl → Prop) : Prop :=
  ∀ vs G σ H Q, SV K F S G σ H → Rps G vs ds → (∀ ds' S' G' p vs' H', P ds' S' → Stp K F σ S G H S' G' H' → G' p = none → H p = none → NotMut S' σ p → H' p = some (.lst vs') → Rps G' vs' ds' → Q (.ref p) H') → r vs H Q
variable {x : Str} {p : Pos} {id T : String} {r : List V → Hp → VK → Prop}
theorem Stp.fresh {K : PySem.W.Frag} {F : Fr} {σ : L2.St} {S S' : List Sl} {G H G' H' : Hp} {p : Addr} (st : Stp K F σ S G H S' G' H') (h : H' p = none) : H p = none := by
  cases q : H p with
  | none => rfl
  | some o => obtain ⟨o', h'⟩ := st.lv p o q; rw [h'] at h; cases h
theorem de_callB (hc : CallR X (.builtin id) r) (hm : X.mg x = none) (hv : bootBuiltins x = some (.builtin id)) (h : DA X F S (e :: es) (fun ds S' => CallD X.K F r ds S' P)) (hg : Gl X x := by rfl) (hn : x ≠ "__name__" := by decide) (hdb : (x == ("__debug__" : Str)) = false := by decide)
    (he : starEach (e :: es) X.env = (false, eval e X.env) :: starEach es X.env := by rfl) (hpl : (backTo pos (starEach es X.env)).any (·.1) = false := by rfl) : DE X F S (.Call (.Name x p) (e :: es) [] pos) P :=
  de_mk (pe_callB hc hg hm hv h hn hdb he hpl) fun σ H Q ⟨G, sv, k⟩ => ⟨G, sv, fun ds S' G' vs H' hp st rs => hp vs G' σ H' Q st.sv rs fun d S2 G2 v H2 hp2 st2 r2 => k d S2 G2 v H2 hp2 (st.trans st2) r2⟩
theorem de_callT (hc : CallR X (.type T) r) (hm : X.mg x = none) (hv : bootBuiltins x = some (.type T)) (h : DA X F S (e :: es) (fun ds S' => CallD X.K F r ds S' P)) (hg : Gl X x := by rfl) (hn : x ≠ "__name__" := by decide) (hdb : (x == ("__debug__" : Str)) = false := by decide)
    (he : starEach (e :: es) X.env = (false, eval e X.env) :: starEach es X.env := by rfl) (hpl : (backTo pos (starEach es X.env)).any (·.1) = false := by rfl) : DE X F S (.Call (.Name x p) (e :: es) [] pos) P :=
  de_mk (pe_callTy hc hg hm hv h hn hdb he hpl) fun σ H Q ⟨G, sv, k⟩ => ⟨G, sv, fun ds S' G' vs H' hp st rs => hp vs G' σ H' Q st.sv rs fun d S2 G2 v H2 hp2 st2 r2 => k d S2 G2 v H2 hp2 (st.trans st2) r2⟩
theorem do_callB {P : List D → List Sl → Prop} (hc : CallR X (.builtin id) r) (hm : X.mg x = none) (hv : bootBuiltins x = some (.builtin id)) (h : DA X F S (e :: es) (fun ds S' => CallO X.K F r ds S' P)) (hg : Gl X x := by rfl) (hn : x ≠ "__name__" := by decide) (hdb : (x == ("__debug__" : Str)) = false := by decide)
    (he : starEach (e :: es) X.env = (false, eval e X.env) :: starEach es X.env := by rfl) (hpl : (backTo pos (starEach es X.env)).any (·.1) = false := by rfl) : DO X F S (.Call (.Name x p) (e :: es) [] pos) P :=
  do_mk (pe_callB hc hg hm hv h hn hdb he hpl) fun σ H Q ⟨G, sv, k⟩ => ⟨G, sv, fun ds S' G' vs H' hp st rs => hp vs G' σ H' Q st.sv rs fun d S2 G2 q vs2 H2 hp2 st2 g2 h2 n2 l2 r2 => k d S2 G2 q vs2 H2 hp2 (st.trans st2) g2 (st.fresh h2) n2 l2 r2⟩
theorem do_callT {P : List D → List Sl → Prop} (hc : CallR X (.type T) r) (hm : X.mg x = none) (hv : bootBuiltins x = some (.type T)) (h : DA X F S (e :: es) (fun ds S' => CallO X.K F r ds S' P)) (hg : Gl X x := by rfl) (hn : x ≠ "__name__" := by decide) (hdb : (x == ("__debug__" : Str)) = false := by decide)
    (he : starEach (e :: es) X.env = (false, eval e X.env) :: starEach es X.env := by rfl) (hpl : (backTo pos (starEach es X.env)).any (·.1) = false := by rfl) : DO X F S (.Call (.Name x p) (e :: es) [] pos) P :=
  do_mk (pe_callTy hc hg hm hv h hn hdb he hpl) fun σ H Q ⟨G, sv, k⟩ => ⟨G, sv, fun ds S' G' vs H' hp st rs => hp vs G' σ H' Q st.sv rs fun d S2 G2 q vs2 H2 hp2 st2 g2 h2 n2 l2 r2 => k d S2 G2 q vs2 H2 hp2 (st.trans st2) g2 (st.fresh h2) n2 l2 r2⟩
end
end FW

namespace FW
open PySem PySem.Spec PyProof.Rows L2
variable [Tb]

/-! ### states: stores, weaker states -/
section
variable {K : PySem.W.Frag} {F : Fr} {S S' S1 S2 : List Sl} {G G' G1 G2 H H' H1 H2 : Hp} {σ σ' : L2.St} {p : Addr} {o : HO}
theorem mutAt_set {i j : Nat} {sl : Sl} {x : Option V} {q : Addr} (h : MutAt (S.set i sl) (σ.set i x) q j) (hij : i ≠ j) : MutAt S σ q j := by
  obtain ⟨⟨t, h1, h2⟩, e⟩ := h
  rw [List.getElem?_set_ne hij] at h1 e
  exact ⟨⟨t, h1, h2⟩, e⟩
theorem SV.setV {i : Nat} {v : V} {d : D} (sv : SV K F S G σ H) (r : Rp G v d) : SV K F (S.set i (.val d)) G (σ.set i (some v)) H where
  base := sv.base
  gh := sv.gh
  keep := sv.keep
  live := sv.live
  new := sv.new
  slot := fun j sl h => by
    by_cases e : i = j
    · subst e
      have hl : i < S.length := by
        have := (List.getElem?_eq_some_iff.mp h).1
        rwa [List.length_set] at this
      rw [List.getElem?_set_self hl] at h; cases h
      have hl2 : i < σ.length := by rw [← sv.len]; exact hl
      exact ⟨v, by rw [List.getElem?_set_self hl2], r⟩
    · rw [List.getElem?_set_ne e] at h ⊢
      exact sv.slot j sl h
  sep := fun a b q ne ha hb => by
    have hna : i ≠ a := fun e => by
      subst e
      obtain ⟨⟨t, h1, h2⟩, _⟩ := ha
      have hl := (List.getElem?_eq_some_iff.mp h1).1
      rw [List.length_set] at hl
      rw [List.getElem?_set_self hl] at h1; cases h1; cases h2
    have hnb : i ≠ b := fun e => by
      subst e
      obtain ⟨⟨t, h1, h2⟩, _⟩ := hb
      have hl := (List.getElem?_eq_some_iff.mp h1).1
      rw [List.length_set] at hl
      rw [List.getElem?_set_self hl] at h1; cases h1; cases h2
    exact sv.sep a b q ne (mutAt_set ha hna) (mutAt_set hb hnb)
  own0 := fun a es q h1 h2 => by
    by_cases e : i = a
    · subst e
      have hl := (List.getElem?_eq_some_iff.mp h1).1
      rw [List.length_set] at hl
      rw [List.getElem?_set_self hl] at h1; cases h1
    · rw [List.getElem?_set_ne e] at h1 h2
      exact sv.own0 a es q h1 h2
  len := by rw [List.length_set, List.length_set]; exact sv.len
  bh := sv.bh
theorem SV.setO {i : Nat} {vs : List V} {ds : List D} (sv : SV K F S G σ H) (gp : G p = none) (nm : NotMut S σ p) (h0 : F.H0 p = none) (hp : H p = some (.lst vs)) (r : Rps G vs ds) : SV K F (S.set i (.own ds)) G (σ.set i (some (.ref p))) H where
  base := sv.base
  gh := sv.gh
  keep := sv.keep
  live := sv.live
  new := sv.new
  slot := fun j sl h => by
    by_cases e : i = j
    · subst e
      have hl : i < S.length := by
        have := (List.getElem?_eq_some_iff.mp h).1
        rwa [List.length_set] at this
      rw [List.getElem?_set_self hl] at h; cases h
      have hl2 : i < σ.length := by rw [← sv.len]; exact hl
      exact ⟨p, vs, by rw [List.getElem?_set_self hl2], gp, hp, r⟩
    · rw [List.getElem?_set_ne e] at h ⊢
      exact sv.slot j sl h
  sep := fun a b q ne ha hb => by
    have key : ∀ c, i ≠ c → MutAt (S.set i (.own ds)) (σ.set i (some (.ref p))) q c → MutAt (S.set i (.own ds)) (σ.set i (some (.ref p))) q i → False := fun c hc m m' => by
      have m1 := mutAt_set m hc
      obtain ⟨⟨t, h1, h2⟩, e⟩ := m'
      have hl := (List.getElem?_eq_some_iff.mp e).1
      rw [List.length_set] at hl
      rw [List.getElem?_set_self hl] at e; cases e
      exact nm c m1
    by_cases ea : i = a
    · subst ea; exact key b ne hb ha
    · by_cases eb : i = b
      · subst eb; exact key a ea ha hb
      · exact sv.sep a b q ne (mutAt_set ha ea) (mutAt_set hb eb)
  own0 := fun a es q h1 h2 => by
    by_cases ea : i = a
    · subst ea
      have hl := (List.getElem?_eq_some_iff.mp h2).1
      rw [List.length_set] at hl
      rw [List.getElem?_set_self hl] at h2; cases h2
      exact h0
    · rw [List.getElem?_set_ne ea] at h1 h2
      exact sv.own0 a es q h1 h2
  len := by rw [List.length_set, List.length_set]; exact sv.len
  bh := sv.bh
/-- a list of one's own is written -/
theorem SV.wOwn {i : Nat} {vs' : List V} {ds ds' : List D} (sv : SV K F S G σ H) (hs : S[i]? = some (.own ds)) (he : σ[i]? = some (some (.ref p))) (r : Rps G vs' ds') : SV K F (S.set i (.own ds')) G σ (upd H p (.lst vs')) := by
  have m : MutAt S σ p i := ⟨⟨_, hs, rfl⟩, he⟩
  obtain ⟨ws, hp, gp⟩ := sv.mutH m
  have hl := (List.getElem?_eq_some_iff.mp hs).1
  have back : ∀ {a q}, MutAt (S.set i (.own ds')) σ q a → MutAt S σ q a := fun {a q} ha => by
    obtain ⟨⟨t, h1, h2⟩, e⟩ := ha
    by_cases z : i = a
    · subst z; exact ⟨⟨_, hs, rfl⟩, e⟩
    · rw [List.getElem?_set_ne z] at h1; exact ⟨⟨t, h1, h2⟩, e⟩
  refine ⟨sv.base, sv.gh.mut gp, fun a o ha q nt => ?_, sv.live_upd hp, sv.new, fun j sl h => ?_, fun a b q ne ha hb => sv.sep a b q ne (back ha) (back hb), fun a es q h1 h2 => ?_, by rw [List.length_set]; exact sv.len, sv.bh⟩
  · by_cases z : a = p
    · subst z
      rw [sv.own0 i ds a hs he] at q; cases q
    · rw [upd_ne z]; exact sv.keep a o ha q nt
  · by_cases z : i = j
    · subst z
      rw [List.getElem?_set_self hl] at h; cases h
      exact ⟨p, vs', he, gp, upd_same, r⟩
    · rw [List.getElem?_set_ne z] at h
      refine (sv.slot j sl h).mono (Ex.refl G) fun q hq hm => ?_
      have mj : MutAt S σ q j := ⟨⟨sl, h, hm⟩, hq⟩
      obtain ⟨_, _, gq⟩ := sv.mutH mj
      have ne : q ≠ p := fun e => sv.sep i j p z m (e ▸ mj)
      exact ⟨gq, upd_ne ne⟩
  · by_cases z : i = a
    · subst z; exact sv.own0 i ds q hs h2
    · rw [List.getElem?_set_ne z] at h1; exact sv.own0 a es q h1 h2
/-- an own list taken for good: a value from now on -/
theorem SV.freeze {i : Nat} {ds : List D} (sv : SV K F S G σ H) (hs : S[i]? = some (.own ds)) : ∃ G', Ex G G' ∧ SV K F (S.set i (.val (.list ds))) G' σ H := by
  obtain ⟨p, vs, he, gp, hp, rs⟩ := sv.slot i _ hs
  have m : MutAt S σ p i := ⟨⟨_, hs, rfl⟩, he⟩
  have hl := (List.getElem?_eq_some_iff.mp hs).1
  refine ⟨upd G p (.lst vs), Ex.upd gp, ?_⟩
  have sub : ∀ {a q}, MutAt (S.set i (.val (.list ds))) σ q a → MutAt S σ q a ∧ i ≠ a := fun {a q} ha => by
    obtain ⟨⟨t, h1, h2⟩, e⟩ := ha
    by_cases z : i = a
    · subst z; rw [List.getElem?_set_self hl] at h1; cases h1; cases h2
    · rw [List.getElem?_set_ne z] at h1; exact ⟨⟨⟨t, h1, h2⟩, e⟩, z⟩
  refine ⟨sv.base.trans (Ex.upd gp), fun a o h => ?_, sv.keep, sv.live, fun a o h => ?_, fun j sl h => ?_, fun a b q ne ha hb => sv.sep a b q ne (sub ha).1 (sub hb).1, fun a es q h1 h2 => ?_, by rw [List.length_set]; exact sv.len, sv.bh⟩
  · by_cases z : a = p
    · subst z; rw [upd_same] at h; cases h; exact hp
    · rw [upd_ne z] at h; exact sv.gh a o h
  · by_cases z : a = p
    · subst z
      exact .inr (sv.own0 i ds a hs he)
    · rw [upd_ne z] at h; exact sv.new a o h
  · by_cases z : i = j
    · subst z
      rw [List.getElem?_set_self hl] at h; cases h
      exact ⟨.ref p, he, .lst upd_same (rs.mono (Ex.upd gp))⟩
    · rw [List.getElem?_set_ne z] at h
      refine (sv.slot j sl h).mono (Ex.upd gp) fun q hq hm => ?_
      have mj : MutAt S σ q j := ⟨⟨sl, h, hm⟩, hq⟩
      obtain ⟨_, _, gq⟩ := sv.mutH mj
      have ne : q ≠ p := fun e => sv.sep i j p z m (e ▸ mj)
      exact ⟨by rw [upd_ne ne]; exact gq, rfl⟩
  · by_cases z : i = a
    · subst z
      rw [List.getElem?_set_self hl] at h1; cases h1
    · rw [List.getElem?_set_ne z] at h1; exact sv.own0 a es q h1 h2
end
end FW

namespace FW
open PySem PySem.Spec PyProof.Rows L2
variable [Tb]

/-! ### weaker states -/
inductive Wk : List Sl → List Sl → Prop
  | nil : Wk [] []
  | same {s : Sl} {a b : List Sl} : Wk a b → Wk (s :: a) (s :: b)
  | unk {s : Sl} {a b : List Sl} : Wk a b → Wk (s :: a) (.unk :: b)
theorem Wk.refl : ∀ S : List Sl, Wk S S
  | [] => .nil
  | _ :: S => .same (Wk.refl S)
theorem Wk.len {S S' : List Sl} (w : Wk S S') : S'.length = S.length := by
  induction w with
  | nil => rfl
  | same _ ih => rw [List.length_cons, List.length_cons, ih]
  | unk _ ih => rw [List.length_cons, List.length_cons, ih]
theorem Wk.at {S S' : List Sl} (w : Wk S S') : ∀ (i : Nat) (sl : Sl), S'[i]? = some sl → S[i]? = some sl ∨ sl = .unk := by
  induction w with
  | nil => intro i sl h; simp at h
  | same _ ih =>
    intro i sl h
    cases i with
    | zero => simp at h; subst h; exact .inl rfl
    | succ i => exact ih i sl (by simpa using h)
  | unk _ ih =>
    intro i sl h
    cases i with
    | zero => simp at h; exact .inr h.symm
    | succ i => exact ih i sl (by simpa using h)
theorem SV.weak {K : PySem.W.Frag} {F : Fr} {S S' : List Sl} {G H : Hp} {σ : L2.St} (sv : SV K F S G σ H) (w : Wk S S') : SV K F S' G σ H := by
  have back : ∀ {p j}, MutAt S' σ p j → MutAt S σ p j := fun {p j} ⟨⟨t, h1, h2⟩, e⟩ => by
    rcases w.at j t h1 with h | h
    · exact ⟨⟨t, h, h2⟩, e⟩
    · subst h; cases h2
  refine ⟨sv.base, sv.gh, sv.keep, sv.live, sv.new, fun i sl h => ?_, fun i j p ne a b => sv.sep i j p ne (back a) (back b), fun i ds p h e => ?_, by rw [w.len]; exact sv.len, sv.bh⟩
  · rcases w.at i sl h with h | h
    · exact sv.slot i sl h
    · subst h; trivial
  · rcases w.at i _ h with h | h
    · exact sv.own0 i ds p h e
    · cases h

/-! ### statements -/
structure Post where
  nx : List Sl → Prop
  rt : D → List Sl → Prop
  ro : List D → List Sl → Prop
  bk : List Sl → Prop
  ct : List Sl → Prop
  rn : D → List Sl → Prop
/-- what is wanted behind -/
structure Ends' (K : PySem.W.Frag) (F : Fr) (P : Post) (D : Ends) (G : Hp) : Prop where
  nx : ∀ S' G' σ' H', P.nx S' → Ex G G' → SV K F S' G' σ' H' → D.nx σ' H'
  rt : ∀ d S' G' σ' v H', P.rt d S' → Ex G G' → SV K F S' G' σ' H' → Rp G' v d → D.rt v H'
  ro : ∀ ds S' G' σ' p vs H', P.ro ds S' → Ex G G' → SV K F S' G' σ' H' → G' p = none → F.H0 p = none → H' p = some (.lst vs) → Rps G' vs ds → D.rt (.ref p) H'
  bk : ∀ S' G' σ' H', P.bk S' → Ex G G' → SV K F S' G' σ' H' → D.bk σ' H'
  ct : ∀ S' G' σ' H', P.ct S' → Ex G G' → SV K F S' G' σ' H' → D.ct σ' H'
  rn : ∀ d S' G' σ' v H', P.rn d S' → Ex G G' → SV K F S' G' σ' H' → Rn (fun a => F.H0 a = none) G' v d → D.rt v H'
def rdS (K : PySem.W.Frag) (F : Fr) (S : List Sl) (P : Post) : TS := fun D σ H => ∃ G, SV K F S G σ H ∧ Ends' K F P D G
def DS (X : Cx) (F : Fr) (S : List Sl) (st : Stmt) (P : Post) : Prop := PS X st (rdS X.K F S P)
def DB (X : Cx) (F : Fr) (S : List Sl) (sts : List Stmt) (P : Post) : Prop := PSs X sts (rdS X.K F S P)
def tS (X : Cx) (F : Fr) (st : Stmt) : TS := fun D σ H => ∃ S P, DS X F S st P ∧ rdS X.K F S P D σ H
def tSs (X : Cx) (F : Fr) (sts : List Stmt) : TS := fun D σ H => ∃ S P, DB X F S sts P ∧ rdS X.K F S P D σ H
/-- the same post with another word for what comes next -/
abbrev Post.next (P : Post) (k : List Sl → Prop) : Post := { P with nx := k }
section
variable {X : Cx} {F : Fr} {S S' : List Sl} {st : Stmt} {rest body orelse : List Stmt} {P P' : Post} {e a b c : Expr} {pos : Pos}
theorem Ends'.mono {K : PySem.W.Frag} {D : Ends} {G G' : Hp} (h : Ends' K F P D G) (e : Ex G G') : Ends' K F P D G' :=
  ⟨fun S1 G1 σ1 H1 hp ex => h.nx S1 G1 σ1 H1 hp (e.trans ex), fun d S1 G1 σ1 v H1 hp ex => h.rt d S1 G1 σ1 v H1 hp (e.trans ex), fun ds S1 G1 σ1 p vs H1 hp ex => h.ro ds S1 G1 σ1 p vs H1 hp (e.trans ex),
   fun S1 G1 σ1 H1 hp ex => h.bk S1 G1 σ1 H1 hp (e.trans ex), fun S1 G1 σ1 H1 hp ex => h.ct S1 G1 σ1 H1 hp (e.trans ex), fun d S1 G1 σ1 v H1 hp ex => h.rn d S1 G1 σ1 v H1 hp (e.trans ex)⟩
theorem pss_any : PSs X rest (tSs X F rest) := ⟨fun pins s σ H D I ⟨_, _, h, r⟩ => PSs.run h pins s σ H D I r⟩
theorem ps_any : PS X st (tS X F st) := ⟨fun pins s σ H D I ⟨_, _, h, r⟩ => PS.run h pins s σ H D I r⟩
theorem ds_mk {t : TS} (h : PS X st t) (k : ∀ D σ H, rdS X.K F S P D σ H → t D σ H) : DS X F S st P := ⟨fun pins s σ H D I r => h.run pins s σ H D I (k D σ H r)⟩
theorem db_mk {t : TS} (h : PSs X rest t) (k : ∀ D σ H, rdS X.K F S P D σ H → t D σ H) : DB X F S rest P := ⟨fun pins s σ H D I r => h.run pins s σ H D I (k D σ H r)⟩
/-- weaker: the state ahead, what is wanted -/
theorem db_weak (w : Wk S S') (h : DB X F S' rest P) : DB X F S rest P := db_mk h fun D σ H ⟨G, sv, k⟩ => ⟨G, sv.weak w, k⟩
theorem ds_weak (w : Wk S S') (h : DS X F S' st P) : DS X F S st P := ds_mk h fun D σ H ⟨G, sv, k⟩ => ⟨G, sv.weak w, k⟩
theorem db_freeze (i : Nat) {ds : List FW.D} (hs : S[i]? = some (.own ds)) (h : DB X F (S.set i (.val (.list ds))) rest P) : DB X F S rest P := db_mk h fun D σ H ⟨G, sv, k⟩ => by
  obtain ⟨G', e, sv'⟩ := sv.freeze hs
  exact ⟨G', sv', k.mono e⟩
theorem db_nil (h : P.nx S) : DB X F S [] P := db_mk pss_nil fun D σ H ⟨G, sv, k⟩ => k.nx S G σ H h (Ex.refl G) sv
theorem db_end (w : Wk S S') (h : P.nx S') : DB X F S [] P := db_weak w (db_nil h)
theorem db_cons (h : DS X F S st (P.next fun S1 => DB X F S1 rest P)) : DB X F S (st :: rest) P :=
  db_mk (pss_cons h pss_any) fun D σ H ⟨G, sv, k⟩ => ⟨G, sv, ⟨fun S1 G1 σ1 H1 hp ex sv1 => ⟨S1, P, hp, G1, sv1, k.mono ex⟩, k.rt, k.ro, k.bk, k.ct, k.rn⟩⟩
theorem ds_imp (h : DS X F S st P) (k : ∀ S', P.nx S' → P'.nx S') (k1 : ∀ d S', P.rt d S' → P'.rt d S') (k2 : ∀ d S', P.ro d S' → P'.ro d S') (k3 : ∀ S', P.bk S' → P'.bk S') (k4 : ∀ S', P.ct S' → P'.ct S') (k5 : ∀ d S', P.rn d S' → P'.rn d S') : DS X F S st P' :=
  ds_mk h fun D σ H ⟨G, sv, q⟩ => ⟨G, sv, ⟨fun S1 G1 σ1 H1 hp => q.nx S1 G1 σ1 H1 (k _ hp), fun d S1 G1 σ1 v H1 hp => q.rt d S1 G1 σ1 v H1 (k1 _ _ hp), fun d S1 G1 σ1 p vs H1 hp => q.ro d S1 G1 σ1 p vs H1 (k2 _ _ hp), fun S1 G1 σ1 H1 hp => q.bk S1 G1 σ1 H1 (k3 _ hp), fun S1 G1 σ1 H1 hp => q.ct S1 G1 σ1 H1 (k4 _ hp), fun d S1 G1 σ1 v H1 hp => q.rn d S1 G1 σ1 v H1 (k5 _ _ hp)⟩⟩
theorem db_imp (h : DB X F S rest P) (k : ∀ S', P.nx S' → P'.nx S') (k1 : ∀ d S', P.rt d S' → P'.rt d S') (k2 : ∀ d S', P.ro d S' → P'.ro d S') (k3 : ∀ S', P.bk S' → P'.bk S') (k4 : ∀ S', P.ct S' → P'.ct S') (k5 : ∀ d S', P.rn d S' → P'.rn d S') : DB X F S rest P' :=
  db_mk h fun D σ H ⟨G, sv, q⟩ => ⟨G, sv, ⟨fun S1 G1 σ1 H1 hp => q.nx S1 G1 σ1 H1 (k _ hp), fun d S1 G1 σ1 v H1 hp => q.rt d S1 G1 σ1 v H1 (k1 _ _ hp), fun d S1 G1 σ1 p vs H1 hp => q.ro d S1 G1 σ1 p vs H1 (k2 _ _ hp), fun S1 G1 σ1 H1 hp => q.bk S1 G1 σ1 H1 (k3 _ hp), fun S1 G1 σ1 H1 hp => q.ct S1 G1 σ1 H1 (k4 _ hp), fun d S1 G1 σ1 v H1 hp => q.rn d S1 G1 σ1 v H1 (k5 _ _ hp)⟩⟩
/-- a first part with its own word, then the rest -/
theorem db_one (h : DS X F S st P) : DB X F S [st] P := db_mk (pss_one h) fun _ _ _ r => r

theorem ds_pass (h : P.nx S) : DS X F S (.Pass pos) P := ds_mk ps_pass fun D σ H ⟨G, sv, k⟩ => k.nx S G σ H h (Ex.refl G) sv
theorem ds_break (h : P.bk S) : DS X F S (.Break pos) P := ds_mk ps_break fun D σ H ⟨G, sv, k⟩ => k.bk S G σ H h (Ex.refl G) sv
theorem ds_continue (h : P.ct S) : DS X F S (.Continue pos) P := ds_mk ps_continue fun D σ H ⟨G, sv, k⟩ => k.ct S G σ H h (Ex.refl G) sv
theorem ds_never (h : False) : DS X F S st P := h.elim
theorem ds_expr (h : DE X F S e (fun _ S' => P.nx S')) (hs : swapsWith e none pos.line X.env = pure false := by rfl) : DS X F S (.Expr e pos) P :=
  ds_mk (ps_expr h hs) fun D σ H ⟨G, sv, k⟩ => ⟨G, sv, fun d S' G' v H' hp st r => k.nx S' G' σ H' hp st.g st.sv⟩
theorem ds_ret (h : DE X F S e P.rt) : DS X F S (.Return (some e) pos) P :=
  ds_mk (ps_ret h) fun D σ H ⟨G, sv, k⟩ => ⟨G, sv, fun d S' G' v H' hp st r => k.rt d S' G' σ v H' hp st.g st.sv r⟩
theorem ds_retO (h : DO X F S e P.ro) : DS X F S (.Return (some e) pos) P :=
  ds_mk (ps_ret h) fun D σ H ⟨G, sv, k⟩ => ⟨G, sv, fun d S' G' p vs H' hp st g0 hn nm hh r => k.ro d S' G' σ p vs H' hp st.g st.sv g0 (sv.h0 hn) hh r⟩
theorem ds_retN (h : P.rt .none S) : DS X F S (.Return none pos) P := ds_mk ps_retN fun D σ H ⟨G, sv, k⟩ => k.rt .none S G σ .non H h (Ex.refl G) sv .non
/-- return x, x a list of one's own -/
theorem ds_retW (i : Nat) {x : Str} {p0 : Pos} {ds : List FW.D} (hS : S[i]? = some (.own ds)) (h : P.ro ds S) (hN : X.N[i]? = some x := by rfl) (hv : Vis X.env.scope x := by first | exact Or.inl rfl | exact Or.inr (Or.inl rfl) | exact Or.inr (Or.inr rfl))
    (hd : (x == ("__debug__" : Str)) = false := by decide) (hcd : (x == ("__classdict__" : Str)) = false := by decide) : DS X F S (.Return (some (.Name x p0)) pos) P :=
  ds_mk (ps_ret (pe_var hN hv hd hcd)) fun D σ H ⟨G, sv, k⟩ => by
    obtain ⟨p, vs, ep, gp, hp, rs⟩ := sv.slot i _ hS
    exact ⟨.ref p, ep, k.ro ds S G σ p vs H h (Ex.refl G) sv gp (sv.own0 i ds p hS ep) hp rs⟩
theorem ds_if (h : DT X F S c (fun t S' => (t = true → DB X F S' body P) ∧ (t = false → DB X F S' orelse P))) : DS X F S (.If c body orelse pos) P :=
  ds_mk (ps_if h pss_any pss_any) fun D σ H ⟨G, sv, k⟩ => ⟨G, sv, fun t S' G' H' hp st => by
    cases t with
    | true => exact iteT ⟨S', P, hp.1 rfl, G', st.sv, k.mono st.g⟩
    | false => exact iteF ⟨S', P, hp.2 rfl, G', st.sv, k.mono st.g⟩⟩

/-! ### targets -/
theorem setV_back {S : List Sl} {σ : L2.St} {i j : Nat} {d : FW.D} {v : Option V} {p : Addr} (h : MutAt (S.set i (.val d)) (σ.set i v) p j) : MutAt S σ p j := by
  refine mutAt_set h fun e => ?_
  subst e
  obtain ⟨⟨t, h1, h2⟩, _⟩ := h
  have hl := (List.getElem?_eq_some_iff.mp h1).1
  rw [List.length_set] at hl
  rw [List.getElem?_set_self hl] at h1; cases h1; cases h2
def rdG (K : PySem.W.Frag) (F : Fr) (is : List Nat) (g : FW.D → List Sl → (List Sl → Prop) → Prop) : TG := fun v σ H Q => ∃ G S d k, SV K F S G σ H ∧ Rp G v d ∧ g d S k ∧
  ∀ S' σ', k S' → (∀ j, j ∉ is → σ'[j]? = σ[j]?) → σ'.length = σ.length → (∀ p j, MutAt S' σ' p j → MutAt S σ p j) → SV K F S' G σ' H → Q σ' H
def rdGs (K : PySem.W.Frag) (F : Fr) (is : List Nat) (g : List FW.D → List Sl → (List Sl → Prop) → Prop) : TGs := fun vs σ H Q => ∃ G S ds k, SV K F S G σ H ∧ Rps G vs ds ∧ g ds S k ∧
  ∀ S' σ', k S' → (∀ j, j ∉ is → σ'[j]? = σ[j]?) → σ'.length = σ.length → (∀ p j, MutAt S' σ' p j → MutAt S σ p j) → SV K F S' G σ' H → Q σ' H
def DG (X : Cx) (F : Fr) (is : List Nat) (tg : Expr) (g : FW.D → List Sl → (List Sl → Prop) → Prop) : Prop := PG X tg (rdG X.K F is g)
def DGs (X : Cx) (F : Fr) (is : List Nat) (tgs : List Expr) (g : List FW.D → List Sl → (List Sl → Prop) → Prop) : Prop := PGs X tgs (rdGs X.K F is g)
def gN (i : Nat) : FW.D → List Sl → (List Sl → Prop) → Prop := fun d S k => k (S.set i (.val d))
def gs0 : List FW.D → List Sl → (List Sl → Prop) → Prop := fun ds S k => ds = [] ∧ k S
def gsC (g : FW.D → List Sl → (List Sl → Prop) → Prop) (r : List FW.D → List Sl → (List Sl → Prop) → Prop) : List FW.D → List Sl → (List Sl → Prop) → Prop := fun ds S k => ∃ d es, ds = d :: es ∧ g d S fun S' => r es S' k
def gT (n : Nat) (g : List FW.D → List Sl → (List Sl → Prop) → Prop) : FW.D → List Sl → (List Sl → Prop) → Prop := fun d S k => ∃ ds, d = .tuple ds ∧ ds.length = n ∧ g ds S k
variable {tg : Expr} {tgs : List Expr} {is js : List Nat} {g : FW.D → List Sl → (List Sl → Prop) → Prop} {r : List FW.D → List Sl → (List Sl → Prop) → Prop}
theorem dg_name (i : Nat) {x : Str} (hN : X.N.Nodup) (hi : X.N[i]? = some x := by rfl) (hx : Loc X.env.scope x := by first | exact .inl rfl | exact .inr rfl) (hf : X.fn x = true ∨ X.env.scope.names.lookup x = some .local := by first | exact .inl rfl | exact .inr rfl) : DG X F [i] (.Name x pos) (gN i) :=
  ⟨fun pins s σ H v u Q I rv ⟨G, S, d, k, sv, rp, hk, q⟩ => (pg_name hN hi hx hf).run pins s σ H v u Q I rv
    (q (S.set i (.val d)) (σ.set i (some v)) hk (fun j hj => List.getElem?_set_ne fun e => hj (by rw [e]; exact List.mem_cons_self)) (by rw [List.length_set]) (fun p j m => setV_back m) (sv.setV rp))⟩
theorem dgs_nil : DGs X F [] [] gs0 := ⟨fun pins s σ H vs us Q I rv ⟨G, S, ds, k, sv, rp, ⟨e, hk⟩, q⟩ => pgs_nil.run pins s σ H vs us Q I rv (by
  subst e; cases rp
  exact ⟨rfl, q S σ hk (fun _ _ => rfl) rfl (fun _ _ m => m) sv⟩)⟩
theorem dgs_cons (h1 : DG X F is tg g) (h2 : DGs X F js tgs r) (hs : (assignEach (tg :: tgs) X.env).map (·.2) = assign tg X.env :: (assignEach tgs X.env).map (·.2) := by rfl) : DGs X F (is ++ js) (tg :: tgs) (gsC g r) :=
  ⟨fun pins s σ H vs us Q I rv ⟨G, S, ds, k, sv, rp, ⟨d, es, e, hk⟩, q⟩ => (pgs_cons h1 h2 hs).run pins s σ H vs us Q I rv (by
    subst e
    cases rp with
    | cons r1 r2 =>
      refine ⟨_, _, rfl, G, S, d, _, sv, r1, hk, fun S' σ' hk' f1 l1 m1 sv' => ⟨G, S', es, k, sv', r2, hk', fun S2 σ2 hk2 f2 l2 m2 sv2 => q S2 σ2 hk2 (fun j hj => ?_) (l2.trans l1) (fun p j m => m1 p j (m2 p j m)) sv2⟩⟩
      rw [f2 j fun z => hj (List.mem_append_right _ z), f1 j fun z => hj (List.mem_append_left _ z)])⟩
theorem dg_tup {n k : Nat} (hc : X.calm = true) (h : DGs X F is tgs r) (hn : (assignEach tgs X.env).length = n := by rfl) (hst : (assignEach tgs X.env).findIdx? (·.1) = none := by rfl) : DG X F is (.Tuple tgs k pos) (gT n r) :=
  ⟨fun pins s σ H v u Q I rv ⟨G, S, d, kk, sv, rp, ⟨ds, e, hl, hk⟩, q⟩ => (pg_tup hc h hn hst).run pins s σ H v u Q I rv (by
    subst e
    cases rp with
    | tup ht rs => exact ⟨_, _, rfl, SqT.of (sv.gh _ _ ht), by rw [rs.length]; exact hl, G, S, ds, kk, sv, rs, hk, q⟩)⟩
/-- target = e -/
theorem ds_asg (hg : DG X F is tg g) (h : DE X F S e (fun d S' => g d S' P.nx)) (hs : swapsWithSole [tg] e pos.line X.env = pure false := by rfl) (hw : swappedStores [tg] e X.env = pure none := by rfl) (h1 : (assignEach [tg] X.env).map (·.2) = [assign tg X.env] := by rfl) : DS X F S (.Assign [tg] e pos) P :=
  ds_mk (ps_asg h hg hs hw (h1 := h1)) fun D σ H ⟨G, sv, k⟩ => ⟨G, sv, fun d S' G' v H' hp st rr => ⟨G', S', d, P.nx, st.sv, rr, hp, fun S2 σ2 hk _ _ _ sv2 => k.nx S2 G' σ2 H' hk st.g sv2⟩⟩
/-- x = e -/
theorem ds_set (i : Nat) {x : Str} {pos' : Pos} (hN : X.N.Nodup) (h : DE X F S e (fun d S' => P.nx (S'.set i (.val d)))) (hi : X.N[i]? = some x := by rfl) (hx : Loc X.env.scope x := by first | exact .inl rfl | exact .inr rfl) (hs : swapsWith e (some (.Name x pos')) pos.line X.env = pure false := by rfl)
    (hf : X.fn x = true ∨ X.env.scope.names.lookup x = some .local := by first | exact .inl rfl | exact .inr rfl) : DS X F S (.Assign [.Name x pos'] e pos) P :=
  ds_mk (ps_set hN hi hx h hs hf) fun D σ H ⟨G, sv, k⟩ => ⟨G, sv, fun d S' G' v H' hp st rr => k.nx _ G' _ H' hp st.g (st.sv.setV rr)⟩
theorem ds_setO (i : Nat) {x : Str} {pos' : Pos} (hN : X.N.Nodup) (h : DO X F S e (fun ds S' => P.nx (S'.set i (.own ds)))) (hi : X.N[i]? = some x := by rfl) (hx : Loc X.env.scope x := by first | exact .inl rfl | exact .inr rfl) (hs : swapsWith e (some (.Name x pos')) pos.line X.env = pure false := by rfl)
    (hf : X.fn x = true ∨ X.env.scope.names.lookup x = some .local := by first | exact .inl rfl | exact .inr rfl) : DS X F S (.Assign [.Name x pos'] e pos) P :=
  ds_mk (ps_set hN hi hx h hs hf) fun D σ H ⟨G, sv, k⟩ => ⟨G, sv, fun ds S' G' p vs H' hp st gp hn nm hh rr => k.nx _ G' _ H' hp st.g (st.sv.setO gp nm (sv.h0 hn) hh rr)⟩
/-! ### lists of one's own -/
theorem ds_append (i : Nat) {x : Str} {p1 p2 p3 : Pos} (hO : ∃ ds, S[i]? = some (.own ds)) (h : DE X F S e (fun d S' => ∃ ds, S'[i]? = some (.own ds) ∧ ds.length < sizeLine ∧ P.nx (S'.set i (.own (ds ++ [d])))))
    (hN : X.N[i]? = some x := by rfl) (hv : Vis X.env.scope x := by first | exact Or.inl rfl | exact Or.inr (Or.inl rfl) | exact Or.inr (Or.inr rfl))
    (hs1 : starEach (e :: []) X.env = (false, eval e X.env) :: starEach [] X.env := by rfl) (hs : swapsWith (.Call (.Attribute (.Name x p1) "append" p2) [e] [] p3) none pos.line X.env = pure false := by rfl)
    (hd : (x == ("__debug__" : Str)) = false := by decide) (hcd : (x == ("__classdict__" : Str)) = false := by decide)
    (hbase : attributeBase (.Name x p1) "append" X.env (eval (.Name x p1) X.env) = eval (.Name x p1) X.env := by rfl)
    (hfew : ((backTo p3 (starEach (e :: []) X.env)).all (fun x => !x.1) && (backToKw p3 (keywordEach [] X.env)).all (fun x => x.1.isSome)
      && decide ((e :: ([] : List Expr)).length + ([] : List Keyword).length + (if ([] : List Keyword).isEmpty then 0 else 1) < 30)) = true := by rfl)
    (hline : (p2.endLine == p3.line) = true := by rfl) :
    DS X F S (.Expr (.Call (.Attribute (.Name x p1) "append" p2) [e] [] p3) pos) P :=
  ds_mk (ps_expr (pe_bm PySem.F.plainAttrs_list PySem.F.slot_list_append PySem.F.type_list_append mt_append (pe_var hN hv hd hcd) (pa_cons h pa_nil hs1) hbase hfew hline hs1) hs) fun D σ H ⟨G, sv, k⟩ => by
    obtain ⟨ds0, h0⟩ := hO
    obtain ⟨p, vs, ep, gp, hp, rs⟩ := sv.slot i _ h0
    refine ⟨.ref p, ep, .inl ⟨rfl, _, SqL.of hp⟩, G, sv, fun d S' G' v H' ⟨ds, h2, hl, hP⟩ st rr => ?_⟩
    obtain ⟨p', vs', ep', gp', hp', rs'⟩ := st.sv.slot i _ h2
    rw [ep] at ep'; cases ep'
    show rAppend (.ref p) [v] H' fun _ H1 => D.nx σ H1
    exact ⟨p, vs', v, rfl, rfl, hp', by rw [rs'.length]; exact hl, k.nx _ G' σ _ hP st.g (st.sv.wOwn h2 ep (rs'.append (.cons rr .nil)))⟩
theorem ds_extend (i : Nat) {x : Str} {p1 p2 p3 : Pos} (hO : ∃ ds, S[i]? = some (.own ds)) (h : DO X F S e (fun es S' => ∃ ds, S'[i]? = some (.own ds) ∧ ds.length + es.length ≤ sizeLine ∧ P.nx (S'.set i (.own (ds ++ es)))))
    (hN : X.N[i]? = some x := by rfl) (hv : Vis X.env.scope x := by first | exact Or.inl rfl | exact Or.inr (Or.inl rfl) | exact Or.inr (Or.inr rfl))
    (hs1 : starEach (e :: []) X.env = (false, eval e X.env) :: starEach [] X.env := by rfl) (hs : swapsWith (.Call (.Attribute (.Name x p1) "extend" p2) [e] [] p3) none pos.line X.env = pure false := by rfl)
    (hd : (x == ("__debug__" : Str)) = false := by decide) (hcd : (x == ("__classdict__" : Str)) = false := by decide)
    (hbase : attributeBase (.Name x p1) "extend" X.env (eval (.Name x p1) X.env) = eval (.Name x p1) X.env := by rfl)
    (hfew : ((backTo p3 (starEach (e :: []) X.env)).all (fun x => !x.1) && (backToKw p3 (keywordEach [] X.env)).all (fun x => x.1.isSome)
      && decide ((e :: ([] : List Expr)).length + ([] : List Keyword).length + (if ([] : List Keyword).isEmpty then 0 else 1) < 30)) = true := by rfl)
    (hline : (p2.endLine == p3.line) = true := by rfl) :
    DS X F S (.Expr (.Call (.Attribute (.Name x p1) "extend" p2) [e] [] p3) pos) P :=
  ds_mk (ps_expr (pe_bm PySem.F.plainAttrs_list PySem.F.slot_list_extend PySem.F.type_list_extend mt_extend (pe_var hN hv hd hcd) (pa_cons h pa_nil hs1) hbase hfew hline hs1) hs) fun D σ H ⟨G, sv, k⟩ => by
    obtain ⟨ds0, h0⟩ := hO
    obtain ⟨p, vs, ep, gp, hp, rs⟩ := sv.slot i _ h0
    refine ⟨.ref p, ep, .inl ⟨rfl, _, SqL.of hp⟩, G, sv, fun es S' G' q ws H' ⟨ds, h2, hl, hP⟩ st gq hn nm hq rr => ?_⟩
    obtain ⟨p', vs', ep', gp', hp', rs'⟩ := st.sv.slot i _ h2
    rw [ep] at ep'; cases ep'
    show rExtend (.ref p) [.ref q] H' fun _ H1 => D.nx σ H1
    exact ⟨p, q, vs', ws, rfl, rfl, hp', hq, by rw [rs'.length, rr.length]; exact hl, k.nx _ G' σ _ hP st.g (st.sv.wOwn h2 ep (rs'.append rr))⟩
theorem ds_reverse (i : Nat) {x : Str} {p1 p2 p3 : Pos} {ds : List FW.D} (hO : S[i]? = some (.own ds)) (h : P.nx (S.set i (.own ds.reverse)))
    (hN : X.N[i]? = some x := by rfl) (hv : Vis X.env.scope x := by first | exact Or.inl rfl | exact Or.inr (Or.inl rfl) | exact Or.inr (Or.inr rfl))
    (hs : swapsWith (.Call (.Attribute (.Name x p1) "reverse" p2) [] [] p3) none pos.line X.env = pure false := by rfl)
    (hd : (x == ("__debug__" : Str)) = false := by decide) (hcd : (x == ("__classdict__" : Str)) = false := by decide)
    (hbase : attributeBase (.Name x p1) "reverse" X.env (eval (.Name x p1) X.env) = eval (.Name x p1) X.env := by rfl) (hline : (p2.endLine == p3.line) = true := by rfl) :
    DS X F S (.Expr (.Call (.Attribute (.Name x p1) "reverse" p2) [] [] p3) pos) P :=
  ds_mk (ps_expr (pe_bm0 PySem.F.plainAttrs_list PySem.F.slot_list_reverse PySem.F.type_list_reverse mt_reverse (pe_var hN hv hd hcd) hbase hline) hs) fun D σ H ⟨G, sv, k⟩ => by
    obtain ⟨p, vs, ep, gp, hp, rs⟩ := sv.slot i _ hO
    exact ⟨.ref p, ep, .inl ⟨rfl, _, SqL.of hp⟩, p, vs, rfl, rfl, hp, k.nx _ G σ _ h (Ex.refl G) (sv.wOwn hO ep rs.reverse)⟩
/-- x[k] = e -/
theorem ds_setix (i : Nat) {x : Str} {ix : Expr} {p1 p2 : Pos} (hO : ∃ ds, S[i]? = some (.own ds)) (h : DE X F S e (fun d S' => (∃ ds, S'[i]? = some (.own ds)) ∧ DE X F S' ix (fun d2 S2 => ∃ ds n j, d2 = .int n ∧ S2[i]? = some (.own ds) ∧ ixN ds.length n = some j ∧ P.nx (S2.set i (.own (ds.set j d))))))
    (hN : X.N[i]? = some x := by rfl) (hv : Vis X.env.scope x := by first | exact Or.inl rfl | exact Or.inr (Or.inl rfl) | exact Or.inr (Or.inr rfl))
    (hd : (x == ("__debug__" : Str)) = false := by decide) (hcd : (x == ("__classdict__" : Str)) = false := by decide)
    (ha : ∀ v, assign (.Subscript (.Name x p1) ix p2) X.env v = (do
    let ov ← holding [v] (eval (.Name x p1) X.env)
    let iv ← holding [v, ov] (eval ix X.env)
    standAt p2
    holding [v, ov, iv] (setItem ov iv v)
    release [v, ov, iv] []) := by intro _; rfl) (hs : swapsWithSole [.Subscript (.Name x p1) ix p2] e pos.line X.env = pure false := by rfl) (hw : swappedStores [.Subscript (.Name x p1) ix p2] e X.env = pure none := by rfl) :
    DS X F S (.Assign [.Subscript (.Name x p1) ix p2] e pos) P :=
  ds_mk (ps_asg h (pg_sub (pe_var hN hv hd hcd) pe_any set_list ha) hs hw) fun D σ H ⟨G, sv, k⟩ => ⟨G, sv, fun d S' G' v H' ⟨⟨ds0, h0⟩, hp⟩ st rr => by
    obtain ⟨p, vs, ep, gp, hpp, rs⟩ := st.sv.slot i _ h0
    refine ⟨.ref p, ep, S', _, hp, G', st.sv, fun d2 S2 G2 y H2 ⟨ds, n, j, e2, h2, hj, hP⟩ st2 r2 => ?_⟩
    subst e2; cases r2
    obtain ⟨p', vs', ep', gp', hp', rs'⟩ := st2.sv.slot i _ h2
    rw [ep] at ep'; cases ep'
    show rSetL (.ref p) (.int n) v H2 fun H3 => D.nx σ H3
    exact ⟨p, vs', n, j, rfl, rfl, hp', by rw [rs'.length]; exact hj, k.nx _ G2 σ _ hP (st.g.trans st2.g) (st2.sv.wOwn h2 ep (Rps.set (rr.mono st2.g) j rs'))⟩⟩
end
end FW

namespace FW
open PySem PySem.Spec PyProof.Rows L2
variable [Tb]

/-! ### what is walked -/
/-- an iterator yields these -/
structure ItD (J : It) (G : Hp) (xs : List FW.D) : Prop where
  go : ∀ i H, i < xs.length → Ex G H → J.go i H
  stop : ∀ H, Ex G H → J.stop xs.length H
  yld : ∀ i H x H', i < xs.length → Ex G H → J.yld i H x H' → ∃ d, xs[i]? = some d ∧
    ((H' = H ∧ Rp G x d) ∨ ∃ p ys ds, H p = none ∧ H' = upd H p (.tup ys) ∧ x = .ref p ∧ d = .tuple ds ∧ Rps G ys ds)
theorem ItD.mono {J : It} {G G' : Hp} {xs : List FW.D} (h : ItD J G xs) (e : Ex G G') : ItD J G' xs :=
  ⟨fun i H hi ex => h.go i H hi (e.trans ex), fun H ex => h.stop H (e.trans ex), fun i H x H' hi ex y => by
    obtain ⟨d, hd, q⟩ := h.yld i H x H' hi (e.trans ex) y
    refine ⟨d, hd, ?_⟩
    rcases q with ⟨e1, r⟩ | ⟨p, ys, ds, e1, e2, e3, e4, r⟩
    · exact .inl ⟨e1, r.mono e⟩
    · exact .inr ⟨p, ys, ds, e1, e2, e3, e4, r.mono e⟩⟩
def rdI (K : PySem.W.Frag) (F : Fr) (S : List Sl) (P : List FW.D → List Sl → Prop) : TI := fun σ H R => ∃ G, SV K F S G σ H ∧
  ∀ xs S' G' J H', P xs S' → Stp K F σ S G H S' G' H' → ItD J G' xs → R J H'
def DI (X : Cx) (F : Fr) (S : List Sl) (tg iter : Expr) (P : List FW.D → List Sl → Prop) : Prop := PI X tg iter (rdI X.K F S P)
section
variable {X : Cx} {F : Fr} {S : List Sl} {tg iter e a b : Expr} {P : List FW.D → List Sl → Prop} {pos : Pos}
theorem di_mk {t : TI} (h : PI X tg iter t) (k : ∀ σ H R, rdI X.K F S P σ H R → t σ H R) : DI X F S tg iter P := ⟨fun pins s σ H R I r => h.run pins s σ H R I (k σ H R r)⟩
theorem itd_list {K : PySem.W.Frag} {G : Hp} {p : Addr} {vs : List V} {ds : List FW.D} (hp : G p = some (.lst vs)) (r : Rps G vs ds) : ItD (Itl K p) G ds where
  go := fun i H hi ex => by
    have hl : i < vs.length := by rw [r.length]; exact hi
    exact ⟨vs, vs[i], SqL.of (ex _ _ hp), List.getElem?_eq_getElem hl⟩
  stop := fun H ex => ⟨vs, SqL.of (ex _ _ hp), by rw [r.length]; exact Nat.le_refl _⟩
  yld := fun i H x H' hi ex ⟨e, hx⟩ => by
    have hv := hx vs (SqL.of (ex _ _ hp))
    obtain ⟨d, hd, rd⟩ := r.get' hv
    exact ⟨d, hd, .inl ⟨e, rd⟩⟩
theorem itd_tup {K : PySem.W.Frag} {G : Hp} {p : Addr} {vs : List V} {ds : List FW.D} (hp : G p = some (.tup vs)) (r : Rps G vs ds) : ItD (Itt K p) G ds where
  go := fun i H hi ex => by
    have hl : i < vs.length := by rw [r.length]; exact hi
    exact ⟨vs, vs[i], SqT.of (ex _ _ hp), List.getElem?_eq_getElem hl⟩
  stop := fun H ex => ⟨vs, SqT.of (ex _ _ hp), by rw [r.length]; exact Nat.le_refl _⟩
  yld := fun i H x H' hi ex ⟨e, hx⟩ => by
    have hv := hx vs (SqT.of (ex _ _ hp))
    obtain ⟨d, hd, rd⟩ := r.get' hv
    exact ⟨d, hd, .inl ⟨e, rd⟩⟩
/-- lo, lo + 1, .. -/
def rgD (lo : Int) (n : Nat) : List FW.D := (List.range n).map fun i => .int (lo + (i : Nat))
theorem rgD_length (lo : Int) (n : Nat) : (rgD lo n).length = n := by unfold rgD; rw [List.length_map, List.length_range]
theorem rgD_get {lo : Int} {n i : Nat} (h : i < n) : (rgD lo n)[i]? = some (.int (lo + (i : Nat))) := by
  unfold rgD
  rw [List.getElem?_map, List.getElem?_range h]; rfl
theorem itd_range {lo : Int} {n : Nat} {G : Hp} : ItD (Itr lo n) G (rgD lo n) where
  go := fun i H hi _ => by rw [rgD_length] at hi; exact hi
  stop := fun H _ => by rw [rgD_length]; exact Nat.le_refl _
  yld := fun i H x H' hi _ ⟨e, hx⟩ => by
    rw [rgD_length] at hi
    subst hx
    exact ⟨_, rgD_get hi, .inl ⟨e, .int _⟩⟩
theorem itd_rangeC {lo c : Int} {n : Nat} {G : Hp} : ItD (Itc lo c n) G ((List.range n).map fun i => .int (lo + (i : Nat) * c)) where
  go := fun i H hi _ => by rw [List.length_map, List.length_range] at hi; exact hi
  stop := fun H _ => by rw [List.length_map, List.length_range]; exact Nat.le_refl _
  yld := fun i H x H' hi _ ⟨e, hx⟩ => by
    rw [List.length_map, List.length_range] at hi
    subst hx
    exact ⟨_, by rw [List.getElem?_map, List.getElem?_range hi]; rfl, .inl ⟨e, .int _⟩⟩
theorem di_list (h : DE X F S e (fun d S' => ∃ ds, d = .list ds ∧ P ds S')) : DI X F S tg e P :=
  di_mk (pi_list h) fun σ H R ⟨G, sv, k⟩ => ⟨G, sv, fun d S' G' v H' ⟨ds, ed, hp⟩ st r => by
    subst ed
    cases r with
    | lst hl rs => exact ⟨_, rfl, ⟨_, SqL.of (st.sv.gh _ _ hl)⟩, k ds S' G' _ H' hp st (itd_list hl rs)⟩⟩
theorem di_tup (h : DE X F S e (fun d S' => ∃ ds, d = .tuple ds ∧ P ds S')) : DI X F S tg e P :=
  di_mk (pi_tup h) fun σ H R ⟨G, sv, k⟩ => ⟨G, sv, fun d S' G' v H' ⟨ds, ed, hp⟩ st r => by
    subst ed
    cases r with
    | tup hl rs => exact ⟨_, rfl, ⟨_, SqT.of (st.sv.gh _ _ hl)⟩, k ds S' G' _ H' hp st (itd_tup hl rs)⟩⟩
theorem di_range1 {p : Pos} (hm : X.mg "range" = none) (h : DA X F S [a] (fun ds S' => ∃ j : Int, ds = [.int j] ∧ (-(2 ^ 62) ≤ j ∧ j < 2 ^ 62) ∧ P (rgD 0 j.toNat) S')) (hg : Gl X "range" := by rfl) (hs : starEach [a] X.env = [(false, eval a X.env)] := by rfl) : DI X F S tg (.Call (.Name "range" p) [a] [] pos) P :=
  di_mk (pi_range1 hg hm h hs) fun σ H R ⟨G, sv, k⟩ => ⟨G, sv, fun ds S' G' vs H' ⟨j, e, hb, hp⟩ st r => by
    subst e
    cases r with
    | cons r1 r2 => cases r1; cases r2; exact ⟨j, rfl, hb.1, hb.2, k _ S' G' _ H' hp st itd_range⟩⟩
theorem di_range2 {p : Pos} (hm : X.mg "range" = none) (h : DA X F S [a, b] (fun ds S' => ∃ i j : Int, ds = [.int i, .int j] ∧ (-(2 ^ 62) ≤ i ∧ i < 2 ^ 62 ∧ -(2 ^ 62) ≤ j ∧ j < 2 ^ 62) ∧ P (rgD i (j - i).toNat) S')) (hg : Gl X "range" := by rfl)
    (hs : starEach [a, b] X.env = [(false, eval a X.env), (false, eval b X.env)] := by rfl) (hs2 : starEach [b] X.env = [(false, eval b X.env)] := by rfl) : DI X F S tg (.Call (.Name "range" p) [a, b] [] pos) P :=
  di_mk (pi_range2 hg hm h hs hs2) fun σ H R ⟨G, sv, k⟩ => ⟨G, sv, fun ds S' G' vs H' ⟨i, j, e, hb, hp⟩ st r => by
    subst e
    cases r with
    | cons r1 r2 => cases r1; cases r2 with | cons r3 r4 => cases r3; cases r4; exact ⟨i, j, rfl, hb, k _ S' G' _ H' hp st itd_range⟩⟩

/-! ### for -/
theorem ds_for {is : List Nat} {g : FW.D → List Sl → (List Sl → Prop) → Prop} {P : Post} {body : List Stmt} (hp : PassesOwn (model X.prog X.w) X.A X.env X.xe) (hc : X.calm = true) (hg : DG X F is tg g)
    (h : DI X F S tg iter (fun xs S0 => ∃ Iv : Nat → List Sl → Prop, Iv 0 S0 ∧ (∀ i d Si, xs[i]? = some d → Iv i Si → g d Si fun S2 => DB X F S2 body ⟨Iv (i + 1), P.rt, P.ro, P.nx, Iv (i + 1), P.rn⟩) ∧ ∀ Sn, Iv xs.length Sn → P.nx Sn))
    (hs : ∀ x, foldedSetIterable iter X.env x = pure x := by intro _; rfl) : DS X F S (.For tg iter body [] pos) P :=
  ds_mk (ps_for hp hc h hg pss_any hs) fun D σ H ⟨G, sv, k⟩ => ⟨G, sv, fun xs S0 G0 J H0 ⟨Iv, i0, turn, fin⟩ st0 it => by
    refine ⟨fun i m σ H => i + m = xs.length ∧ ∃ G S, SV X.K F S G σ H ∧ Ex G0 G ∧ Iv i S, ⟨xs.length, by omega, G0, S0, st0.sv, Ex.refl G0, i0⟩, ?_⟩
    rintro i m σ1 H1 ⟨em, G1, S1, sv1, e1, iv⟩
    have it1 := it.mono e1
    by_cases hi : i < xs.length
    · refine .inr ⟨it1.go i H1 hi sv1.gh, fun σ' H' => ∃ m', m' < m ∧ (i + 1 + m' = xs.length ∧ ∃ G S, SV X.K F S G σ' H' ∧ Ex G0 G ∧ Iv (i + 1) S), fun σ' H' q => q, fun x H2 y => ?_⟩
      obtain ⟨d, hd, q⟩ := it1.yld i H1 x H2 hi sv1.gh y
      have go : ∀ G2, Ex G1 G2 → SV X.K F S1 G2 σ1 H2 → Rp G2 x d → rdG X.K F is g x σ1 H2 fun σ2 H3 => tSs X F body { D with nx := fun σ' H' => ∃ m', m' < m ∧ (i + 1 + m' = xs.length ∧ ∃ G S, SV X.K F S G σ' H' ∧ Ex G0 G ∧ Iv (i + 1) S), ct := fun σ' H' => ∃ m', m' < m ∧ (i + 1 + m' = xs.length ∧ ∃ G S, SV X.K F S G σ' H' ∧ Ex G0 G ∧ Iv (i + 1) S), bk := D.nx } σ2 H3 := fun G2 e2 sv2 r2 =>
        ⟨G2, S1, d, _, sv2, r2, turn i d S1 hd iv, fun S3 σ3 hk _ _ _ sv3 => ⟨S3, _, hk, G2, sv3, by
          have k2 := k.mono ((st0.g.trans e1).trans e2)
          refine ⟨fun S4 G4 σ4 H4 hp4 ex4 sv4 => ⟨m - 1, by omega, by omega, G4, S4, sv4, (e1.trans e2).trans ex4, hp4⟩, k2.rt, k2.ro, k2.nx, fun S4 G4 σ4 H4 hp4 ex4 sv4 => ⟨m - 1, by omega, by omega, G4, S4, sv4, (e1.trans e2).trans ex4, hp4⟩, k2.rn⟩⟩⟩
      rcases q with ⟨e2, r2⟩ | ⟨p, ys, ds, hn, e2, ex, ed, r2⟩
      · subst e2
        exact go G1 (Ex.refl G1) sv1 r2
      · subst e2; subst ex; subst ed
        exact go _ (Ex.upd (sv1.gh.none hn)) (sv1.alloc hn) (.tup upd_same (r2.mono (Ex.upd (sv1.gh.none hn))))
    · have ei : i = xs.length := by omega
      subst ei
      exact .inl ⟨it1.stop H1 sv1.gh, k.nx S1 G1 σ1 H1 (fin S1 iv) (st0.g.trans e1) sv1⟩⟩
/-! ### while -/
theorem ds_while {c : Expr} {P : Post} {body : List Stmt} (hp : PassesOwn (model X.prog X.w) X.A X.env X.xe) (Iv : Nat → List Sl → Prop) (m0 : Nat) (h0 : Iv m0 S)
    (h : ∀ m Sm, Iv m Sm → DT X F Sm c (fun t S' => (t = true → DB X F S' body ⟨fun S2 => ∃ m', m' < m ∧ Iv m' S2, P.rt, P.ro, P.nx, fun S2 => ∃ m', m' < m ∧ Iv m' S2, P.rn⟩) ∧ (t = false → P.nx S'))) : DS X F S (.While c body [] pos) P :=
  ds_mk (ps_while hp (pt_any (F := F)) (pss_any (F := F))) fun D σ H ⟨G, sv, k⟩ => by
    refine ⟨fun m σ H => ∃ G1 S, SV X.K F S G1 σ H ∧ Ex G G1 ∧ Iv m S, ⟨m0, G, S, sv, Ex.refl G, h0⟩, ?_⟩
    rintro m σ1 H1 ⟨G1, S1, sv1, e1, iv⟩
    refine ⟨S1, _, h m S1 iv, G1, sv1, fun t S2 G2 H2 hp2 st => ?_⟩
    cases t with
    | false => exact iteF (k.nx S2 G2 σ1 H2 (hp2.2 rfl) (e1.trans st.g) st.sv)
    | true =>
      refine iteT ⟨fun σ' H' => ∃ m', m' < m ∧ ∃ G1 S, SV X.K F S G1 σ' H' ∧ Ex G G1 ∧ Iv m' S, fun σ' H' q => q, S2, _, hp2.1 rfl, G2, st.sv, ?_⟩
      have k2 := k.mono (e1.trans st.g)
      exact ⟨fun S4 G4 σ4 H4 ⟨m', hm, hp4⟩ ex4 sv4 => ⟨m', hm, G4, S4, sv4, (e1.trans st.g).trans ex4, hp4⟩, k2.rt, k2.ro, k2.nx, fun S4 G4 σ4 H4 ⟨m', hm, hp4⟩ ex4 sv4 => ⟨m', hm, G4, S4, sv4, (e1.trans st.g).trans ex4, hp4⟩, k2.rn⟩
end

/-! ### list comprehensions -/
def wipeS (S : List Sl) : List Nat → List Sl
  | [] => S
  | v :: vs => (wipeS S vs).set v .unk
section
variable {K : PySem.W.Frag} {F : Fr} {S S' : List Sl} {G H : Hp} {σ σ' : L2.St}
theorem wipeS_length (S : List Sl) : ∀ vs, (wipeS S vs).length = S.length
  | [] => rfl
  | v :: vs => by unfold wipeS; rw [List.length_set, wipeS_length S vs]
theorem wipeS_in {S : List Sl} {i : Nat} {sl : Sl} : ∀ {vs : List Nat}, i ∈ vs → (wipeS S vs)[i]? = some sl → sl = .unk
  | v :: vs, hm, h => by
    unfold wipeS at h
    by_cases e : v = i
    · subst e
      have hl := (List.getElem?_eq_some_iff.mp h).1
      rw [List.length_set] at hl
      rw [List.getElem?_set_self hl] at h
      exact (Option.some.inj h).symm
    · rw [List.getElem?_set_ne e] at h
      rcases List.mem_cons.mp hm with z | z
      · exact absurd z.symm e
      · exact wipeS_in z h
theorem wipeS_out {S : List Sl} {i : Nat} : ∀ {vs : List Nat}, i ∉ vs → (wipeS S vs)[i]? = S[i]?
  | [], _ => rfl
  | v :: vs, h => by
    have h1 : v ≠ i := fun e => h (by rw [e]; exact List.mem_cons_self)
    unfold wipeS
    rw [List.getElem?_set_ne h1]
    exact wipeS_out fun z => h (List.mem_cons_of_mem _ z)
/-- the same state seen over slots that differ at places that are forgotten -/
theorem SV.moved {vs : List Nat} (sv : SV K F S G σ H) (h : ∀ j, j ∉ vs → σ'[j]? = σ[j]?) (hl : σ'.length = σ.length) : SV K F (wipeS S vs) G σ' H := by
  have back : ∀ {p j}, MutAt (wipeS S vs) σ' p j → MutAt S σ p j := fun {p j} ⟨⟨t, h1, h2⟩, e⟩ => by
    by_cases hj : j ∈ vs
    · have := wipeS_in hj h1
      subst this; cases h2
    · rw [wipeS_out hj] at h1
      rw [h j hj] at e
      exact ⟨⟨t, h1, h2⟩, e⟩
  refine ⟨sv.base, sv.gh, sv.keep, sv.live, sv.new, fun i sl h1 => ?_, fun i j p ne a b => sv.sep i j p ne (back a) (back b), fun i ds p h1 e => ?_, by rw [wipeS_length, sv.len, hl], sv.bh⟩
  · by_cases hj : i ∈ vs
    · have := wipeS_in hj h1
      subst this; trivial
    · rw [wipeS_out hj] at h1
      rw [h i hj]
      exact sv.slot i sl h1
  · by_cases hj : i ∈ vs
    · have := wipeS_in hj h1
      cases this
    · rw [wipeS_out hj] at h1
      rw [h i hj] at e
      exact sv.own0 i ds p h1 e
theorem moved_back {vs : List Nat} (h : ∀ j, j ∉ vs → σ'[j]? = σ[j]?) {p : Addr} {j : Nat} (m : MutAt (wipeS S vs) σ' p j) : MutAt S σ p j := by
  obtain ⟨⟨t, h1, h2⟩, e⟩ := m
  by_cases hj : j ∈ vs
  · have := wipeS_in hj h1
    subst this; cases h2
  · rw [wipeS_out hj] at h1
    rw [h j hj] at e
    exact ⟨⟨t, h1, h2⟩, e⟩
theorem wipe_eq {vs : List Nat} (h : ∀ j, j ∉ vs → σ'[j]? = σ[j]?) (hl : σ'.length = σ.length) : wipe σ' vs = wipe σ vs := by
  refine List.ext_getElem? fun j => ?_
  by_cases hj : j ∈ vs
  · have in_ : ∀ (τ : L2.St) (ws : List Nat), j ∈ ws → (wipe τ ws)[j]? = if j < τ.length then some none else none := by
      intro τ ws
      induction ws with
      | nil => intro z; cases z
      | cons v ws ih =>
        intro z
        unfold wipe
        by_cases e : v = j
        · subst e
          by_cases hlt : v < τ.length
          · rw [List.getElem?_set_self (by rw [wipe_length]; exact hlt), if_pos hlt]
          · rw [if_neg hlt, List.getElem?_eq_none (by rw [List.length_set, wipe_length]; omega)]
        · rw [List.getElem?_set_ne e]
          exact ih ((List.mem_cons.mp z).resolve_left fun z => e z.symm)
    rw [in_ σ' vs hj, in_ σ vs hj, hl]
  · rw [wipe_out hj, wipe_out hj, h j hj]
end
def DTs (X : Cx) (F : Fr) (S : List Sl) (ifs : List Expr) (P : Bool → List Sl → Prop) : Prop := PTs X ifs (rdT X.K F S P)
section
variable {X : Cx} {F : Fr} {S : List Sl} {c : Expr} {P : Bool → List Sl → Prop}
theorem dts_nil (h : P true S) : DTs X F S [] P := ⟨fun pins s σ H Q I ⟨G, sv, k⟩ => pts_nil.run pins s σ H Q I (k true S G H h (.refl sv))⟩
theorem dts_one (h : DT X F S c P) : DTs X F S [c] P := ⟨fun pins s σ H Q I r => (pts_one h).run pins s σ H Q I r⟩
end
/-- a comprehension's block -/
abbrev Bk (X : Cx) (scope : Scope) (s : Shared) (H : Hp) (C : Addr) (cl : List (Str × Addr)) (fp : List Addr) : Cx := X.blk s H scope (compEnvC scope cl C X.env) fp
def tTb (X : Cx) (F : Fr) (scope : Scope) (ifs : List Expr) : TT := fun σ H Q => ∃ S P, (∀ s H C cl fp, DTs (Bk X scope s H C cl fp) F S ifs P) ∧ rdT X.K F S P σ H Q
def tEb (X : Cx) (F : Fr) (scope : Scope) (e : Expr) : TE := fun σ H Q => ∃ S P, (∀ s H C cl fp, DE (Bk X scope s H C cl fp) F S e P) ∧ rd X.K F S P σ H Q
/-- what is to be shown of a comprehension, the items known -/
def LcI (X : Cx) (F : Fr) (scope : Scope) (vs : List Nat) (g : FW.D → List Sl → (List Sl → Prop) → Prop) (elt : Expr) (ifs : List Expr) (P : List FW.D → List Sl → Prop) (xs : List FW.D) (S0 : List Sl) : Prop :=
  ∃ Iv : Nat → List Sl → List FW.D → Prop, Iv 0 (wipeS S0 vs) [] ∧ (∀ i d Si acc, xs[i]? = some d → Iv i Si acc → g d Si fun S2 =>
    ∃ PT, (∀ s H C cl fp, DTs (Bk X scope s H C cl fp) F S2 ifs PT) ∧ ∀ t S3, PT t S3 → (t = true → acc.length < sizeLine ∧ ∀ s H C cl fp, DE (Bk X scope s H C cl fp) F S3 elt fun d' S4 => Iv (i + 1) (wipeS S4 vs) (acc ++ [d'])) ∧
      (t = false → Iv (i + 1) (wipeS S3 vs) acc)) ∧ ∀ Sn acc, Iv xs.length Sn acc → P acc (wipeS Sn vs)
section
variable {X : Cx} {F : Fr} {S : List Sl} {elt tg iter : Expr} {ifs : List Expr} {scope : Scope} {own : List (Str × Nat)} {pos : Pos} {is : List Nat} {g : FW.D → List Sl → (List Sl → Prop) → Prop} {P : List FW.D → List Sl → Prop}
/-- the reading of a comprehension -/
theorem lc_read (hsub : ∀ j ∈ is, j ∈ own.map (·.2)) {σ : L2.St} {H0 : Hp} {G0 : Hp} {S0 : List Sl} {xs : List FW.D} {J : It} {Q : VK} (sv0 : SV X.K F S0 G0 σ H0) (it : ItD J G0 xs) (h : LcI X F scope (own.map (·.2)) g elt ifs P xs S0)
    (k : ∀ ds S' G' p vs H', P ds S' → Stp X.K F σ S0 G0 H0 S' G' H' → G' p = none → H0 p = none → NotMut S' σ p → H' p = some (.lst vs) → Rps G' vs ds → Q (.ref p) H') :
    ∀ D, H0 D = none → ∃ W : Nat → Nat → Hp → Prop, (∃ m, W 0 m (upd H0 D (.lst []))) ∧ ∀ i m H, W i m H →
      (J.stop i H ∧ Q (.ref D) H) ∨ (J.go i H ∧ ∃ Nx : Hp → Prop, (∀ H', Nx H' → ∃ m', m' < m ∧ W (i + 1) m' H') ∧ ∀ x H', J.yld i H x H' → rdG X.K F is g x (wipe σ (own.map (·.2))) H' fun σ2 H2 => wipe σ2 (own.map (·.2)) = wipe σ (own.map (·.2)) ∧ tTb X F scope ifs σ2 H2 fun b H3 =>
        if b = true then tEb X F scope elt σ2 H3 fun y H4 => ∃ acc, H4 D = some (.lst acc) ∧ acc.length < sizeLine ∧ Nx (upd H4 D (.lst (acc ++ [y]))) else Nx H3) := by
  intro D hD
  obtain ⟨Iv, i0, turn, fin⟩ := h
  have h0D : F.H0 D = none := sv0.h0 hD
  have gD : G0 D = none := sv0.gh.none hD
  have out : ∀ j, j ∉ own.map (·.2) → (wipe σ (own.map (·.2)))[j]? = σ[j]? := fun j hj => wipe_out hj
  have out' : ∀ j, j ∉ own.map (·.2) → σ[j]? = (wipe σ (own.map (·.2)))[j]? := fun j hj => (out j hj).symm
  generalize hw : wipe σ (own.map (·.2)) = σw at out out' ⊢
  have lw : σw.length = σ.length := by rw [← hw, wipe_length]
  -- the invariant
  refine ⟨fun i m H => i + m = xs.length ∧ ∃ G Si acc vs, SV X.K F Si G σw H ∧ Ex G0 G ∧ Iv i Si acc ∧ G D = none ∧ H D = some (.lst vs) ∧ Rps G vs acc ∧
      (∀ a o, H0 a = some o → NotMut S0 σ a → NT o → H a = some o) ∧ (∀ p j, MutAt Si σw p j → MutAt S0 σ p j) ∧ (∀ a o, G a = some o → G0 a = some o ∨ H0 a = none) ∧ (∀ a o, H0 a = some o → ∃ o', H a = some o'),
    ⟨xs.length, by omega, G0, wipeS S0 (own.map (·.2)), [], [], (sv0.allocO hD).moved out lw, Ex.refl G0, i0, gD, upd_same, .nil, fun a o ha _ _ => Ex.upd hD a o ha, fun p j m => moved_back out m, fun a o h => .inl h, fun a o h => ⟨o, Ex.upd hD a o h⟩⟩, ?_⟩
  rintro i m H ⟨em, G, Si, acc, vs, sv, e0, iv, gd, hd, rs, kp, mb, nw, lv⟩
  have it1 := it.mono e0
  have nmD : NotMut Si σw D := fun j mm => sv0.fresh hD j (mb D j mm)
  by_cases hi : i < xs.length
  · refine .inr ⟨it1.go i H hi sv.gh, fun H' => ∃ m', m' < m ∧ (i + 1 + m' = xs.length ∧ ∃ G Si acc vs, SV X.K F Si G σw H' ∧ Ex G0 G ∧ Iv (i + 1) Si acc ∧ G D = none ∧ H' D = some (.lst vs) ∧ Rps G vs acc ∧
      (∀ a o, H0 a = some o → NotMut S0 σ a → NT o → H' a = some o) ∧ (∀ p j, MutAt Si σw p j → MutAt S0 σ p j) ∧ (∀ a o, G a = some o → G0 a = some o ∨ H0 a = none) ∧ (∀ a o, H0 a = some o → ∃ o', H' a = some o')), fun H' q => q, fun x H2 y => ?_⟩
    obtain ⟨d, hdx, q⟩ := it1.yld i H x H2 hi sv.gh y
    -- the item known over a ground G2
    have go : ∀ G2, Ex G G2 → SV X.K F Si G2 σw H2 → Rp G2 x d → G2 D = none → H2 D = some (.lst vs) → Ex H H2 → (∀ a o, G2 a = some o → G a = some o ∨ H a = none) → rdG X.K F is g x σw H2 fun σ2 H3 => wipe σ2 (own.map (·.2)) = σw ∧ tTb X F scope ifs σ2 H3 fun b H4 =>
        if b = true then tEb X F scope elt σ2 H4 fun y H5 => ∃ acc, H5 D = some (.lst acc) ∧ acc.length < sizeLine ∧ (∃ m', m' < m ∧ (i + 1 + m' = xs.length ∧ ∃ G Si acc' vs, SV X.K F Si G σw (upd H5 D (.lst (acc ++ [y]))) ∧ Ex G0 G ∧ Iv (i + 1) Si acc' ∧ G D = none ∧ (upd H5 D (.lst (acc ++ [y]))) D = some (.lst vs) ∧ Rps G vs acc' ∧
          (∀ a o, H0 a = some o → NotMut S0 σ a → NT o → (upd H5 D (.lst (acc ++ [y]))) a = some o) ∧ (∀ p j, MutAt Si σw p j → MutAt S0 σ p j) ∧ (∀ a o, G a = some o → G0 a = some o ∨ H0 a = none) ∧ (∀ a o, H0 a = some o → ∃ o', (upd H5 D (.lst (acc ++ [y]))) a = some o')))
        else (∃ m', m' < m ∧ (i + 1 + m' = xs.length ∧ ∃ G Si acc vs, SV X.K F Si G σw H4 ∧ Ex G0 G ∧ Iv (i + 1) Si acc ∧ G D = none ∧ H4 D = some (.lst vs) ∧ Rps G vs acc ∧
          (∀ a o, H0 a = some o → NotMut S0 σ a → NT o → H4 a = some o) ∧ (∀ p j, MutAt Si σw p j → MutAt S0 σ p j) ∧ (∀ a o, G a = some o → G0 a = some o ∨ H0 a = none) ∧ (∀ a o, H0 a = some o → ∃ o', H4 a = some o'))) := by
      intro G2 e2 sv2 r2 g2 h2 eh nw2
      refine ⟨G2, Si, d, _, sv2, r2, turn i d Si acc hdx iv, fun S3 σ3 ⟨PT, ht, hte⟩ f3 l3 m3 sv3 => ?_⟩
      have f3' : ∀ j, j ∉ own.map (·.2) → σ3[j]? = σw[j]? := fun j hj => f3 j fun z => hj (hsub j z)
      have f3b : ∀ j, j ∉ own.map (·.2) → σw[j]? = σ3[j]? := fun j hj => (f3' j hj).symm
      have ww : wipe σw (own.map (·.2)) = σw := by
        have := wipe_eq (σ := σ) (σ' := σw) (vs := own.map (·.2)) out lw
        rw [hw] at this
        exact this
      have wE : wipe σ3 (own.map (·.2)) = σw := (wipe_eq f3' l3).trans ww
      have nm3 : NotMut S3 σ3 D := fun j mm => nmD j (m3 D j mm)
      refine ⟨wE, S3, PT, ht, G2, sv3, fun t S4 G4 H4 hp4 st4 => ?_⟩
      have hD4 : H4 D = some (.lst vs) := st4.kp D _ h2 nm3 nt_lst
      have gD4 : G4 D = none := by
        cases q : G4 D with
        | none => rfl
        | some o =>
          rcases st4.nw D o q with z | z
          · rw [g2] at z; cases z
          · rw [h2] at z; cases z
      have nwf : ∀ {Gx Hx : Hp}, (∀ a o, Gx a = some o → G2 a = some o ∨ H2 a = none) → ∀ a o, Gx a = some o → G0 a = some o ∨ H0 a = none := fun {Gx Hx} hx a o z => by
        have h0n : H2 a = none → H0 a = none := fun z => by
          cases q : H0 a with
          | none => rfl
          | some o' =>
            obtain ⟨o2, z2⟩ := lv a o' q
            rw [eh a o2 z2] at z; cases z
        have h0n' : H a = none → H0 a = none := fun z => by
          cases q : H0 a with
          | none => rfl
          | some o' =>
            obtain ⟨o2, z2⟩ := lv a o' q
            rw [z2] at z; cases z
        rcases hx a o z with z | z
        · rcases nw2 a o z with z | z
          · exact nw a o z
          · exact .inr (h0n' z)
        · exact .inr (h0n z)
      have kpf : ∀ {Hx : Hp}, (∀ a o, H2 a = some o → NotMut S3 σ3 a → NT o → Hx a = some o) → ∀ a o, H0 a = some o → NotMut S0 σ a → NT o → Hx a = some o := fun {Hx} hx a o z nz nt =>
        hx a o (eh a o (kp a o z nz nt)) (fun j mm => nz j (mb a j (m3 a j mm))) nt
      cases t with
      | false =>
        refine iteF ⟨m - 1, by omega, by omega, G4, wipeS S4 (own.map (·.2)), acc, vs, st4.sv.moved f3b (by rw [l3]), (e0.trans e2).trans st4.g, (hte false S4 hp4).2 rfl, gD4, hD4, (rs.mono e2).mono st4.g, kpf st4.kp,
          fun p j mm => ?_, nwf (Hx := H4) st4.nw, fun a o z => ?_⟩
        · obtain ⟨⟨t1, h1, hh⟩, ee⟩ := moved_back f3b mm
          obtain ⟨t2, h3, h4⟩ := st4.less j t1 h1 hh
          exact mb p j (m3 p j ⟨⟨t2, h3, h4⟩, ee⟩)
        · obtain ⟨o1, z1⟩ := lv a o z
          exact st4.lv a o1 (eh a o1 z1)
      | true =>
        obtain ⟨hlen, he⟩ := (hte true S4 hp4).1 rfl
        refine iteT ⟨S4, _, he, G4, st4.sv, fun d5 S5 G5 y H5 hp5 st5 r5 => ?_⟩
        have st := st4.trans st5
        have hD5 : H5 D = some (.lst vs) := st.kp D _ h2 nm3 nt_lst
        have gD5 : G5 D = none := by
          cases q : G5 D with
          | none => rfl
          | some o =>
            rcases st.nw D o q with z | z
            · rw [g2] at z; cases z
            · rw [h2] at z; cases z
        have rs5 : Rps G5 (vs ++ [y]) (acc ++ [d5]) := Rps.append (((rs.mono e2).mono st4.g).mono st5.g) (.cons r5 .nil)
        have nm5 : NotMut S5 σ3 D := st.less.not nm3
        refine ⟨vs, hD5, by rw [rs.length]; exact hlen, m - 1, by omega, by omega, G5, wipeS S5 (own.map (·.2)), acc ++ [d5], vs ++ [y], (st5.sv.write gD5 nm5 h0D hD5).moved f3b (by rw [l3]), (e0.trans e2).trans st.g, hp5, gD5, upd_same, rs5, fun a o z nz nt => ?_,
          fun p j mm => ?_, nwf (Hx := H5) st.nw, fun a o z => ?_⟩
        · have ne : a ≠ D := ne_of_none z hD
          rw [upd_ne ne]
          exact kpf st.kp a o z nz nt
        · obtain ⟨⟨t1, h1, hh⟩, ee⟩ := moved_back f3b mm
          obtain ⟨t2, h3, h4⟩ := st.less j t1 h1 hh
          exact mb p j (m3 p j ⟨⟨t2, h3, h4⟩, ee⟩)
        · have ne : a ≠ D := ne_of_none z hD
          rw [upd_ne ne]
          obtain ⟨o1, z1⟩ := lv a o z
          exact st.lv a o1 (eh a o1 z1)
    rcases q with ⟨e2, r2⟩ | ⟨p, ys, ds, hn, e2, ex, ed, r2⟩
    · subst e2
      exact go G (Ex.refl G) sv r2 gd hd (Ex.refl H2) fun a o z => .inl z
    · subst e2; subst ex; subst ed
      have ne : D ≠ p := ne_of_none hd hn
      exact go _ (Ex.upd (sv.gh.none hn)) (sv.alloc hn) (.tup upd_same (r2.mono (Ex.upd (sv.gh.none hn)))) (by rw [upd_ne ne]; exact gd) (by rw [upd_ne ne]; exact hd) (Ex.upd hn) fun a o z => by
        by_cases za : a = p
        · subst za; exact .inr hn
        · rw [upd_ne za] at z; exact .inl z
  · have ei : i = xs.length := by omega
    subst ei
    have svF : SV X.K F (wipeS Si (own.map (·.2))) G σ H := sv.moved out' (by rw [lw])
    refine .inl ⟨it1.stop H sv.gh, k acc _ G D vs H (fin Si acc iv) ⟨e0, kp, fun j sl h1 hm => ?_, svF, lv, nw⟩ gd hD (fun j mm => ?_) hd rs⟩
    · by_cases hj : j ∈ own.map (·.2)
      · have := wipeS_in hj h1
        subst this; cases hm
      · rw [wipeS_out hj] at h1
        have hlt : j < σw.length := by
          rw [← sv.len]; exact (List.getElem?_eq_some_iff.mp h1).1
        have ks := sv.slot j sl h1
        have : ∃ p, σw[j]? = some (some (.ref p)) := by
          cases sl with
          | unk => cases hm
          | val d => cases hm
          | own ds => obtain ⟨p, _, e, _⟩ := ks; exact ⟨p, e⟩
          | row => obtain ⟨p, _, e, _⟩ := ks; exact ⟨p, e⟩
          | fix v => cases hm
          | new d => cases hm
          | ownN ds => obtain ⟨p, _, e, _⟩ := ks; exact ⟨p, e⟩
          | wild n => obtain ⟨p, _, e, _⟩ := ks; exact ⟨p, e⟩
          | hld v a u => cases hm
        obtain ⟨p, ep⟩ := this
        exact (mb p j ⟨⟨sl, h1, hm⟩, ep⟩).1
    · exact nmD j (moved_back out' mm)
/-- [elt for tg in iter if ..] -/
theorem do_lc (own : List (Str × Nat)) (hc : X.calm = true) (hN : X.N.Nodup) (hsub : ∀ j ∈ is, j ∈ own.map (·.2)) (hg : ∀ s H C cl fp, DG (Bk X scope s H C cl fp) F is tg g) (h : DI X F S tg iter (LcI X F scope (own.map (·.2)) g elt ifs P))
    (ok : BlkOk X.N X.env.scope scope own) (hs : ∀ x, foldedSetIterable iter X.env x = pure x := by intro _; rfl) : DO X F S (.ListComp elt [⟨tg, iter, ifs, 0⟩] scope pos) P :=
  do_mk (pe_lc (g := rdG X.K F is g) hc hN h ok hg (tt := tTb X F scope ifs) (fun s H C cl fp => ⟨fun pins s σ H Q I ⟨_, _, h, r⟩ => PTs.run (h _ _ _ _ _) pins s σ H Q I r⟩) (te := tEb X F scope elt) (fun s H C cl fp => ⟨fun pins s σ H Q I ⟨_, _, h, r⟩ => PE.run (h _ _ _ _ _) pins s σ H Q I r⟩) hs)
    fun σ H Q ⟨G, sv, k⟩ => ⟨G, sv, fun xs S0 G0 J H0 hl st0 it => lc_read hsub st0.sv it hl fun ds S' G' p vs H' hp st gp hn nm hh rs => k ds S' G' p vs H' hp (st0.trans st) gp (st0.fresh hn) nm hh rs⟩
/-- x = [..] on one line, x a local -/
theorem ds_setLc (i : Nat) {x : Str} {py spos : Pos} {P : Post} (own : List (Str × Nat)) (hc : X.calm = true) (hN : X.N.Nodup) (hsub : ∀ j ∈ is, j ∈ own.map (·.2)) (hg : ∀ s H C cl fp, DG (Bk X scope s H C cl fp) F is tg g)
    (h : DI X F S tg iter (LcI X F scope (own.map (·.2)) g elt ifs (fun ds S' => P.nx (S'.set i (.own ds))))) (ok : BlkOk X.N X.env.scope scope own) (hsw : swapsWith (.ListComp elt [⟨tg, iter, ifs, 0⟩] scope pos) (some (.Name x py)) spos.line X.env = pure true)
    (hy : X.N[i]? = some x := by rfl) (hyl : X.env.scope.names.lookup x = some .local := by rfl) (hs : ∀ x, foldedSetIterable iter X.env x = pure x := by intro _; rfl) : DS X F S (.Assign [.Name x py] (.ListComp elt [⟨tg, iter, ifs, 0⟩] scope pos) spos) P :=
  ds_mk (ps_setLc (g := rdG X.K F is g) hc hN hy hyl hsw h ok hg (tt := tTb X F scope ifs) (fun s H C cl fp => ⟨fun pins s σ H Q I ⟨_, _, h, r⟩ => PTs.run (h _ _ _ _ _) pins s σ H Q I r⟩) (te := tEb X F scope elt) (fun s H C cl fp => ⟨fun pins s σ H Q I ⟨_, _, h, r⟩ => PE.run (h _ _ _ _ _) pins s σ H Q I r⟩) hs)
    fun D σ H ⟨G, sv, k⟩ => ⟨G, sv, fun xs S0 G0 J H0 hl st0 it => lc_read (Q := fun x H1 => gName i x σ H1 D.nx) hsub st0.sv it hl fun ds S' G' p vs H' hp st gp hn nm hh rs => k.nx _ G' _ H' hp (st0.g.trans st.g) (st.sv.setO gp nm (st0.sv.h0 hn) hh rs)⟩
end
end FW

namespace FW
open PySem PySem.Spec PyProof.Rows L2
variable [Tb]

/-! ### exceptions that are let out -/
/-- an exception: its class, the number that it bears (none: no dict of its own) -/
abbrev Xk := Addr × Option Int
def XSh (x : Xk) (dd : Option Addr) (H H' : Hp) : Prop := match x.2 with
  | none => dd = none
  | some n => ∃ d, dd = some d ∧ H d = none ∧ H' d = some (.xd [(("number" : Str), .int n)])
theorem XSh.back {x : Xk} {dd : Option Addr} {H0 H H' : Hp} (h : XSh x dd H H') (e : ∀ d, H d = none → H0 d = none) : XSh x dd H0 H' := by
  obtain ⟨c, n⟩ := x
  cases n with
  | none => exact h
  | some n => obtain ⟨d, h1, h2, h3⟩ := h; exact ⟨d, h1, e d h2, h3⟩
/-- all that stood stands, tables may be written and stay good -/
structure ExT (H H' : Hp) : Prop where
  k : ∀ a o, H a = some o → NT o → H' a = some o
  l : ∀ a o, H a = some o → ∃ o', H' a = some o'
  t : TabG H H'
theorem ExT.of {H H' : Hp} (e : Ex H H') : ExT H H' := ⟨fun a o h _ => e a o h, fun a o h => ⟨o, e a o h⟩, TabG.of fun a o h _ => e a o h⟩
theorem ExT.trans {H H1 H2 : Hp} (a : ExT H H1) (b : ExT H1 H2) : ExT H H2 := ⟨fun x o h nt => b.k x o (a.k x o h nt) nt, fun x o h => by
  obtain ⟨o', h'⟩ := a.l x o h
  exact b.l x o' h', a.t.trans b.t⟩
structure Keep (F : Fr) (H' : Hp) : Prop where
  b : Ex F.B H'
  k : ∀ a o, some a ≠ F.r → F.H0 a = some o → NT o → H' a = some o
  l : (∀ r, F.r = some r → ∃ o, H' r = some o) ∧ (∀ a o, F.H0 a = some o → ∃ o', H' a = some o') ∧ TabG F.H0 H'
theorem SV.kept {K : PySem.W.Frag} {F : Fr} {S : List Sl} {G H : Hp} {σ : L2.St} (sv : SV K F S G σ H) : Keep F H := ⟨sv.base.trans sv.gh, sv.keep, sv.live⟩
theorem SV.keptX {K : PySem.W.Frag} {F : Fr} {S : List Sl} {G H H' : Hp} {σ : L2.St} (sv : SV K F S G σ H) (g : Ex G H') (e : ExT H H') : Keep F H' := ⟨sv.base.trans g, fun a o ha h0 nt => e.k a o (sv.keep a o ha h0 nt) nt, fun r hr => by
  obtain ⟨o, h⟩ := sv.live.1 r hr
  exact e.l r o h, fun a o h0 => by
  obtain ⟨o', h⟩ := sv.live.2.1 a o h0
  exact e.l a o' h, sv.live.2.2.trans e.t⟩
theorem Keep.ext {F : Fr} {H' : Hp} (k : Keep F H') (hr : F.r = none) : ExT F.H0 H' := ⟨fun a o h nt => k.k a o (fun z => by rw [hr] at z; cases z) h nt, k.l.2.1, k.l.2.2⟩
def Wish (CX : CXT) (X : Cx) (F : Fr) (ex : Xk → Prop) : Prop := ∃ E : XK, Passes CX X E ∧ ∀ x dd H', ex x → Keep F H' → XSh x dd F.H0 H' → E (.ref x.1) dd H'
theorem wish0 {X : Cx} {F : Fr} : Wish CX0 X F (fun _ => False) := ⟨E0, pass0, fun _ _ _ h => h.elim⟩
theorem wishL {X : Cx} {F : Fr} : Wish (L2.CX X.prog X.w) X F (fun _ => False) := ⟨E0, passL, fun _ _ _ h => h.elim⟩

/-! ### promises -/
/-- a def by trees: the arguments, what is wanted of a value, of a new list, of an exception -/
abbrev Zp := List FW.D → (FW.D → Prop) → (List FW.D → Prop) → (Xk → Prop) → Prop
structure PSt (G H G' H' : Hp) : Prop where
  g : Ex G G'
  gh : Ex G' H'
  h : ExT H H'
  nw : ∀ a o, G' a = some o → G a = some o ∨ H a = none
def spP (Z : Zp) : Sp := fun vs H Q E => ∃ (G : Hp) (ds : List FW.D) (kt : FW.D → Prop) (ko : List FW.D → Prop) (ke : Xk → Prop), Ex G H ∧ Rps G vs ds ∧ Z ds kt ko ke ∧
  (∀ d G' v H', kt d → PSt G H G' H' → Rp G' v d → Q v H') ∧
  (∀ es G' p ws H', ko es → PSt G H G' H' → G' p = none → H p = none → H' p = some (.lst ws) → Rps G' ws es → Q (.ref p) H') ∧
  (∀ x dd H', ke x → Ex G H' → ExT H H' → XSh x dd H H' → E (.ref x.1) dd H')
/-- a def whose first argument is the row -/
structure RSt (K : PySem.W.Frag) (p : Addr) (G H G' H' : Hp) : Prop where
  g : Ex G G'
  gh : Ex G' H'
  gp : G' p = none
  h : ∀ x o, x ≠ p → H x = some o → NT o → H' x = some o
  l : ∀ x o, H x = some o → ∃ o', H' x = some o'
  t : TabG H H'
  nw : ∀ a o, G' a = some o → G a = some o ∨ H a = none
  row : RowAt K G' H' p
def spR (K : PySem.W.Frag) (Z : Zp) : Sp := fun us H Q E => ∃ (G : Hp) (p : Addr) (vs : List V) (ds : List FW.D) (kt : FW.D → Prop) (ko : List FW.D → Prop),
  us = .ref p :: vs ∧ Ex G H ∧ G p = none ∧ RowAt K G H p ∧ Rps G vs ds ∧ Z ds kt ko (fun _ => False) ∧
  (∀ d G' v H', kt d → RSt K p G H G' H' → Rp G' v d → Q v H') ∧
  (∀ es G' r ws H', ko es → RSt K p G H G' H' → G' r = none → H r = none → H' r = some (.lst ws) → Rps G' ws es → Q (.ref r) H')
/-- a def of the text by its name -/
structure Kn (P : Program) (w : World) (K : PySem.W.Frag) (mg : Str → Option Value) (base : Heap) (CX : CXT) (x : Str) (k : Nat) (sp : Sp) : Prop where
  ex : ∃ f fd ps, FnOk P w K mg base CX k f fd ps sp ∧ mg x = some (.ref f) ∧ PySem.W.keepIn K (.ref f) = true ∧ Binds K fd ps []

section
variable {X : Cx} {F : Fr} {S : List Sl} {e : Expr} {es : List Expr} {P : PD} {pos p : Pos} {x : Str} {k : Nat} {CX : CXT}
theorem stp_of {K : PySem.W.Frag} {σ : L2.St} {G H G' H' : Hp} (sv : SV K F S G σ H) (st : PSt G H G' H') : Stp K F σ S G H S G' H' := by
  have no : ∀ q j, MutAt S σ q j → G' q = none ∧ H' q = H q := fun q j m => by
    obtain ⟨vs, h, g⟩ := sv.mutH m
    refine ⟨?_, (st.h.k _ _ h nt_lst).trans h.symm⟩
    cases z : G' q with
    | none => rfl
    | some o =>
      rcases st.nw q o z with z | z
      · rw [g] at z; cases z
      · rw [h] at z; cases z
  exact ⟨st.g, fun a o h _ nt => st.h.k a o h nt, Less.refl S, sv.growT st.g st.gh (fun a o _ h nt => st.h.k a o h nt) st.h.l st.h.t (fun j q m => no q j m) (fun a o h => (st.nw a o h).imp id fun z => sv.h0 z), st.h.l, st.nw⟩
theorem de_call {Z : Zp} {ex : Xk → Prop} (c : Kn X.prog X.w X.K X.mg X.base CX x k (spP Z)) (hr : Room k X.A) (hw : Wish CX X F ex) (h : DA X F S (e :: es) (fun ds S' => Z ds (fun d => P d S') (fun l => P (.list l) S') ex)) (hg : Gl X x := by rfl)
    (hdb : (x == ("__debug__" : Str)) = false := by decide) (he : starEach (e :: es) X.env = (false, eval e X.env) :: starEach es X.env := by rfl) (hpl : (backTo pos (starEach es X.env)).any (·.1) = false := by rfl) : DE X F S (.Call (.Name x p) (e :: es) [] pos) P := by
  obtain ⟨f, fd, ps, F1, hm, hk, hb⟩ := c.ex
  obtain ⟨E, hx, hE⟩ := hw
  exact de_mk (pe_call F1 hr hg hm hk hb .nil hx h hdb he hpl) fun σ H Q ⟨G, sv, k⟩ => ⟨G, sv, fun ds S' G' vs H' hp st rs => by
    show spP Z (vs ++ []) H' Q E
    rw [List.append_nil]
    refine ⟨G', ds, _, _, _, st.sv.gh, rs, hp, fun d G2 v H2 hk2 ps2 r2 => k d S' G2 v H2 hk2 (st.trans (stp_of st.sv ps2)) r2, fun l G2 q ws H2 hk2 ps2 gq hq hl r2 => ?_, fun x dd H2 hx2 eg eh sh => hE x dd H2 hx2 (st.sv.keptX eg eh) (sh.back fun d => st.sv.h0)⟩
    have st2 := st.trans (stp_of st.sv ps2)
    have nm : NotMut S' σ q := st.sv.fresh hq
    refine k _ S' (upd G2 q (.lst ws)) _ H2 hk2 ⟨st2.g.trans (Ex.upd gq), st2.kp, st2.less, st2.sv.ground gq nm (st.sv.h0 hq) hl, st2.lv, fun a o z => ?_⟩ (.lst upd_same (r2.mono (Ex.upd gq)))
    by_cases za : a = q
    · subst za; exact .inr (st.fresh hq)
    · rw [upd_ne za] at z; exact st2.nw a o z⟩
theorem do_call {Z : Zp} {ex : Xk → Prop} {P : List FW.D → List Sl → Prop} (c : Kn X.prog X.w X.K X.mg X.base CX x k (spP Z)) (hr : Room k X.A) (hw : Wish CX X F ex) (h : DA X F S (e :: es) (fun ds S' => Z ds (fun _ => False) (fun l => P l S') ex)) (hg : Gl X x := by rfl)
    (hdb : (x == ("__debug__" : Str)) = false := by decide) (he : starEach (e :: es) X.env = (false, eval e X.env) :: starEach es X.env := by rfl) (hpl : (backTo pos (starEach es X.env)).any (·.1) = false := by rfl) : DO X F S (.Call (.Name x p) (e :: es) [] pos) P := by
  obtain ⟨f, fd, ps, F1, hm, hk, hb⟩ := c.ex
  obtain ⟨E, hx, hE⟩ := hw
  exact do_mk (pe_call F1 hr hg hm hk hb .nil hx h hdb he hpl) fun σ H Q ⟨G, sv, k⟩ => ⟨G, sv, fun ds S' G' vs H' hp st rs => by
    show spP Z (vs ++ []) H' Q E
    rw [List.append_nil]
    refine ⟨G', ds, _, _, _, st.sv.gh, rs, hp, fun d G2 v H2 hk2 => hk2.elim, fun l G2 q ws H2 hk2 ps2 gq hq hl r2 => ?_, fun x dd H2 hx2 eg eh sh => hE x dd H2 hx2 (st.sv.keptX eg eh) (sh.back fun d => st.sv.h0)⟩
    exact k l S' G2 q ws H2 hk2 (st.trans (stp_of st.sv ps2)) gq (st.fresh hq) (st.sv.fresh hq) hl r2⟩
/-- .. with the row ahead -/
theorem stp_row {K : PySem.W.Frag} {σ : L2.St} {G H G' H' : Hp} {i : Nat} {q : Addr} (sv : SV K F S G σ H) (hs : S[i]? = some .row) (he : σ[i]? = some (some (.ref q))) (st : RSt K q G H G' H') : Stp K F σ S G H S G' H' := by
  have m : MutAt S σ q i := ⟨⟨_, hs, rfl⟩, he⟩
  obtain ⟨p2, fr, ep, gp, _⟩ := sv.slot i _ hs
  rw [he] at ep; cases ep
  have no : ∀ x j, x ≠ q → MutAt S σ x j → G' x = none ∧ H' x = H x := fun x j ne m => by
    obtain ⟨vs, h, g⟩ := sv.mutH m
    refine ⟨?_, (st.h _ _ ne h nt_lst).trans h.symm⟩
    cases z : G' x with
    | none => rfl
    | some o =>
      rcases st.nw x o z with z | z
      · rw [g] at z; cases z
      · rw [h] at z; cases z
  have there : ∃ o, H' q = some o := by
    obtain ⟨_, _, _, _, _, h, _⟩ := st.row
    exact ⟨_, h⟩
  refine ⟨st.g, fun x o h nm nt => st.h x o (fun z => nm i (z ▸ m)) h nt, Less.refl S, ⟨sv.base.trans st.g, st.gh, fun x o hx h0 nt => st.h x o (fun z => hx (by rw [z]; exact fr.symm)) (sv.keep x o hx h0 nt) nt, ⟨fun r hr => ?_, fun x o h0 => ?_, sv.live.2.2.trans st.t⟩, fun x o h => (st.nw x o h).elim (sv.new x o) fun z => .inr (sv.h0 z), fun j sl h => ?_, sv.sep, sv.own0, sv.len, sv.bh⟩, st.l, st.nw⟩
  · obtain ⟨o, h⟩ := sv.live.1 r hr
    exact st.l r o h
  · obtain ⟨o, h⟩ := sv.live.2.1 x o h0
    exact st.l x o h
  · by_cases z : i = j
    · subst z
      rw [hs] at h; cases h
      exact ⟨q, fr, he, st.gp, st.row⟩
    · refine (sv.slot j sl h).mono st.g fun x hx hm => ?_
      have mj : MutAt S σ x j := ⟨⟨sl, h, hm⟩, hx⟩
      exact no x j (fun e => sv.sep i j q z m (e ▸ mj)) mj
theorem de_callR {Z : Zp} (i : Nat) {x0 : Str} {p0 : Pos} (c : Kn X.prog X.w X.K X.mg X.base CX x k (spR X.K Z)) (hr : Room k X.A) (hw : Wish CX X F (fun _ => False))
    (h : DA X F S es (fun ds S' => S'[i]? = some .row ∧ Z ds (fun d => P d S') (fun l => P (.list l) S') (fun _ => False))) (hO : S[i]? = some .row := by rfl) (hg : Gl X x := by rfl)
    (hN : X.N[i]? = some x0 := by rfl) (hv : Vis X.env.scope x0 := by first | exact Or.inl rfl | exact Or.inr (Or.inl rfl) | exact Or.inr (Or.inr rfl)) (hd : (x0 == ("__debug__" : Str)) = false := by decide) (hcd : (x0 == ("__classdict__" : Str)) = false := by decide)
    (hdb : (x == ("__debug__" : Str)) = false := by decide) (he : starEach (.Name x0 p0 :: es) X.env = (false, eval (.Name x0 p0) X.env) :: starEach es X.env := by rfl) (hpl : (backTo pos (starEach es X.env)).any (·.1) = false := by rfl) : DE X F S (.Call (.Name x p) (.Name x0 p0 :: es) [] pos) P := by
  obtain ⟨f, fd, ps, F1, hm, hk, hb⟩ := c.ex
  obtain ⟨E, hx, hE⟩ := hw
  exact de_mk (pe_call F1 hr hg hm hk hb .nil hx (pa_cons (pe_var hN hv hd hcd) h he) hdb he hpl) fun σ H Q ⟨G, sv, k⟩ => by
    obtain ⟨p1, fr1, ep1, gp1, ra1⟩ := sv.slot i _ hO
    refine ⟨.ref p1, ep1, G, sv, fun ds S' G' vs H' ⟨hs, hp⟩ st rs => ?_⟩
    show spR X.K Z (.ref p1 :: vs ++ []) H' Q E
    rw [List.append_nil]
    obtain ⟨p2, fr2, ep2, gp2, ra2⟩ := st.sv.slot i _ hs
    rw [ep1] at ep2; cases ep2
    refine ⟨G', p1, vs, ds, _, _, rfl, st.sv.gh, gp2, ra2, rs, hp, fun d G2 v H2 hk2 ps2 r2 => k d _ G2 v H2 hk2 (st.trans (stp_row st.sv hs ep1 ps2)) r2, fun l G2 q ws H2 hk2 ps2 gq hq hl r2 => ?_⟩
    have st2 := st.trans (stp_row st.sv hs ep1 ps2)
    have nm : NotMut S' σ q := st.sv.fresh hq
    refine k _ _ (upd G2 q (.lst ws)) _ H2 hk2 ⟨st2.g.trans (Ex.upd gq), st2.kp, st2.less, st2.sv.ground gq nm (st.sv.h0 hq) hl, st2.lv, fun a o z => ?_⟩ (.lst upd_same (r2.mono (Ex.upd gq)))
    by_cases za : a = q
    · subst za; exact .inr (st.fresh hq)
    · rw [upd_ne za] at z; exact st2.nw a o z
theorem do_callR {Z : Zp} {P : List FW.D → List Sl → Prop} (i : Nat) {x0 : Str} {p0 : Pos} (c : Kn X.prog X.w X.K X.mg X.base CX x k (spR X.K Z)) (hr : Room k X.A) (hw : Wish CX X F (fun _ => False))
    (h : DA X F S es (fun ds S' => S'[i]? = some .row ∧ Z ds (fun _ => False) (fun l => P l S') (fun _ => False))) (hO : S[i]? = some .row := by rfl) (hg : Gl X x := by rfl)
    (hN : X.N[i]? = some x0 := by rfl) (hv : Vis X.env.scope x0 := by first | exact Or.inl rfl | exact Or.inr (Or.inl rfl) | exact Or.inr (Or.inr rfl)) (hd : (x0 == ("__debug__" : Str)) = false := by decide) (hcd : (x0 == ("__classdict__" : Str)) = false := by decide)
    (hdb : (x == ("__debug__" : Str)) = false := by decide) (he : starEach (.Name x0 p0 :: es) X.env = (false, eval (.Name x0 p0) X.env) :: starEach es X.env := by rfl) (hpl : (backTo pos (starEach es X.env)).any (·.1) = false := by rfl) : DO X F S (.Call (.Name x p) (.Name x0 p0 :: es) [] pos) P := by
  obtain ⟨f, fd, ps, F1, hm, hk, hb⟩ := c.ex
  obtain ⟨E, hx, hE⟩ := hw
  exact do_mk (pe_call F1 hr hg hm hk hb .nil hx (pa_cons (pe_var hN hv hd hcd) h he) hdb he hpl) fun σ H Q ⟨G, sv, k⟩ => by
    obtain ⟨p1, fr1, ep1, gp1, ra1⟩ := sv.slot i _ hO
    refine ⟨.ref p1, ep1, G, sv, fun ds S' G' vs H' ⟨hs, hp⟩ st rs => ?_⟩
    show spR X.K Z (.ref p1 :: vs ++ []) H' Q E
    rw [List.append_nil]
    obtain ⟨p2, fr2, ep2, gp2, ra2⟩ := st.sv.slot i _ hs
    rw [ep1] at ep2; cases ep2
    refine ⟨G', p1, vs, ds, _, _, rfl, st.sv.gh, gp2, ra2, rs, hp, fun d G2 v H2 hk2 => hk2.elim, fun l G2 q ws H2 hk2 ps2 gq hq hl r2 => ?_⟩
    exact k l _ G2 q ws H2 hk2 (st.trans (stp_row st.sv hs ep1 ps2)) gq (st.fresh hq) (st.sv.fresh hq) hl r2
end

/-! ### a def keeps its promise by its body -/
def sl0 (N : List Str) (ds : List FW.D) : List Sl := ds.map Sl.val ++ List.replicate (N.length - ds.length) .unk
theorem getElem?_replicate_unk {n i : Nat} {sl : Sl} (h : (List.replicate n Sl.unk)[i]? = some sl) : sl = .unk := by
  have := List.mem_of_getElem? h
  exact (List.mem_replicate.mp this).2
section
variable {P : Program} {w : World} {K : PySem.W.Frag} {mg : Str → Option Value} {base : Heap} {CX : CXT}
theorem sv_start {N : List Str} {vs : List V} {ds : List FW.D} {G H : Hp} (hN : ds.length ≤ N.length) (e : Ex G H) (r : Rps G vs ds) : SV K ⟨G, H, none⟩ (sl0 N ds) G (L2.start N vs) H := by
  have hl := r.length
  have no : ∀ {p j}, ¬ MutAt (sl0 N ds) (L2.start N vs) p j := fun {p j} ⟨⟨t, h1, h2⟩, _⟩ => by
    unfold sl0 at h1
    by_cases hj : j < (ds.map Sl.val).length
    · rw [List.getElem?_append_left hj, List.getElem?_map] at h1
      cases q : ds[j]? with
      | none => rw [q] at h1; cases h1
      | some d => rw [q] at h1; cases h1; cases h2
    · rw [List.getElem?_append_right (by omega)] at h1
      have := getElem?_replicate_unk h1
      subst this; cases h2
  refine ⟨Ex.refl G, e, fun a o _ h _ => h, ⟨fun r hr => (by cases hr), fun a o h => ⟨o, h⟩, TabG.refl H⟩, fun a o h => .inl h, fun i sl h => ?_, fun i j p _ a _ => no a, fun i es p h _ => ?_, ?_, e⟩
  · unfold sl0 at h
    by_cases hj : i < (ds.map Sl.val).length
    · rw [List.getElem?_append_left hj, List.getElem?_map] at h
      cases q : ds[i]? with
      | none => rw [q] at h; cases h
      | some d =>
        rw [q] at h; cases h
        obtain ⟨v, hv, rv⟩ := r.get q
        refine ⟨v, ?_, rv⟩
        unfold L2.start
        have hlt : i < (vs.map some).length := by
          rw [List.length_map] at hj ⊢
          omega
        rw [List.getElem?_append_left hlt, List.getElem?_map, hv]; rfl
    · rw [List.getElem?_append_right (by omega)] at h
      have := getElem?_replicate_unk h
      subst this; trivial
  · exfalso
    unfold sl0 at h
    by_cases hj : i < (ds.map Sl.val).length
    · rw [List.getElem?_append_left hj, List.getElem?_map] at h
      cases q : ds[i]? with
      | none => rw [q] at h; cases h
      | some d => rw [q] at h; cases h
    · rw [List.getElem?_append_right (by omega)] at h
      have := getElem?_replicate_unk h
      cases this
  · unfold sl0 L2.start
    simp only [List.length_append, List.length_map, List.length_replicate]
    omega
/-- what a body is to hand back -/
def postP (kt : FW.D → Prop) (ko : List FW.D → Prop) : Post := ⟨fun _ => kt .none, fun d _ => kt d, fun l _ => ko l, fun _ => False, fun _ => False, fun _ _ => False⟩
theorem ends_P {Z : Zp} {G H : Hp} {Q : VK} {kt : FW.D → Prop} {ko : List FW.D → Prop} (h1 : ∀ d G' v H', kt d → PSt G H G' H' → Rp G' v d → Q v H')
    (h2 : ∀ es G' p ws H', ko es → PSt G H G' H' → G' p = none → H p = none → H' p = some (.lst ws) → Rps G' ws es → Q (.ref p) H') : Ends' K ⟨G, H, none⟩ (postP kt ko) { nx := fun _ H' => Q .non H', rt := Q } G := by
  have pst : ∀ {S' G' σ' H'}, SV K ⟨G, H, none⟩ S' G' σ' H' → Ex G G' → PSt G H G' H' := fun {S' G' σ' H'} sv ex => ⟨ex, sv.gh, sv.kept.ext rfl, sv.new⟩
  exact ⟨fun S' G' σ' H' hp ex sv => h1 _ G' _ H' hp (pst sv ex) .non, fun d S' G' σ' v H' hp ex sv r => h1 d G' v H' hp (pst sv ex) r, fun es S' G' σ' p ws H' hp ex sv gp h0 hl r => h2 es G' p ws H' hp (pst sv ex) gp h0 hl r, fun _ _ _ _ h => h.elim, fun _ _ _ _ h => h.elim, fun _ _ _ _ _ _ h => h.elim⟩
theorem fn_ok {x qual : Str} {st : Stmt} {f : Addr} {fd : FuncData} {N ps : List Str} {k : Nat} {Z : Zp} (F : Fun K x qual st f fd) (S : FnScope N ps (defScope st)) (hlen : ∀ ds kt ko ke, Z ds kt ko ke → ds.length = ps.length) (hNl : ps.length ≤ N.length)
    (hb : ∀ (cdv : Value) (A : Around) (outer : List Env) (s : Shared) (H : Hp) (E : XK) (Fm : Fr) (ds : List FW.D) (kt : FW.D → Prop) (ko : List FW.D → Prop) (ke : Xk → Prop), Room k (A.deeper (envOfC qual (defScope st) s.heap.objs.size f cdv)) → Fm.r = none → Z ds kt ko ke →
      DB (cxOf CX0 P w K mg base N qual (defScope st) f cdv A outer s H E).nox Fm (sl0 N ds) (defBody st) (postP kt ko)) : FnOk P w K mg base CX0 (k + 1) f fd ps (spP Z) := by
  refine F.ok S (fun vs H Q E h => ?_) (fun cdv A outer s H vs Q E hr h => ?_)
  · obtain ⟨G, ds, kt, ko, ke, e, r, z, _⟩ := h
    rw [r.length]; exact hlen ds kt ko ke z
  · obtain ⟨G, ds, kt, ko, ke, e, r, z, h1, h2, h3⟩ := h
    have hl := hlen ds kt ko ke z
    exact ⟨_, hb cdv A outer s H E ⟨G, H, none⟩ ds kt ko ke hr rfl z, G, sv_start (by omega) e r, ends_P (Z := Z) h1 h2⟩
/-- a def that may raise -/
theorem fn_okX {x qual : Str} {st : Stmt} {f : Addr} {fd : FuncData} {N ps : List Str} {k : Nat} {Z : Zp} (F : Fun K x qual st f fd) (S : FnScope N ps (defScope st)) (hlen : ∀ ds kt ko ke, Z ds kt ko ke → ds.length = ps.length) (hNl : ps.length ≤ N.length)
    (hb : ∀ (cdv : Value) (A : Around) (outer : List Env) (s : Shared) (H : Hp) (E : XK) (Fm : Fr) (ds : List FW.D) (kt : FW.D → Prop) (ko : List FW.D → Prop) (ke : Xk → Prop), Room k (A.deeper (envOfC qual (defScope st) s.heap.objs.size f cdv)) → Fm.r = none → Z ds kt ko ke →
      (∀ x dd H', ke x → Keep Fm H' → XSh x dd Fm.H0 H' → E (.ref x.1) dd H') →
      DB (cxOf (L2.CX P w) P w K mg base N qual (defScope st) f cdv A outer s H E) Fm (sl0 N ds) (defBody st) (postP kt ko)) : FnOk P w K mg base (L2.CX P w) (k + 1) f fd ps (spP Z) := by
  refine F.okX S (fun vs H Q E h => ?_) (fun cdv A outer s H vs Q E hr h => ?_)
  · obtain ⟨G, ds, kt, ko, ke, e, r, z, _⟩ := h
    rw [r.length]; exact hlen ds kt ko ke z
  · obtain ⟨G, ds, kt, ko, ke, e, r, z, h1, h2, h3⟩ := h
    have hl := hlen ds kt ko ke z
    exact ⟨_, hb cdv A outer s H E ⟨G, H, none⟩ ds kt ko ke hr rfl z (fun x dd H' hx kp sh => h3 x dd H' hx kp.b (kp.ext rfl) sh), G, sv_start (by omega) e r, ends_P (Z := Z) h1 h2⟩
/-! ### .. with the row first -/
def slR (N : List Str) (ds : List FW.D) : List Sl := .row :: (ds.map Sl.val ++ List.replicate (N.length - (ds.length + 1)) .unk)
theorem sv_startR {N : List Str} {vs : List V} {ds : List FW.D} {G H : Hp} {p : Addr} (hN : ds.length + 1 ≤ N.length) (e : Ex G H) (gp : G p = none) (ra : RowAt K G H p) (r : Rps G vs ds) :
    SV K ⟨G, H, some p⟩ (slR N ds) G (L2.start N (.ref p :: vs)) H := by
  have hl := r.length
  have no : ∀ {x j}, MutAt (slR N ds) (L2.start N (.ref p :: vs)) x j → j = 0 := fun {x j} ⟨⟨t, h1, h2⟩, _⟩ => by
    unfold slR at h1
    cases j with
    | zero => rfl
    | succ j =>
      exfalso
      rw [List.getElem?_cons_succ] at h1
      by_cases hj : j < (ds.map Sl.val).length
      · rw [List.getElem?_append_left hj, List.getElem?_map] at h1
        cases q : ds[j]? with
        | none => rw [q] at h1; cases h1
        | some d => rw [q] at h1; cases h1; cases h2
      · rw [List.getElem?_append_right (by omega)] at h1
        have := getElem?_replicate_unk h1
        subst this; cases h2
  have ra' := ra
  obtain ⟨_, _, _, _, _, hp, _⟩ := ra'
  refine ⟨Ex.refl G, e, fun x o _ h _ => h, ⟨fun r hr => (by cases hr; exact ⟨_, hp⟩), fun a o h => ⟨o, h⟩, TabG.refl H⟩, fun x o h => .inl h, fun i sl h => ?_, fun i j x ne ma mb => ne ((no ma).trans (no mb).symm), fun i es x h _ => ?_, ?_, e⟩
  · unfold slR at h
    cases i with
    | zero =>
      simp at h; subst h
      exact ⟨p, rfl, rfl, gp, ra⟩
    | succ i =>
      rw [List.getElem?_cons_succ] at h
      have e1 : (L2.start N (.ref p :: vs))[i + 1]? = (vs.map some ++ List.replicate (N.length - (vs.length + 1)) none)[i]? := rfl
      rw [e1]
      by_cases hj : i < (ds.map Sl.val).length
      · rw [List.getElem?_append_left hj, List.getElem?_map] at h
        cases q : ds[i]? with
        | none => rw [q] at h; cases h
        | some d =>
          rw [q] at h; cases h
          obtain ⟨v, hv, rv⟩ := r.get q
          refine ⟨v, ?_, rv⟩
          have hlt : i < (vs.map some).length := by
            rw [List.length_map] at hj ⊢
            omega
          rw [List.getElem?_append_left hlt, List.getElem?_map, hv]; rfl
      · rw [List.getElem?_append_right (by omega)] at h
        have := getElem?_replicate_unk h
        subst this; trivial
  · exfalso
    unfold slR at h
    cases i with
    | zero => simp at h
    | succ i =>
      rw [List.getElem?_cons_succ] at h
      by_cases hj : i < (ds.map Sl.val).length
      · rw [List.getElem?_append_left hj, List.getElem?_map] at h
        cases q : ds[i]? with
        | none => rw [q] at h; cases h
        | some d => rw [q] at h; cases h
      · rw [List.getElem?_append_right (by omega)] at h
        have := getElem?_replicate_unk h
        cases this
  · unfold slR L2.start
    simp only [List.length_append, List.length_map, List.length_replicate, List.length_cons]
    omega
def postR (kt : FW.D → Prop) (ko : List FW.D → Prop) : Post :=
  ⟨fun S => S[0]? = some .row ∧ kt .none, fun d S => S[0]? = some .row ∧ kt d, fun l S => S[0]? = some .row ∧ ko l, fun _ => False, fun _ => False, fun _ _ => False⟩
theorem fn_okR {x qual : Str} {st : Stmt} {f : Addr} {fd : FuncData} {N ps : List Str} {k : Nat} {Z : Zp} (F : Fun K x qual st f fd) (S : FnScope N ps (defScope st)) (hlen : ∀ ds kt ko ke, Z ds kt ko ke → ds.length + 1 = ps.length) (hNl : ps.length ≤ N.length)
    (hb : ∀ (cdv : Value) (A : Around) (outer : List Env) (s : Shared) (H : Hp) (E : XK) (Fm : Fr) (ds : List FW.D) (kt : FW.D → Prop) (ko : List FW.D → Prop), Room k (A.deeper (envOfC qual (defScope st) s.heap.objs.size f cdv)) → Z ds kt ko (fun _ => False) →
      DB (cxOf CX0 P w K mg base N qual (defScope st) f cdv A outer s H E).nox Fm (slR N ds) (defBody st) (postR kt ko)) : FnOk P w K mg base CX0 (k + 1) f fd ps (spR K Z) := by
  refine F.ok S (fun vs H Q E h => ?_) (fun cdv A outer s H vs Q E hr h => ?_)
  · obtain ⟨G, p, vs', ds, kt, ko, rfl, e, gp, ra, r, z, _⟩ := h
    rw [List.length_cons, r.length]; exact hlen ds kt ko _ z
  · obtain ⟨G, p, vs', ds, kt, ko, rfl, e, gp, ra, r, z, h1, h2⟩ := h
    have hl := hlen ds kt ko _ z
    refine ⟨_, hb cdv A outer s H E ⟨G, H, some p⟩ ds kt ko hr z, G, sv_startR (by omega) e gp ra r, ?_⟩
    have rst : ∀ {S' G' σ' H'}, SV K ⟨G, H, some p⟩ S' G' σ' H' → Ex G G' → S'[0]? = some .row → RSt K p G H G' H' := fun {S' G' σ' H'} sv ex hs => by
      obtain ⟨p2, fr, _, gp2, ra2⟩ := sv.slot 0 _ hs
      cases fr
      exact ⟨ex, sv.gh, gp2, fun x o ne h nt => sv.keep x o (fun z => ne (by cases z; rfl)) h nt, sv.live.2.1, sv.live.2.2, sv.new, ra2⟩
    exact ⟨fun S' G' σ' H' ⟨hs, hp⟩ ex sv => h1 _ G' _ H' hp (rst sv ex hs) .non, fun d S' G' σ' v H' ⟨hs, hp⟩ ex sv r => h1 d G' v H' hp (rst sv ex hs) r,
      fun es S' G' σ' p ws H' ⟨hs, hp⟩ ex sv gp h0 hl r => h2 es G' p ws H' hp (rst sv ex hs) gp h0 hl r, fun _ _ _ _ h => h.elim, fun _ _ _ _ h => h.elim, fun _ _ _ _ _ _ h => h.elim⟩
/-- .. by its raw reading -/
theorem fn_rawR {x qual : Str} {st : Stmt} {f : Addr} {fd : FuncData} {N ps : List Str} {k : Nat} {Z : Zp} (F : Fun K x qual st f fd) (S : FnScope N ps (defScope st)) (hlen : ∀ ds kt ko ke, Z ds kt ko ke → ds.length + 1 = ps.length)
    (hb : ∀ (cdv : Value) (A : Around) (outer : List Env) (s : Shared) (H : Hp) (vs : List V) (Q : VK) (E : XK), Room k (A.deeper (envOfC qual (defScope st) s.heap.objs.size f cdv)) → spR K Z vs H Q E →
      ∃ t, PSs (cxOf CX0 P w K mg base N qual (defScope st) f cdv A outer s H E).nox (defBody st) t ∧ t { nx := fun _ H' => Q .non H', rt := Q } (L2.start N vs) H) : FnOk P w K mg base CX0 (k + 1) f fd ps (spR K Z) := by
  refine F.ok S (fun vs H Q E h => ?_) hb
  obtain ⟨G, p, vs', ds, kt, ko, rfl, e, gp, ra, r, z, _⟩ := h
  rw [List.length_cons, r.length]; exact hlen ds kt ko _ z
/-! ### the law -/
def spLaw (K : PySem.W.Frag) : Sp := fun vs H Q _ => ∃ (a : Addr) (ns : List Int), vs = [.ref a] ∧ SqL K H a (ns.map V.int) ∧ ns.length ≤ 63 ∧ ∀ H', Q (.bl true) H'
def postL : Post := ⟨fun _ => False, fun d _ => d = .bool true, fun _ _ => False, fun _ => False, fun _ => False, fun _ _ => False⟩
def tSsA (X : Cx) (sts : List Stmt) : TS := fun D σ H => ∃ F S P, DB X F S sts P ∧ rdS X.K F S P D σ H
theorem pss_anyA {X : Cx} {sts : List Stmt} : PSs X sts (tSsA X sts) := ⟨fun pins s σ H D I ⟨_, _, _, h, r⟩ => PSs.run h pins s σ H D I r⟩
abbrev tRow : TS := tAsg (tLst (tCons (tVar 0) (tCons (tC (.int 0)) (tCons (tC (.int 0)) (tCons (tC (.int 0)) tNil))))) (gName 1)
theorem fn_law {st s0 : Stmt} {rest : List Stmt} {f : Addr} {fd : FuncData} {N : List Str} {k n : Nat} (F : Fun K "law" "law" st f fd) (S : FnScope N ["_law_script"] (defScope st)) (hbd : defBody st = s0 :: rest) (hN : N.length = n + 2)
    (h0 : ∀ (cdv : Value) (A : Around) (outer : List Env) (s : Shared) (H : Hp) (E : XK), PS (cxOf CX0 P w K mg base N "law" (defScope st) f cdv A outer s H E).nox s0 tRow)
    (hb : ∀ (cdv : Value) (A : Around) (outer : List Env) (s : Shared) (H : Hp) (E : XK) (Fm : Fr), Room k (A.deeper (envOfC "law" (defScope st) s.heap.objs.size f cdv)) →
      DB (cxOf CX0 P w K mg base N "law" (defScope st) f cdv A outer s H E).nox Fm (.unk :: .row :: List.replicate n .unk) rest postL) : FnOk P w K mg base CX0 (k + 1) f fd ["_law_script"] (spLaw K) := by
  refine F.ok S (fun vs H Q E h => ?_) (fun cdv A outer s H vs Q E hr h => ?_)
  · obtain ⟨a, ns, rfl, _⟩ := h; rfl
  · obtain ⟨a, ns, rfl, hS, hlen, q⟩ := h
    refine ⟨tSeq tRow (tSsA (cxOf CX0 P w K mg base N "law" (defScope st) f cdv A outer s H E).nox rest), ?_, ?_⟩
    · rw [hbd]; exact pss_cons (h0 cdv A outer s H E) pss_anyA
    · refine ⟨.ref a, rfl, by show 4 ≤ sizeLine; decide, fun p hp => ?_⟩
      have e1 : Ex H (upd H p (.lst [.ref a, .int 0, .int 0, .int 0])) := Ex.upd hp
      refine ⟨⟨H, upd H p (.lst [.ref a, .int 0, .int 0, .int 0]), some p⟩, _, _, hb cdv A outer s H E _ hr, H, ?_, ?_⟩
      · have hst : (L2.start N [.ref a]).set 1 (some (.ref p)) = some (.ref a) :: some (.ref p) :: List.replicate n none := by
          unfold L2.start
          have : N.length - [V.ref a].length = n + 1 := by rw [hN]; rfl
          rw [this, List.replicate_succ]
          rfl
        have only : ∀ {x j}, MutAt (.unk :: .row :: List.replicate n .unk) (some (.ref a) :: some (.ref p) :: List.replicate n none) x j → j = 1 := fun {x j} ⟨⟨t, h1, h2⟩, _⟩ => by
          match j, h1 with
          | 0, h1 => simp at h1; subst h1; cases h2
          | 1, _ => rfl
          | j + 2, h1 =>
            exfalso
            have h1' : (List.replicate n Sl.unk)[j]? = some t := h1
            have := getElem?_replicate_unk h1'
            subst this; cases h2
        show SV K _ _ H ((L2.start N [.ref a]).set 1 (some (.ref p))) _
        rw [hst]
        refine ⟨Ex.refl H, e1, fun x o _ h _ => h, ⟨fun r hr => (by cases hr; exact ⟨_, upd_same⟩), fun a o h => ⟨o, h⟩, TabG.refl _⟩, fun x o h => .inl h, fun i sl h => ?_, fun i j x ne ma mb => ne ((only ma).trans (only mb).symm), fun i es x h _ => ?_, ?_, e1⟩
        · match i, h with
          | 0, h => simp at h; subst h; trivial
          | 1, h => simp at h; subst h; exact ⟨p, rfl, rfl, hp, a, ns, 0, 0, 0, upd_same, hS, ⟨hlen, by decide, by decide, by decide, by decide⟩⟩
          | i + 2, h =>
            have h1' : (List.replicate n Sl.unk)[i]? = some sl := h
            have := getElem?_replicate_unk h1'
            subst this; trivial
        · exfalso
          match i, h with
          | 0, h => simp at h
          | 1, h => simp at h
          | i + 2, h =>
            have h1' : (List.replicate n Sl.unk)[i]? = some (.own es) := h
            have := getElem?_replicate_unk h1'
            cases this
        · simp
      · exact ⟨fun _ _ _ _ h => h.elim, fun d S' G' σ' v H' hd ex sv r => by
          have hd : d = .bool true := hd
          subst hd
          cases r
          exact q H', fun _ _ _ _ _ _ _ h => h.elim, fun _ _ _ _ h => h.elim, fun _ _ _ _ h => h.elim, fun _ _ _ _ _ _ h => h.elim⟩
end
end FW

namespace FW
open PySem PySem.Spec PyProof.Rows L2
variable [Tb]

/-- the built-in names that the top does not hide -/
structure BT (mg : Str → Option Value) : Prop where
  len : mg "len" = none
  range : mg "range" = none
  sorted : mg "sorted" = none
  set : mg "set" = none
  tuple : mg "tuple" = none
  list : mg "list" = none
  min : mg "min" = none
  max : mg "max" = none
  abs : mg "abs" = none
  sum : mg "sum" = none
  int : mg "int" = none
  str : mg "str" = none
  bool : mg "bool" = none
  zip : mg "zip" = none
  reversed : mg "reversed" = none
  isinstance : mg "isinstance" = none

section
variable {X : Cx} {F : Fr} {S : List Sl} {e a b tg iter : Expr} {P : PD} {PO : List FW.D → List Sl → Prop} {pos p : Pos}
/-! ### len, abs, max, min, int, str, sum -/
theorem de_len (B : BT X.mg) (h : DE X F S e (fun d S' => ∃ ds, Sq d ds ∧ P (.int ds.length) S')) (hg : Gl X "len" := by rfl) (he : starEach (e :: []) X.env = (false, eval e X.env) :: starEach [] X.env := by rfl) (hpl : (backTo pos (starEach [] X.env)).any (·.1) = false := by rfl) : DE X F S (.Call (.Name "len" p) [e] [] pos) P :=
  de_callB call_len_seq B.len PySem.boot_len (da_cons (h.imp fun d S' ⟨ds, sq, hp⟩ => da_nil fun vs G σ H Q sv r k => by
    cases r with
    | cons r1 r2 =>
      cases r2
      obtain ⟨p, xs, rfl, hq, rs⟩ := rp_sq (K := X.K) sv.gh sq r1
      exact ⟨p, xs, rfl, hq, by rw [rs.length]; exact k _ S' G _ H hp (.refl sv) (.int _)⟩) he) hg (by decide) (by decide) he hpl
theorem de_lenS (B : BT X.mg) (h : DE X F S e (fun d S' => ∃ z, d = .str z ∧ z.length ≤ sizeLine ∧ P (.int z.length) S')) (hg : Gl X "len" := by rfl) (he : starEach (e :: []) X.env = (false, eval e X.env) :: starEach [] X.env := by rfl) (hpl : (backTo pos (starEach [] X.env)).any (·.1) = false := by rfl) : DE X F S (.Call (.Name "len" p) [e] [] pos) P :=
  de_callB call_len_str B.len PySem.boot_len (da_cons (h.imp fun d S' ⟨z, ed, hl, hp⟩ => da_nil fun vs G σ H Q sv r k => by
    subst ed
    cases r with
    | cons r1 r2 => cases r1; cases r2; exact ⟨z, rfl, hl, k _ S' G _ H hp (.refl sv) (.int _)⟩) he) hg (by decide) (by decide) he hpl
theorem de_abs (B : BT X.mg) (h : DE X F S e (fun d S' => ∃ i, d = .int i ∧ P (.int (if i < 0 then -i else i)) S')) (hg : Gl X "abs" := by rfl) (he : starEach (e :: []) X.env = (false, eval e X.env) :: starEach [] X.env := by rfl) (hpl : (backTo pos (starEach [] X.env)).any (·.1) = false := by rfl) : DE X F S (.Call (.Name "abs" p) [e] [] pos) P :=
  de_callB call_abs B.abs (by decide +kernel) (da_cons (h.imp fun d S' ⟨i, ed, hp⟩ => da_nil fun vs G σ H Q sv r k => by
    subst ed
    cases r with
    | cons r1 r2 => cases r1; cases r2; exact ⟨i, rfl, k _ S' G _ H hp (.refl sv) (.int _)⟩) he) hg (by decide) (by decide) he hpl
theorem de_max2 (B : BT X.mg) (hc : X.calm = true) (h : DA X F S (a :: [b]) (fun ds S' => ∃ i j, ds = [.int i, .int j] ∧ P (.int (if j > i then j else i)) S')) (hg : Gl X "max" := by rfl) (he : starEach (a :: [b]) X.env = (false, eval a X.env) :: starEach [b] X.env := by rfl) (hpl : (backTo pos (starEach [b] X.env)).any (·.1) = false := by rfl) : DE X F S (.Call (.Name "max" p) [a, b] [] pos) P :=
  de_callB (call_max2 hc) B.max (by decide +kernel) (da_mk h fun σ H Q ⟨G, sv, k⟩ => ⟨G, sv, fun ds S' G' vs H' ⟨i, j, ed, hp⟩ st rs => k ds S' G' vs H' (fun vs G σ H Q sv r k => by
    subst ed
    cases r with
    | cons r1 r2 => cases r1; cases r2 with | cons r3 r4 => cases r3; cases r4; exact ⟨i, j, rfl, k _ S' G _ H hp (.refl sv) (.int _)⟩) st rs⟩) hg (by decide) (by decide) he hpl
theorem de_min2 (B : BT X.mg) (hc : X.calm = true) (h : DA X F S (a :: [b]) (fun ds S' => ∃ i j, ds = [.int i, .int j] ∧ P (.int (if j < i then j else i)) S')) (hg : Gl X "min" := by rfl) (he : starEach (a :: [b]) X.env = (false, eval a X.env) :: starEach [b] X.env := by rfl) (hpl : (backTo pos (starEach [b] X.env)).any (·.1) = false := by rfl) : DE X F S (.Call (.Name "min" p) [a, b] [] pos) P :=
  de_callB (call_min2 hc) B.min (by decide +kernel) (da_mk h fun σ H Q ⟨G, sv, k⟩ => ⟨G, sv, fun ds S' G' vs H' ⟨i, j, ed, hp⟩ st rs => k ds S' G' vs H' (fun vs G σ H Q sv r k => by
    subst ed
    cases r with
    | cons r1 r2 => cases r1; cases r2 with | cons r3 r4 => cases r3; cases r4; exact ⟨i, j, rfl, k _ S' G _ H hp (.refl sv) (.int _)⟩) st rs⟩) hg (by decide) (by decide) he hpl
/-- int(flag) -/
theorem de_intB (B : BT X.mg) (h : DE X F S e (fun d S' => B1 d fun k => P (.int (if k then 1 else 0)) S')) (hg : Gl X "int" := by rfl) (he : starEach (e :: []) X.env = (false, eval e X.env) :: starEach [] X.env := by rfl) (hpl : (backTo pos (starEach [] X.env)).any (·.1) = false := by rfl) : DE X F S (.Call (.Name "int" p) [e] [] pos) P :=
  de_callT call_int1 B.int (by decide +kernel) (da_cons (h.imp fun d S' ⟨i, ed, hp⟩ => da_nil fun vs G σ H Q sv r k => by
    subst ed
    cases r with
    | cons r1 r2 => cases r1; cases r2; exact .inr ⟨i, rfl, k _ S' G _ H hp (.refl sv) (.int _)⟩) he) hg (by decide) (by decide) he hpl
theorem de_strI (B : BT X.mg) (h : DE X F S e (fun d S' => ∃ i, d = .int i ∧ i.natAbs.log2 < 1920 ∧ P (.str (toString i)) S')) (hg : Gl X "str" := by rfl) (he : starEach (e :: []) X.env = (false, eval e X.env) :: starEach [] X.env := by rfl) (hpl : (backTo pos (starEach [] X.env)).any (·.1) = false := by rfl) : DE X F S (.Call (.Name "str" p) [e] [] pos) P :=
  de_callT call_str_int B.str (by decide +kernel) (da_cons (h.imp fun d S' ⟨i, ed, hl, hp⟩ => da_nil fun vs G σ H Q sv r k => by
    subst ed
    cases r with
    | cons r1 r2 => cases r1; cases r2; exact ⟨i, rfl, hl, k _ S' G _ H hp (.refl sv) (.str _)⟩) he) hg (by decide) (by decide) he hpl
theorem de_sum (B : BT X.mg) (hc : X.calm = true) (h : DE X F S e (fun d S' => ∃ ns : List Int, d = .list (ns.map .int) ∧ P (.int ns.sum) S')) (hg : Gl X "sum" := by rfl) (he : starEach (e :: []) X.env = (false, eval e X.env) :: starEach [] X.env := by rfl) (hpl : (backTo pos (starEach [] X.env)).any (·.1) = false := by rfl) : DE X F S (.Call (.Name "sum" p) [e] [] pos) P :=
  de_callB (cr_sum hc) B.sum (by decide +kernel) (da_cons (h.imp fun d S' ⟨ns, ed, hp⟩ => da_nil fun vs G σ H Q sv r k => by
    subst ed
    cases r with
    | cons r1 r2 => cases r2; cases r1 with | lst hl rs => have e := rs.ints; subst e; exact ⟨_, ns, rfl, SqL.of (sv.gh _ _ hl), k _ S' G _ H hp (.refl sv) (.int _)⟩) he) hg (by decide) (by decide) he hpl
/-- max(xs), min(xs), xs ints in a list or a tuple: here lists -/
theorem de_maxL (B : BT X.mg) (hc : X.calm = true) (h : DE X F S e (fun d S' => ∃ ns : List Int, d = .list (ns.map .int) ∧ 0 < ns.length ∧ ∀ m, m ∈ ns → (∀ y ∈ ns, y ≤ m) → P (.int m) S')) (hg : Gl X "max" := by rfl) (he : starEach (e :: []) X.env = (false, eval e X.env) :: starEach [] X.env := by rfl) (hpl : (backTo pos (starEach [] X.env)).any (·.1) = false := by rfl) : DE X F S (.Call (.Name "max" p) [e] [] pos) P :=
  de_callB (cr_max hc) B.max (by decide +kernel) (da_cons (h.imp fun d S' ⟨ns, ed, hl0, hp⟩ => da_nil fun vs G σ H Q sv r k => by
    subst ed
    cases r with
    | cons r1 r2 => cases r2; cases r1 with | lst hl rs => have e := rs.ints; subst e; exact ⟨_, ns, rfl, SqL.of (sv.gh _ _ hl), hl0, fun m h1 h2 => k _ S' G _ H (hp m h1 h2) (.refl sv) (.int _)⟩) he) hg (by decide) (by decide) he hpl
theorem de_minL (B : BT X.mg) (hc : X.calm = true) (h : DE X F S e (fun d S' => ∃ ns : List Int, d = .list (ns.map .int) ∧ 0 < ns.length ∧ ∀ m, m ∈ ns → (∀ y ∈ ns, m ≤ y) → P (.int m) S')) (hg : Gl X "min" := by rfl) (he : starEach (e :: []) X.env = (false, eval e X.env) :: starEach [] X.env := by rfl) (hpl : (backTo pos (starEach [] X.env)).any (·.1) = false := by rfl) : DE X F S (.Call (.Name "min" p) [e] [] pos) P :=
  de_callB (cr_min hc) B.min (by decide +kernel) (da_cons (h.imp fun d S' ⟨ns, ed, hl0, hp⟩ => da_nil fun vs G σ H Q sv r k => by
    subst ed
    cases r with
    | cons r1 r2 => cases r2; cases r1 with | lst hl rs => have e := rs.ints; subst e; exact ⟨_, ns, rfl, SqL.of (sv.gh _ _ hl), hl0, fun m h1 h2 => k _ S' G _ H (hp m h1 h2) (.refl sv) (.int _)⟩) he) hg (by decide) (by decide) he hpl

/-! ### tuple, list -/
theorem de_tupOf (B : BT X.mg) (h : DE X F S e (fun d S' => ∃ ds, Sq d ds ∧ P (.tuple ds) S')) (hg : Gl X "tuple" := by rfl) (he : starEach (e :: []) X.env = (false, eval e X.env) :: starEach [] X.env := by rfl) (hpl : (backTo pos (starEach [] X.env)).any (·.1) = false := by rfl) : DE X F S (.Call (.Name "tuple" p) [e] [] pos) P :=
  de_callT call_tuple_of B.tuple (by decide +kernel) (da_cons (h.imp fun d S' ⟨ds, sq, hp⟩ => da_nil fun vs G σ H Q sv r k => by
    cases r with
    | cons r1 r2 =>
      cases r2
      cases sq with
      | l => cases r1 with | lst hl rs => exact ⟨_, _, rfl, .inl ⟨SqL.of (sv.gh _ _ hl), fun q hn => k _ S' _ _ _ hp (.alloc sv hn) (.tup upd_same (rs.mono (Ex.upd (sv.gh.none hn))))⟩⟩
      | t => cases r1 with | tup hl rs => exact ⟨_, _, rfl, .inr ⟨SqT.of (sv.gh _ _ hl), k _ S' G _ H hp (.refl sv) (.tup hl rs)⟩⟩) he) hg (by decide) (by decide) he hpl
theorem do_listOf (B : BT X.mg) (h : DE X F S e (fun d S' => ∃ ds, Sq d ds ∧ PO ds S')) (hg : Gl X "list" := by rfl) (he : starEach (e :: []) X.env = (false, eval e X.env) :: starEach [] X.env := by rfl) (hpl : (backTo pos (starEach [] X.env)).any (·.1) = false := by rfl) : DO X F S (.Call (.Name "list" p) [e] [] pos) PO :=
  do_callT call_list_of B.list (by decide +kernel) (da_cons (h.imp fun d S' ⟨ds, sq, hp⟩ => da_nil fun vs G σ H Q sv r k => by
    cases r with
    | cons r1 r2 =>
      cases r2
      obtain ⟨p, xs, rfl, hq, rs⟩ := rp_sq (K := X.K) sv.gh sq r1
      exact ⟨p, xs, rfl, hq, fun l hn => k _ S' G l xs _ hp (.allocO sv hn) (sv.gh.none hn) hn (sv.fresh hn) upd_same rs⟩) he) hg (by decide) (by decide) he hpl
theorem rps_rg (a b : Int) (G : Hp) : Rps G (rgV a b) (rgD a (b - a).toNat) := by
  unfold rgV rgD
  have : ∀ l : List Nat, Rps G (l.map fun i : Nat => V.int (a + (i : Nat))) (l.map fun i : Nat => PyData.int (a + (i : Nat))) := by
    intro l
    induction l with
    | nil => exact .nil
    | cons x l ih => exact .cons (.int _) ih
  exact this _
theorem do_listRg2 {p2 pos2 : Pos} (B : BT X.mg) (hc : X.calm = true) (h : DE X F S a (fun d1 S1 => DE X F S1 b (fun d2 S2 => I2 d1 d2 fun i j => RgOk i j ∧ PO (rgD i (j - i).toNat) S2))) (hg : Gl X "list" := by rfl) (hg2 : Gl X "range" := by rfl)
    (na : starEach [a, b] X.env = (false, eval a X.env) :: starEach [b] X.env := by rfl) (nb : starEach [b] X.env = (false, eval b X.env) :: starEach [] X.env := by rfl) (hp : (backTo pos2 (starEach [b] X.env)).any (·.1) = false := by rfl)
    (nc : starEach [.Call (.Name "range" p2) [a, b] [] pos2] X.env = (false, eval (.Call (.Name "range" p2) [a, b] [] pos2) X.env) :: starEach [] X.env := by rfl) : DO X F S (.Call (.Name "list" p) [.Call (.Name "range" p2) [a, b] [] pos2] [] pos) PO :=
  do_mk (pe_listRg hc hg B.list (prg_2 hg2 B.range h pe_any na nb hp) nc) fun σ H Q ⟨G, sv, k⟩ => ⟨G, sv, fun d1 S1 G1 x H1 h1 st1 r1 => ⟨S1, _, h1, G1, st1.sv, fun d2 S2 G2 y H2 ⟨i, j, e1, e2, ok, hp⟩ st2 r2 => by
    subst e1; subst e2; cases r1; cases r2
    refine ⟨i, j, rfl, rfl, ok, fun q hn => ?_⟩
    have st := st1.trans st2
    exact k _ S2 G2 q _ _ hp (st.trans (.allocO st2.sv hn)) (st2.sv.gh.none hn) (st.fresh hn) (st2.sv.fresh hn) upd_same (rps_rg i j G2)⟩⟩
theorem do_listRg1 {p2 pos2 : Pos} (B : BT X.mg) (hc : X.calm = true) (h : DE X F S a (fun d1 S1 => ∃ j, d1 = .int j ∧ RgOk 0 j ∧ PO (rgD 0 (j - 0).toNat) S1)) (hg : Gl X "list" := by rfl) (hg2 : Gl X "range" := by rfl)
    (na : starEach [a] X.env = (false, eval a X.env) :: starEach [] X.env := by rfl)
    (nc : starEach [.Call (.Name "range" p2) [a] [] pos2] X.env = (false, eval (.Call (.Name "range" p2) [a] [] pos2) X.env) :: starEach [] X.env := by rfl) : DO X F S (.Call (.Name "list" p) [.Call (.Name "range" p2) [a] [] pos2] [] pos) PO :=
  do_mk (pe_listRg hc hg B.list (prg_1 hg2 B.range h na) nc) fun σ H Q ⟨G, sv, k⟩ => ⟨G, sv, fun d1 S1 G1 x H1 ⟨j, e1, ok, hp⟩ st1 r1 => by
    subst e1; cases r1
    refine ⟨j, rfl, ok, fun q hn => ?_⟩
    exact k _ S1 G1 q _ _ hp (st1.trans (.allocO st1.sv hn)) (st1.sv.gh.none hn) (st1.fresh hn) (st1.sv.fresh hn) upd_same (rps_rg 0 j G1)⟩

/-! ### +, * of tuples and lists -/
theorem de_addT (h : DE X F S a (fun d1 S1 => DE X F S1 b (fun d2 S2 => ∃ xs ys, d1 = .tuple xs ∧ d2 = .tuple ys ∧ xs.length + ys.length ≤ sizeLine ∧ P (.tuple (xs ++ ys)) S2))) : DE X F S (.BinOp a .Add b pos) P :=
  de_op op_catA (h.imp fun d1 S1 h1 => h1.imp fun d2 S2 ⟨xs, ys, e1, e2, hl, hp⟩ x y G σ H Q sv r1 r2 k => by
    subst e1; subst e2
    cases r1 with
    | tup h1 rs1 => cases r2 with | tup h2 rs2 =>
      refine ⟨_, _, _, _, rfl, rfl, SqT.of (sv.gh _ _ h1), SqT.of (sv.gh _ _ h2), by rw [rs1.length, rs2.length]; exact hl, fun e => ?_, fun _ e => ?_, fun _ _ q hn => ?_⟩
      · subst e; cases rs1; exact k _ S2 G _ H hp (.refl sv) (.tup h2 rs2)
      · subst e; cases rs2; exact k _ S2 G _ H hp (.refl sv) (.tup h1 (by rw [List.append_nil]; exact rs1))
      · exact k _ S2 _ _ _ hp (.alloc sv hn) (.tup upd_same ((rs1.append rs2).mono (Ex.upd (sv.gh.none hn)))))
theorem do_addL (h : DE X F S a (fun d1 S1 => DE X F S1 b (fun d2 S2 => ∃ xs ys, d1 = .list xs ∧ d2 = .list ys ∧ xs.length + ys.length ≤ sizeLine ∧ PO (xs ++ ys) S2))) : DO X F S (.BinOp a .Add b pos) PO :=
  do_mk (pe_op op_cat h pe_any) fun σ H Q ⟨G, sv, k⟩ => ⟨G, sv, fun d1 S1 G1 x H1 h1 st1 r1 => ⟨S1, _, h1, G1, st1.sv, fun d2 S2 G2 y H2 ⟨xs, ys, e1, e2, hl, hp⟩ st2 r2 => by
    subst e1; subst e2
    cases r1 with
    | lst h1 rs1 => cases r2 with | lst h2 rs2 =>
      refine ⟨_, _, _, _, rfl, rfl, st2.sv.gh _ _ (st2.g _ _ h1), st2.sv.gh _ _ h2, by rw [rs1.length, rs2.length]; exact hl, fun q hn => ?_⟩
      have st := st1.trans st2
      exact k _ S2 G2 q _ _ hp (st.trans (.allocO st2.sv hn)) (st2.sv.gh.none hn) (st.fresh hn) (st2.sv.fresh hn) upd_same ((rs1.mono st2.g).append rs2)⟩⟩
theorem do_mulL (h : DE X F S a (fun d1 S1 => DE X F S1 b (fun d2 S2 => ∃ xs n, d1 = .list xs ∧ d2 = .int n ∧ (-(2 ^ 63) ≤ n ∧ n < 2 ^ 63) ∧ xs.length * n.toNat ≤ sizeLine ∧ PO (List.replicate n.toNat xs).flatten S2))) : DO X F S (.BinOp a .Mult b pos) PO :=
  do_mk (pe_op op_rep h pe_any) fun σ H Q ⟨G, sv, k⟩ => ⟨G, sv, fun d1 S1 G1 x H1 h1 st1 r1 => ⟨S1, _, h1, G1, st1.sv, fun d2 S2 G2 y H2 ⟨xs, n, e1, e2, hn1, hl, hp⟩ st2 r2 => by
    subst e1; subst e2; cases r2
    cases r1 with
    | lst h1 rs1 =>
      refine ⟨_, n, _, rfl, rfl, st2.sv.gh _ _ (st2.g _ _ h1), hn1.1, hn1.2, by rw [rs1.length]; exact hl, fun q hn => ?_⟩
      have st := st1.trans st2
      exact k _ S2 G2 q _ _ hp (st.trans (.allocO st2.sv hn)) (st2.sv.gh.none hn) (st.fresh hn) (st2.sv.fresh hn) upd_same ((rs1.mono st2.g).rep n.toNat)⟩⟩
theorem de_mulT (h : DE X F S a (fun d1 S1 => DE X F S1 b (fun d2 S2 => ∃ xs n, d1 = .tuple xs ∧ d2 = .int n ∧ xs ≠ [] ∧ (2 ≤ n ∧ n ≤ 1000) ∧ xs.length ≤ 1000 ∧ P (.tuple (List.replicate n.toNat xs).flatten) S2))) : DE X F S (.BinOp a .Mult b pos) P :=
  de_op op_repT (h.imp fun d1 S1 h1 => h1.imp fun d2 S2 ⟨xs, n, e1, e2, hne, hn1, hl, hp⟩ x y G σ H Q sv r1 r2 k => by
    subst e1; subst e2; cases r2
    cases r1 with
    | tup h1 rs1 =>
      refine ⟨_, n, _, rfl, rfl, SqT.of (sv.gh _ _ h1), fun e => hne ?_, hn1.1, hn1.2, by rw [rs1.length]; exact hl, fun q hn => k _ S2 _ _ _ hp (.alloc sv hn) (.tup upd_same ((rs1.rep n.toNat).mono (Ex.upd (sv.gh.none hn))))⟩
      subst e; cases rs1; rfl)
/-! ### in, not in -/
def flatD : FW.D → Bool
  | .list _ => false
  | .tuple _ => false
  | .dict _ => false
  | _ => true
theorem flat_rp {G : Hp} {v : V} {d : FW.D} (r : Rp G v d) (f : flatD d = true) : flatV v = true := by
  cases r <;> first | rfl | cases f
theorem eqV_rp {G : Hp} {v u : V} {d c : FW.D} (r : Rp G v d) (s : Rp G u c) (f : flatD d = true) (g : flatD c = true) : eqV v u = PyData.eqv d c := by
  cases r <;> cases s <;> first | cases f | cases g | skip
  all_goals first | rfl | simp [eqV, PyData.eqv]
def inD (x : FW.D) (ds : List FW.D) : Bool := ds.any fun y => PyData.eqv y x
theorem inV_rp {G : Hp} {v : V} {d : FW.D} (r : Rp G v d) (f : flatD d = true) : ∀ {vs : List V} {ds : List FW.D}, Rps G vs ds → ds.all flatD = true → inV v vs = inD d ds ∧ vs.all flatV = true
  | _, _, .nil, _ => ⟨rfl, rfl⟩
  | v' :: vs', d' :: ds', .cons a t, h => by
    rw [List.all_cons, Bool.and_eq_true] at h
    obtain ⟨h1, h2⟩ := inV_rp r f t h.2
    refine ⟨?_, by rw [List.all_cons, flat_rp a h.1, h2]; rfl⟩
    have e1 : inV v (v' :: vs') = (eqV v' v || inV v vs') := List.any_cons
    have e2 : inD d (d' :: ds') = (PyData.eqv d' d || inD d ds') := List.any_cons
    rw [e1, e2, h1, eqV_rp a r h.1 f]
def In2 (d1 d2 : FW.D) (k : Bool → Prop) : Prop := ∃ ds, Sq d2 ds ∧ flatD d1 = true ∧ ds.all flatD = true ∧ k (inD d1 ds)
theorem opd_in {K : PySem.W.Frag} {d1 d2 : FW.D} (h : In2 d1 d2 fun b => P (.bool b) S) : OpD K F (rIn K false) d1 d2 S P := fun x y G σ H Q sv rx ry k => by
  obtain ⟨ds, sq, f1, f2, hp⟩ := h
  obtain ⟨q, xs, rfl, hq, rs⟩ := rp_sq (K := K) sv.gh sq ry
  obtain ⟨e1, e2⟩ := inV_rp rx f1 rs f2
  exact ⟨q, xs, rfl, hq, flat_rp rx f1, e2, by rw [e1]; exact k _ S G _ H hp (.refl sv) (.bl _)⟩
theorem opd_nin {K : PySem.W.Frag} {d1 d2 : FW.D} (h : In2 d1 d2 fun b => P (.bool (!b)) S) : OpD K F (rIn K true) d1 d2 S P := fun x y G σ H Q sv rx ry k => by
  obtain ⟨ds, sq, f1, f2, hp⟩ := h
  obtain ⟨q, xs, rfl, hq, rs⟩ := rp_sq (K := K) sv.gh sq ry
  obtain ⟨e1, e2⟩ := inV_rp rx f1 rs f2
  exact ⟨q, xs, rfl, hq, flat_rp rx f1, e2, by rw [e1]; exact k _ S G _ H hp (.refl sv) (.bl _)⟩
theorem de_in (h : DE X F S a (fun d1 S1 => DE X F S1 b (fun d2 S2 => In2 d1 d2 fun k => P (.bool k) S2))) (hm : behindInMarks .In b = false := by rfl) : DE X F S (.Compare a [.In] [b] pos) P :=
  de_cmp op_in_seq hm (h.imp fun d1 S1 h => h.imp fun d2 S2 h => opd_in h)
theorem dt_in {P : Bool → List Sl → Prop} (h : DE X F S a (fun d1 S1 => DE X F S1 b (fun d2 S2 => In2 d1 d2 fun k => P k S2))) (hm : behindInMarks .In b = false := by rfl) : DT X F S (.Compare a [.In] [b] pos) P :=
  dt_cmp op_in_seq hm (h.imp fun d1 S1 h => h.imp fun d2 S2 ⟨ds, sq, f1, f2, hp⟩ => opd_in ⟨ds, sq, f1, f2, b1 hp⟩)
theorem dt_nin {P : Bool → List Sl → Prop} (h : DE X F S a (fun d1 S1 => DE X F S1 b (fun d2 S2 => In2 d1 d2 fun k => P (!k) S2))) (hm : behindInMarks .NotIn b = false := by rfl) : DT X F S (.Compare a [.NotIn] [b] pos) P :=
  dt_cmp op_notIn_seq hm (h.imp fun d1 S1 h => h.imp fun d2 S2 ⟨ds, sq, f1, f2, hp⟩ => opd_nin ⟨ds, sq, f1, f2, b1 hp⟩)

/-! ### zip, reversed -/
def zipD (xs ys : List FW.D) : List FW.D := (xs.zip ys).map fun p => .tuple [p.1, p.2]
theorem zipD_length (xs ys : List FW.D) : (zipD xs ys).length = min xs.length ys.length := by unfold zipD; rw [List.length_map, List.length_zip]
theorem zipD_get {xs ys : List FW.D} {i : Nat} {x y : FW.D} (h1 : xs[i]? = some x) (h2 : ys[i]? = some y) : (zipD xs ys)[i]? = some (.tuple [x, y]) := by
  unfold zipD
  rw [List.getElem?_map, List.zip, List.getElem?_zipWith, h1, h2]; rfl
theorem itd_zip {K : PySem.W.Frag} {G : Hp} {a b : Addr} {vs ws : List V} {xs ys : List FW.D} (ha : G a = some (.lst vs)) (hb : G b = some (.lst ws)) (ra : Rps G vs xs) (rb : Rps G ws ys) : ItD (Itz K a b) G (zipD xs ys) where
  go := fun i H hi ex => by
    rw [zipD_length] at hi
    have h1 : i < vs.length := by rw [ra.length]; omega
    have h2 : i < ws.length := by rw [rb.length]; omega
    exact ⟨vs, ws, vs[i], ws[i], SqL.of (ex _ _ ha), SqL.of (ex _ _ hb), List.getElem?_eq_getElem h1, List.getElem?_eq_getElem h2⟩
  stop := fun H ex => ⟨vs, ws, SqL.of (ex _ _ ha), SqL.of (ex _ _ hb), by rw [zipD_length, ra.length, rb.length]; omega⟩
  yld := fun i H x H' hi ex ⟨T, x1, y1, e1, hn, e2, f1, f2⟩ => by
    obtain ⟨d1, hd1, r1⟩ := ra.get' (f1 vs (SqL.of (ex _ _ ha)))
    obtain ⟨d2, hd2, r2⟩ := rb.get' (f2 ws (SqL.of (ex _ _ hb)))
    exact ⟨_, zipD_get hd1 hd2, .inr ⟨T, [x1, y1], [d1, d2], hn, e2, e1, rfl, .cons r1 (.cons r2 .nil)⟩⟩
theorem itd_zipT {K : PySem.W.Frag} {G : Hp} {a b : Addr} {vs ws : List V} {xs ys : List FW.D} (ha : G a = some (.tup vs)) (hb : G b = some (.tup ws)) (ra : Rps G vs xs) (rb : Rps G ws ys) : ItD (RZ.ItzT K a b) G (zipD xs ys) where
  go := fun i H hi ex => by
    rw [zipD_length] at hi
    have h1 : i < vs.length := by rw [ra.length]; omega
    have h2 : i < ws.length := by rw [rb.length]; omega
    exact ⟨vs, ws, vs[i], ws[i], SqT.of (ex _ _ ha), SqT.of (ex _ _ hb), List.getElem?_eq_getElem h1, List.getElem?_eq_getElem h2⟩
  stop := fun H ex => ⟨vs, ws, SqT.of (ex _ _ ha), SqT.of (ex _ _ hb), by rw [zipD_length, ra.length, rb.length]; omega⟩
  yld := fun i H x H' hi ex ⟨T, x1, y1, e1, hn, e2, f1, f2⟩ => by
    obtain ⟨d1, hd1, r1⟩ := ra.get' (f1 vs (SqT.of (ex _ _ ha)))
    obtain ⟨d2, hd2, r2⟩ := rb.get' (f2 ws (SqT.of (ex _ _ hb)))
    exact ⟨_, zipD_get hd1 hd2, .inr ⟨T, [x1, y1], [d1, d2], hn, e2, e1, rfl, .cons r1 (.cons r2 .nil)⟩⟩
theorem di_zip {elts : List Expr} {kk : Nat} {tpos : Pos} (B : BT X.mg) (h : DE X F S a (fun d1 S1 => DE X F S1 b (fun d2 S2 => ∃ xs ys, ((d1 = .list xs ∧ d2 = .list ys) ∨ (d1 = .tuple xs ∧ d2 = .tuple ys)) ∧ PO (zipD xs ys) S2))) (hg : Gl X "zip" := by rfl)
    (hs : starEach [a, b] X.env = (false, eval a X.env) :: starEach [b] X.env := by rfl) (hs2 : starEach [b] X.env = (false, eval b X.env) :: starEach [] X.env := by rfl) (hpl : (backTo pos (starEach [b] X.env)).any (·.1) = false := by rfl) : DI X F S (.Tuple elts kk tpos) (.Call (.Name "zip" p) [a, b] [] pos) PO :=
  di_mk (RZ.pi_zipA hg B.zip (pa_cons h (pa_cons pe_any pa_nil hs2) hs) hs hpl) fun σ H R ⟨G, sv, k⟩ => ⟨G, sv, fun d1 S1 G1 x H1 h1 st1 r1 => ⟨S1, _, h1, G1, st1.sv, fun d2 S2 G2 y H2 ⟨xs, ys, hd, hp⟩ st2 r2 => by
    have st := st1.trans st2
    rcases hd with ⟨e1, e2⟩ | ⟨e1, e2⟩
    · subst e1; subst e2
      cases r1 with
      | lst h1 rs1 => cases r2 with | lst h2 rs2 =>
        exact ⟨_, _, _, _, rfl, .inl ⟨SqL.of (st2.sv.gh _ _ (st2.g _ _ h1)), SqL.of (st2.sv.gh _ _ h2), k _ S2 G2 _ H2 hp st (itd_zip (st2.g _ _ h1) h2 (rs1.mono st2.g) rs2)⟩⟩
    · subst e1; subst e2
      cases r1 with
      | tup h1 rs1 => cases r2 with | tup h2 rs2 =>
        exact ⟨_, _, _, _, rfl, .inr ⟨SqT.of (st2.sv.gh _ _ (st2.g _ _ h1)), SqT.of (st2.sv.gh _ _ h2), k _ S2 G2 _ H2 hp st (itd_zipT (st2.g _ _ h1) h2 (rs1.mono st2.g) rs2)⟩⟩⟩⟩
theorem rev_get {α : Type} {l : List α} {i : Nat} (h : i < l.length) : l.reverse[i]? = l[l.length - 1 - i]? := List.getElem?_reverse h
theorem itd_rev {K : PySem.W.Frag} {G : Hp} {a : Addr} {vs : List V} {xs : List FW.D} (ha : G a = some (.lst vs)) (ra : Rps G vs xs) : ItD (Itv K a vs.length) G xs.reverse where
  go := fun i H hi ex => by
    rw [List.length_reverse, ← ra.length] at hi
    exact ⟨hi, vs, vs[vs.length - 1 - i], SqL.of (ex _ _ ha), List.getElem?_eq_getElem (by omega)⟩
  stop := fun H ex => by rw [List.length_reverse, ra.length]; exact Nat.le_refl _
  yld := fun i H x H' hi ex ⟨e, f⟩ => by
    rw [List.length_reverse] at hi
    obtain ⟨d, hd, rd⟩ := ra.get' (f vs (SqL.of (ex _ _ ha)))
    exact ⟨d, by rw [rev_get hi, ← ra.length]; exact hd, .inl ⟨e, rd⟩⟩
theorem itd_revT {K : PySem.W.Frag} {G : Hp} {a : Addr} {vs : List V} {xs : List FW.D} (ha : G a = some (.tup vs)) (ra : Rps G vs xs) : ItD (RT.ItvT K a vs.length) G xs.reverse where
  go := fun i H hi ex => by
    rw [List.length_reverse, ← ra.length] at hi
    exact ⟨hi, vs, vs[vs.length - 1 - i], SqT.of (ex _ _ ha), List.getElem?_eq_getElem (by omega)⟩
  stop := fun H ex => by rw [List.length_reverse, ra.length]; exact Nat.le_refl _
  yld := fun i H x H' hi ex ⟨e, f⟩ => by
    rw [List.length_reverse] at hi
    obtain ⟨d, hd, rd⟩ := ra.get' (f vs (SqT.of (ex _ _ ha)))
    exact ⟨d, by rw [rev_get hi, ← ra.length]; exact hd, .inl ⟨e, rd⟩⟩
theorem di_rev (B : BT X.mg) (h : DE X F S a (fun d S' => ∃ ds, Sq d ds ∧ PO ds.reverse S')) (hg : Gl X "reversed" := by rfl) (hs : starEach [a] X.env = (false, eval a X.env) :: starEach [] X.env := by rfl) : DI X F S tg (.Call (.Name "reversed" p) [a] [] pos) PO :=
  di_mk (RT.pi_revA hg B.reversed h hs) fun σ H R ⟨G, sv, k⟩ => ⟨G, sv, fun d S' G' v H' ⟨ds, sq, hp⟩ st r => by
    cases sq with
    | l => cases r with | lst hl rs => exact ⟨_, _, rfl, .inl ⟨SqL.of (st.sv.gh _ _ hl), k _ S' G' _ H' hp st (itd_rev hl rs)⟩⟩
    | t => cases r with | tup hl rs => exact ⟨_, _, rfl, .inr ⟨SqT.of (st.sv.gh _ _ hl), k _ S' G' _ H' hp st (itd_revT hl rs)⟩⟩⟩
theorem di_revRg1 {p2 pos2 : Pos} (B : BT X.mg) (h : DE X F S a (fun d S' => ∃ j, d = .int j ∧ (-(2 ^ 62) ≤ j ∧ j < 2 ^ 62) ∧ PO ((List.range j.toNat).map fun i : Nat => .int (((j.toNat : Nat) : Int) - 1 - (i : Nat))) S')) (hg : Gl X "reversed" := by rfl) (hg2 : Gl X "range" := by rfl)
    (na : starEach [a] X.env = (false, eval a X.env) :: starEach [] X.env := by rfl)
    (hs : starEach [.Call (.Name "range" p2) [a] [] pos2] X.env = (false, eval (.Call (.Name "range" p2) [a] [] pos2) X.env) :: starEach [] X.env := by rfl) : DI X F S tg (.Call (.Name "reversed" p) [.Call (.Name "range" p2) [a] [] pos2] [] pos) PO :=
  di_mk (pi_revR hg B.reversed (prg_1 hg2 B.range h na) hs) fun σ H R ⟨G, sv, k⟩ => ⟨G, sv, fun d S' G' v H' ⟨j, e, hb, hp⟩ st r => by
    subst e; cases r
    refine ⟨j, rfl, by decide, by decide, hb.1, hb.2, ?_⟩
    have it := itd_rangeC (lo := 0 + (((j - 0).toNat : Nat) : Int) - 1) (c := -1) (n := (j - 0).toNat) (G := G')
    refine k _ S' G' _ H' hp st ?_
    have e1 : j - 0 = j := Int.sub_zero j
    have e2 : ((List.range (j - 0).toNat).map fun i : Nat => PyData.int (0 + (((j - 0).toNat : Nat) : Int) - 1 + (i : Nat) * (-1))) = (List.range j.toNat).map fun i : Nat => .int (((j.toNat : Nat) : Int) - 1 - (i : Nat)) := by
      rw [e1]
      refine List.map_congr_left fun i _ => ?_
      congr 1
      omega
    rw [← e2]
    exact it⟩

/-! ### sorted -/
theorem each_rps {G : Hp} : ∀ {out : List Value} {ds : List FW.D}, PySem.W.EachIs (fun v d => ∃ x, RelV x v ∧ Rp G x d) out ds → ∃ xs, Vals xs out ∧ Rps G xs ds
  | _, _, .nil => ⟨[], .nil, .nil⟩
  | _, _, .cons ⟨x, r, q⟩ t => by
    obtain ⟨xs, h1, h2⟩ := each_rps t
    exact ⟨x :: xs, .cons r h1, .cons q h2⟩
theorem rps_each {G : Hp} : ∀ {xs : List V} {out : List Value} {ds : List FW.D}, Vals xs out → Rps G xs ds → PySem.W.EachIs (fun v d => ∃ x, RelV x v ∧ Rp G x d) out ds
  | _, _, _, .nil, .nil => .nil
  | _, _, _, .cons r v, .cons q t => .cons ⟨_, r, q⟩ (rps_each v t)
def rSortedD (K : PySem.W.Frag) : List V → Hp → VK → Prop := fun vs H Q => ∃ (a : Addr) (xs : List V) (G : Hp) (ds : List FW.D), vs = [.ref a] ∧ SqL K H a xs ∧ Ex G H ∧ Rps G xs ds ∧ PySem.W.AllAlike ds ∧ PySem.W.Sortable ds ∧ (∀ d ∈ ds, d.depth ≤ 60) ∧ ds.length ≤ sizeLine ∧
  ∀ p ys, H p = none → Rps G ys (ds.mergeSort (PySem.W.dataLe false id)) → Q (.ref p) (upd H p (.lst ys))
theorem cr_sortedD {k : Nat} (hr : Room k X.A) : CallR X (.builtin "sorted") (rSortedD X.K) := by
  intro pins s σ H vs us Q I r h
  obtain ⟨a, xs, G, ds, rfl, hs, eg, rs, hal, hk, hd, hz, q⟩ := h
  obtain ⟨its, rv, hl, _⟩ := I.list hs
  rw [Vals.ref1 r]
  have e0 : ds.map id = ds := List.map_id ds
  refine PySem.W.sorted_data (bs := ds) (enc := id) (R := fun v d => ∃ x, RelV x v ∧ Rp G x d) hl.isList (rps_each rv rs) ?_ (by rw [e0]; exact hal) (by rw [e0]; exact hk) hz (fun b hb => ?_) fun out hlen he => ?_
  · have : ∀ {xs : List V} {its : List Value} {ds : List FW.D}, Vals xs its → Rps G xs ds → PySem.W.EachIs (fun v d => ∃ as, Reads s.heap v (id d) as) its ds := by
      intro xs
      induction xs with
      | nil => intro its ds v r; cases v; cases r; exact .nil
      | cons x xs ih =>
        intro its ds v r
        cases v with
        | cons v1 v2 => cases r with | cons r1 r2 => exact .cons (Dp.reads I _ _ _ ((r1.mono eg).dp) v1) (ih v2 r2)
    exact this rv rs
  · have := hd b hb
    have := hr.units
    show X.A.units + 2 + b.depth < cLine
    omega
  · obtain ⟨ys, v1, r1⟩ := each_rps he
    obtain ⟨ep, he'⟩ := PyProof.Rows.sortedAll_at s.heap its out.toArray
    have hlen2 : ys.length ≤ sizeLine := by
      rw [r1.length, List.length_mergeSort]; exact hz
    exact ⟨.ref _, upd H (s.heap.objs.size + 1) (.lst ys), I.laid (t' := s.toks) (fun _ _ => PyProof.Rows.sortedAll_old) (Nat.le_succ _) ⟨hlen2, out, ep, v1, he'⟩, rfl, q _ ys (I.hok.fresh (Nat.le_succ _)) r1⟩
theorem do_sorted {k : Nat} (B : BT X.mg) (hr : Room k X.A) (h : DE X F S e (fun d S' => ∃ ds, d = .list ds ∧ PySem.W.AllAlike ds ∧ PySem.W.Sortable ds ∧ (∀ d ∈ ds, d.depth ≤ 60) ∧ ds.length ≤ sizeLine ∧ PO (ds.mergeSort (PySem.W.dataLe false id)) S')) (hg : Gl X "sorted" := by rfl) (he : starEach (e :: []) X.env = (false, eval e X.env) :: starEach [] X.env := by rfl) (hpl : (backTo pos (starEach [] X.env)).any (·.1) = false := by rfl) : DO X F S (.Call (.Name "sorted" p) [e] [] pos) PO :=
  do_callB (cr_sortedD hr) B.sorted (by decide +kernel) (da_cons (h.imp fun d S' ⟨ds, ed, hal, hk, hd, hz, hp⟩ => da_nil fun vs G σ H Q sv r k => by
    subst ed
    cases r with
    | cons r1 r2 =>
      cases r2
      cases r1 with
      | lst hl rs => exact ⟨_, _, G, ds, rfl, SqL.of (sv.gh _ _ hl), sv.gh, rs, hal, hk, hd, hz, fun q ys hn ry => k _ S' G q ys _ hp (.allocO sv hn) (sv.gh.none hn) hn (sv.fresh hn) upd_same ry⟩) he) hg (by decide) (by decide) he hpl

/-! ### isinstance -/
def tyD : FW.D → String
  | .none => "NoneType"
  | .bool _ => "bool"
  | .int _ => "int"
  | .str _ => "str"
  | .list _ => "list"
  | .tuple _ => "tuple"
  | .dict _ => "dict"
theorem rp_ty {K : PySem.W.Frag} {G H : Hp} {v : V} {d : FW.D} (e : Ex G H) (r : Rp G v d) : TyX K H v (.type (tyD d)) := by
  cases r with
  | non => exact .base .non
  | bl b => exact .base (.bl b)
  | int i => exact .base (.int i)
  | str x => exact .base (.str x)
  | lst h _ => exact .base (.lst (e _ _ h))
  | tup h _ => exact .base (.tup (e _ _ h))
theorem de_isi {T : Str} {n : String} {p1 : Pos} (B : BT X.mg) (hT : X.mg T = none) (hb : bootBuiltins T = some (.type n)) (h : DE X F S e (fun d S' => ∃ b, kitB (tyD d) n = some b ∧ P (.bool b) S')) (hg : Gl X "isinstance" := by rfl) (hgT : Gl X T := by rfl) (hn : T ≠ "__name__" := by decide) (hd : (T == ("__debug__" : Str)) = false := by decide)
    (hs : starEach [e, .Name T p1] X.env = (false, eval e X.env) :: starEach [.Name T p1] X.env := by rfl) (hs2 : starEach [.Name T p1] X.env = (false, eval (.Name T p1) X.env) :: starEach [] X.env := by rfl) (hpl : (backTo pos (starEach [.Name T p1] X.env)).any (·.1) = false := by rfl) : DE X F S (.Call (.Name "isinstance" p) [e, .Name T p1] [] pos) P :=
  de_mk (pe_callB call_isi hg B.isinstance (by decide +kernel) (pa_cons h (pa_cons (pe_bltn (v := .ty n) hgT hT hb rfl hn hd) pa_nil hs2) hs) (by decide) (by decide) hs hpl) fun σ H Q ⟨G, sv, k⟩ => ⟨G, sv, fun d S' G' v H' ⟨b, hk, hp⟩ st r =>
    ⟨v, .ty n, _, _, b, rfl, .ty n, rp_ty st.sv.gh r, kit_ty hk, k _ S' G' _ H' hp st (.bl b)⟩⟩
/-- isinstance(e, (T, U)) -/
theorem de_isi2 {T U : Str} {n m : String} {p1 p2 p3 : Pos} {j : Nat} (B : BT X.mg) (hT : X.mg T = none) (hb : bootBuiltins T = some (.type n)) (hU : X.mg U = none) (hb2 : bootBuiltins U = some (.type m)) (h : DE X F S e (fun d S' => ∃ b c, kitB (tyD d) n = some b ∧ kitB (tyD d) m = some c ∧ P (.bool (b || c)) S')) (hg : Gl X "isinstance" := by rfl) (hgT : Gl X T := by rfl) (hgU : Gl X U := by rfl)
    (hn : T ≠ "__name__" := by decide) (hd : (T == ("__debug__" : Str)) = false := by decide) (hn2 : U ≠ "__name__" := by decide) (hd2 : (U == ("__debug__" : Str)) = false := by decide)
    (hs : starEach [e, .Tuple [.Name T p1, .Name U p2] j p3] X.env = (false, eval e X.env) :: starEach [.Tuple [.Name T p1, .Name U p2] j p3] X.env := by rfl) (hs2 : starEach [.Tuple [.Name T p1, .Name U p2] j p3] X.env = (false, eval (.Tuple [.Name T p1, .Name U p2] j p3) X.env) :: starEach [] X.env := by rfl)
    (hs3 : starEach [.Name T p1, .Name U p2] X.env = (false, eval (.Name T p1) X.env) :: starEach [.Name U p2] X.env := by rfl) (hs4 : starEach [.Name U p2] X.env = (false, eval (.Name U p2) X.env) :: starEach [] X.env := by rfl)
    (hpl : (backTo pos (starEach [.Tuple [.Name T p1, .Name U p2] j p3] X.env)).any (·.1) = false := by rfl) : DE X F S (.Call (.Name "isinstance" p) [e, .Tuple [.Name T p1, .Name U p2] j p3] [] pos) P :=
  de_mk (pe_callB call_isiT hg B.isinstance (by decide +kernel) (pa_cons h (pa_cons (pe_tup (pa_cons (pe_bltn (v := .ty n) hgT hT hb rfl hn hd) (pa_cons (pe_bltn (v := .ty m) hgU hU hb2 rfl hn2 hd2) pa_nil hs4) hs3)) pa_nil hs2) hs) (by decide) (by decide) hs hpl) fun σ H Q ⟨G, sv, k⟩ => ⟨G, sv, fun d S' G' v H' ⟨b, c, hk, hk2, hp⟩ st r => by
    refine ⟨by show 2 ≤ sizeLine; decide, fun q hq => ?_⟩
    refine ⟨v, q, [.ty n, .ty m], _, [.type n, .type m], b || c, rfl, upd_same, .cons (.ty n) (.cons (.ty m) .nil), rp_ty (st.sv.gh.trans (Ex.upd hq)) r, kitAny_cons (b := b) (kit_ty hk) (fun hb => ?_) (fun hb => by rw [hb]; rfl), ?_⟩
    · refine kitAny_cons (b := c) (kit_ty hk2) (fun hc => ?_) (fun hc => by rw [hc, Bool.or_true])
      rw [hb, hc]; rfl
    · have al := Stp.allocO (o := .tup [.ty n, .ty m]) st.sv hq
      exact k _ S' G' _ _ hp (st.trans al) (.bl _)⟩
end
end FW

namespace FW
open PySem PySem.Spec PyProof.Rows L2
variable [Tb]

/-! ### expressions that change nothing: their value -/
def Ep (X : Cx) (F : Fr) (S : List Sl) (e : Expr) (d : FW.D) : Prop := DE X F S e fun d' S' => d' = d ∧ S' = S
def Tp (X : Cx) (F : Fr) (S : List Sl) (e : Expr) (b : Bool) : Prop := DT X F S e fun b' S' => b' = b ∧ S' = S
def Wp (X : Cx) (F : Fr) (S : List Sl) (e : Expr) (b : Bool) : Prop := DW X F S e fun b' S' => b' = b ∧ S' = S
def Ap (X : Cx) (F : Fr) (S : List Sl) (es : List Expr) (ds : List FW.D) : Prop := DA X F S es fun ds' S' => ds' = ds ∧ S' = S
def Op (X : Cx) (F : Fr) (S : List Sl) (e : Expr) (ds : List FW.D) : Prop := DO X F S e fun ds' S' => ds' = ds ∧ S' = S
section
variable {X : Cx} {F : Fr} {S : List Sl} {e a b c tg iter : Expr} {es rest : List Expr} {P : PD} {PT : Bool → List Sl → Prop} {PO : List FW.D → List Sl → Prop} {pos p : Pos} {d d1 d2 : FW.D} {x y z : Bool} {i j k : Int} {xs ys ds : List FW.D}
theorem Ep.to (h : Ep X F S e d) (q : P d S) : DE X F S e P := DE.imp h fun _ _ ⟨e1, e2⟩ => by subst e1; subst e2; exact q
theorem Tp.to (h : Tp X F S e x) (q : PT x S) : DT X F S e PT := DT.imp h fun _ _ ⟨e1, e2⟩ => by subst e1; subst e2; exact q
theorem Op.to (h : Op X F S e ds) (q : PO ds S) : DO X F S e PO := DO.imp h fun _ _ ⟨e1, e2⟩ => by subst e1; subst e2; exact q
theorem Ap.to {P : List FW.D → List Sl → Prop} (h : Ap X F S es ds) (q : P ds S) : DA X F S es P := da_mk h fun σ H Q ⟨G, sv, k⟩ => ⟨G, sv, fun ds' S' G' vs H' ⟨e1, e2⟩ st r => by subst e1; subst e2; exact k _ _ G' vs H' q st r⟩
theorem Wp.to (h : Wp X F S e x) (q : PT x S) : DW X F S e PT := dw_mk h fun σ H Q ⟨G, sv, k⟩ => ⟨G, sv, fun b' S' G' H' ⟨e1, e2⟩ st => by subst e1; subst e2; exact k _ _ G' H' q st⟩
theorem ep_o (h : Op X F S e ds) : Ep X F S e (.list ds) := de_o (h.to ⟨rfl, rfl⟩)
theorem Ep.cast (h : Ep X F S e d) (q : d = d1) : Ep X F S e d1 := by rw [← q]; exact h
theorem Tp.cast (h : Tp X F S e x) (q : x = y) : Tp X F S e y := by rw [← q]; exact h
theorem ep_v (i : Nat) {x : Str} (hS : S[i]? = some (.val d) := by rfl) (hN : X.N[i]? = some x := by rfl) (hv : Vis X.env.scope x := by first | exact Or.inl rfl | exact Or.inr (Or.inl rfl) | exact Or.inr (Or.inr rfl))
    (hd : (x == ("__debug__" : Str)) = false := by decide) (hcd : (x == ("__classdict__" : Str)) = false := by decide) : Ep X F S (.Name x pos) d := de_v i hS ⟨rfl, rfl⟩ hN hv hd hcd
theorem ep_int {i : Int} {j} : Ep X F S (.Constant (.int i) j pos) (.int i) := de_int ⟨rfl, rfl⟩
theorem ep_bl {i j} : Ep X F S (.Constant (.bool i) j pos) (.bool i) := de_bl ⟨rfl, rfl⟩
theorem ep_non {j} : Ep X F S (.Constant .none j pos) .none := de_non ⟨rfl, rfl⟩
theorem ep_str {i j} : Ep X F S (.Constant (.str i) j pos) (.str i) := de_str ⟨rfl, rfl⟩
theorem ep_gi {x : Str} {i : Int} (hm : ∃ t, X.mg x = some (.int i t)) (hg : Gl X x := by rfl) (hd : (x == ("__debug__" : Str)) = false := by decide) : Ep X F S (.Name x pos) (.int i) := de_gi hm ⟨rfl, rfl⟩ hg hd
theorem ep_gs {x : Str} {i : Str} (hm : ∃ t, X.mg x = some (.str i t)) (hg : Gl X x := by rfl) (hd : (x == ("__debug__" : Str)) = false := by decide) : Ep X F S (.Name x pos) (.str i) := de_gs hm ⟨rfl, rfl⟩ hg hd
theorem ep_add (ha : Ep X F S a (.int i)) (hb : Ep X F S b (.int j)) : Ep X F S (.BinOp a .Add b pos) (.int (i + j)) := de_add (ha.to (hb.to (i2 ⟨rfl, rfl⟩)))
theorem ep_sub (ha : Ep X F S a (.int i)) (hb : Ep X F S b (.int j)) : Ep X F S (.BinOp a .Sub b pos) (.int (i - j)) := de_sub (ha.to (hb.to (i2 ⟨rfl, rfl⟩)))
theorem ep_mul (ha : Ep X F S a (.int i)) (hb : Ep X F S b (.int j)) (h : CMul i j) : Ep X F S (.BinOp a .Mult b pos) (.int (i * j)) := de_mul (ha.to (hb.to (i2 ⟨h, rfl, rfl⟩)))
theorem ep_mod (ha : Ep X F S a (.int i)) (hb : Ep X F S b (.int j)) (h : 0 < j) : Ep X F S (.BinOp a .Mod b pos) (.int (i % j)) := de_mod (ha.to (hb.to (i2 ⟨h, rfl, rfl⟩)))
theorem ep_fdiv (ha : Ep X F S a (.int i)) (hb : Ep X F S b (.int j)) (h : CDiv i j) : Ep X F S (.BinOp a .FloorDiv b pos) (.int (i / j)) := de_fdiv (ha.to (hb.to (i2 ⟨h, rfl, rfl⟩)))
theorem ep_pow (ha : Ep X F S a (.int i)) (hb : Ep X F S b (.int j)) (h : CPow i j) : Ep X F S (.BinOp a .Pow b pos) (.int (i ^ j.toNat)) := de_pow (ha.to (hb.to (i2 ⟨h, rfl, rfl⟩)))
theorem ep_neg (ha : Ep X F S a (.int i)) : Ep X F S (.UnaryOp .USub a pos) (.int (-i)) := de_neg (ha.to ⟨_, rfl, rfl, rfl⟩)
theorem ep_addT (ha : Ep X F S a (.tuple xs)) (hb : Ep X F S b (.tuple ys)) (h : xs.length + ys.length ≤ sizeLine) : Ep X F S (.BinOp a .Add b pos) (.tuple (xs ++ ys)) := de_addT (ha.to (hb.to ⟨_, _, rfl, rfl, h, rfl, rfl⟩))
theorem op_addL (ha : Ep X F S a (.list xs)) (hb : Ep X F S b (.list ys)) (h : xs.length + ys.length ≤ sizeLine) : Op X F S (.BinOp a .Add b pos) (xs ++ ys) := do_addL (ha.to (hb.to ⟨_, _, rfl, rfl, h, rfl, rfl⟩))
theorem ep_mulT {n : Int} (ha : Ep X F S a (.tuple xs)) (hb : Ep X F S b (.int n)) (h0 : xs ≠ []) (h1 : 2 ≤ n ∧ n ≤ 1000) (h2 : xs.length ≤ 1000) : Ep X F S (.BinOp a .Mult b pos) (.tuple (List.replicate n.toNat xs).flatten) := de_mulT (ha.to (hb.to ⟨_, _, rfl, rfl, h0, h1, h2, rfl, rfl⟩))
theorem op_mulL {n : Int} (ha : Ep X F S a (.list xs)) (hb : Ep X F S b (.int n)) (h1 : -(2 ^ 63) ≤ n ∧ n < 2 ^ 63) (h2 : xs.length * n.toNat ≤ sizeLine) : Op X F S (.BinOp a .Mult b pos) (List.replicate n.toNat xs).flatten := do_mulL (ha.to (hb.to ⟨_, _, rfl, rfl, h1, h2, rfl, rfl⟩))
theorem ap_nil : Ap X F S [] [] := da_nil ⟨rfl, rfl⟩
theorem ap_cons (h : Ep X F S e d) (hr : Ap X F S es ds) (hs : starEach (e :: es) X.env = (false, eval e X.env) :: starEach es X.env := by rfl) : Ap X F S (e :: es) (d :: ds) := da_cons (h.to (hr.to ⟨rfl, rfl⟩)) hs
theorem ep_tup {x1} (h : Ap X F S es ds) (hl : Nat.ble ds.length 1000 = true := by rfl) : Ep X F S (.Tuple es x1 pos) (.tuple ds) := de_tup (h.to ⟨Nat.le_trans (Nat.le_of_ble_eq_true hl) (by decide), rfl, rfl⟩)
theorem op_lst (h : Ap X F S es ds) (hl : Nat.ble ds.length 1000 = true := by rfl) : Op X F S (.List es pos) ds := do_lst (h.to ⟨Nat.le_trans (Nat.le_of_ble_eq_true hl) (by decide), rfl, rfl⟩)
theorem ep_ixT {d : FW.D} (ha : Ep X F S a (.tuple xs)) (hb : Ep X F S b (.int i)) (h : atI xs i = some d) (hs : PlainIx b := by exact fun _ _ => rfl) : Ep X F S (.Subscript a b pos) d := de_ix (ha.to (hb.to ⟨_, _, _, .t _, rfl, h, rfl, rfl⟩)) hs
theorem ep_ixL {d : FW.D} (ha : Ep X F S a (.list xs)) (hb : Ep X F S b (.int i)) (h : atI xs i = some d) (hs : PlainIx b := by exact fun _ _ => rfl) : Ep X F S (.Subscript a b pos) d := de_ix (ha.to (hb.to ⟨_, _, _, .l _, rfl, h, rfl, rfl⟩)) hs
theorem ep_ixO {d : FW.D} (n : Nat) {x : Str} {p0 : Pos} (hb : Ep X F S b (.int i)) (h : atI ds i = some d) (hO : S[n]? = some (.own ds) := by rfl) (hN : X.N[n]? = some x := by rfl)
    (hv : Vis X.env.scope x := by first | exact Or.inl rfl | exact Or.inr (Or.inl rfl) | exact Or.inr (Or.inr rfl)) (hs : PlainIx b := by exact fun _ _ => rfl)
    (hd : (x == ("__debug__" : Str)) = false := by decide) (hcd : (x == ("__classdict__" : Str)) = false := by decide) : Ep X F S (.Subscript (.Name x p0) b pos) d := de_ixO n (hb.to ⟨_, _, _, hO, rfl, h, rfl, rfl⟩) ⟨_, hO⟩ hN hv hs hd hcd
def Pp (X : Cx) (F : Fr) (S : List Sl) (o : Option Expr) (r : Option Int) : Prop := DP X F S o fun r' S' => r' = r ∧ S' = S
theorem Pp.to {o : Option Expr} {r : Option Int} {Q : Option Int → List Sl → Prop} (h : Pp X F S o r) (q : Q r S) : DP X F S o Q := ⟨fun pins s σ H R I ⟨G, sv, k⟩ => PO.run h pins s σ H R I ⟨G, sv, fun o' S' G' H' ⟨e1, e2⟩ st => by subst e1; subst e2; exact k _ _ G' H' q st⟩⟩
theorem pp_none : Pp X F S none none := dp_none ⟨rfl, rfl⟩
theorem pp_some (h : Ep X F S e (.int i)) : Pp X F S (some e) (some i) := dp_some (h.to ⟨_, rfl, rfl, rfl⟩)
theorem ep_slT {lo hi : Option Expr} {l u : Option Int} {p2 : Pos} (ha : Ep X F S a (.tuple xs)) (hl : Pp X F S lo l) (hu : Pp X F S hi u) : Ep X F S (.Subscript a (.Slice lo hi none p2) pos) (.tuple (cutD xs l u)) := de_slT (ha.to ⟨_, rfl, hl.to (hu.to ⟨rfl, rfl⟩)⟩)
theorem op_slL {lo hi : Option Expr} {l u : Option Int} {p2 : Pos} (ha : Ep X F S a (.list xs)) (hl : Pp X F S lo l) (hu : Pp X F S hi u) : Op X F S (.Subscript a (.Slice lo hi none p2) pos) (cutD xs l u) := do_slL (ha.to ⟨_, rfl, hl.to (hu.to ⟨rfl, rfl⟩)⟩)
theorem ep_lenT (B : BT X.mg) (h : Ep X F S e (.tuple xs)) (hg : Gl X "len" := by rfl) (he : starEach (e :: []) X.env = (false, eval e X.env) :: starEach [] X.env := by rfl) (hpl : (backTo pos (starEach [] X.env)).any (·.1) = false := by rfl) : Ep X F S (.Call (.Name "len" p) [e] [] pos) (.int xs.length) := de_len B (h.to ⟨_, .t _, rfl, rfl⟩) hg he hpl
theorem ep_lenL (B : BT X.mg) (h : Ep X F S e (.list xs)) (hg : Gl X "len" := by rfl) (he : starEach (e :: []) X.env = (false, eval e X.env) :: starEach [] X.env := by rfl) (hpl : (backTo pos (starEach [] X.env)).any (·.1) = false := by rfl) : Ep X F S (.Call (.Name "len" p) [e] [] pos) (.int xs.length) := de_len B (h.to ⟨_, .l _, rfl, rfl⟩) hg he hpl
theorem ep_abs (B : BT X.mg) (h : Ep X F S e (.int i)) (hg : Gl X "abs" := by rfl) (he : starEach (e :: []) X.env = (false, eval e X.env) :: starEach [] X.env := by rfl) (hpl : (backTo pos (starEach [] X.env)).any (·.1) = false := by rfl) : Ep X F S (.Call (.Name "abs" p) [e] [] pos) (.int (if i < 0 then -i else i)) := de_abs B (h.to ⟨_, rfl, rfl, rfl⟩) hg he hpl
theorem ep_max2 (B : BT X.mg) (hc : X.calm = true) (h : Ap X F S (a :: [b]) [.int i, .int j]) (hg : Gl X "max" := by rfl) (he : starEach (a :: [b]) X.env = (false, eval a X.env) :: starEach [b] X.env := by rfl) (hpl : (backTo pos (starEach [b] X.env)).any (·.1) = false := by rfl) : Ep X F S (.Call (.Name "max" p) [a, b] [] pos) (.int (if j > i then j else i)) := de_max2 B hc (h.to ⟨_, _, rfl, rfl, rfl⟩) hg he hpl
theorem ep_min2 (B : BT X.mg) (hc : X.calm = true) (h : Ap X F S (a :: [b]) [.int i, .int j]) (hg : Gl X "min" := by rfl) (he : starEach (a :: [b]) X.env = (false, eval a X.env) :: starEach [b] X.env := by rfl) (hpl : (backTo pos (starEach [b] X.env)).any (·.1) = false := by rfl) : Ep X F S (.Call (.Name "min" p) [a, b] [] pos) (.int (if j < i then j else i)) := de_min2 B hc (h.to ⟨_, _, rfl, rfl, rfl⟩) hg he hpl
theorem ep_intB (B : BT X.mg) (h : Ep X F S e (.bool x)) (hg : Gl X "int" := by rfl) (he : starEach (e :: []) X.env = (false, eval e X.env) :: starEach [] X.env := by rfl) (hpl : (backTo pos (starEach [] X.env)).any (·.1) = false := by rfl) : Ep X F S (.Call (.Name "int" p) [e] [] pos) (.int (if x then 1 else 0)) := de_intB B (h.to (b1 ⟨rfl, rfl⟩)) hg he hpl
theorem ep_tupOf (B : BT X.mg) (h : Op X F S e ds) (hg : Gl X "tuple" := by rfl) (he : starEach (e :: []) X.env = (false, eval e X.env) :: starEach [] X.env := by rfl) (hpl : (backTo pos (starEach [] X.env)).any (·.1) = false := by rfl) : Ep X F S (.Call (.Name "tuple" p) [e] [] pos) (.tuple ds) := de_tupOf B ((ep_o h).to ⟨_, .l _, rfl, rfl⟩) hg he hpl
theorem ep_tupOfV (B : BT X.mg) (h : Ep X F S e (.list ds)) (hg : Gl X "tuple" := by rfl) (he : starEach (e :: []) X.env = (false, eval e X.env) :: starEach [] X.env := by rfl) (hpl : (backTo pos (starEach [] X.env)).any (·.1) = false := by rfl) : Ep X F S (.Call (.Name "tuple" p) [e] [] pos) (.tuple ds) := de_tupOf B (h.to ⟨_, .l _, rfl, rfl⟩) hg he hpl
theorem op_listOf (B : BT X.mg) (sq : Sq d ds) (h : Ep X F S e d) (hg : Gl X "list" := by rfl) (he : starEach (e :: []) X.env = (false, eval e X.env) :: starEach [] X.env := by rfl) (hpl : (backTo pos (starEach [] X.env)).any (·.1) = false := by rfl) : Op X F S (.Call (.Name "list" p) [e] [] pos) ds := do_listOf B (h.to ⟨_, sq, rfl, rfl⟩) hg he hpl
theorem op_listRg2 {p2 pos2 : Pos} (B : BT X.mg) (hc : X.calm = true) (ha : Ep X F S a (.int i)) (hb : Ep X F S b (.int j)) (ok : RgOk i j) (hg : Gl X "list" := by rfl) (hg2 : Gl X "range" := by rfl)
    (na : starEach [a, b] X.env = (false, eval a X.env) :: starEach [b] X.env := by rfl) (nb : starEach [b] X.env = (false, eval b X.env) :: starEach [] X.env := by rfl) (hp : (backTo pos2 (starEach [b] X.env)).any (·.1) = false := by rfl)
    (nc : starEach [.Call (.Name "range" p2) [a, b] [] pos2] X.env = (false, eval (.Call (.Name "range" p2) [a, b] [] pos2) X.env) :: starEach [] X.env := by rfl) : Op X F S (.Call (.Name "list" p) [.Call (.Name "range" p2) [a, b] [] pos2] [] pos) (rgD i (j - i).toNat) := do_listRg2 B hc (ha.to (hb.to (i2 ⟨ok, rfl, rfl⟩))) hg hg2 na nb hp nc
theorem ep_if (hc : Tp X F S c x) (ha : x = true → Ep X F S a d1) (hb : x = false → Ep X F S b d2) : Ep X F S (.IfExp c a b pos) (if x = true then d1 else d2) := de_if (hc.to ⟨fun h => by subst h; exact (ha rfl).to ⟨(if_pos rfl).symm, rfl⟩, fun h => by subst h; exact (hb rfl).to ⟨(if_neg Bool.false_ne_true).symm, rfl⟩⟩)
theorem ep_ord {op : CmpOp} {g : Int → Int → Bool} (o : OrdOp op g) (ha : Ep X F S a (.int i)) (hb : Ep X F S b (.int j)) : Ep X F S (.Compare a [op] [b] pos) (.bool (g i j)) := de_ord o (ha.to (hb.to (i2 ⟨rfl, rfl⟩)))
theorem ep_eq {n : Nat} (hr : Room n X.A) (ha : Ep X F S a d1) (hb : Ep X F S b d2) (h1 : Sh d1) (h2 : Sh d2) : Ep X F S (.Compare a [.Eq] [b] pos) (.bool (PyData.eqv d1 d2)) := de_eq hr (ha.to (hb.to ⟨h1, h2, rfl, rfl⟩))
theorem ep_ne {n : Nat} (hr : Room n X.A) (ha : Ep X F S a d1) (hb : Ep X F S b d2) (h1 : Sh d1) (h2 : Sh d2) : Ep X F S (.Compare a [.NotEq] [b] pos) (.bool (!PyData.eqv d1 d2)) := de_ne hr (ha.to (hb.to ⟨h1, h2, rfl, rfl⟩))
theorem ep_isN {j pos'} (h : Ep X F S a d) : Ep X F S (.Compare a [.Is] [.Constant .none j pos'] pos) (.bool (isNone d)) := de_isN (h.to ⟨rfl, rfl⟩)
theorem ep_or (ha : Ep X F S a (.bool x)) (hb : x = false → Ep X F S (.BoolOp .Or (b :: rest) pos) (.bool y)) : Ep X F S (.BoolOp .Or (a :: b :: rest) pos) (.bool (x || y)) :=
  de_or (ha.to (b1 ⟨fun h => by subst h; exact ⟨rfl, rfl⟩, fun h => by subst h; exact (hb rfl).to ⟨by rw [Bool.false_or], rfl⟩⟩))
theorem ep_and (ha : Ep X F S a (.bool x)) (hb : x = true → Ep X F S (.BoolOp .And (b :: rest) pos) (.bool y)) : Ep X F S (.BoolOp .And (a :: b :: rest) pos) (.bool (x && y)) :=
  de_and (ha.to (b1 ⟨fun h => by subst h; exact ⟨rfl, rfl⟩, fun h => by subst h; exact (hb rfl).to ⟨by rw [Bool.true_and], rfl⟩⟩))
theorem ep_one {op} (h : Ep X F S a d) : Ep X F S (.BoolOp op [a] pos) d := de_one h
theorem ep_not (h : Ep X F S a (.bool x)) : Ep X F S (.UnaryOp .Not a pos) (.bool (!x)) := de_not (h.to (b1 ⟨rfl, rfl⟩))
theorem ep_ch2 {op op' : CmpOp} {g g' : Int → Int → Bool} (o : OrdOp op g) (o' : OrdOp op' g') (ha : Ep X F S a (.int i)) (hb : Ep X F S b (.int j)) (hc : Ep X F S c (.int k)) (hm : lastMarks [op, op'] [b, c] = false := by with_unfolding_all rfl) :
    Ep X F S (.Compare a [op, op'] [b, c] pos) (.bool (g i j && g' j k)) := de_ch2 o o' (ha.to (hb.to (i2 ⟨fun h => ⟨by rw [h, Bool.false_and], rfl⟩, fun h => hc.to ⟨_, rfl, by rw [h, Bool.true_and], rfl⟩⟩))) hm
theorem tp_val (he : ∀ whole, isTrue e X.env whole = (do let v ← whole; standAt e.pos; holding [v] (truthy v))) (h : Ep X F S e (.bool x)) : Tp X F S e x := dt_val he (h.to (b1 ⟨rfl, rfl⟩))
theorem tp_ord {op : CmpOp} {g : Int → Int → Bool} (o : OrdOp op g) (ha : Ep X F S a (.int i)) (hb : Ep X F S b (.int j)) : Tp X F S (.Compare a [op] [b] pos) (g i j) := dt_ord o (ha.to (hb.to (i2 ⟨rfl, rfl⟩)))
theorem tp_eq {n : Nat} (hr : Room n X.A) (ha : Ep X F S a d1) (hb : Ep X F S b d2) (h1 : Sh d1) (h2 : Sh d2) : Tp X F S (.Compare a [.Eq] [b] pos) (PyData.eqv d1 d2) := dt_eq hr (ha.to (hb.to ⟨h1, h2, rfl, rfl⟩))
theorem tp_ne {n : Nat} (hr : Room n X.A) (ha : Ep X F S a d1) (hb : Ep X F S b d2) (h1 : Sh d1) (h2 : Sh d2) : Tp X F S (.Compare a [.NotEq] [b] pos) (!PyData.eqv d1 d2) := dt_ne hr (ha.to (hb.to ⟨h1, h2, rfl, rfl⟩))
theorem tp_isN {j pos'} (h : Ep X F S a d) : Tp X F S (.Compare a [.Is] [.Constant .none j pos'] pos) (isNone d) := dt_isN (h.to ⟨rfl, rfl⟩)
theorem tp_notN {j pos'} (h : Ep X F S a d) : Tp X F S (.Compare a [.IsNot] [.Constant .none j pos'] pos) (!isNone d) := dt_notN (h.to ⟨rfl, rfl⟩)
theorem tp_nin (ha : Ep X F S a d) (hb : Ep X F S b d2) (sq : Sq d2 ds) (f1 : flatD d = true) (f2 : ds.all flatD = true) (hm : behindInMarks .NotIn b = false := by rfl) : Tp X F S (.Compare a [.NotIn] [b] pos) (!inD d ds) := dt_nin (ha.to (hb.to ⟨_, sq, f1, f2, rfl, rfl⟩)) hm
theorem tp_not (h : Tp X F S a x) : Tp X F S (.UnaryOp .Not a pos) (!x) := dt_not (h.to ⟨rfl, rfl⟩)
theorem tp_w (h : Wp X F S e x) : Tp X F S e x := dt_bw h
theorem wp_or1 (h : Tp X F S a x) : Wp X F S (.BoolOp .Or [a] pos) x := dw_or1 h
theorem wp_and1 (h : Tp X F S a x) : Wp X F S (.BoolOp .And [a] pos) x := dw_and1 h
theorem wp_or (ha : Tp X F S a x) (hb : x = false → Wp X F S (.BoolOp .Or (b :: rest) pos) y) : Wp X F S (.BoolOp .Or (a :: b :: rest) pos) (x || y) :=
  dw_or (ha.to ⟨fun h => by subst h; exact ⟨rfl, rfl⟩, fun h => by subst h; exact (hb rfl).to ⟨by rw [Bool.false_or], rfl⟩⟩)
theorem wp_and (ha : Tp X F S a x) (hb : x = true → Wp X F S (.BoolOp .And (b :: rest) pos) y) : Wp X F S (.BoolOp .And (a :: b :: rest) pos) (x && y) :=
  dw_and (ha.to ⟨fun h => by subst h; exact ⟨rfl, rfl⟩, fun h => by subst h; exact (hb rfl).to ⟨by rw [Bool.true_and], rfl⟩⟩)
theorem tp_ch2 {op op' : CmpOp} {g g' : Int → Int → Bool} (o : OrdOp op g) (o' : OrdOp op' g') (ha : Ep X F S a (.int i)) (hb : Ep X F S b (.int j)) (hc : Ep X F S c (.int k)) (hm : lastMarks [op, op'] [b, c] = false := by with_unfolding_all rfl) :
    Tp X F S (.Compare a [op, op'] [b, c] pos) (g i j && g' j k) := dt_ch2 o o' (ha.to (hb.to (i2 ⟨fun h => ⟨by rw [h, Bool.false_and], rfl⟩, fun h => hc.to ⟨_, rfl, by rw [h, Bool.true_and], rfl⟩⟩))) hm
theorem tp_ch3 {e : Expr} {l : Int} {op op' op'' : CmpOp} {g g' g'' : Int → Int → Bool} (o : OrdOp op g) (o' : OrdOp op' g') (o'' : OrdOp op'' g'') (ha : Ep X F S a (.int i)) (hb : Ep X F S b (.int j)) (hc : Ep X F S c (.int k)) (hd : Ep X F S e (.int l)) (hm : lastMarks [op, op', op''] [b, c, e] = false := by with_unfolding_all rfl) :
    Tp X F S (.Compare a [op, op', op''] [b, c, e] pos) (g i j && (g' j k && g'' k l)) :=
  dt_ch3 o o' o'' (ha.to (hb.to (i2 ⟨fun h => ⟨by rw [h, Bool.false_and], rfl⟩, fun h => hc.to ⟨_, rfl, fun h2 => ⟨by rw [h, h2, Bool.true_and, Bool.false_and], rfl⟩, fun h2 => hd.to ⟨_, rfl, by rw [h, h2, Bool.true_and, Bool.true_and], rfl⟩⟩⟩))) hm
/-! ### statements over these -/
theorem ds_ifP {body orelse : List Stmt} {P : Post} (h : Tp X F S c x) (h1 : x = true → DB X F S body P) (h2 : x = false → DB X F S orelse P) : DS X F S (.If c body orelse pos) P := ds_if (h.to ⟨h1, h2⟩)
theorem ds_setP (n : Nat) {x : Str} {pos' : Pos} {P : Post} (hN : X.N.Nodup) (h : Ep X F S e d) (k : P.nx (S.set n (.val d))) (hi : X.N[n]? = some x := by rfl) (hx : Loc X.env.scope x := by first | exact .inl rfl | exact .inr rfl) (hs : swapsWith e (some (.Name x pos')) pos.line X.env = pure false := by rfl)
    (hf : X.fn x = true ∨ X.env.scope.names.lookup x = some .local := by first | exact .inl rfl | exact .inr rfl) : DS X F S (.Assign [.Name x pos'] e pos) P := ds_set n hN (h.to k) hi hx hs hf
theorem ds_setOP (n : Nat) {x : Str} {pos' : Pos} {P : Post} (hN : X.N.Nodup) (h : Op X F S e ds) (k : P.nx (S.set n (.own ds))) (hi : X.N[n]? = some x := by rfl) (hx : Loc X.env.scope x := by first | exact .inl rfl | exact .inr rfl) (hs : swapsWith e (some (.Name x pos')) pos.line X.env = pure false := by rfl)
    (hf : X.fn x = true ∨ X.env.scope.names.lookup x = some .local := by first | exact .inl rfl | exact .inr rfl) : DS X F S (.Assign [.Name x pos'] e pos) P := ds_setO n hN (h.to k) hi hx hs hf
theorem ds_retP {P : Post} (h : Ep X F S e d) (k : P.rt d S) : DS X F S (.Return (some e) pos) P := ds_ret (h.to k)
theorem ds_retOP {P : Post} (h : Op X F S e ds) (k : P.ro ds S) : DS X F S (.Return (some e) pos) P := ds_retO (h.to k)
/-! ### comprehensions that change nothing -/
variable {β : Type} {scope : Scope} {elt : Expr} {ifs : List Expr} {vs : List Nat}
theorem lcp_gen {g0 : FW.D → List Sl → (List Sl → Prop) → Prop} (enc : β → FW.D) (bs : List β) (f : β → Bool) (g : β → FW.D) (St : β → List Sl) (hxs : xs = bs.map enc) (hl : bs.length < sizeLine)
    (hg : ∀ b ∈ bs, ∀ k : List Sl → Prop, k (St b) → g0 (enc b) (wipeS S vs) k) (hw : ∀ b ∈ bs, wipeS (St b) vs = wipeS S vs)
    (ht : ∀ b ∈ bs, ∀ s H C cl fp, DTs (Bk X scope s H C cl fp) F (St b) ifs fun t S' => t = f b ∧ S' = St b) (he : ∀ b ∈ bs, f b = true → ∀ s H C cl fp, Ep (Bk X scope s H C cl fp) F (St b) elt (g b)) (hw2 : wipeS (wipeS S vs) vs = wipeS S vs)
    (k : PO ((bs.filter f).map g) (wipeS S vs)) : LcI X F scope vs g0 elt ifs PO xs S := by
  refine ⟨fun i Si acc => Si = wipeS S vs ∧ acc = ((bs.take i).filter f).map g, ⟨rfl, by simp⟩, fun i d Si acc hd ⟨e1, e2⟩ => ?_, fun Sn acc ⟨e1, e2⟩ => ?_⟩
  · subst hxs
    rw [List.getElem?_map] at hd
    cases hb : bs[i]? with
    | none => rw [hb] at hd; cases hd
    | some b =>
      rw [hb] at hd; cases hd
      have hm : b ∈ bs := List.mem_of_getElem? hb
      subst e1
      have htk : bs.take (i + 1) = bs.take i ++ [b] := by rw [List.take_add_one, hb]; rfl
      refine hg b hm _ ⟨_, ht b hm, fun t S3 ⟨et, e3⟩ => ?_⟩
      subst e3
      refine ⟨fun h => ⟨?_, fun s H C cl fp => ?_⟩, fun h => ?_⟩
      · subst e2
        have hl1 : (((bs.take i).filter f).map g).length ≤ (bs.take i).length := by rw [List.length_map]; exact List.length_filter_le _ _
        have hl2 : (bs.take i).length ≤ bs.length := by rw [List.length_take]; exact Nat.min_le_right _ _
        exact Nat.lt_of_le_of_lt (Nat.le_trans hl1 hl2) hl
      · refine (he b hm (et.symm.trans h) s H C cl fp).to ⟨hw b hm, ?_⟩
        rw [e2, htk, List.filter_append, List.map_append, List.filter_cons, if_pos (et.symm.trans h)]; rfl
      · refine ⟨hw b hm, ?_⟩
        rw [e2, htk, List.filter_append, List.map_append, List.filter_cons, if_neg (by rw [← et, h]; exact Bool.false_ne_true)]
        rw [List.filter_nil, List.map_nil, List.append_nil]
  · subst e1; subst e2; subst hxs
    rw [List.length_map, List.take_length, hw2]
    exact k
/-- the target a name in slot n -/
theorem lcp (n : Nat) (enc : β → FW.D) (bs : List β) (f : β → Bool) (g : β → FW.D) (hxs : xs = bs.map enc) (hl : bs.length < sizeLine)
    (ht : ∀ b ∈ bs, ∀ s H C cl fp, DTs (Bk X scope s H C cl fp) F ((wipeS S vs).set n (.val (enc b))) ifs fun t S' => t = f b ∧ S' = (wipeS S vs).set n (.val (enc b)))
    (he : ∀ b ∈ bs, f b = true → ∀ s H C cl fp, Ep (Bk X scope s H C cl fp) F ((wipeS S vs).set n (.val (enc b))) elt (g b)) (k : PO ((bs.filter f).map g) (wipeS S vs)) (hw : ∀ d : FW.D, wipeS ((wipeS S vs).set n (.val d)) vs = wipeS S vs := by intro _; rfl) (hw2 : wipeS (wipeS S vs) vs = wipeS S vs := by rfl) :
    LcI X F scope vs (gN n) elt ifs PO xs S :=
  lcp_gen enc bs f g (fun b => (wipeS S vs).set n (.val (enc b))) hxs hl (fun b _ k hk => hk) (fun b _ => hw _) ht he hw2 k
/-- .. a pair of names in slots n, m -/
theorem lcp2 (n m : Nat) (e1 e2 : β → FW.D) (bs : List β) (f : β → Bool) (g : β → FW.D) (hxs : xs = bs.map fun b => .tuple [e1 b, e2 b]) (hl : bs.length < sizeLine)
    (ht : ∀ b ∈ bs, ∀ s H C cl fp, DTs (Bk X scope s H C cl fp) F (((wipeS S vs).set n (.val (e1 b))).set m (.val (e2 b))) ifs fun t S' => t = f b ∧ S' = ((wipeS S vs).set n (.val (e1 b))).set m (.val (e2 b)))
    (he : ∀ b ∈ bs, f b = true → ∀ s H C cl fp, Ep (Bk X scope s H C cl fp) F (((wipeS S vs).set n (.val (e1 b))).set m (.val (e2 b))) elt (g b)) (k : PO ((bs.filter f).map g) (wipeS S vs)) (hw : ∀ d d' : FW.D, wipeS (((wipeS S vs).set n (.val d)).set m (.val d')) vs = wipeS S vs := by intro _ _; rfl) (hw2 : wipeS (wipeS S vs) vs = wipeS S vs := by rfl) :
    LcI X F scope vs (gT 2 (gsC (gN n) (gsC (gN m) gs0))) elt ifs PO xs S :=
  lcp_gen (fun b => .tuple [e1 b, e2 b]) bs f g (fun b => ((wipeS S vs).set n (.val (e1 b))).set m (.val (e2 b))) hxs hl (fun b _ k hk => ⟨_, rfl, rfl, _, _, rfl, _, _, rfl, rfl, hk⟩) (fun b _ => hw _ _) ht he hw2 k
theorem ts_nil {f : Bool} (h : f = true := by rfl) : DTs X F S [] fun t S' => t = f ∧ S' = S := dts_nil ⟨h.symm, rfl⟩
theorem ts_one (h : Tp X F S c x) : DTs X F S [c] fun t S' => t = x ∧ S' = S := dts_one h
/-- nothing left out -/
theorem filter_true {α : Type} (l : List α) : l.filter (fun _ => true) = l := List.filter_eq_self.mpr fun _ _ => rfl
/-- Sh -/
theorem sh_int (i : Int) : Sh (.int i) := by
  show ((PyData.int i).canLay0 && decide ((PyData.int i).depth ≤ 64)) = true
  simp [PyData.canLay0, PyData.depth]
/-- ints to a depth -/
def shD (n : Nat) (d : FW.D) : Prop := d.canLay0 = true ∧ d.depth ≤ n
theorem sh_of {n : Nat} {d : FW.D} (h : shD n d) (hn : n ≤ 64 := by decide) : Sh d := by
  show (d.canLay0 && decide (d.depth ≤ 64)) = true
  rw [h.1, decide_eq_true (Nat.le_trans h.2 hn)]; rfl
theorem shD_int (n : Nat) (i : Int) : shD n (.int i) := ⟨by simp [PyData.canLay0], by simp [PyData.depth]⟩
theorem shD_bool (n : Nat) (i : Bool) : shD n (.bool i) := ⟨by simp [PyData.canLay0], by simp [PyData.depth]⟩
theorem shD_str (n : Nat) {i : Str} (h : PyData.strOk i = true) : shD n (.str i) := ⟨by simp [PyData.canLay0, h], by simp [PyData.depth]⟩
theorem shD_none (n : Nat) : shD n .none := ⟨by simp [PyData.canLay0], by simp [PyData.depth]⟩
theorem shD_all {n : Nat} : ∀ {ds : List FW.D}, (∀ d ∈ ds, shD n d) → PyData.canLayAll0 ds = true ∧ PyData.depthAll ds ≤ n
  | [], _ => ⟨by simp [PyData.canLayAll0], by simp [PyData.depthAll]⟩
  | d :: ds, h => by
    obtain ⟨h1, h2⟩ := h d List.mem_cons_self
    obtain ⟨h3, h4⟩ := shD_all (n := n) (ds := ds) fun x hx => h x (List.mem_cons_of_mem _ hx)
    refine ⟨by simp [PyData.canLayAll0, h1, h3], ?_⟩
    simp only [PyData.depthAll]
    omega
theorem shD_tup {n : Nat} {ds : List FW.D} (h : ∀ d ∈ ds, shD n d) : shD (n + 1) (.tuple ds) := by
  obtain ⟨h1, h2⟩ := shD_all h
  refine ⟨by simp [PyData.canLay0, h1], ?_⟩
  simp only [PyData.depth]
  omega
theorem shD_lst {n : Nat} {ds : List FW.D} (h : ∀ d ∈ ds, shD n d) : shD (n + 1) (.list ds) := by
  obtain ⟨h1, h2⟩ := shD_all h
  refine ⟨by simp [PyData.canLay0, h1], ?_⟩
  simp only [PyData.depth]
  omega
theorem shD_ints (n : Nat) (ns : List Int) : ∀ d ∈ ns.map PyData.int, shD n d := fun d h => by
  obtain ⟨i, _, rfl⟩ := List.mem_map.mp h
  exact shD_int n i
theorem sh_tints (ns : List Int) : Sh (.tuple (ns.map .int)) := sh_of (n := 1) (shD_tup (shD_ints 0 ns))
theorem sh_lints (ns : List Int) : Sh (.list (ns.map .int)) := sh_of (n := 1) (shD_lst (shD_ints 0 ns))
theorem sh_nil : Sh (.list []) := sh_of (n := 1) (shD_lst (n := 0) (by simp))
theorem sh_none : Sh .none := sh_of (shD_none 0)
/-- == of lists with [] -/
theorem eqv_nilL (ds : List FW.D) : PyData.eqv (.list ds) (.list []) = ds.isEmpty := by
  cases ds <;> simp [PyData.eqv, PyData.eqvAll]
theorem eqv_int (i j : Int) : PyData.eqv (.int i) (.int j) = (i == j) := by simp [PyData.eqv]
theorem eqvAll_ints : ∀ ns ms : List Int, PyData.eqvAll (ns.map .int) (ms.map .int) = decide (ns = ms)
  | [], [] => by simp [PyData.eqvAll]
  | [], m :: ms => by simp [PyData.eqvAll]
  | n :: ns, [] => by simp [PyData.eqvAll]
  | n :: ns, m :: ms => by
    simp only [List.map_cons, PyData.eqvAll, eqvAll_ints ns ms, eqv_int]
    by_cases h1 : n = m <;> by_cases h2 : ns = ms <;> simp [h1, h2]
theorem eqv_tints (ns ms : List Int) : PyData.eqv (.tuple (ns.map .int)) (.tuple (ms.map .int)) = decide (ns = ms) := by
  show PyData.eqvAll _ _ = _
  exact eqvAll_ints ns ms
theorem eqv_lints (ns ms : List Int) : PyData.eqv (.list (ns.map .int)) (.list (ms.map .int)) = decide (ns = ms) := by
  show PyData.eqvAll _ _ = _
  exact eqvAll_ints ns ms
end
end FW

namespace FW
open PySem PySem.Spec PyProof.Rows L2
variable [Tb]

theorem Kn.up {P : Program} {w : World} {K : PySem.W.Frag} {mg : Str → Option Value} {base : Heap} {CX : CXT} {x : Str} {j k : Nat} {sp : Sp} (c : Kn P w K mg base CX x j sp) (h : j ≤ k := by decide) : Kn P w K mg base CX x k sp := by
  obtain ⟨f, fd, ps, F, hm, hk, hb⟩ := c.ex
  exact ⟨f, fd, ps, F.mono h, hm, hk, hb⟩
theorem kn_mk {P : Program} {w : World} {K : PySem.W.Frag} {mg : Str → Option Value} {base : Heap} {CX : CXT} {x : Str} {k : Nat} {sp : Sp} {f : Addr} {fd : FuncData} {ps : List Str} {h : Heap} (X : K.In h) (G : h.Ns mainGlobals mg)
    (a : PySem.W.nsIn K mainGlobals x = some (some (.ref f))) (kp : PySem.W.keepIn K (.ref f) = true) (b : Binds K fd ps []) (F : FnOk P w K mg base CX k f fd ps sp) : Kn P w K mg base CX x k sp :=
  ⟨f, fd, ps, F, PySem.W.mg_of X G a, kp, b⟩

section
variable {X : Cx} {F : Fr} {S : List Sl} {e a : Expr} {es : List Expr} {P : PD} {pos p : Pos} {x : Str} {k : Nat} {CX : CXT} {d : FW.D} {ds : List FW.D}
theorem ep_call {Z : Zp} {ex : Xk → Prop} (c : Kn X.prog X.w X.K X.mg X.base CX x k (spP Z)) (hr : Room k X.A) (hw : Wish CX X F ex) (h : Ap X F S (e :: es) ds) (hz : Z ds (fun d' => d' = d ∧ S = S) (fun l => .list l = d ∧ S = S) ex) (hg : Gl X x := by rfl)
    (hdb : (x == ("__debug__" : Str)) = false := by decide) (he : starEach (e :: es) X.env = (false, eval e X.env) :: starEach es X.env := by rfl) (hpl : (backTo pos (starEach es X.env)).any (·.1) = false := by rfl) : Ep X F S (.Call (.Name x p) (e :: es) [] pos) d :=
  de_call c hr hw (h.to hz) hg hdb he hpl
end

/-! ### the script's row -/
def z_taken : Zp := fun ds kt _ _ => ∃ m : Int, ds = [.int m] ∧ (0 < m ∧ m < 1073741824) ∧ ∀ r : Int, 0 ≤ r → r < m → kt (.int r)
section
variable {X : Cx} {F : Fr} {S : List Sl} {e a : Expr} {P : PD} {pos p : Pos} {x x0 : Str} {k : Nat} {m : Int} {p0 : Pos}
theorem de_take (i : Nat) (c : Kn X.prog X.w X.K X.mg X.base CX0 x k (spR X.K z_taken)) (hr : Room k X.A)
    (h : DE X F S a (fun d S' => ∃ m : Int, d = .int m ∧ (0 < m ∧ m < 1073741824) ∧ S'[i]? = some .row ∧ ∀ r : Int, 0 ≤ r → r < m → P (.int r) S')) (hO : S[i]? = some .row := by rfl) (hg : Gl X x := by rfl)
    (hN : X.N[i]? = some x0 := by rfl) (hv : Vis X.env.scope x0 := by first | exact Or.inl rfl | exact Or.inr (Or.inl rfl) | exact Or.inr (Or.inr rfl)) (hd : (x0 == ("__debug__" : Str)) = false := by decide) (hcd : (x0 == ("__classdict__" : Str)) = false := by decide)
    (hdb : (x == ("__debug__" : Str)) = false := by decide) (he : starEach (.Name x0 p0 :: [a]) X.env = (false, eval (.Name x0 p0) X.env) :: starEach [a] X.env := by rfl) (he2 : starEach [a] X.env = (false, eval a X.env) :: starEach [] X.env := by rfl) (hpl : (backTo pos (starEach [a] X.env)).any (·.1) = false := by rfl) : DE X F S (.Call (.Name x p) (.Name x0 p0 :: [a]) [] pos) P :=
  de_callR i c hr wish0 (da_cons (DE.imp h fun d S' ⟨m, e1, h1, h2, h3⟩ => da_nil ⟨h2, m, by rw [e1], h1, h3⟩) he2) hO hg hN hv hd hcd hdb he hpl
theorem de_takeP (i : Nat) (c : Kn X.prog X.w X.K X.mg X.base CX0 x k (spR X.K z_taken)) (hr : Room k X.A) (h : Ep X F S a (.int m)) (hm : 0 < m ∧ m < 1073741824) (q : ∀ r : Int, 0 ≤ r → r < m → P (.int r) S) (hO : S[i]? = some .row := by rfl) (hg : Gl X x := by rfl)
    (hN : X.N[i]? = some x0 := by rfl) (hv : Vis X.env.scope x0 := by first | exact Or.inl rfl | exact Or.inr (Or.inl rfl) | exact Or.inr (Or.inr rfl)) (hd : (x0 == ("__debug__" : Str)) = false := by decide) (hcd : (x0 == ("__classdict__" : Str)) = false := by decide)
    (hdb : (x == ("__debug__" : Str)) = false := by decide) (he : starEach (.Name x0 p0 :: [a]) X.env = (false, eval (.Name x0 p0) X.env) :: starEach [a] X.env := by rfl) (he2 : starEach [a] X.env = (false, eval a X.env) :: starEach [] X.env := by rfl) (hpl : (backTo pos (starEach [a] X.env)).any (·.1) = false := by rfl) : DE X F S (.Call (.Name x p) (.Name x0 p0 :: [a]) [] pos) P :=
  de_take i c hr (h.to ⟨m, rfl, hm, hO, q⟩) hO hg hN hv hd hcd hdb he he2 hpl
end

/-! ### a join behind a statement -/
theorem db_mid {X : Cx} {F : Fr} {S : List Sl} {st : Stmt} {rest : List Stmt} {P : Post} (M : List Sl → Prop) (h1 : DS X F S st ⟨M, P.rt, P.ro, P.bk, P.ct, P.rn⟩) (h2 : ∀ S', M S' → DB X F S' rest P) : DB X F S (st :: rest) P :=
  db_cons (ds_imp h1 h2 (fun _ _ h => h) (fun _ _ h => h) (fun _ h => h) (fun _ h => h) (fun _ _ h => h))
/-! ### one of some -/
def AI (lo hi : Int) (ds : List FW.D) : Prop := ∀ d ∈ ds, ∃ v : Int, d = .int v ∧ lo ≤ v ∧ v ≤ hi
theorem AI.nil {lo hi : Int} : AI lo hi [] := fun _ h => nomatch h
theorem AI.cons {lo hi v : Int} {ds : List FW.D} (h0 : lo ≤ v) (h1 : v ≤ hi) (h : AI lo hi ds) : AI lo hi (.int v :: ds) := fun d hd => by
  rcases List.mem_cons.mp hd with rfl | hd
  · exact ⟨v, rfl, h0, h1⟩
  · exact h d hd
theorem AI.ints {lo hi : Int} : ∀ {ns : List Int}, (∀ v ∈ ns, lo ≤ v ∧ v ≤ hi) → AI lo hi (ns.map .int)
  | ns, h => fun d hd => by
    obtain ⟨v, hv, rfl⟩ := List.mem_map.mp hd
    exact ⟨v, rfl, (h v hv).1, (h v hv).2⟩
theorem AI.toInts {lo hi : Int} : ∀ {ds : List FW.D}, AI lo hi ds → ∃ ns : List Int, ds = ns.map .int ∧ ∀ v ∈ ns, lo ≤ v ∧ v ≤ hi
  | [], _ => ⟨[], rfl, fun _ h => nomatch h⟩
  | d :: ds, h => by
    obtain ⟨v, rfl, h0, h1⟩ := h d List.mem_cons_self
    obtain ⟨ns, rfl, hn⟩ := AI.toInts (ds := ds) fun x hx => h x (List.mem_cons_of_mem _ hx)
    exact ⟨v :: ns, rfl, fun y hy => by
      rcases List.mem_cons.mp hy with rfl | hy
      · exact ⟨h0, h1⟩
      · exact hn y hy⟩
theorem atI_some {α : Type} {xs : List α} {r : Int} (h0 : 0 ≤ r) (h1 : r < xs.length) : ∃ d, atI xs r = some d ∧ d ∈ xs := by
  have h2 : r.toNat < xs.length := by omega
  refine ⟨xs[r.toNat], ?_, List.getElem_mem h2⟩
  have e : atI xs ((r.toNat : Nat) : Int) = some xs[r.toNat] := atI_nat (List.getElem?_eq_getElem h2)
  have e2 : ((r.toNat : Nat) : Int) = r := by omega
  rw [e2] at e
  exact e
section
variable {X : Cx} {F : Fr} {S : List Sl} {a : Expr} {P : PD} {pos pos2 p : Pos} {x x0 : Str} {k : Nat} {n : Int} {p0 pc : Pos} {j : _}
/-- [..][_law_taken(_law_row, n)]: any of them -/
theorem de_pick (i : Nat) (c : Kn X.prog X.w X.K X.mg X.base CX0 x k (spR X.K z_taken)) (hr : Room k X.A) (hm : 0 < n ∧ n < 1073741824)
    (h : DE X F S a (fun d1 S1 => S1[i]? = some .row ∧ ∃ ds : List FW.D, d1 = .list ds ∧ Nat.ble n.toNat ds.length = true ∧ ∀ d ∈ ds, P d S1)) (hg : Gl X x := by rfl)
    (hN : X.N[i]? = some x0 := by rfl) (hv : Vis X.env.scope x0 := by first | exact Or.inl rfl | exact Or.inr (Or.inl rfl) | exact Or.inr (Or.inr rfl)) (hd : (x0 == ("__debug__" : Str)) = false := by decide) (hcd : (x0 == ("__classdict__" : Str)) = false := by decide)
    (hdb : (x == ("__debug__" : Str)) = false := by decide) (he : starEach (.Name x0 p0 :: [.Constant (.int n) j pc]) X.env = (false, eval (.Name x0 p0) X.env) :: starEach [.Constant (.int n) j pc] X.env := by rfl) (he2 : starEach [.Constant (.int n) j pc] X.env = (false, eval (.Constant (.int n) j pc) X.env) :: starEach [] X.env := by rfl) (hpl : (backTo pos (starEach [.Constant (.int n) j pc] X.env)).any (·.1) = false := by rfl)
    (hs : PlainIx (.Call (.Name x p) (.Name x0 p0 :: [.Constant (.int n) j pc]) [] pos) := by exact fun _ _ => rfl) : DE X F S (.Subscript a (.Call (.Name x p) (.Name x0 p0 :: [.Constant (.int n) j pc]) [] pos) pos2) P :=
  de_ix (DE.imp h fun d1 S1 ⟨hO, ds, e, hl, hp⟩ => de_takeP i c hr ep_int hm (fun r h0 h1 => by
    obtain ⟨d, hd, hm⟩ := atI_some (xs := ds) h0 (by have := Nat.le_of_ble_eq_true hl; omega)
    exact ⟨ds, r, d, by rw [e]; exact .l _, rfl, hd, hp d hm⟩) hO hg hN hv hd hcd hdb he he2 hpl) hs
/-- .. all ints between these -/
theorem de_pickI (lo hi : Int) (i : Nat) (c : Kn X.prog X.w X.K X.mg X.base CX0 x k (spR X.K z_taken)) (hr : Room k X.A) (hm : 0 < n ∧ n < 1073741824)
    (h : DE X F S a (fun d1 S1 => S1[i]? = some .row ∧ ∃ ds : List FW.D, d1 = .list ds ∧ Nat.ble n.toNat ds.length = true ∧ AI lo hi ds ∧ ∀ v : Int, lo ≤ v → v ≤ hi → P (.int v) S1)) (hg : Gl X x := by rfl)
    (hN : X.N[i]? = some x0 := by rfl) (hv : Vis X.env.scope x0 := by first | exact Or.inl rfl | exact Or.inr (Or.inl rfl) | exact Or.inr (Or.inr rfl)) (hd : (x0 == ("__debug__" : Str)) = false := by decide) (hcd : (x0 == ("__classdict__" : Str)) = false := by decide)
    (hdb : (x == ("__debug__" : Str)) = false := by decide) (he : starEach (.Name x0 p0 :: [.Constant (.int n) j pc]) X.env = (false, eval (.Name x0 p0) X.env) :: starEach [.Constant (.int n) j pc] X.env := by rfl) (he2 : starEach [.Constant (.int n) j pc] X.env = (false, eval (.Constant (.int n) j pc) X.env) :: starEach [] X.env := by rfl) (hpl : (backTo pos (starEach [.Constant (.int n) j pc] X.env)).any (·.1) = false := by rfl)
    (hs : PlainIx (.Call (.Name x p) (.Name x0 p0 :: [.Constant (.int n) j pc]) [] pos) := by exact fun _ _ => rfl) : DE X F S (.Subscript a (.Call (.Name x p) (.Name x0 p0 :: [.Constant (.int n) j pc]) [] pos) pos2) P :=
  de_pick i c hr hm (DE.imp h fun d1 S1 ⟨hO, ds, e, hl, ha, hp⟩ => ⟨hO, ds, e, hl, fun d hd => by
    obtain ⟨v, rfl, h0, h1⟩ := ha d hd
    exact hp v h0 h1⟩) hg hN hv hd hcd hdb he he2 hpl hs
end

/-! ### isinstance of data, by its kind -/
def isT : FW.D → Bool
  | .tuple _ => true
  | _ => false
def isL : FW.D → Bool
  | .list _ => true
  | _ => false
def isBo : FW.D → Bool
  | .bool _ => true
  | _ => false
def isS : FW.D → Bool
  | .str _ => true
  | _ => false
def isIn : FW.D → Bool
  | .int _ => true
  | .bool _ => true
  | _ => false
theorem kit_T : ∀ d : FW.D, kitB (tyD d) "tuple" = some (isT d)
  | .none => (by decide +kernel : kitB "NoneType" "tuple" = some false)
  | .bool _ => (by decide +kernel : kitB "bool" "tuple" = some false)
  | .int _ => (by decide +kernel : kitB "int" "tuple" = some false)
  | .str _ => (by decide +kernel : kitB "str" "tuple" = some false)
  | .list _ => (by decide +kernel : kitB "list" "tuple" = some false)
  | .tuple _ => (by decide +kernel : kitB "tuple" "tuple" = some true)
  | .dict _ => (by decide +kernel : kitB "dict" "tuple" = some false)
theorem kit_L : ∀ d : FW.D, kitB (tyD d) "list" = some (isL d)
  | .none => (by decide +kernel : kitB "NoneType" "list" = some false)
  | .bool _ => (by decide +kernel : kitB "bool" "list" = some false)
  | .int _ => (by decide +kernel : kitB "int" "list" = some false)
  | .str _ => (by decide +kernel : kitB "str" "list" = some false)
  | .list _ => (by decide +kernel : kitB "list" "list" = some true)
  | .tuple _ => (by decide +kernel : kitB "tuple" "list" = some false)
  | .dict _ => (by decide +kernel : kitB "dict" "list" = some false)
theorem kit_B : ∀ d : FW.D, kitB (tyD d) "bool" = some (isBo d)
  | .none => (by decide +kernel : kitB "NoneType" "bool" = some false)
  | .bool _ => (by decide +kernel : kitB "bool" "bool" = some true)
  | .int _ => (by decide +kernel : kitB "int" "bool" = some false)
  | .str _ => (by decide +kernel : kitB "str" "bool" = some false)
  | .list _ => (by decide +kernel : kitB "list" "bool" = some false)
  | .tuple _ => (by decide +kernel : kitB "tuple" "bool" = some false)
  | .dict _ => (by decide +kernel : kitB "dict" "bool" = some false)
theorem kit_S : ∀ d : FW.D, kitB (tyD d) "str" = some (isS d)
  | .none => (by decide +kernel : kitB "NoneType" "str" = some false)
  | .bool _ => (by decide +kernel : kitB "bool" "str" = some false)
  | .int _ => (by decide +kernel : kitB "int" "str" = some false)
  | .str _ => (by decide +kernel : kitB "str" "str" = some true)
  | .list _ => (by decide +kernel : kitB "list" "str" = some false)
  | .tuple _ => (by decide +kernel : kitB "tuple" "str" = some false)
  | .dict _ => (by decide +kernel : kitB "dict" "str" = some false)
theorem kit_I : ∀ d : FW.D, kitB (tyD d) "int" = some (isIn d)
  | .none => (by decide +kernel : kitB "NoneType" "int" = some false)
  | .bool _ => (by decide +kernel : kitB "bool" "int" = some true)
  | .int _ => (by decide +kernel : kitB "int" "int" = some true)
  | .str _ => (by decide +kernel : kitB "str" "int" = some false)
  | .list _ => (by decide +kernel : kitB "list" "int" = some false)
  | .tuple _ => (by decide +kernel : kitB "tuple" "int" = some false)
  | .dict _ => (by decide +kernel : kitB "dict" "int" = some false)
section
variable {X : Cx} {F : Fr} {S : List Sl} {e : Expr} {pos p p1 p2 p3 : Pos} {d : FW.D} {j : Nat}
theorem ep_isT (B : BT X.mg) (h : Ep X F S e d) (hg : Gl X "isinstance" := by rfl) (hgT : Gl X "tuple" := by rfl)
    (hs : starEach [e, .Name "tuple" p1] X.env = (false, eval e X.env) :: starEach [.Name "tuple" p1] X.env := by rfl) (hs2 : starEach [.Name "tuple" p1] X.env = (false, eval (.Name "tuple" p1) X.env) :: starEach [] X.env := by rfl) (hpl : (backTo pos (starEach [.Name "tuple" p1] X.env)).any (·.1) = false := by rfl) : Ep X F S (.Call (.Name "isinstance" p) [e, .Name "tuple" p1] [] pos) (.bool (isT d)) :=
  de_isi B B.tuple (by decide +kernel) (h.to ⟨_, kit_T d, rfl, rfl⟩) hg hgT (by decide) (by decide) hs hs2 hpl
theorem ep_isL (B : BT X.mg) (h : Ep X F S e d) (hg : Gl X "isinstance" := by rfl) (hgT : Gl X "list" := by rfl)
    (hs : starEach [e, .Name "list" p1] X.env = (false, eval e X.env) :: starEach [.Name "list" p1] X.env := by rfl) (hs2 : starEach [.Name "list" p1] X.env = (false, eval (.Name "list" p1) X.env) :: starEach [] X.env := by rfl) (hpl : (backTo pos (starEach [.Name "list" p1] X.env)).any (·.1) = false := by rfl) : Ep X F S (.Call (.Name "isinstance" p) [e, .Name "list" p1] [] pos) (.bool (isL d)) :=
  de_isi B B.list (by decide +kernel) (h.to ⟨_, kit_L d, rfl, rfl⟩) hg hgT (by decide) (by decide) hs hs2 hpl
theorem ep_isB (B : BT X.mg) (h : Ep X F S e d) (hg : Gl X "isinstance" := by rfl) (hgT : Gl X "bool" := by rfl)
    (hs : starEach [e, .Name "bool" p1] X.env = (false, eval e X.env) :: starEach [.Name "bool" p1] X.env := by rfl) (hs2 : starEach [.Name "bool" p1] X.env = (false, eval (.Name "bool" p1) X.env) :: starEach [] X.env := by rfl) (hpl : (backTo pos (starEach [.Name "bool" p1] X.env)).any (·.1) = false := by rfl) : Ep X F S (.Call (.Name "isinstance" p) [e, .Name "bool" p1] [] pos) (.bool (isBo d)) :=
  de_isi B B.bool (by decide +kernel) (h.to ⟨_, kit_B d, rfl, rfl⟩) hg hgT (by decide) (by decide) hs hs2 hpl
theorem ep_isS (B : BT X.mg) (h : Ep X F S e d) (hg : Gl X "isinstance" := by rfl) (hgT : Gl X "str" := by rfl)
    (hs : starEach [e, .Name "str" p1] X.env = (false, eval e X.env) :: starEach [.Name "str" p1] X.env := by rfl) (hs2 : starEach [.Name "str" p1] X.env = (false, eval (.Name "str" p1) X.env) :: starEach [] X.env := by rfl) (hpl : (backTo pos (starEach [.Name "str" p1] X.env)).any (·.1) = false := by rfl) : Ep X F S (.Call (.Name "isinstance" p) [e, .Name "str" p1] [] pos) (.bool (isS d)) :=
  de_isi B B.str (by decide +kernel) (h.to ⟨_, kit_S d, rfl, rfl⟩) hg hgT (by decide) (by decide) hs hs2 hpl
theorem ep_isI (B : BT X.mg) (h : Ep X F S e d) (hg : Gl X "isinstance" := by rfl) (hgT : Gl X "int" := by rfl)
    (hs : starEach [e, .Name "int" p1] X.env = (false, eval e X.env) :: starEach [.Name "int" p1] X.env := by rfl) (hs2 : starEach [.Name "int" p1] X.env = (false, eval (.Name "int" p1) X.env) :: starEach [] X.env := by rfl) (hpl : (backTo pos (starEach [.Name "int" p1] X.env)).any (·.1) = false := by rfl) : Ep X F S (.Call (.Name "isinstance" p) [e, .Name "int" p1] [] pos) (.bool (isIn d)) :=
  de_isi B B.int (by decide +kernel) (h.to ⟨_, kit_I d, rfl, rfl⟩) hg hgT (by decide) (by decide) hs hs2 hpl
theorem ep_isTL (B : BT X.mg) (h : Ep X F S e d) (hg : Gl X "isinstance" := by rfl) (hgT : Gl X "tuple" := by rfl) (hgU : Gl X "list" := by rfl)
    (hs : starEach [e, .Tuple [.Name "tuple" p1, .Name "list" p2] j p3] X.env = (false, eval e X.env) :: starEach [.Tuple [.Name "tuple" p1, .Name "list" p2] j p3] X.env := by rfl) (hs2 : starEach [.Tuple [.Name "tuple" p1, .Name "list" p2] j p3] X.env = (false, eval (.Tuple [.Name "tuple" p1, .Name "list" p2] j p3) X.env) :: starEach [] X.env := by rfl)
    (hs3 : starEach [.Name "tuple" p1, .Name "list" p2] X.env = (false, eval (.Name "tuple" p1) X.env) :: starEach [.Name "list" p2] X.env := by rfl) (hs4 : starEach [.Name "list" p2] X.env = (false, eval (.Name "list" p2) X.env) :: starEach [] X.env := by rfl)
    (hpl : (backTo pos (starEach [.Tuple [.Name "tuple" p1, .Name "list" p2] j p3] X.env)).any (·.1) = false := by rfl) : Ep X F S (.Call (.Name "isinstance" p) [e, .Tuple [.Name "tuple" p1, .Name "list" p2] j p3] [] pos) (.bool (isT d || isL d)) :=
  de_isi2 B B.tuple (by decide +kernel) B.list (by decide +kernel) (h.to ⟨_, _, kit_T d, kit_L d, rfl, rfl⟩) hg hgT hgU (by decide) (by decide) (by decide) (by decide) hs hs2 hs3 hs4 hpl
end
/-! ### lists of ints by place -/
theorem getD_lt {α : Type} {xs : List α} {b : Nat} {x : α} (h : b < xs.length) : xs.getD b x = xs[b] := by
  rw [List.getD_eq_getElem?_getD, List.getElem?_eq_getElem h]; rfl
theorem atI_ints {ns : List Int} {b : Nat} (h : b < ns.length) : atI (ns.map PyData.int) ((b : Nat) : Int) = some (.int (ns.getD b 0)) :=
  atI_nat (by rw [List.getElem?_map, List.getElem?_eq_getElem h, getD_lt h]; rfl)
theorem atI_ints0 {ns : List Int} {b : Nat} (h : b < ns.length) : atI (ns.map PyData.int) (0 + ((b : Nat) : Int)) = some (.int (ns.getD b 0)) := by
  rw [Int.zero_add]; exact atI_ints h
theorem atI_cons0 {α : Type} {x : α} {xs : List α} : atI (x :: xs) 0 = some x := atI_nat (j := 0) rfl
theorem atI_D {ds : List FW.D} {b : Nat} (h : b < ds.length) : atI ds (0 + ((b : Nat) : Int)) = some (ds.getD b .none) := by
  rw [Int.zero_add]
  exact atI_nat (by rw [List.getElem?_eq_getElem h, getD_lt h])
theorem range_zip {α β : Type} (x : α) (y : β) : ∀ (t : List α) (s : List β), t.length = s.length → (List.range s.length).map (fun b => (t.getD b x, s.getD b y)) = t.zip s
  | [], [], _ => rfl
  | a :: t, b :: s, h => by
    rw [List.length_cons, List.range_succ_eq_map, List.map_cons, List.map_map, List.zip_cons_cons, ← range_zip x y t s (by simpa using h)]
    rfl
theorem rz {α β γ : Type} (x : α) (y : β) {t : List α} {s : List β} (h : t.length = s.length) (f : α × β → Bool) (g : α × β → γ) :
    ((List.range s.length).filter fun b => f (t.getD b x, s.getD b y)).map (fun b => g (t.getD b x, s.getD b y)) = ((t.zip s).filter f).map g := by
  rw [← range_zip x y t s h, List.filter_map, List.map_map]; rfl
theorem range_zipL {α β : Type} (x : α) (y : β) : ∀ (t : List α) (s : List β), s.length ≤ t.length → (List.range s.length).map (fun b => (t.getD b x, s.getD b y)) = t.zip s
  | [], [], _ => rfl
  | _ :: _, [], _ => rfl
  | [], _ :: _, h => absurd h (Nat.not_succ_le_zero _)
  | a :: t, b :: s, h => by
    rw [List.length_cons, List.range_succ_eq_map, List.map_cons, List.map_map, List.zip_cons_cons, ← range_zipL x y t s (Nat.le_of_succ_le_succ h)]
    rfl
theorem rzL {α β γ : Type} (x : α) (y : β) {t : List α} {s : List β} (h : s.length ≤ t.length) (f : α × β → Bool) (g : α × β → γ) :
    ((List.range s.length).filter fun b => f (t.getD b x, s.getD b y)).map (fun b => g (t.getD b x, s.getD b y)) = ((t.zip s).filter f).map g := by
  rw [← range_zipL x y t s h, List.filter_map, List.map_map]; rfl
theorem mem_range {n b : Nat} (h : b ∈ List.range n) : b < n := List.mem_range.mp h
end FW

namespace FW
open PySem PySem.Spec PyProof.Rows L2
variable [Tb]

/-! ### set(list of ints), sorted(set(list of ints)) -/
abbrev nwS (w : World) : Obj := { cls := .type "set", dict := none, data := .set #[] 0 (.fresh 0 0 (!w.params.followText "set-order")) }
section
variable {P : Program} {w : World} {A : Around} {E : Value → Shared → Prop} {s : Shared}
theorem set_of_list {l : Addr} {items : Array Value} (ns : List Int) {Q : Value → Shared → Prop} (hh : A.handled = none) (hl : s.heap.IsList l items) (hit : IntsAre items.toList ns) (hb : ns.length + 1 < scanBound)
    (h : ∀ (h' : Heap) (tk c : Nat), SetR w h' s.heap.objs.size (fun j => decide (j ∈ ns)) c → c ≤ ns.length → (∀ b o, s.heap.get? b = some o → h'.get? b = some o) → Q (.ref s.heap.objs.size) { s with heap := h', toks := tk }) :
    wpAny (model P w) A (call (.type "set") [.ref l]) Q E s := by
  have lis : items.size = ns.length := (Array.length_toList ▸ IntsAre.length hit :)
  obtain ⟨c, tl, mro1⟩ := F.called_set.mro
  have made1 := F.called_set.made; have sub1 := F.called_set.sub
  refine wpAny_call (codeAny_of_tree ?_); show wpAny _ _ (callAny (.type "set") _) _ _ _
  refine wpAny_pure ⟨Code.quiet_builtin _ (by decide +kernel), codeAny_builtin F.entry_type_call ?_⟩; rw [Around.under_plain (weight_type_call_type "set" [.ref l] []) rfl]
  have nt1 := F.called_set.notType; have cc1 := F.called_set.canCreate; have tc1 := F.typeCall_set_1 (.ref l)
  repeat (any_goals (first | assumption | wp_step))
  refine codeAny_mono (code_set_led1 (.ref l) (E := E) (Q₁ := fun obj s₁ => obj = .ref s.heap.objs.size ∧ s₁ = { s with heap := s.heap.push (nwS w) }) ⟨rfl, rfl⟩) fun r s₁ hr => ?_
  cases r with
  | error e => exact hr
  | ok fl =>
    cases fl with
    | ret obj =>
      obtain ⟨rfl, rfl⟩ := hr
      have gS : (s.heap.push (nwS w)).get? s.heap.objs.size = some (nwS w) := Heap.get?_push_size _ rfl
      have tS : Shared.TypeIs { s with heap := s.heap.push (nwS w) } (.ref s.heap.objs.size) "set" := ⟨_, gS, rfl⟩
      have li1 := F.called_set.init.lookup; have bi1 := F.called_set.init.bind (.ref s.heap.objs.size)
      repeat (any_goals (first | assumption | wp_step))
      refine codeAny_mono (codeAny_call_builtin (R := wants (fun r s₂ => r = .none ∧ ∃ h' tk c, s₂ = { s with heap := h', toks := tk } ∧ SetR w h' s.heap.objs.size (fun j => decide (j ∈ ns)) c ∧ c ≤ ns.length ∧ (∀ b o, s.heap.get? b = some o → h'.get? b = some o)) E) F.called_set.init.plain F.entry_set_init (check_set_init_1 tS ?_)) fun r₂ s₂ hr₂ => ?_
      · obtain ⟨ol, hol, hcl, nl, hdl⟩ := hl; obtain ⟨ocls, odict, odata, oslots⟩ := ol
        simp only at hcl hdl; subst hcl; subst hdl
        have hol' : (s.heap.push (nwS w)).get? l = some { cls := .type "list", dict := odict, data := .seq items nl, slots := oslots } := Heap.get?_push_of_some _ hol
        have sb1 := F.sub_list_set; have sb2 := F.sub_list_frozenset
        have dne : (Value.type "list" == Value.type "dict") = false := by decide
        have hl1 : (s.heap.push (nwS w)).IsList l items := ⟨_, hol', rfl, nl, rfl⟩
        unfold Builtin.«set.__init__» noKeywords Builtin.Frozenset.updateFrom; generalize hPI : pyIter = PI; wp_walk; subst hPI
        refine wpAny_pyIter_list hl1 ?_; refine wpAny_bind (wpAny_runValue ?_)
        have hlS : l < s.heap.objs.size := Heap.lt_size hol
        have hh3 : A.in1.in1.in1.handled = none := by simp [hh]
        have szS : (s.heap.push (nwS w)).objs.size = s.heap.objs.size + 1 := Heap.size_push ..
        have neI : l ≠ (s.heap.push (nwS w)).objs.size := by rw [szS]; exact Nat.ne_of_lt (Nat.lt_succ_of_lt hlS)
        have nSf : s.heap.objs.size ∉ [(s.heap.push (nwS w)).objs.size, l] := by
          rw [szS]; intro z
          rcases List.mem_cons.mp z with z | z
          · exact absurd z (Nat.ne_of_lt (Nat.lt_succ_self _))
          · exact absurd (List.mem_singleton.mp z) (Nat.ne_of_gt hlS)
        have vals : ∀ (i : Nat) (v : Value), items[i]? = some v → ∃ k t, ns[i]? = some k ∧ v = .int k t := fun i v hv => by
          have hi : i < ns.length := by rw [← lis]; exact (Array.getElem?_eq_some_iff.mp hv).1
          obtain ⟨t, e⟩ := PyProof.Rows.IntsAre.int_at hit i v (by rw [Array.getElem?_toList]; exact hv)
          exact ⟨ns[i], t, List.getElem?_eq_getElem hi, by rw [e, getD_lt hi]⟩
        refine set_update_ints ((Walks.list hh3 _ l neI items).toS) s.heap.objs.size nSf ns lis hb vals (items.size - 0) 0 _ (by omega) (Nat.zero_le _) ⟨⟨_, Heap.get?_push_size _ rfl, rfl, rfl⟩, (hl1.push _)⟩ ?hS0 ?hR
        case hS0 => exact ⟨0, Nat.le_refl 0, setR_new_at (Heap.get?_push_of_some _ gS)⟩
        case hR =>
          intro s' c' hm hc' hS'; obtain ⟨h', g2, d', tk', os'⟩ := s'
          have eg : g2 = s.gens := hm.gens; have ed : d' = s.drawn := hm.drawn; have eo : os' = s.os := hm.os
          subst eg; subst ed; subst eo
          show wpAny _ _ _ _ _ _; refine wpAny_pure ?_; show wpAny _ _ (ret Value.none) _ _ _
          rw [lis] at hc'
          refine wpAny_pure ⟨rfl, h', tk', c', rfl, hS', hc', fun b o e => ?_⟩
          have lb : b < s.heap.objs.size := Heap.lt_size e
          refine hm.heap b o (fun z => ?_) (Heap.get?_push_of_some _ (Heap.get?_push_of_some _ e))
          rcases List.mem_cons.mp z with z | z
          · exact absurd z (Nat.ne_of_lt lb)
          · have z := List.mem_singleton.mp z
            rw [szS] at z
            exact absurd z (Nat.ne_of_lt (Nat.lt_succ_of_lt lb))
      · cases r₂ with
        | error e => exact hr₂
        | ok fl₂ =>
          cases fl₂ with
          | ret r =>
            obtain ⟨rfl, h', tk, c', rfl, hS', hc', hk'⟩ := hr₂
            repeat (any_goals (first | assumption | wp_step))
            exact h _ _ _ hS' hc' hk'
          | _ => exact hr₂.elim
    | _ => exact hr.elim
end
/-- set(xs), xs a list of ints -/
def rSetI (K : PySem.W.Frag) (w : World) : List V → Hp → VK → Prop := fun vs H Q => ∃ (a : Addr) (ns : List Int), vs = [.ref a] ∧ SqL K H a (ns.map V.int) ∧ ns.length + 1 < scanBound ∧
  ∀ (p : Addr) (n : Nat), n ≤ ns.length → H p = none → Q (.ref p) (upd H p (SetO w p (fun j => decide (j ∈ ns)) n))
section
variable {X : Cx} {F : Fr} {S : List Sl} {e : Expr} {PO : List FW.D → List Sl → Prop} {pos p p2 pos2 : Pos}
theorem cr_setI (hc : X.calm = true) : CallR X (.type "set") (rSetI X.K X.w) := by
  intro pins s σ H vs us Q I r h
  obtain ⟨a, ns, rfl, hs, hb, q⟩ := h
  obtain ⟨its, rv, hl, _⟩ := I.list hs
  rw [Vals.ref1 r]
  refine set_of_list ns (I.ok.hd hc) hl.isList (intsAre_of rv) hb fun h' tk c R hc' hk => ?_
  exact ⟨.ref _, upd H s.heap.objs.size (SetO X.w s.heap.objs.size (fun j => decide (j ∈ ns)) c), I.laid (t' := tk) hk (Nat.le_refl _) (setO_new R), rfl, q _ c hc' (I.hok.fresh (Nat.le_refl _))⟩
/-- sorted(set(xs)), xs of fewer than 64 ints -/
theorem do_sortedSet (B : BT X.mg) (hc : X.calm = true) (h : DE X F S e (fun d S' => ∃ ns : List Int, d = .list (ns.map .int) ∧ ns.length < 64 ∧ ∀ out : List Int, out.Pairwise (· < ·) → (∀ k, k ∈ out ↔ k ∈ ns) → PO (out.map .int) S')) (hg : Gl X "sorted" := by rfl) (hg2 : Gl X "set" := by rfl)
    (he : starEach (.Call (.Name "set" p2) [e] [] pos2 :: []) X.env = (false, eval (.Call (.Name "set" p2) [e] [] pos2) X.env) :: starEach [] X.env := by rfl) (hpl : (backTo pos (starEach [] X.env)).any (·.1) = false := by rfl)
    (he2 : starEach (e :: []) X.env = (false, eval e X.env) :: starEach [] X.env := by rfl) (hpl2 : (backTo pos2 (starEach [] X.env)).any (·.1) = false := by rfl) : DO X F S (.Call (.Name "sorted" p) [.Call (.Name "set" p2) [e] [] pos2] [] pos) PO :=
  do_mk (pe_callB (cr_sortedSet hc) hg B.sorted (by decide +kernel) (pa_cons (pe_callTy (cr_setI hc) hg2 B.set (by decide +kernel) (pa_cons h pa_nil he2) (by decide) (by decide) he2 hpl2) pa_nil he) (by decide) (by decide) he hpl) fun σ H Q ⟨G, sv, k⟩ => ⟨G, sv, fun d S' G' v H' ⟨ns, ed, hl, hp⟩ st r => by
    subst ed
    cases r with
    | lst ha rs =>
      rw [Rps.ints rs] at ha
      refine ⟨_, ns, rfl, SqL.of (st.sv.gh _ _ ha), by unfold scanBound; omega, fun q n hn hq => ⟨q, _, n, rfl, upd_same, by omega, fun out p1 hs hm _ hp1 => ?_⟩⟩
      have a1 := Stp.allocO (o := SetO X.w q (fun j => decide (j ∈ ns)) n) st.sv hq
      have st1 := st.trans a1
      have a2 := Stp.allocO (o := .lst (out.map V.int)) a1.sv hp1
      exact k (out.map .int) S' G' p1 (out.map V.int) _ (hp out hs fun k => (hm k).trans decide_eq_true_iff) (st1.trans a2) (a1.sv.gh.none hp1) (st1.fresh hp1) (st1.sv.fresh hp1) upd_same Rps.ofInts⟩
end
end FW

namespace FW
open PySem PySem.Spec PyProof.Rows L2
variable [Tb]

/-! ### sorted of rows of ints, of ints -/
def leI (a b : Int) : Bool := decide (a ≤ b)
def leT (a b : List Int) : Bool := decide (a ≤ b)
abbrev encT (s : List Int) : FW.D := .tuple (s.map .int)
theorem le_encT (a b : List Int) : PySem.W.dataLe false id (encT a) (encT b) = leT a b := by
  show (!PySem.W.dataLt (encT b) (encT a)) = decide (a ≤ b)
  rw [show PySem.W.dataLt (encT b) (encT a) = decide (b < a) from (PySem.W.dataLt_tuple _ _).trans (PySem.W.dataLt_ints b a)]
  by_cases h : b < a
  · rw [decide_eq_true h, decide_eq_false (fun z => List.not_lt.mpr z h)]; rfl
  · rw [decide_eq_false h, decide_eq_true (List.not_lt.mp h)]; rfl
theorem le_encI (a b : Int) : PySem.W.dataLe false id (PyData.int a) (PyData.int b) = leI a b :=
  congrFun (congrFun (PySem.W.dataLe_int (fun x : Int => x)) a) b
theorem alike_ints : ∀ a b : List Int, PySem.W.alikeAll (a.map PyData.int) (b.map PyData.int) = true
  | [], [] => by simp [PySem.W.alikeAll]
  | [], _ :: _ => by simp [PySem.W.alikeAll]
  | _ :: _, [] => by simp [PySem.W.alikeAll]
  | x :: a, y :: b => by
    have := alike_ints a b
    simp [PySem.W.alikeAll, PySem.W.alike, this]
theorem sort_encT (l : List (List Int)) : (l.map encT).mergeSort (PySem.W.dataLe false id) = (l.mergeSort leT).map encT :=
  (PySem.W.sort_maps encT fun a _ b _ => (le_encT a b).symm).symm
theorem sort_encI (l : List Int) : (l.map PyData.int).mergeSort (PySem.W.dataLe false id) = (l.mergeSort leI).map PyData.int :=
  (PySem.W.sort_maps PyData.int fun a _ b _ => (le_encI a b).symm).symm
section
variable {X : Cx} {F : Fr} {S : List Sl} {e : Expr} {pos p : Pos} {k : Nat}
theorem op_sortT (B : BT X.mg) (hr : Room k X.A) {l : List (List Int)} (h : Ep X F S e (.list (l.map encT))) (h0 : ∀ s ∈ l, s ≠ []) (hl : l.length ≤ sizeLine) (hg : Gl X "sorted" := by rfl) (he : starEach (e :: []) X.env = (false, eval e X.env) :: starEach [] X.env := by rfl) (hpl : (backTo pos (starEach [] X.env)).any (·.1) = false := by rfl) : Op X F S (.Call (.Name "sorted" p) [e] [] pos) ((l.mergeSort leT).map encT) :=
  do_sorted B hr (h.to ⟨_, rfl, fun x hx y hy => by
    obtain ⟨a, _, rfl⟩ := List.mem_map.mp hx
    obtain ⟨b, _, rfl⟩ := List.mem_map.mp hy
    have := alike_ints a b
    simpa [PySem.W.alike, encT] using this, .inl fun x hx => by
    obtain ⟨a, ha, rfl⟩ := List.mem_map.mp hx
    cases a with
    | nil => exact absurd rfl (h0 _ ha)
    | cons x r => exact ⟨_, _, rfl⟩, fun x hx => by
    obtain ⟨a, _, rfl⟩ := List.mem_map.mp hx
    exact Nat.le_trans (shD_tup (shD_ints 0 a)).2 (by decide), by rw [List.length_map]; exact hl, sort_encT l, rfl⟩) hg he hpl
theorem op_sortI (B : BT X.mg) (hr : Room k X.A) {l : List Int} (h : Ep X F S e (.list (l.map .int))) (hl : l.length ≤ sizeLine) (hg : Gl X "sorted" := by rfl) (he : starEach (e :: []) X.env = (false, eval e X.env) :: starEach [] X.env := by rfl) (hpl : (backTo pos (starEach [] X.env)).any (·.1) = false := by rfl) : Op X F S (.Call (.Name "sorted" p) [e] [] pos) ((l.mergeSort leI).map .int) :=
  do_sorted B hr (h.to ⟨_, rfl, fun x hx y hy => by
    obtain ⟨a, _, rfl⟩ := List.mem_map.mp hx
    obtain ⟨b, _, rfl⟩ := List.mem_map.mp hy
    simp [PySem.W.alike], .inr fun x hx => by
    obtain ⟨a, ha, rfl⟩ := List.mem_map.mp hx
    exact ⟨(fun z => nomatch z), fun _ z => nomatch z⟩, fun x hx => by
    obtain ⟨a, _, rfl⟩ := List.mem_map.mp hx
    exact Nat.le_trans (shD_int 0 a).2 (by decide), by rw [List.length_map]; exact hl, sort_encI l, rfl⟩) hg he hpl
end
/-! ### sorted lists, plainly -/
theorem leT_total (a b : List Int) : (leT a b || leT b a) = true := by
  unfold leT
  rcases List.le_total a b with h | h
  · rw [decide_eq_true h]; rfl
  · rw [decide_eq_true h, Bool.or_true]
theorem leT_trans (a b c : List Int) (h1 : leT a b = true) (h2 : leT b c = true) : leT a c = true := by
  unfold leT at *
  exact decide_eq_true (List.le_trans (of_decide_eq_true h1) (of_decide_eq_true h2))
theorem leT_anti (a b : List Int) (h1 : leT a b = true) (h2 : leT b a = true) : a = b := by
  unfold leT at *
  exact List.le_antisymm (of_decide_eq_true h1) (of_decide_eq_true h2)
theorem leI_total (a b : Int) : (leI a b || leI b a) = true := by
  unfold leI
  rcases Int.le_total a b with h | h
  · rw [decide_eq_true h]; rfl
  · rw [decide_eq_true h, Bool.or_true]
theorem leI_trans (a b c : Int) (h1 : leI a b = true) (h2 : leI b c = true) : leI a c = true := by
  unfold leI at *
  exact decide_eq_true (Int.le_trans (of_decide_eq_true h1) (of_decide_eq_true h2))
theorem leI_anti (a b : Int) (h1 : leI a b = true) (h2 : leI b a = true) : a = b := by
  unfold leI at *
  exact Int.le_antisymm (of_decide_eq_true h1) (of_decide_eq_true h2)
theorem sortT_of {a b : List (List Int)} (h : a.Perm b) (ha : a.Pairwise fun x y => leT x y = true) : b.mergeSort leT = a := by
  refine List.Perm.eq_of_pairwise (le := fun x y => leT x y = true) (fun x y _ _ => leT_anti x y) (List.pairwise_mergeSort leT_trans leT_total b) ha ((List.mergeSort_perm b leT).trans h.symm)
theorem sortT_perm {a b : List (List Int)} (h : a.Perm b) : a.mergeSort leT = b.mergeSort leT :=
  sortT_of ((List.mergeSort_perm b leT).trans h.symm) (List.pairwise_mergeSort leT_trans leT_total b)
theorem sortI_of {a b : List Int} (h : a.Perm b) (ha : a.Pairwise fun x y => leI x y = true) : b.mergeSort leI = a := by
  refine List.Perm.eq_of_pairwise (le := fun x y => leI x y = true) (fun x y _ _ => leI_anti x y) (List.pairwise_mergeSort leI_trans leI_total b) ha ((List.mergeSort_perm b leI).trans h.symm)
theorem sortI_perm {a b : List Int} (h : a.Perm b) : a.mergeSort leI = b.mergeSort leI :=
  sortI_of ((List.mergeSort_perm b leI).trans h.symm) (List.pairwise_mergeSort leI_trans leI_total b)
end FW

namespace FW
open PySem PySem.Spec PyProof.Rows L2
variable [Tb]
/-! ### tuple * 1 is the tuple itself -/
theorem tup_mul1 (l : Addr) (items : Array Value) (n : Nat) (dd : Option Addr) (sl : Array (Option Value)) (u : Tok) :
    Meets (Builtin.«tuple.__mul__» ⟨[.ref l, .int 1 u], []⟩) (fun _ R s => s.heap.get? l = some { cls := .type "tuple", dict := dd, data := .seq items n, slots := sl } ∧ R (.ok (.ret (Value.ref l))) s) :=
  .of_wp fun prog w A R s h => by
    obtain ⟨hp, g, d, tk, os⟩ := s
    obtain ⟨hl, h⟩ := h
    have f1 := AutoSeq1.idx_int
    have c1 : (items.isEmpty || (1 : Int) == 1) = true := by rw [beq_self_eq_true, Bool.or_true]
    wp_walk using wpAny_loadPart' hl
    repeat (first
      | (refine wpAny_ite_true (decide_eq_true c1) ?_; wp_walk using wpAny_loadPart' hl)
      | (refine wpAny_ite_false (by decide) ?_; wp_walk using wpAny_loadPart' hl))
    exact ⟨_, rfl, h⟩
def rRep1 (K : PySem.W.Frag) : R2 := fun x y H Q => ∃ l xs, x = .ref l ∧ y = .int 1 ∧ SqT K H l xs ∧ Q (.ref l) H
section
variable {X : Cx} {F : Fr} {S : List Sl} {a b : Expr} {P : PD} {pos : Pos}
theorem op_rep1 : OpR X (binaryOp .Mult) (rRep1 X.K) := by
  intro pins s σ H x y v u Q I rx ry h
  obtain ⟨l, xs, rfl, rfl, hT, q⟩ := h
  cases rx; obtain ⟨t, rfl⟩ := ry
  obtain ⟨its, r, ⟨⟨cls, dd, data, sl⟩, ho, hc, n, hd⟩, hs⟩ := I.tuple hT
  simp only at hc hd; subst hc hd
  exact wpAny_binaryOp_repeat_ref (T := "tuple") (U := "int") (by decide) ⟨_, ho, rfl⟩ (fun s' => typeIs_int s' 1 t) noFill_tuple_mul F.fills_int_mul F.slot_int_rmul repeat_tuple F.slot_int_index.lookup (call_meets F.slot_int_rmul (typeIs_int s 1 t) F.entry_int_rmul (F.args_int_rmul_2 _ _) (int_rmul_tuple 1 t l its.toArray n dd sl) ⟨ho, rfl, ⟨_, ho, rfl⟩, call_meets F.slot_tuple_mul ⟨_, ho, rfl⟩ F.entry_tuple_mul (F.args_tuple_mul_2 _ _) (tup_mul1 l its.toArray n dd sl t) ⟨ho, .ref l, H, I, rfl, q⟩⟩)
theorem de_mulT1 (h : DE X F S a (fun d1 S1 => DE X F S1 b (fun d2 S2 => ∃ xs n, d1 = .tuple xs ∧ d2 = .int n ∧ xs ≠ [] ∧ (1 ≤ n ∧ n ≤ 1000) ∧ xs.length ≤ 1000 ∧ P (.tuple (List.replicate n.toNat xs).flatten) S2))) : DE X F S (.BinOp a .Mult b pos) P :=
  de_op (op_repT.or op_rep1) (h.imp fun d1 S1 h1 => h1.imp fun d2 S2 ⟨xs, n, e1, e2, hne, hn1, hl, hp⟩ x y G σ H Q sv r1 r2 k => by
    subst e1; subst e2; cases r2
    cases r1 with
    | tup h1 rs1 =>
      by_cases hn : 2 ≤ n
      · exact .inl ⟨_, n, _, rfl, rfl, SqT.of (sv.gh _ _ h1), fun e => hne (by subst e; cases rs1; rfl), hn, hn1.2, by rw [rs1.length]; exact hl, fun q hn => k _ S2 _ _ _ hp (.alloc sv hn) (.tup upd_same ((rs1.rep n.toNat).mono (Ex.upd (sv.gh.none hn))))⟩
      · have e1 : n = 1 := by omega
        subst e1
        have e2 : (List.replicate (Int.toNat 1) xs).flatten = xs := by
          show (List.replicate 1 xs).flatten = xs
          simp
        rw [e2] at hp
        exact .inr ⟨_, _, rfl, rfl, SqT.of (sv.gh _ _ h1), k _ S2 _ _ _ hp (.refl sv) (.tup h1 rs1)⟩)
theorem ep_mulT1 {xs : List FW.D} {n : Int} (ha : Ep X F S a (.tuple xs)) (hb : Ep X F S b (.int n)) (h0 : xs ≠ []) (h1 : 1 ≤ n ∧ n ≤ 1000) (h2 : xs.length ≤ 1000) : Ep X F S (.BinOp a .Mult b pos) (.tuple (List.replicate n.toNat xs).flatten) := de_mulT1 (ha.to (hb.to ⟨_, _, rfl, rfl, h0, h1, h2, rfl, rfl⟩))
/-! ### max, min of a list: a member that none passes -/
def maxOf (l : List Int) : Int := l.foldl (fun a b => if a < b then b else a) (l.headD 0)
def minOf (l : List Int) : Int := l.foldl (fun a b => if b < a then b else a) (l.headD 0)
theorem fold_max : ∀ (l : List Int) (a : Int), (a ≤ l.foldl (fun a b => if a < b then b else a) a ∧ ∀ x ∈ l, x ≤ l.foldl (fun a b => if a < b then b else a) a) ∧ (l.foldl (fun a b => if a < b then b else a) a = a ∨ l.foldl (fun a b => if a < b then b else a) a ∈ l)
  | [], a => ⟨⟨Int.le_refl a, fun _ h => nomatch h⟩, .inl rfl⟩
  | y :: l, a => by
    obtain ⟨⟨h1, h2⟩, h3⟩ := fold_max l (if a < y then y else a)
    rw [List.foldl_cons]
    have hh : a ≤ (if a < y then y else a) ∧ y ≤ (if a < y then y else a) := by split <;> omega
    refine ⟨⟨Int.le_trans hh.1 h1, fun x hx => ?_⟩, ?_⟩
    · rcases List.mem_cons.mp hx with rfl | hx
      · exact Int.le_trans hh.2 h1
      · exact h2 x hx
    · rcases h3 with h3 | h3
      · rw [h3]; split
        · exact .inr List.mem_cons_self
        · exact .inl rfl
      · exact .inr (List.mem_cons_of_mem _ h3)
theorem fold_min : ∀ (l : List Int) (a : Int), (l.foldl (fun a b => if b < a then b else a) a ≤ a ∧ ∀ x ∈ l, l.foldl (fun a b => if b < a then b else a) a ≤ x) ∧ (l.foldl (fun a b => if b < a then b else a) a = a ∨ l.foldl (fun a b => if b < a then b else a) a ∈ l)
  | [], a => ⟨⟨Int.le_refl a, fun _ h => nomatch h⟩, .inl rfl⟩
  | y :: l, a => by
    obtain ⟨⟨h1, h2⟩, h3⟩ := fold_min l (if y < a then y else a)
    rw [List.foldl_cons]
    have hh : (if y < a then y else a) ≤ a ∧ (if y < a then y else a) ≤ y := by split <;> omega
    refine ⟨⟨Int.le_trans h1 hh.1, fun x hx => ?_⟩, ?_⟩
    · rcases List.mem_cons.mp hx with rfl | hx
      · exact Int.le_trans h1 hh.2
      · exact h2 x hx
    · rcases h3 with h3 | h3
      · rw [h3]; split
        · exact .inr List.mem_cons_self
        · exact .inl rfl
      · exact .inr (List.mem_cons_of_mem _ h3)
theorem maxOf_mem {l : List Int} (h : l ≠ []) : maxOf l ∈ l ∧ ∀ x ∈ l, x ≤ maxOf l := by
  cases l with
  | nil => exact absurd rfl h
  | cons a l =>
    obtain ⟨⟨_, h2⟩, h3⟩ := fold_max (a :: l) a
    refine ⟨?_, h2⟩
    rcases h3 with h3 | h3
    · rw [show maxOf (a :: l) = a from h3]; exact List.mem_cons_self
    · exact h3
theorem minOf_mem {l : List Int} (h : l ≠ []) : minOf l ∈ l ∧ ∀ x ∈ l, minOf l ≤ x := by
  cases l with
  | nil => exact absurd rfl h
  | cons a l =>
    obtain ⟨⟨_, h2⟩, h3⟩ := fold_min (a :: l) a
    refine ⟨?_, h2⟩
    rcases h3 with h3 | h3
    · rw [show minOf (a :: l) = a from h3]; exact List.mem_cons_self
    · exact h3
variable {e : Expr} {p : Pos} {ns : List Int}
theorem ep_maxL (B : BT X.mg) (hc : X.calm = true) (h : Ep X F S e (.list (ns.map .int))) (h0 : ns ≠ []) (hg : Gl X "max" := by rfl) (he : starEach (e :: []) X.env = (false, eval e X.env) :: starEach [] X.env := by rfl) (hpl : (backTo pos (starEach [] X.env)).any (·.1) = false := by rfl) : Ep X F S (.Call (.Name "max" p) [e] [] pos) (.int (maxOf ns)) :=
  de_maxL B hc (h.to ⟨ns, rfl, List.length_pos_iff.mpr h0, fun m hm hy => ⟨by
    have := maxOf_mem h0
    rw [Int.le_antisymm (hy _ this.1) (this.2 _ hm)], rfl⟩⟩) hg he hpl
theorem ep_minL (B : BT X.mg) (hc : X.calm = true) (h : Ep X F S e (.list (ns.map .int))) (h0 : ns ≠ []) (hg : Gl X "min" := by rfl) (he : starEach (e :: []) X.env = (false, eval e X.env) :: starEach [] X.env := by rfl) (hpl : (backTo pos (starEach [] X.env)).any (·.1) = false := by rfl) : Ep X F S (.Call (.Name "min" p) [e] [] pos) (.int (minOf ns)) :=
  de_minL B hc (h.to ⟨ns, rfl, List.length_pos_iff.mpr h0, fun m hm hy => ⟨by
    have := minOf_mem h0
    rw [Int.le_antisymm (this.2 _ hm) (hy _ this.1)], rfl⟩⟩) hg he hpl
end
/-! ### comprehensions with an effect on the row: each item some value of a kind -/
section
variable {X : Cx} {F : Fr} {S : List Sl} {elt : Expr} {scope : Scope} {vs : List Nat} {PO : List FW.D → List Sl → Prop} {xs : List FW.D}
theorem lcr (n : Nat) (R : FW.D → Prop) (hl : xs.length < sizeLine) (he : ∀ d ∈ xs, ∀ s H C cl fp, DE (Bk X scope s H C cl fp) F ((wipeS S vs).set n (.val d)) elt fun d' S' => R d' ∧ S' = (wipeS S vs).set n (.val d))
    (k : ∀ acc : List FW.D, acc.length = xs.length → (∀ d ∈ acc, R d) → PO acc (wipeS S vs)) (hw : ∀ d : FW.D, wipeS ((wipeS S vs).set n (.val d)) vs = wipeS S vs := by intro _; rfl) (hw2 : wipeS (wipeS S vs) vs = wipeS S vs := by rfl) : LcI X F scope vs (gN n) elt [] PO xs S := by
  refine ⟨fun i Si acc => Si = wipeS S vs ∧ acc.length = i ∧ ∀ d ∈ acc, R d, ⟨rfl, rfl, fun _ h => nomatch h⟩, fun i d Si acc hd ⟨e1, e2, e3⟩ => ?_, fun Sn acc ⟨e1, e2, e3⟩ => ?_⟩
  · subst e1
    have hi := (List.getElem?_eq_some_iff.mp hd).1
    refine ⟨fun t S' => t = true ∧ S' = (wipeS S vs).set n (.val d), fun _ _ _ _ _ => dts_nil ⟨rfl, rfl⟩, fun t S3 ⟨et, e4⟩ => ?_⟩
    subst et; subst e4
    refine ⟨fun _ => ⟨by omega, fun s H C cl fp => DE.imp (he d (List.mem_of_getElem? hd) s H C cl fp) fun d' S4 ⟨hR, e5⟩ => ?_⟩, fun z => nomatch z⟩
    subst e5
    refine ⟨hw d, by rw [List.length_append, e2]; rfl, fun x hx => ?_⟩
    rcases List.mem_append.mp hx with hx | hx
    · exact e3 x hx
    · rw [List.mem_singleton.mp hx]; exact hR
  · subst e1
    rw [hw2]
    exact k acc e2 e3
end
/-! ### sorted(set(..)), plainly -/
def dd : List Int → List Int
  | [] => []
  | a :: l => if a ∈ l then dd l else a :: dd l
theorem mem_dd {k : Int} : ∀ {l : List Int}, k ∈ dd l ↔ k ∈ l
  | [] => Iff.rfl
  | a :: l => by
    unfold dd
    split
    · rename_i h
      rw [mem_dd, List.mem_cons]
      exact ⟨.inr, fun z => z.elim (fun e => e ▸ h) id⟩
    · rw [List.mem_cons, List.mem_cons, mem_dd]
theorem nodup_dd : ∀ l : List Int, (dd l).Nodup
  | [] => List.Pairwise.nil
  | a :: l => by
    unfold dd
    split
    · exact nodup_dd l
    · rename_i h
      exact List.pairwise_cons.mpr ⟨fun x hx e => h (e ▸ mem_dd.mp hx), nodup_dd l⟩
theorem len_dd : ∀ l : List Int, (dd l).length ≤ l.length
  | [] => Nat.le_refl _
  | a :: l => by
    unfold dd
    have := len_dd l
    split
    · exact Nat.le_succ_of_le this
    · exact Nat.succ_le_succ this
def sset (l : List Int) : List Int := (dd l).mergeSort leI
theorem mem_sset {k : Int} {l : List Int} : k ∈ sset l ↔ k ∈ l := (List.mergeSort_perm _ _).mem_iff.trans mem_dd
theorem sset_len (l : List Int) : (sset l).length ≤ l.length := by unfold sset; rw [List.length_mergeSort]; exact len_dd l
theorem strict_of {l : List Int} (h : l.Pairwise fun x y => leI x y = true) (n : l.Nodup) : l.Pairwise (· < ·) :=
  List.Pairwise.imp (fun {a b} ⟨h1, h2⟩ => (by have := of_decide_eq_true h1; omega)) (h.and n)
theorem sset_sorted (l : List Int) : (sset l).Pairwise (· < ·) := strict_of (List.pairwise_mergeSort leI_trans leI_total _) ((List.mergeSort_perm _ _).nodup_iff.mpr (nodup_dd l))
theorem strict_ext {a b : List Int} (ha : a.Pairwise (· < ·)) (hb : b.Pairwise (· < ·)) (h : ∀ k, k ∈ a ↔ k ∈ b) : a = b := by
  have na : a.Nodup := ha.imp fun {x y} z => by omega
  have nb : b.Nodup := hb.imp fun {x y} z => by omega
  have p := (List.perm_ext_iff_of_nodup na nb).mpr h
  refine List.Perm.eq_of_pairwise (le := fun x y : Int => x ≤ y) (fun x y _ _ h1 h2 => Int.le_antisymm h1 h2) (ha.imp fun {x y} z => by omega) (hb.imp fun {x y} z => by omega) p
section
variable {X : Cx} {F : Fr} {S : List Sl} {e : Expr} {pos p p2 pos2 : Pos}
theorem op_sortedSet (B : BT X.mg) (hc : X.calm = true) {ns : List Int} (h : Ep X F S e (.list (ns.map .int))) (hl : ns.length < 64) (hg : Gl X "sorted" := by rfl) (hg2 : Gl X "set" := by rfl)
    (he : starEach (.Call (.Name "set" p2) [e] [] pos2 :: []) X.env = (false, eval (.Call (.Name "set" p2) [e] [] pos2) X.env) :: starEach [] X.env := by rfl) (hpl : (backTo pos (starEach [] X.env)).any (·.1) = false := by rfl)
    (he2 : starEach (e :: []) X.env = (false, eval e X.env) :: starEach [] X.env := by rfl) (hpl2 : (backTo pos2 (starEach [] X.env)).any (·.1) = false := by rfl) : Op X F S (.Call (.Name "sorted" p) [.Call (.Name "set" p2) [e] [] pos2] [] pos) ((sset ns).map .int) :=
  do_sortedSet B hc (h.to ⟨ns, rfl, hl, fun out h1 h2 => ⟨by rw [strict_ext h1 (sset_sorted ns) fun k => (h2 k).trans mem_sset.symm], rfl⟩⟩) hg hg2 he hpl he2 hpl2
end
/-! ### not in, in: items of any depth -/
section
variable {X : Cx} {F : Fr} {S : List Sl} {a b : Expr} {pos : Pos} {n : Nat} {d : FW.D} {ds : List FW.D}
theorem tp_ninD (hr : Room n X.A) (ha : Ep X F S a d) (hb : Ep X F S b (.list ds)) (h1 : Sh d) (h2 : Sh (.list ds)) (hm : behindInMarks .NotIn b = false := by rfl) : Tp X F S (.Compare a [.NotIn] [b] pos) (!inD d ds) :=
  dt_cmp (op_notInD (by have := hr.un; omega)) hm (ha.to (hb.to fun x y G σ H Q sv r1 r2 k => ⟨d, ds, (r1.mono sv.gh).dp, (r2.mono sv.gh).dp, h1, h2, k _ S G _ H (b1 ⟨rfl, rfl⟩) (.refl sv) (.bl _)⟩))
theorem tp_inD (hr : Room n X.A) (ha : Ep X F S a d) (hb : Ep X F S b (.list ds)) (h1 : Sh d) (h2 : Sh (.list ds)) (hm : behindInMarks .In b = false := by rfl) : Tp X F S (.Compare a [.In] [b] pos) (inD d ds) :=
  dt_cmp (op_inD (by have := hr.un; omega)) hm (ha.to (hb.to fun x y G σ H Q sv r1 r2 k => ⟨d, ds, (r1.mono sv.gh).dp, (r2.mono sv.gh).dp, h1, h2, k _ S G _ H (b1 ⟨rfl, rfl⟩) (.refl sv) (.bl _)⟩))
end
end FW

namespace FW
open PySem PySem.Spec PyProof.Rows L2
variable [Tb]
/-! ### sorted(set(xs)) of any number of ints -/
section
variable {P : Program} {w : World} {A : Around} {E : Value → Shared → Prop} {s : Shared} {a : Addr}
theorem each_ints : ∀ {us : List Value} {ns : List Int}, IntsAre us ns → PySem.W.EachIs (fun v (k : Int) => ∃ t, v = Value.int k t) us ns
  | _, _, .nil => .nil
  | _, _, .cons n t h => .cons ⟨t, rfl⟩ (each_ints h)
theorem ints_each2 : ∀ {us : List Value} {ns : List Int}, PySem.W.EachIs (fun v (k : Int) => ∃ t, v = Value.int k t) us ns → IntsAre us ns
  | _, _, .nil => .nil
  | _, _, .cons ⟨t, e⟩ h => by subst e; exact .cons _ t (ints_each2 h)
theorem each_read {h : Heap} {b : Addr} : ∀ {us : List Value} {ns : List Int}, IntsAre us ns → PySem.W.EachIs (fun v (k : Int) => ∃ as, Reads h v (PyData.int k) as ∧ b ∉ as) us ns
  | _, _, .nil => .nil
  | _, _, .cons n t h => .cons ⟨[], .int n t, fun z => nomatch z⟩ (each_read h)
theorem sorted_setN {S : Int → Bool} {n : Nat} {Q : Value → Shared → Prop} (R : SetR w s.heap a S n) (hh : A.handled = none) (hu : A.units + 16 < cLine)
    (hQ : ∀ s' p (out : Array Value) (c : Nat) (ns : List Int), (∀ b o, s.heap.get? b = some o → s'.heap.get? b = some o) → s'.gens = s.gens → s'.os = s.os → s.heap.objs.size ≤ p → s'.heap.get? p = some (seqObj "list" out c) → IntsAre out.toList ns → ns.Pairwise (· < ·) → (∀ k, k ∈ ns ↔ S k = true) → ns.length = n → Q (.ref p) s') :
    wpAny (model P w) A (call (.builtin "sorted") [.ref a]) Q E s := by
  obtain ⟨o, es, ep, t, ho, hex, hd, g, nd, hm, hb, hf, hn, hr, hl⟩ := R
  refine Calls.call_function_entry kind_sorted plain_sorted entry_sorted (args_sorted1 _) ?_; unfold Builtin.«sorted»
  refine wpAny_bind (m := checkCount "sorted" 1 1 _) (wpAny_pure ?_); refine wpAny_bind (collect_set (A := A.in1) hh ⟨o, ho, hex.1, hd⟩ hf hb hr hl fun s1 vs k1 hz g1 o1 pm => ?_)
  have lvs : vs.length = n := by rw [pm.length_eq, List.length_map, Array.length_toList]; exact hn
  have iv : IntsAre vs (vs.map Builtin.Re.reRawOf) := ints_of vs fun v hv => by
    obtain ⟨e, he, q⟩ := List.mem_map.mp (pm.mem_iff.mp hv); obtain ⟨k, tk, h1, _⟩ := g e he
    exact ⟨k, tk, q ▸ h1⟩
  have pk : (vs.map Builtin.Re.reRawOf).Perm (es.toList.map keyOf) := by have q := pm.map Builtin.Re.reRawOf; rw [List.map_map] at q; exact q
  have nb : n < 4096 := by have : es.size < 4096 := hb; omega
  refine wpAny_bind (wpAny_newList ?_ (by rw [lvs, sizeLine_eq]; omega))
  have gL : (s1.heap.push (seqObj "list" vs.toArray 0)).get? s1.heap.objs.size = some (seqObj "list" vs.toArray 0) := Heap.get?_push_size _ rfl
  generalize hbs : vs.map Builtin.Re.reRawOf = bs at iv pk
  have lbs : bs.length = n := by rw [← hbs, List.length_map]; exact lvs
  refine wpAny_bind (wpAny_holding (PySem.W.list_sort_data (bs := bs) (enc := fun k => PyData.int k) (R := fun v (k : Int) => ∃ t, v = Value.int k t) gL (each_ints iv) (each_read iv) (fun x hx y hy => ?_) (.inr fun x hx => ?_) (by rw [lbs, sizeLine_eq]; omega) (fun b hb => ?_) fun out hlen eo => ?_))
  · obtain ⟨_, _, rfl⟩ := List.mem_map.mp hx; obtain ⟨_, _, rfl⟩ := List.mem_map.mp hy
    simp [PySem.W.alike]
  · obtain ⟨_, _, rfl⟩ := List.mem_map.mp hx
    exact ⟨(fun z => nomatch z), fun _ z => nomatch z⟩
  · have : (PyData.int b).depth = 0 := by simp [PyData.depth]
    rw [this]; show A.units + 1 + 1 + 0 < cLine; omega
  · obtain ⟨c, hc⟩ := sortedHeap_at (vs := vs) (out := out.toArray) gL
    have pn : (bs.mergeSort leI).Perm (es.toList.map keyOf) := (List.mergeSort_perm _ _).trans pk
    have e1 : PySem.W.dataLe false (fun k : Int => PyData.int k) = leI := by funext x y; exact le_encI x y
    rw [e1] at eo
    refine wpAny_pure ⟨_, rfl, hQ { s1 with heap := sortedHeap (s1.heap.push (seqObj "list" vs.toArray 0)) s1.heap.objs.size vs out.toArray } s1.heap.objs.size out.toArray c (bs.mergeSort leI) (fun b u e => ?_) g1 o1 hz hc (ints_each2 eo) (strict_of (List.pairwise_mergeSort leI_trans leI_total _) (pn.nodup_iff.mpr nd)) (fun k => by rw [pn.mem_iff, ← hm k]) (by rw [List.length_mergeSort]; exact lbs)⟩
    have q := k1 b u e; have hlt := Heap.lt_size q
    show (sortedHeap (s1.heap.push (seqObj "list" vs.toArray 0)) s1.heap.objs.size vs out.toArray).get? b = some u
    rw [sortedHeap_old (Nat.ne_of_lt hlt) (by rw [size_push']; exact Nat.lt_succ_of_lt hlt)]; exact Heap.get?_push_of_some _ q
end
def rSortedSetN (w : World) : List V → Hp → VK → Prop := fun vs H Q => ∃ (a : Addr) (S : Int → Bool) (n : Nat), vs = [V.ref a] ∧ H a = some (SetO w a S n) ∧
  ∀ (ns : List Int) (p : Addr), ns.Pairwise (· < ·) → (∀ k : Int, k ∈ ns ↔ S k = true) → H p = none → Q (.ref p) (upd H p (.lst (ns.map V.int)))
section
variable {X : Cx} {F : Fr} {S : List Sl} {e : Expr} {PO : List FW.D → List Sl → Prop} {pos p p2 pos2 : Pos} {k : Nat}
theorem cr_sortedSetN (hc : X.calm = true) (hr : Room k X.A) : CallR X (.builtin "sorted") (rSortedSetN X.w) := by
  intro pins s σ H vs us Q I r h
  obtain ⟨a, S, n, rfl, ha, q⟩ := h
  have R := setO_get I ha
  rw [Vals.ref1 r]
  have nb : n < 4096 := by obtain ⟨_, es, _, _, _, _, _, _, _, _, hb, _, hn, _⟩ := R; have : es.size < 4096 := hb; omega
  refine sorted_setN R (I.ok.hd hc) (by have := hr.un; omega) fun s' p out c ns kk g o hp hg hi hs hm hl => ?_
  have lz : (ns.map V.int).length ≤ sizeLine := by rw [List.length_map, hl, sizeLine_eq]; omega
  have fr : H p = none := I.hok.fresh hp
  have J : Inv X pins σ (upd H p (.lst (ns.map V.int))) { s with heap := s'.heap, gens := s'.gens, drawn := s'.drawn, toks := s'.toks } := I.call (ch := []) (Un.laid kk hp fr) (I.hok.laid kk hp ⟨lz, out.toList, c, vals_of_ints hi, hg⟩) (by rw [g]; exact I.bare) (fun _ z => nomatch z)
  have e : s' = { s with heap := s'.heap, gens := s'.gens, drawn := s'.drawn, toks := s'.toks } := by cases s'; cases s; cases o; rfl
  rw [e]; exact ⟨.ref p, _, J, rfl, q ns p hs hm fr⟩
theorem op_sortedSetN (B : BT X.mg) (hc : X.calm = true) (hr : Room k X.A) {ns : List Int} (h : Ep X F S e (.list (ns.map .int))) (hl : ns.length < 4000) (hg : Gl X "sorted" := by rfl) (hg2 : Gl X "set" := by rfl)
    (he : starEach (.Call (.Name "set" p2) [e] [] pos2 :: []) X.env = (false, eval (.Call (.Name "set" p2) [e] [] pos2) X.env) :: starEach [] X.env := by rfl) (hpl : (backTo pos (starEach [] X.env)).any (·.1) = false := by rfl)
    (he2 : starEach (e :: []) X.env = (false, eval e X.env) :: starEach [] X.env := by rfl) (hpl2 : (backTo pos2 (starEach [] X.env)).any (·.1) = false := by rfl) : Op X F S (.Call (.Name "sorted" p) [.Call (.Name "set" p2) [e] [] pos2] [] pos) ((sset ns).map .int) :=
  do_mk (pe_callB (cr_sortedSetN hc hr) hg B.sorted (by decide +kernel) (pa_cons (pe_callTy (cr_setI hc) hg2 B.set (by decide +kernel) (pa_cons h pa_nil he2) (by decide) (by decide) he2 hpl2) pa_nil he) (by decide) (by decide) he hpl) fun σ H Q ⟨G, sv, k⟩ => ⟨G, sv, fun d S' G' v H' ⟨ed, eS⟩ st r => by
    subst ed; subst eS
    cases r with
    | lst ha rs =>
      rw [Rps.ints rs] at ha
      refine ⟨_, ns, rfl, SqL.of (st.sv.gh _ _ ha), by unfold scanBound; omega, fun q n hn hq => ⟨q, _, n, rfl, upd_same, fun out p1 hs hm hp1 => ?_⟩⟩
      have eo : out = sset ns := strict_ext hs (sset_sorted ns) fun k => (hm k).trans (decide_eq_true_iff.trans mem_sset.symm)
      subst eo
      have a1 := Stp.allocO (o := SetO X.w q (fun j => decide (j ∈ ns)) n) st.sv hq
      have st1 := st.trans a1
      have a2 := Stp.allocO (o := .lst ((sset ns).map V.int)) a1.sv hp1
      exact k ((sset ns).map .int) _ G' p1 ((sset ns).map V.int) _ ⟨rfl, rfl⟩ (st1.trans a2) (a1.sv.gh.none hp1) (st1.fresh hp1) (st1.sv.fresh hp1) upd_same Rps.ofInts⟩
end
/-! ### max of a tuple, min of a list: data -/
def rMaxT (K : PySem.W.Frag) : List V → Hp → VK → Prop := fun vs H Q => ∃ (a : Addr) (xs : List V) (G : Hp) (d : FW.D) (ds : List FW.D), vs = [.ref a] ∧ SqT K H a xs ∧ Ex G H ∧ Rps G xs (d :: ds) ∧ PySem.W.AlikeAll (d :: ds) ∧ PyData.depthAll (d :: ds) ≤ 60 ∧ ∀ v, Rp G v (PySem.W.maxD d ds) → Q v H
def rMinL (K : PySem.W.Frag) : List V → Hp → VK → Prop := fun vs H Q => ∃ (a : Addr) (xs : List V) (G : Hp) (d : FW.D) (ds : List FW.D), vs = [.ref a] ∧ SqL K H a xs ∧ Ex G H ∧ Rps G xs (d :: ds) ∧ PySem.W.AlikeAll (d :: ds) ∧ PyData.depthAll (d :: ds) ≤ 60 ∧ ∀ v, Rp G v (PySem.W.minD d ds) → Q v H
theorem vals_at {xs : List V} : ∀ {us : List Value} {i : Nat} {u : Value}, Vals xs us → us[i]? = some u → ∃ x, xs[i]? = some x ∧ RelV x u := by
  induction xs with
  | nil => intro us i u h e; cases h; simp at e
  | cons x xs ih =>
    intro us i u h e
    cases h with
    | cons r t =>
      cases i with
      | zero => simp at e; subst e; exact ⟨x, rfl, r⟩
      | succ i => obtain ⟨y, h1, h2⟩ := ih (i := i) t (by simpa using e); exact ⟨y, by simpa using h1, h2⟩
theorem fold_mem {α : Type} (p : α → α → Bool) : ∀ (l : List α) (a : α), l.foldl (fun a y => if p y a = true then y else a) a ∈ a :: l
  | [], a => List.mem_cons_self
  | y :: l, a => by
    rw [List.foldl_cons]
    have := fold_mem p l (if p y a = true then y else a)
    rcases List.mem_cons.mp this with h | h
    · rw [h]; split
      · exact List.mem_cons_of_mem _ List.mem_cons_self
      · exact List.mem_cons_self
    · exact List.mem_cons_of_mem _ (List.mem_cons_of_mem _ h)
section
variable {X : Cx} {F : Fr} {S : List Sl} {e : Expr} {P : PD} {pos p : Pos} {k : Nat}
theorem pick_at {pins : List (Addr × Obj)} {σ : L2.St} {H G : Hp} {s : Shared} {xs : List V} {its : List Value} {ds : List FW.D} {i : Nat} {v : Value} {h' : Heap} {m : FW.D} {bs : List Addr} (I : Inv X pins σ H s) (eg : Ex G H) (rs : Rps G xs ds) (rv : Vals xs its) (hv : its[i]? = some v)
    (hk : ∀ b o, s.heap.get? b = some o → h'.get? b = some o) (hr : Reads h' v m bs) (hal : ∀ d ∈ ds, PySem.W.alike d m = true) : ∃ x, RelV x v ∧ Rp G x m := by
  obtain ⟨x, hx, rx⟩ := vals_at rv hv
  obtain ⟨d, hd, rd⟩ := rs.get' hx
  obtain ⟨as, r1⟩ := Dp.reads I d x v ((rd.mono eg).dp) rx
  have := PySem.W.alike_unique d m v as bs (hal d (List.mem_of_getElem? hd)) (PySem.W.reads_keeps hk r1) hr
  subst this
  exact ⟨x, rx, rd⟩
theorem cr_maxT (hc : X.calm = true) (hr : Room k X.A) : CallR X (.builtin "max") (rMaxT X.K) := by
  intro pins s σ H vs us Q I r h
  obtain ⟨a, xs, G, d, ds, rfl, hs, eg, rs, hal, hdp, q⟩ := h
  obtain ⟨its, rv, hl, _⟩ := I.tuple hs
  rw [Vals.ref1 r]
  obtain ⟨as, ra⟩ := Dp.readsAll I (d :: ds) xs its ((rs.mono eg).dp) rv
  refine PySem.W.max_tuple_data (I.ok.hd hc) hl (by simpa using ra) hal (by have := hr.un; omega) fun i v h' tk bs hv hrd hk => ?_
  have mm : PySem.W.maxD d ds ∈ d :: ds := fold_mem (fun y a => PySem.W.dataLt a y) ds d
  obtain ⟨x, rx, rp⟩ := pick_at I eg rs rv (by simpa using hv) hk hrd fun z hz => hal.1 z hz _ mm
  exact ⟨x, H, I.kept hk, rx, q x rp⟩
theorem cr_minL (hc : X.calm = true) (hr : Room k X.A) : CallR X (.builtin "min") (rMinL X.K) := by
  intro pins s σ H vs us Q I r h
  obtain ⟨a, xs, G, d, ds, rfl, hs, eg, rs, hal, hdp, q⟩ := h
  obtain ⟨its, rv, hl, _⟩ := I.list hs
  rw [Vals.ref1 r]
  obtain ⟨as, ra⟩ := Dp.readsAll I (d :: ds) xs its ((rs.mono eg).dp) rv
  refine PySem.W.min_list_data (I.ok.hd hc) hl.isList (by simpa using ra) hal (by have := hr.un; omega) fun i v h' tk bs hv hrd hk => ?_
  have mm : PySem.W.minD d ds ∈ d :: ds := fold_mem (fun y a => PySem.W.dataLt y a) ds d
  obtain ⟨x, rx, rp⟩ := pick_at I eg rs rv (by simpa using hv) hk hrd fun z hz => hal.1 z hz _ mm
  exact ⟨x, H, I.kept hk, rx, q x rp⟩
theorem ep_maxD (B : BT X.mg) (hc : X.calm = true) (hr : Room k X.A) {d : FW.D} {ds : List FW.D} (h : Ep X F S e (.tuple (d :: ds))) (hal : PySem.W.AlikeAll (d :: ds)) (hdp : PyData.depthAll (d :: ds) ≤ 60) (hg : Gl X "max" := by rfl) (he : starEach (e :: []) X.env = (false, eval e X.env) :: starEach [] X.env := by rfl) (hpl : (backTo pos (starEach [] X.env)).any (·.1) = false := by rfl) : Ep X F S (.Call (.Name "max" p) [e] [] pos) (PySem.W.maxD d ds) :=
  de_callB (cr_maxT hc hr) B.max (by decide +kernel) (da_cons (h.to (da_nil fun vs G σ H Q sv r k => by
    cases r with
    | cons r1 r2 =>
      cases r2
      cases r1 with
      | tup hl rs => exact ⟨_, _, G, d, ds, rfl, SqT.of (sv.gh _ _ hl), sv.gh, rs, hal, hdp, fun v rv => k _ S G v _ ⟨rfl, rfl⟩ (.refl sv) rv⟩)) he) hg (by decide) (by decide) he hpl
theorem ep_minD (B : BT X.mg) (hc : X.calm = true) (hr : Room k X.A) {d : FW.D} {ds : List FW.D} (h : Ep X F S e (.list (d :: ds))) (hal : PySem.W.AlikeAll (d :: ds)) (hdp : PyData.depthAll (d :: ds) ≤ 60) (hg : Gl X "min" := by rfl) (he : starEach (e :: []) X.env = (false, eval e X.env) :: starEach [] X.env := by rfl) (hpl : (backTo pos (starEach [] X.env)).any (·.1) = false := by rfl) : Ep X F S (.Call (.Name "min" p) [e] [] pos) (PySem.W.minD d ds) :=
  de_callB (cr_minL hc hr) B.min (by decide +kernel) (da_cons (h.to (da_nil fun vs G σ H Q sv r k => by
    cases r with
    | cons r1 r2 =>
      cases r2
      cases r1 with
      | lst hl rs => exact ⟨_, _, G, d, ds, rfl, SqL.of (sv.gh _ _ hl), sv.gh, rs, hal, hdp, fun v rv => k _ S G v _ ⟨rfl, rfl⟩ (.refl sv) rv⟩)) he) hg (by decide) (by decide) he hpl
/-- the greatest of a tuple of ints -/
def maxT (t : List Int) : Int := t.tail.foldl max (t.headD 0)
theorem fold_le_max : ∀ (l : List Int) (a : Int), a ≤ l.foldl max a ∧ ∀ x ∈ l, x ≤ l.foldl max a
  | [], a => ⟨Int.le_refl a, fun _ h => nomatch h⟩
  | y :: l, a => by
    obtain ⟨h1, h2⟩ := fold_le_max l (max a y)
    rw [List.foldl_cons]
    refine ⟨by omega, fun x hx => ?_⟩
    rcases List.mem_cons.mp hx with rfl | hx
    · omega
    · exact h2 x hx
theorem le_maxT {t : List Int} : ∀ x ∈ t, x ≤ maxT t := by
  cases t with
  | nil => exact fun _ h => nomatch h
  | cons a l =>
    intro x hx
    have := fold_le_max l a
    rcases List.mem_cons.mp hx with rfl | hx
    · exact this.1
    · exact this.2 x hx
theorem ep_maxT (B : BT X.mg) (hc : X.calm = true) (hr : Room k X.A) {t : List Int} (h : Ep X F S e (.tuple (t.map .int))) (h0 : t ≠ []) (hg : Gl X "max" := by rfl) (he : starEach (e :: []) X.env = (false, eval e X.env) :: starEach [] X.env := by rfl) (hpl : (backTo pos (starEach [] X.env)).any (·.1) = false := by rfl) : Ep X F S (.Call (.Name "max" p) [e] [] pos) (.int (maxT t)) := by
  cases t with
  | nil => exact absurd rfl h0
  | cons a l =>
    refine (ep_maxD B hc hr h ⟨fun x hx y hy => ?_, fun x hx => ?_⟩ ?_ hg he hpl).cast (PySem.W.maxD_ints a l)
    · have hx : x ∈ (a :: l).map PyData.int := hx
      have hy : y ∈ (a :: l).map PyData.int := hy
      obtain ⟨_, _, rfl⟩ := List.mem_map.mp hx
      obtain ⟨_, _, rfl⟩ := List.mem_map.mp hy
      simp [PySem.W.alike]
    · have hx : x ∈ (a :: l).map PyData.int := hx
      obtain ⟨_, _, rfl⟩ := List.mem_map.mp hx
      exact fun z => nomatch z
    · exact Nat.le_trans (shD_all (n := 0) (shD_ints 0 (a :: l))).2 (by decide)
end
/-! ### xs.pop(k), xs != [] of a list of one's own -/
section
variable {X : Cx} {F : Fr} {S : List Sl} {e b : Expr} {P : PD} {PT : Bool → List Sl → Prop} {pos : Pos} {k : Nat}
theorem Stp.wOwn {K : PySem.W.Frag} {σ : L2.St} {G H : Hp} {i : Nat} {p : Addr} {vs' : List V} {ds ds' : List FW.D} (sv : SV K F S G σ H) (hs : S[i]? = some (.own ds)) (he : σ[i]? = some (some (.ref p))) (r : Rps G vs' ds') : Stp K F σ S G H (S.set i (.own ds')) G (upd H p (.lst vs')) := by
  have m : MutAt S σ p i := ⟨⟨_, hs, rfl⟩, he⟩
  refine ⟨Ex.refl G, fun a o h nm _ => ?_, fun j sl h hm => ?_, sv.wOwn hs he r, fun a o h => ?_, fun a o h => .inl h⟩
  · have ne : a ≠ p := fun z => nm i (by rw [z]; exact m)
    rw [upd_ne ne]; exact h
  · by_cases z : i = j
    · subst z; exact ⟨_, hs, rfl⟩
    · rw [List.getElem?_set_ne z] at h; exact ⟨sl, h, hm⟩
  · by_cases z : a = p
    · subst z; exact ⟨_, upd_same⟩
    · exact ⟨o, by rw [upd_ne z]; exact h⟩
theorem de_popO (i : Nat) {x : Str} {p1 p2 p3 : Pos} (hO : ∃ ds, S[i]? = some (.own ds)) (h : DE X F S e (fun d S' => ∃ ds n j y, d = .int n ∧ S'[i]? = some (.own ds) ∧ ixN ds.length n = some j ∧ ds[j]? = some y ∧ ds.length < 2 ^ 60 ∧ P y (S'.set i (.own (ds.eraseIdx j)))))
    (hN : X.N[i]? = some x := by rfl) (hv : Vis X.env.scope x := by first | exact Or.inl rfl | exact Or.inr (Or.inl rfl) | exact Or.inr (Or.inr rfl)) (hs1 : starEach (e :: []) X.env = (false, eval e X.env) :: starEach [] X.env := by rfl)
    (hd : (x == ("__debug__" : Str)) = false := by decide) (hcd : (x == ("__classdict__" : Str)) = false := by decide) (hbase : attributeBase (.Name x p1) "pop" X.env (eval (.Name x p1) X.env) = eval (.Name x p1) X.env := by rfl)
    (hfew : ((backTo p3 (starEach (e :: []) X.env)).all (fun x => !x.1) && (backToKw p3 (keywordEach [] X.env)).all (fun x => x.1.isSome) && decide ((e :: ([] : List Expr)).length + ([] : List Keyword).length + (if ([] : List Keyword).isEmpty then 0 else 1) < 30)) = true := by rfl)
    (hline : (p2.endLine == p3.line) = true := by rfl) (hpl : (backTo p3 (starEach ([] : List Expr) X.env)).any (·.1) = false := by rfl) : DE X F S (.Call (.Attribute (.Name x p1) "pop" p2) [e] [] p3) P :=
  de_mk (pe_bm PySem.F.plainAttrs_list PySem.F.slot_list_pop PySem.F.type_list_pop mt_popAt (pe_var hN hv hd hcd) (pa_cons h pa_nil hs1) hbase hfew hline hs1 hpl) fun σ H Q ⟨G, sv, kk⟩ => by
    obtain ⟨ds0, h0⟩ := hO
    obtain ⟨p, vs, ep, gp, hp, rs⟩ := sv.slot i _ h0
    refine ⟨.ref p, ep, .inl ⟨rfl, _, SqL.of hp⟩, G, sv, fun d S' G' v H' ⟨ds, n, j, y, ed, h2, hj, hy, hl, hP⟩ st rr => ?_⟩
    subst ed; cases rr
    obtain ⟨p', vs', ep', gp', hp', rs'⟩ := st.sv.slot i _ h2
    rw [ep] at ep'; cases ep'
    obtain ⟨v, hvv, rv⟩ := rs'.get hy
    have hx := ixN_seq hj
    show rPopAt (.ref p) [.int n] H' Q
    exact ⟨p, vs', n, j, v, rfl, rfl, hp', by omega, by omega, by rw [rs'.length]; exact hx.1, hvv, kk y _ G' v _ hP (st.trans (Stp.wOwn st.sv h2 ep (rs'.erase j))) rv⟩
/-- xs != e, xs a list of one's own -/
theorem dt_neO (i : Nat) {x : Str} {p1 : Pos} (hr : Room k X.A) {ds : List FW.D} {d2 : FW.D} (hO : S[i]? = some (.own ds)) (hb : Ep X F S b d2) (h1 : Sh (.list ds)) (h2 : Sh d2) (q : PT (!PyData.eqv (.list ds) d2) S)
    (hN : X.N[i]? = some x := by rfl) (hv : Vis X.env.scope x := by first | exact Or.inl rfl | exact Or.inr (Or.inl rfl) | exact Or.inr (Or.inr rfl)) (hd : (x == ("__debug__" : Str)) = false := by decide) (hcd : (x == ("__classdict__" : Str)) = false := by decide) : DT X F S (.Compare (.Name x p1) [.NotEq] [b] pos) PT :=
  dt_mk (pt_cmpR (op_neD hr.units) (pe_var hN hv hd hcd) hb (nomark b)) fun σ H Q ⟨G, sv, kk⟩ => by
    obtain ⟨p, vs, ep, gp, hp, rs⟩ := sv.slot i _ hO
    refine ⟨.ref p, ep, G, sv, fun d' S' G' v2 H' ⟨ed, eS⟩ st r2 => ?_⟩
    subst ed; subst eS
    obtain ⟨p', vs', ep', gp', hp', rs'⟩ := st.sv.slot i _ hO
    rw [ep] at ep'; cases ep'
    exact ⟨.list ds, d', .lst (SqL.of hp') ((rs'.mono st.sv.gh).dp), (r2.mono st.sv.gh).dp, h1, h2, _, rfl, kk _ S' G' H' q st⟩
end
/-! len(xs), xs a list of one's own -/
section
variable {X : Cx} {F : Fr} {S : List Sl} {P : PD} {pos p : Pos}
theorem de_lenO (i : Nat) {x : Str} {p1 : Pos} {ds : List FW.D} (B : BT X.mg) (hO : S[i]? = some (.own ds)) (q : P (.int ds.length) S) (hg : Gl X "len" := by rfl) (hN : X.N[i]? = some x := by rfl) (hv : Vis X.env.scope x := by first | exact Or.inl rfl | exact Or.inr (Or.inl rfl) | exact Or.inr (Or.inr rfl))
    (hd : (x == ("__debug__" : Str)) = false := by decide) (hcd : (x == ("__classdict__" : Str)) = false := by decide) (he : starEach (.Name x p1 :: []) X.env = (false, eval (.Name x p1) X.env) :: starEach [] X.env := by rfl) (hpl : (backTo pos (starEach [] X.env)).any (·.1) = false := by rfl) : DE X F S (.Call (.Name "len" p) [.Name x p1] [] pos) P :=
  de_mk (pe_callB call_len_seq hg B.len PySem.boot_len (pa_cons (pe_var hN hv hd hcd) pa_nil he) (by decide) (by decide) he hpl) fun σ H Q ⟨G, sv, kk⟩ => by
    obtain ⟨p, vs, ep, gp, hp, rs⟩ := sv.slot i _ hO
    exact ⟨.ref p, ep, p, vs, rfl, .inl (SqL.of hp), by rw [rs.length]; exact kk _ S G _ H q (.refl sv) (.int _)⟩
end
/-! ### xs[::-1] -/
section
variable {X : Cx} {F : Fr} {S : List Sl} {e : Expr} {pos p1 p2 p3 : Pos} {k : Nat} {ds : List FW.D}
theorem op_revL (h : Ep X F S e (.list ds)) : Op X F S (.Subscript e (.Slice none none (some (.UnaryOp .USub (.Constant (.int 1) k p1) p2)) p3) pos) ds.reverse :=
  do_mk (pe_revL h) fun σ H Q ⟨G, sv, kk⟩ => ⟨G, sv, fun d S' G' v H' ⟨ed, eS⟩ st r => by
    subst ed; subst eS
    cases r with
    | lst hl rs => exact ⟨_, _, rfl, SqL.of (st.sv.gh _ _ hl), fun q hq => kk ds.reverse _ G' q _ _ ⟨rfl, rfl⟩ (st.trans (.allocO st.sv hq)) (st.sv.gh.none hq) (st.fresh hq) (st.sv.fresh hq) upd_same rs.reverse⟩⟩
end
/-! ### xs[lo:hi] of a list of one's own -/
section
variable {X : Cx} {F : Fr} {S : List Sl} {lo hi : Option Expr} {l u : Option Int} {pos p2 : Pos} {ds : List FW.D}
theorem op_slO (i : Nat) {x : Str} {p1 : Pos} (hO : S[i]? = some (.own ds)) (hl : Pp X F S lo l) (hu : Pp X F S hi u) (hN : X.N[i]? = some x := by rfl) (hv : Vis X.env.scope x := by first | exact Or.inl rfl | exact Or.inr (Or.inl rfl) | exact Or.inr (Or.inr rfl))
    (hd : (x == ("__debug__" : Str)) = false := by decide) (hcd : (x == ("__classdict__" : Str)) = false := by decide) : Op X F S (.Subscript (.Name x p1) (.Slice lo hi none p2) pos) (FW.cutD ds l u) :=
  do_mk (pe_slice sl_list (pe_var hN hv hd hcd) hl hu) fun σ H Q ⟨G, sv, k⟩ => by
    obtain ⟨p, vs, ep, gp, hp, rs⟩ := sv.slot i _ hO
    refine ⟨.ref p, ep, G, sv, fun l' S2 G2 H2 ⟨e1, e2⟩ st2 => ⟨G2, by subst e2; exact st2.sv, fun u' S3 G3 H3 ⟨e3, e4⟩ st3 => ?_⟩⟩
    subst e1; subst e2; subst e3; subst e4
    obtain ⟨p', vs', ep', gp', hp', rs'⟩ := st3.sv.slot i _ hO
    rw [ep] at ep'; cases ep'
    have st := st2.trans st3
    exact ⟨p, vs', rfl, SqL.of hp', fun q hn => k _ _ G3 q _ _ ⟨rfl, rfl⟩ (st.trans (.allocO st3.sv hn)) (st3.sv.gh.none hn) (st.fresh hn) (st3.sv.fresh hn) upd_same (rs'.cut _ _)⟩
end
end FW

namespace FW
open PySem PySem.Spec PyProof.Rows L2
variable [Tb]
/-! ### t[::-1], t a tuple -/
section
variable {prog : Program} {w : World} {A : Around} {E : Value → Shared → Prop} {s : Shared}
theorem places_rev (n : Nat) : Builtin.Slice.slicePlaces ((n : Int) - 1) (-1) (-1) = n := by
  unfold Builtin.Slice.slicePlaces
  have h1 : ¬ ((-1 : Int) > 0) := by omega
  simp only [h1, if_false]
  split
  · rw [show (- -1 : Int) = 1 by decide, Int.ediv_one]
    omega
  · omega
theorem adjust_rev (n : Nat) : Builtin.Slice.sliceAdjust none none (-1) (n : Int) = ((n : Int) - 1, -1) := by
  unfold Builtin.Slice.sliceAdjust
  have h1 : (-1 : Int) < 0 := by omega
  simp only [h1, if_true]
theorem sliceApplied_rev {sl : Addr} {vs : Value} {n : Nat} {Q : Int × Int × Nat → Shared → Prop} (hs : s.heap.IsSliceOf sl .none .none vs) (ps : IsPart vs (some (-1)))
    (h : Q ((n : Int) - 1, -1, n) s) : wpAny (model prog w) A (Builtin.Slice.sliceApplied (.ref sl) (pure (n : Int))) Q E s := by
  obtain ⟨os, hos, hcs, hds⟩ := id hs
  unfold Builtin.Slice.sliceApplied Builtin.Slice.sliceFields
  refine wpAny_bind (wpAny_bind (wpAny_field hos hds (x := .none) rfl (wpAny_bind (wpAny_field hos hds (x := .none) rfl (wpAny_bind (wpAny_field hos hds (x := vs) rfl (wpAny_pure ?_)))))))
  refine wpAny_bind (HT.slicePart_ ps ?_)
  show wpAny _ _ (if ((-1 : Int) == 0) = true then _ else _) _ _ s
  rw [if_neg (by decide)]
  refine wpAny_bind (slicePart_none (wpAny_bind (slicePart_none (wpAny_bind (wpAny_pure ?_)))))
  show wpAny _ _ (match Builtin.Slice.sliceAdjust none none (-1) (n : Int) with | (lo, hi) => pure (lo, (-1 : Int), Builtin.Slice.slicePlaces lo hi (-1))) _ _ s
  rw [adjust_rev n]
  show wpAny _ _ (pure ((n : Int) - 1, (-1 : Int), Builtin.Slice.slicePlaces ((n : Int) - 1) (-1) (-1))) _ _ s
  rw [places_rev]
  exact wpAny_pure h
theorem pick_rev (xs : Array Value) : ((List.range xs.size).filterMap fun (k : Nat) => xs[((xs.size : Int) - 1 + (k : Int) * (-1)).toNat]?).toArray = xs.toList.reverse.toArray := by
  have e : (fun (k : Nat) => xs[((xs.size : Int) - 1 + (k : Int) * (-1)).toNat]?) = (fun k => xs[k]?) ∘ fun k => xs.size - 1 - k := by
    funext k
    have : ((xs.size : Int) - 1 + (k : Int) * (-1)).toNat = xs.size - 1 - k := by omega
    rw [this]; rfl
  rw [e, ← List.filterMap_map, PySem.W.krv_range, List.filterMap_reverse, PySem.W.krv_all]
theorem getItem_tuple_rev {t sl : Addr} {items : Array Value} {vs : Value} {Q : Value → Shared → Prop} (ht : IsTup s.heap t items) (hs : s.heap.IsSliceOf sl .none .none vs) (ps : IsPart vs (some (-1)))
    (h : Q (.ref s.heap.objs.size) { s with heap := s.heap.push { cls := .type "tuple", data := .seq items.toList.reverse.toArray } })
    (hsz : items.size ≤ sizeLine) : wpAny (model prog w) A (getItem (.ref t) (.ref sl)) Q E s := by
  have htake : sizeOk (.seq items.toList.reverse.toArray) := by
    show items.toList.reverse.toArray.size ≤ sizeLine
    rw [List.size_toArray, List.length_reverse, Array.length_toList]
    exact hsz
  obtain ⟨os, hos, hcs, hds⟩ := id hs
  have hTs : s.TypeIs (.ref sl) "slice" := ⟨os, hos, hcs⟩
  unfold getItem
  try with_reducible refine wpAny_holding ?_
  first | refine wpAny_bind (wpAny_pure ?_) | skip
  refine wpAny_bind (wpAny_sequenceKey ht.typeIs (by decide) ?_)
  refine wpAny_bind (wpAny_callSpecial?_slot (name := Str.ofString "__getitem__") ht.typeIs PyProof.Rows.slot_tuple_getitem
    (wpAny_call_entry PyProof.Rows.slot_tuple_getitem ht.typeIs entry_tuple_getitem ?_ (args_tuple_getitem _ _)))
  show wpAny _ _ (Builtin.Tuple.tupleItemsOf (.ref t) >>= _) _ _ s
  refine wpAny_bind (tupleItemsOf_ ht ?_)
  refine wpAny_bind (wpAny_typeOf hTs ?_)
  rw [if_pos (by decide)]
  refine wpAny_bind (sliceApplied_rev hs ps ?_)
  have hno : ¬ ((((items.size : Int) - 1) == 0 && (-1 : Int) == 1 && items.size == items.size) = true) := by
    intro q
    rw [Bool.and_eq_true, Bool.and_eq_true] at q
    exact absurd q.1.2 (by decide)
  show wpAny _ _ (if (((items.size : Int) - 1) == 0 && (-1 : Int) == 1 && items.size == items.size) = true then _ else _) _ _ s
  rw [if_neg hno, pick_rev]
  first
    | exact wpAny_bind (m := Builtin.Tuple.tupleExact _) (wpAny_newObj_type (wpAny_pure ⟨_, rfl, wpAny_pure h⟩) htake)
    | exact wpAny_bind (m := Builtin.Tuple.tupleExact _) (wpAny_newObj_type (wpAny_bind (wpAny_pure (wpAny_pure ⟨_, rfl, wpAny_pure h⟩))) htake)
    | exact wpAny_bind (wpAny_bind (m := Builtin.Tuple.tupleExact _) (wpAny_newObj_type (wpAny_pure (wpAny_pure ⟨_, rfl, wpAny_pure h⟩)) htake))
    | exact wpAny_bind (wpAny_bind (m := Builtin.Tuple.tupleExact _) (wpAny_newObj_type (wpAny_pure ⟨_, rfl, wpAny_pure h⟩) htake))
end
def tRevT (K : PySem.W.Frag) (te : TE) : TE := fun σ H Q => te σ H fun x H1 => ∃ a xs, x = .ref a ∧ SqT K H1 a xs ∧ ∀ p, H1 p = none → Q (.ref p) (upd H1 p (.tup xs.reverse))
theorem pe_revT {X : Cx} {e : Expr} {te : TE} {k : Nat} {p1 p2 p3 pos : Pos} (he : PE X e te) : PE X (.Subscript e (.Slice none none (some (.UnaryOp .USub (.Constant (.int 1) k p1) p2)) p3) pos) (tRevT X.K te) := by
  refine ⟨fun pins s σ H Q I h => ?_⟩
  refine Subscript_ (thn (he.run pins s σ H _ I h) fun v s1 ⟨x, H1, I1, r1, q1⟩ => ?_)
  obtain ⟨a, xs, ex, hx, q⟩ := q1
  subst ex
  cases r1
  have hst : PO X (some (.UnaryOp .USub (.Constant (.int 1) k p1) p2)) (tPart (tUn (rU fun i => .int (-i)) (tC (.int 1)))) := po_some (pe_un un_neg pe_int)
  refine wpAny_Slice (thn (po_none.run pins s1 σ H1 (fun o H2 => o = none ∧ H2 = H1) I1 ⟨rfl, rfl⟩) fun vl s2 ⟨l, H2, I2, pl, el, e2⟩ => ?_)
  subst el e2
  refine thn (po_none.run pins s2 σ H2 (fun o H3 => o = none ∧ H3 = H2) I2 ⟨rfl, rfl⟩) fun vu s3 ⟨u, H3, I3, pu, eu, e3⟩ => ?_
  subst eu e3
  refine thn (hst.run pins s3 σ H3 (fun o H4 => o = some (-1) ∧ H4 = H3) I3 ⟨1, rfl, -1, rfl, rfl, rfl⟩) fun vs s4 ⟨o, H4, I4, ps, eo, e4⟩ => ?_
  subst eo e4
  cases pl
  cases pu
  have I5 : Inv X pins σ H4 { s4 with heap := s4.heap.push { cls := .type "slice", data := .fields #[.none, .none, vs] } } := I4.kept (t' := s4.toks) fun b ob q => Heap.get?_push_of_some _ q
  obtain ⟨its, r, ht, hz⟩ := I5.tuple hx
  show wpAny (model X.prog X.w) X.A (subscriptTail e (.Slice none none (some (.UnaryOp .USub (.Constant (.int 1) k p1) p2)) p3) (.ref a) (.ref s4.heap.objs.size)) (EP X pins σ Q) X.xe { s4 with heap := s4.heap.push { cls := .type "slice", data := .fields #[.none, .none, vs] } }
  refine tail_any (ops := [.ref a, .ref s4.heap.objs.size]) ht.typeIs (PyProof.Rows.slot_tuple_getitem.lookup) ?_ (by with_unfolding_all rfl)
  refine getItem_tuple_rev ht (Heap.IsSliceOf.new _ .none .none vs) ps ?_ (by rw [List.size_toArray, ← r.length]; exact hz)
  refine ⟨.ref _, _, I5.laid (t' := s4.toks) (o := .tup xs.reverse) (fun b ob q => Heap.get?_push_of_some _ q) (Nat.le_refl _) ?_, rfl, q _ (I5.hok.fresh (Nat.le_refl _))⟩
  exact ⟨by rw [List.length_reverse]; exact hz, _, r.reverse, IsTup.new _ _⟩
section
variable {X : Cx} {F : Fr} {S : List Sl} {e : Expr} {pos p1 p2 p3 : Pos} {k : Nat} {ds : List FW.D}
theorem ep_revT (h : Ep X F S e (.tuple ds)) : Ep X F S (.Subscript e (.Slice none none (some (.UnaryOp .USub (.Constant (.int 1) k p1) p2)) p3) pos) (.tuple ds.reverse) :=
  de_mk (pe_revT h) fun σ H Q ⟨G, sv, kk⟩ => ⟨G, sv, fun d S' G' v H' ⟨ed, eS⟩ st r => by
    subst ed; subst eS
    cases r with
    | tup hl rs => exact ⟨_, _, rfl, SqT.of (st.sv.gh _ _ hl), fun q hq => kk (.tuple ds.reverse) _ _ _ _ ⟨rfl, rfl⟩ (st.trans (.alloc st.sv hq)) (.tup upd_same (rs.reverse.mono (Ex.upd (st.sv.gh.none hq))))⟩⟩
end
end FW

namespace FW
open PySem PySem.Spec PyProof.Rows L2
variable [Tb]
/-! ### values whose lists are all new -/
abbrev Nw (F : Fr) : Addr → Prop := fun a => F.H0 a = none
def rdN (K : PySem.W.Frag) (F : Fr) (S : List Sl) (P : PD) : TE := fun σ H Q => ∃ G, SV K F S G σ H ∧
  ∀ d S' G' v H', P d S' → Stp K F σ S G H S' G' H' → Rn (Nw F) G' v d → Q v H'
def rdNs (K : PySem.W.Frag) (F : Fr) (S : List Sl) (P : List FW.D → List Sl → Prop) : TA := fun σ H Q => ∃ G, SV K F S G σ H ∧
  ∀ ds S' G' vs H', P ds S' → Stp K F σ S G H S' G' H' → Rns (Nw F) G' vs ds → Q vs H'
def DN (X : Cx) (F : Fr) (S : List Sl) (e : Expr) (P : PD) : Prop := PE X e (rdN X.K F S P)
def DNs (X : Cx) (F : Fr) (S : List Sl) (es : List Expr) (P : List FW.D → List Sl → Prop) : Prop := PA X es (rdNs X.K F S P)
def tNs (X : Cx) (F : Fr) (es : List Expr) : TA := fun σ H Q => ∃ S P, DNs X F S es P ∧ rdNs X.K F S P σ H Q
abbrev Zn := List FW.D → (FW.D → Prop) → Prop
/-- a def that gives a value whose lists are all new -/
def spN (Z : Zn) : Sp := fun vs H Q _ => ∃ (G : Hp) (ds : List FW.D) (kn : FW.D → Prop), Ex G H ∧ Rps G vs ds ∧ Z ds kn ∧
  ∀ d G' v H', kn d → PSt G H G' H' → Rn (fun a => H a = none) G' v d → Q v H'
section
variable {X : Cx} {F : Fr} {S : List Sl} {e a b c : Expr} {es rest : List Expr} {P P' : PD} {pos : Pos}
theorem pns_any : PA X es (tNs X F es) := ⟨fun p pins s σ H Q I ⟨_, _, h, r⟩ => PA.run h p pins s σ H Q I r⟩
theorem dn_mk {t : TE} (h : PE X e t) (k : ∀ σ H Q, rdN X.K F S P σ H Q → t σ H Q) : DN X F S e P := ⟨fun pins s σ H Q I r => h.run pins s σ H Q I (k σ H Q r)⟩
theorem dns_mk {P : List FW.D → List Sl → Prop} {t : TA} (h : PA X es t) (k : ∀ σ H Q, rdNs X.K F S P σ H Q → t σ H Q) : DNs X F S es P := ⟨fun p pins s σ H Q I r => h.run p pins s σ H Q I (k σ H Q r)⟩
theorem DN.imp (h : DN X F S e P) (k : ∀ d S', P d S' → P' d S') : DN X F S e P' := dn_mk h fun _ _ _ ⟨G, sv, q⟩ => ⟨G, sv, fun d S' G' v H' hp => q d S' G' v H' (k d S' hp)⟩
theorem dn_of (h : DE X F S e (fun d S' => noL d = true ∧ P d S')) : DN X F S e P := dn_mk h fun σ H Q ⟨G, sv, q⟩ => ⟨G, sv, fun d S' G' v H' ⟨hn, hp⟩ st r => q d S' G' v H' hp st (r.rn hn)⟩
theorem dn_p {d : FW.D} (h : Ep X F S e d) (hn : noL d = true) (hp : P d S) : DN X F S e P := dn_of (h.to ⟨hn, hp⟩)
theorem de_n (h : DN X F S e P) : DE X F S e P := de_mk h fun σ H Q ⟨G, sv, q⟩ => ⟨G, sv, fun d S' G' v H' hp st r => q d S' G' v H' hp st r.rp⟩
theorem dn_o (h : DO X F S e (fun ds S' => noLs ds = true ∧ P (.list ds) S')) : DN X F S e P := dn_mk h fun σ H Q ⟨G, sv, q⟩ => ⟨G, sv, fun ds S' G' p vs H' ⟨hn, hp⟩ st gp hpn nm hh r => by
  have e0 : F.H0 p = none := sv.h0 hpn
  have sv2 := st.sv.ground gp nm e0 hh
  refine q _ S' (upd G' p (.lst vs)) _ H' hp ⟨st.g.trans (Ex.upd gp), st.kp, st.less, sv2, st.lv, fun x o h => ?_⟩ (.lst e0 upd_same ((r.mono (Ex.upd gp)).rns hn))
  by_cases z : x = p
  · subst z; exact .inr hpn
  · rw [upd_ne z] at h; exact st.nw x o h⟩
theorem dn_nw (i : Nat) {x : Str} {d : FW.D} (hS : S[i]? = some (.new d)) (h : P d S) (hN : X.N[i]? = some x := by rfl) (hv : Vis X.env.scope x := by first | exact Or.inl rfl | exact Or.inr (Or.inl rfl) | exact Or.inr (Or.inr rfl))
    (hd : (x == ("__debug__" : Str)) = false := by decide) (hcd : (x == ("__classdict__" : Str)) = false := by decide) : DN X F S (.Name x pos) P :=
  dn_mk (pe_var hN hv hd hcd) fun σ H Q ⟨G, sv, q⟩ => by
    obtain ⟨v, e, r⟩ := sv.slot i _ hS
    exact ⟨v, e, q d S G v H h (.refl sv) r⟩
theorem ep_nw (i : Nat) {x : Str} {d : FW.D} (hS : S[i]? = some (.new d) := by rfl) (hN : X.N[i]? = some x := by rfl) (hv : Vis X.env.scope x := by first | exact Or.inl rfl | exact Or.inr (Or.inl rfl) | exact Or.inr (Or.inr rfl))
    (hd : (x == ("__debug__" : Str)) = false := by decide) (hcd : (x == ("__classdict__" : Str)) = false := by decide) : Ep X F S (.Name x pos) d := de_n (dn_nw i hS ⟨rfl, rfl⟩ hN hv hd hcd)
theorem ep_fx (i : Nat) {x : Str} {d : FW.D} {v : V} (r : Rp F.B v d) (hS : S[i]? = some (.fix v) := by rfl) (hN : X.N[i]? = some x := by rfl) (hv : Vis X.env.scope x := by first | exact Or.inl rfl | exact Or.inr (Or.inl rfl) | exact Or.inr (Or.inr rfl))
    (hd : (x == ("__debug__" : Str)) = false := by decide) (hcd : (x == ("__classdict__" : Str)) = false := by decide) : Ep X F S (.Name x pos) d :=
  de_mk (pe_var hN hv hd hcd) fun σ H Q ⟨G, sv, q⟩ => ⟨v, sv.slot i _ hS, q d S G v H ⟨rfl, rfl⟩ (.refl sv) (r.mono sv.base)⟩
theorem dns_nil {P : List FW.D → List Sl → Prop} (h : P [] S) : DNs X F S [] P := dns_mk pa_nil fun σ H Q ⟨G, sv, k⟩ => k [] S G [] H h (.refl sv) .nil
theorem dns_cons {P : List FW.D → List Sl → Prop} (h : DN X F S e (fun d S' => DNs X F S' es (fun ds S2 => P (d :: ds) S2))) (hs : starEach (e :: es) X.env = (false, eval e X.env) :: starEach es X.env := by rfl) : DNs X F S (e :: es) P :=
  dns_mk (pa_cons h pns_any hs) fun σ H Q ⟨G, sv, k⟩ => ⟨G, sv, fun d S' G' v H' hp st r => ⟨S', _, hp, G', st.sv, fun ds S2 G2 vs H2 hp2 st2 r2 =>
    k (d :: ds) S2 G2 (v :: vs) H2 hp2 (st.trans st2) (.cons (r.mono st2.g fun _ z => z) r2)⟩⟩
theorem dn_tup {x1} (h : DNs X F S es (fun ds S' => ds.length ≤ sizeLine ∧ P (.tuple ds) S')) : DN X F S (.Tuple es x1 pos) P :=
  dn_mk (pe_tup h) fun σ H Q ⟨G, sv, k⟩ => ⟨G, sv, fun ds S' G' vs H' hp st r => ⟨by rw [r.rps.length]; exact hp.1, fun p hn =>
    k _ S' _ _ _ hp.2 (st.trans (.alloc st.sv hn)) (.tup upd_same (r.mono (Ex.upd (st.sv.gh.none hn)) fun _ z => z))⟩⟩
theorem dn_lst (h : DNs X F S es (fun ds S' => ds.length ≤ sizeLine ∧ P (.list ds) S')) : DN X F S (.List es pos) P :=
  dn_mk (pe_lst h) fun σ H Q ⟨G, sv, k⟩ => ⟨G, sv, fun ds S' G' vs H' hp st r => ⟨by rw [r.rps.length]; exact hp.1, fun p hn =>
    k _ S' _ _ _ hp.2 (st.trans (.alloc st.sv hn)) (.lst (st.sv.h0 hn) upd_same (r.mono (Ex.upd (st.sv.gh.none hn)) fun _ z => z))⟩⟩
theorem dn_call {x : Str} {k : Nat} {p : Pos} {Z : Zn} (c : Kn X.prog X.w X.K X.mg X.base CX0 x k (spN Z)) (hr : Room k X.A) (h : DA X F S (e :: es) (fun ds S' => Z ds (fun d => P d S'))) (hg : Gl X x := by rfl)
    (hdb : (x == ("__debug__" : Str)) = false := by decide) (he : starEach (e :: es) X.env = (false, eval e X.env) :: starEach es X.env := by rfl) (hpl : (backTo pos (starEach es X.env)).any (·.1) = false := by rfl) : DN X F S (.Call (.Name x p) (e :: es) [] pos) P := by
  obtain ⟨f, fd, ps, F1, hm, hk, hb⟩ := c.ex
  exact dn_mk (pe_call F1 hr hg hm hk hb .nil (E := E0) pass0 h hdb he hpl) fun σ H Q ⟨G, sv, k⟩ => ⟨G, sv, fun ds S' G' vs H' hp st rs => by
    show spN Z (vs ++ []) H' Q E0
    rw [List.append_nil]
    exact ⟨G', ds, _, st.sv.gh, rs, hp, fun d G2 v H2 hk2 ps2 r2 => k d S' G2 v H2 hk2 (st.trans (stp_of st.sv ps2)) (r2.mono (Ex.refl _) fun a z => st.sv.h0 z)⟩⟩
theorem ep_callN {x : Str} {k : Nat} {p : Pos} {Z : Zn} {d : FW.D} {ds : List FW.D} (c : Kn X.prog X.w X.K X.mg X.base CX0 x k (spN Z)) (hr : Room k X.A) (h : Ap X F S (e :: es) ds) (hz : Z ds (fun d' => d' = d ∧ S = S)) (hg : Gl X x := by rfl)
    (hdb : (x == ("__debug__" : Str)) = false := by decide) (he : starEach (e :: es) X.env = (false, eval e X.env) :: starEach es X.env := by rfl) (hpl : (backTo pos (starEach es X.env)).any (·.1) = false := by rfl) : Ep X F S (.Call (.Name x p) (e :: es) [] pos) d :=
  de_n (dn_call c hr (h.to hz) hg hdb he hpl)
/-- return of such a value -/
theorem ds_retR {P : Post} (h : DN X F S e P.rn) : DS X F S (.Return (some e) pos) P :=
  ds_mk (ps_ret h) fun D σ H ⟨G, sv, k⟩ => ⟨G, sv, fun d S' G' v H' hp st r => k.rn d S' G' σ v H' hp st.g st.sv r⟩
end
/-! ### a def keeps such a promise by its body -/
def postN (kn : FW.D → Prop) : Post := ⟨fun _ => kn .none, fun d _ => noL d = true ∧ kn d, fun l _ => noLs l = true ∧ kn (.list l), fun _ => False, fun _ => False, fun d _ => kn d⟩
section
variable {P : Program} {w : World} {K : PySem.W.Frag} {mg : Str → Option Value} {base : Heap}
theorem ends_N {G H : Hp} {Q : VK} {kn : FW.D → Prop} (h1 : ∀ d G' v H', kn d → PSt G H G' H' → Rn (fun a => H a = none) G' v d → Q v H') : Ends' K ⟨G, H, none⟩ (postN kn) { nx := fun _ H' => Q .non H', rt := Q } G := by
  have pst : ∀ {S' G' σ' H'}, SV K ⟨G, H, none⟩ S' G' σ' H' → Ex G G' → PSt G H G' H' := fun {S' G' σ' H'} sv ex => ⟨ex, sv.gh, sv.kept.ext rfl, sv.new⟩
  refine ⟨fun S' G' σ' H' hp ex sv => h1 _ G' _ H' hp (pst sv ex) .non, fun d S' G' σ' v H' hp ex sv r => h1 d G' v H' hp.2 (pst sv ex) (r.rn hp.1), fun es S' G' σ' p ws H' hp ex sv gp h0 hl r => ?_, fun _ _ _ _ h => h.elim, fun _ _ _ _ h => h.elim, fun d S' G' σ' v H' hp ex sv r => h1 d G' v H' hp (pst sv ex) r⟩
  have p1 := pst sv ex
  refine h1 _ (upd G' p (.lst ws)) _ H' hp.2 ⟨ex.trans (Ex.upd gp), fun a o h => ?_, p1.h, fun a o h => ?_⟩ (.lst h0 upd_same ((r.mono (Ex.upd gp)).rns hp.1))
  · by_cases z : a = p
    · subst z; rw [upd_same] at h; cases h; exact hl
    · rw [upd_ne z] at h; exact p1.gh a o h
  · by_cases z : a = p
    · subst z; exact .inr h0
    · rw [upd_ne z] at h; exact p1.nw a o h
theorem fn_okN {x qual : Str} {st : Stmt} {f : Addr} {fd : FuncData} {N ps : List Str} {k : Nat} {Z : Zn} (F : Fun K x qual st f fd) (S : FnScope N ps (defScope st)) (hlen : ∀ ds kn, Z ds kn → ds.length = ps.length) (hNl : ps.length ≤ N.length)
    (hb : ∀ (cdv : Value) (A : Around) (outer : List Env) (s : Shared) (H : Hp) (E : XK) (Fm : Fr) (ds : List FW.D) (kn : FW.D → Prop), Room k (A.deeper (envOfC qual (defScope st) s.heap.objs.size f cdv)) → Fm.r = none → Z ds kn →
      DB (cxOf CX0 P w K mg base N qual (defScope st) f cdv A outer s H E).nox Fm (sl0 N ds) (defBody st) (postN kn)) : FnOk P w K mg base CX0 (k + 1) f fd ps (spN Z) := by
  refine F.ok S (fun vs H Q E h => ?_) (fun cdv A outer s H vs Q E hr h => ?_)
  · obtain ⟨G, ds, kn, e, r, z, _⟩ := h
    rw [r.length]; exact hlen ds kn z
  · obtain ⟨G, ds, kn, e, r, z, h1⟩ := h
    have hl := hlen ds kn z
    exact ⟨_, hb cdv A outer s H E ⟨G, H, none⟩ ds kn hr rfl z, G, sv_start (by omega) e r, ends_N h1⟩
end
/-! ### slots for these -/
section
variable {K : PySem.W.Frag} {F : Fr} {S : List Sl} {G H : Hp} {σ : L2.St} {p : Addr} {o : HO}
theorem getElem_self_set {i : Nat} {sl t : Sl} (h : (S.set i sl)[i]? = some t) : t = sl := by
  have hl := (List.getElem?_eq_some_iff.mp h).1
  rw [List.length_set] at hl
  rw [List.getElem?_set_self hl] at h
  exact (Option.some.inj h).symm
theorem SV.setS {i : Nat} {v : V} {sl : Sl} (sv : SV K F S G σ H) (ok : SlOk K F G H (some (some v)) sl) (hm : sl.mut = true → ∃ p, v = .ref p ∧ NotMut S σ p) (ho : ∀ ds, sl = .own ds → ∀ p, v = .ref p → F.H0 p = none) : SV K F (S.set i sl) G (σ.set i (some v)) H where
  base := sv.base
  gh := sv.gh
  keep := sv.keep
  live := sv.live
  new := sv.new
  slot := fun j t h => by
    by_cases e : i = j
    · subst e
      have hl := (List.getElem?_eq_some_iff.mp h).1
      rw [List.length_set] at hl
      have := getElem_self_set h
      subst this
      rw [List.getElem?_set_self (by rw [← sv.len]; exact hl)]
      exact ok
    · rw [List.getElem?_set_ne e] at h ⊢
      exact sv.slot j t h
  sep := fun a b q ne ha hb => by
    have key : ∀ c, i ≠ c → MutAt (S.set i sl) (σ.set i (some v)) q c → MutAt (S.set i sl) (σ.set i (some v)) q i → False := fun c hc m m' => by
      have m1 := mutAt_set m hc
      obtain ⟨⟨t, h1, h2⟩, e⟩ := m'
      have := getElem_self_set h1
      subst this
      obtain ⟨p, rfl, nm⟩ := hm h2
      have hl := (List.getElem?_eq_some_iff.mp e).1
      rw [List.length_set] at hl
      rw [List.getElem?_set_self hl] at e; cases e
      exact nm c m1
    by_cases ea : i = a
    · subst ea; exact key b ne hb ha
    · by_cases eb : i = b
      · subst eb; exact key a ea ha hb
      · exact sv.sep a b q ne (mutAt_set ha ea) (mutAt_set hb eb)
  own0 := fun a es q h1 h2 => by
    by_cases ea : i = a
    · subst ea
      have := getElem_self_set h1
      have hl := (List.getElem?_eq_some_iff.mp h2).1
      rw [List.length_set] at hl
      rw [List.getElem?_set_self hl] at h2; cases h2
      exact ho es this.symm q rfl
    · rw [List.getElem?_set_ne ea] at h1 h2
      exact sv.own0 a es q h1 h2
  len := by rw [List.length_set, List.length_set]; exact sv.len
  bh := sv.bh
/-- a list at a slot that may be written is written -/
theorem SV.wS {i : Nat} {sl sl' : Sl} {vs' : List V} (sv : SV K F S G σ H) (hs : S[i]? = some sl) (hm : sl.mut = true) (he : σ[i]? = some (some (.ref p))) (h0 : F.H0 p = none) (gp : G p = none) (ok : SlOk K F G (upd H p (.lst vs')) (some (some (.ref p))) sl') : SV K F (S.set i sl') G σ (upd H p (.lst vs')) := by
  have m : MutAt S σ p i := ⟨⟨_, hs, hm⟩, he⟩
  have hl := (List.getElem?_eq_some_iff.mp hs).1
  have back : ∀ {a q}, MutAt (S.set i sl') σ q a → MutAt S σ q a := fun {a q} ha => by
    obtain ⟨⟨t, h1, h2⟩, e⟩ := ha
    by_cases z : i = a
    · subst z; exact ⟨⟨_, hs, hm⟩, e⟩
    · rw [List.getElem?_set_ne z] at h1; exact ⟨⟨t, h1, h2⟩, e⟩
  obtain ⟨ws0, hp0, _⟩ := sv.mutH m
  refine ⟨sv.base, sv.gh.mut gp, fun a o ha q nt => ?_, sv.live_upd hp0, sv.new, fun j t h => ?_, fun a b q ne ha hb => sv.sep a b q ne (back ha) (back hb), fun a es q h1 h2 => ?_, by rw [List.length_set]; exact sv.len, sv.bh⟩
  · by_cases z : a = p
    · subst z
      rw [h0] at q; cases q
    · rw [upd_ne z]; exact sv.keep a o ha q nt
  · by_cases z : i = j
    · subst z
      have := getElem_self_set h
      subst this
      rw [he]; exact ok
    · rw [List.getElem?_set_ne z] at h
      refine (sv.slot j t h).mono (Ex.refl G) fun q hq hmt => ?_
      have mj : MutAt S σ q j := ⟨⟨t, h, hmt⟩, hq⟩
      obtain ⟨_, _, gq⟩ := sv.mutH mj
      have ne : q ≠ p := fun e => sv.sep i j p z m (e ▸ mj)
      exact ⟨gq, upd_ne ne⟩
  · by_cases z : i = a
    · subst z
      rw [he] at h2; cases h2
      exact h0
    · rw [List.getElem?_set_ne z] at h1; exact sv.own0 a es q h1 h2
/-- such a list is taken for good -/
theorem SV.frS {i : Nat} {sl sl' : Sl} {vs : List V} (sv : SV K F S G σ H) (hs : S[i]? = some sl) (hm : sl.mut = true) (he : σ[i]? = some (some (.ref p))) (gp : G p = none) (hp : H p = some (.lst vs)) (h0 : F.H0 p = none) (hm' : sl'.mut = false) (ok : SlOk K F (upd G p (.lst vs)) H (some (some (.ref p))) sl') : SV K F (S.set i sl') (upd G p (.lst vs)) σ H := by
  have m : MutAt S σ p i := ⟨⟨_, hs, hm⟩, he⟩
  have hl := (List.getElem?_eq_some_iff.mp hs).1
  have sub : ∀ {a q}, MutAt (S.set i sl') σ q a → MutAt S σ q a ∧ i ≠ a := fun {a q} ha => by
    obtain ⟨⟨t, h1, h2⟩, e⟩ := ha
    by_cases z : i = a
    · subst z
      have := getElem_self_set h1
      subst this
      rw [hm'] at h2; cases h2
    · rw [List.getElem?_set_ne z] at h1; exact ⟨⟨⟨t, h1, h2⟩, e⟩, z⟩
  refine ⟨sv.base.trans (Ex.upd gp), fun a o h => ?_, sv.keep, sv.live, fun a o h => ?_, fun j t h => ?_, fun a b q ne ha hb => sv.sep a b q ne (sub ha).1 (sub hb).1, fun a es q h1 h2 => ?_, by rw [List.length_set]; exact sv.len, sv.bh⟩
  · by_cases z : a = p
    · subst z; rw [upd_same] at h; cases h; exact hp
    · rw [upd_ne z] at h; exact sv.gh a o h
  · by_cases z : a = p
    · subst z; exact .inr h0
    · rw [upd_ne z] at h; exact sv.new a o h
  · by_cases z : i = j
    · subst z
      have := getElem_self_set h
      subst this
      rw [he]; exact ok
    · rw [List.getElem?_set_ne z] at h
      refine (sv.slot j t h).mono (Ex.upd gp) fun q hq hmt => ?_
      have mj : MutAt S σ q j := ⟨⟨t, h, hmt⟩, hq⟩
      obtain ⟨_, _, gq⟩ := sv.mutH mj
      have ne : q ≠ p := fun e => sv.sep i j p z m (e ▸ mj)
      exact ⟨by rw [upd_ne ne]; exact gq, rfl⟩
  · by_cases z : i = a
    · subst z
      rw [he] at h2; cases h2
      exact h0
    · rw [List.getElem?_set_ne z] at h1; exact sv.own0 a es q h1 h2
end
section
variable {X : Cx} {F : Fr} {S : List Sl} {e a b c : Expr} {rest : List Stmt} {P : Post} {pos : Pos} {ds : List FW.D}
/-- x = e, e such a value -/
theorem ds_setN (i : Nat) {x : Str} {pos' : Pos} (hN : X.N.Nodup) (h : DN X F S e (fun d S' => P.nx (S'.set i (.new d)))) (hi : X.N[i]? = some x := by rfl) (hx : Loc X.env.scope x := by first | exact .inl rfl | exact .inr rfl) (hs : swapsWith e (some (.Name x pos')) pos.line X.env = pure false := by rfl)
    (hf : X.fn x = true ∨ X.env.scope.names.lookup x = some .local := by first | exact .inl rfl | exact .inr rfl) : DS X F S (.Assign [.Name x pos'] e pos) P :=
  ds_mk (ps_set hN hi hx h hs hf) fun D σ H ⟨G, sv, k⟩ => ⟨G, sv, fun d S' G' v H' hp st rr => k.nx _ G' _ H' hp st.g (st.sv.setS (sl := .new d) ⟨v, rfl, rr⟩ (fun z => nomatch z) (fun _ z => nomatch z))⟩
/-- x = e, e a new list whose items' lists are new -/
theorem ds_setON (i : Nat) {x : Str} {pos' : Pos} (hN : X.N.Nodup) (h : DO X F S e (fun ds S' => noLs ds = true ∧ P.nx (S'.set i (.ownN ds)))) (hi : X.N[i]? = some x := by rfl) (hx : Loc X.env.scope x := by first | exact .inl rfl | exact .inr rfl) (hs : swapsWith e (some (.Name x pos')) pos.line X.env = pure false := by rfl)
    (hf : X.fn x = true ∨ X.env.scope.names.lookup x = some .local := by first | exact .inl rfl | exact .inr rfl) : DS X F S (.Assign [.Name x pos'] e pos) P :=
  ds_mk (ps_set hN hi hx h hs hf) fun D σ H ⟨G, sv, k⟩ => ⟨G, sv, fun ds S' G' p vs H' hp st gp hn nm hh rr => k.nx _ G' _ H' hp.2 st.g (st.sv.setS (sl := .ownN ds) ⟨p, vs, rfl, gp, hh, sv.h0 hn, rr.rns hp.1⟩ (fun _ => ⟨p, rfl, nm⟩) (fun _ z => nomatch z))⟩
theorem ds_appendN (i : Nat) {x : Str} {p1 p2 p3 : Pos} (hO : ∃ ds, S[i]? = some (.ownN ds)) (h : DN X F S e (fun d S' => ∃ ds, S'[i]? = some (.ownN ds) ∧ ds.length < sizeLine ∧ P.nx (S'.set i (.ownN (ds ++ [d])))))
    (hN : X.N[i]? = some x := by rfl) (hv : Vis X.env.scope x := by first | exact Or.inl rfl | exact Or.inr (Or.inl rfl) | exact Or.inr (Or.inr rfl))
    (hs1 : starEach (e :: []) X.env = (false, eval e X.env) :: starEach [] X.env := by rfl) (hs : swapsWith (.Call (.Attribute (.Name x p1) "append" p2) [e] [] p3) none pos.line X.env = pure false := by rfl)
    (hd : (x == ("__debug__" : Str)) = false := by decide) (hcd : (x == ("__classdict__" : Str)) = false := by decide)
    (hbase : attributeBase (.Name x p1) "append" X.env (eval (.Name x p1) X.env) = eval (.Name x p1) X.env := by rfl)
    (hfew : ((backTo p3 (starEach (e :: []) X.env)).all (fun x => !x.1) && (backToKw p3 (keywordEach [] X.env)).all (fun x => x.1.isSome)
      && decide ((e :: ([] : List Expr)).length + ([] : List Keyword).length + (if ([] : List Keyword).isEmpty then 0 else 1) < 30)) = true := by rfl)
    (hline : (p2.endLine == p3.line) = true := by rfl) :
    DS X F S (.Expr (.Call (.Attribute (.Name x p1) "append" p2) [e] [] p3) pos) P :=
  ds_mk (ps_expr (pe_bm PySem.F.plainAttrs_list PySem.F.slot_list_append PySem.F.type_list_append mt_append (pe_var hN hv hd hcd) (pa_cons h pa_nil hs1) hbase hfew hline hs1) hs) fun D σ H ⟨G, sv, k⟩ => by
    obtain ⟨ds0, h0⟩ := hO
    obtain ⟨p, vs, ep, gp, hp, hz, rs⟩ := sv.slot i _ h0
    refine ⟨.ref p, ep, .inl ⟨rfl, _, SqL.of hp⟩, G, sv, fun d S' G' v H' ⟨ds, h2, hl, hP⟩ st rr => ?_⟩
    obtain ⟨p', vs', ep', gp', hp', hz', rs'⟩ := st.sv.slot i _ h2
    rw [ep] at ep'; cases ep'
    show rAppend (.ref p) [v] H' fun _ H1 => D.nx σ H1
    exact ⟨p, vs', v, rfl, rfl, hp', by rw [rs'.rps.length]; exact hl, k.nx _ G' σ _ hP st.g (st.sv.wS h2 rfl ep hz' gp' ⟨p, _, rfl, gp', upd_same, hz', rs'.append (.cons rr .nil)⟩)⟩
theorem ep_ixON {d : FW.D} {i : Int} (n : Nat) {x : Str} {p0 : Pos} (hb : Ep X F S b (.int i)) (h : atI ds i = some d) (hO : S[n]? = some (.ownN ds) := by rfl) (hN : X.N[n]? = some x := by rfl)
    (hv : Vis X.env.scope x := by first | exact Or.inl rfl | exact Or.inr (Or.inl rfl) | exact Or.inr (Or.inr rfl)) (hs : PlainIx b := by exact fun _ _ => rfl)
    (hd : (x == ("__debug__" : Str)) = false := by decide) (hcd : (x == ("__classdict__" : Str)) = false := by decide) : Ep X F S (.Subscript (.Name x p0) b pos) d :=
  de_mk (pe_ix ix_list (pe_var hN hv hd hcd) hb hs) fun σ H Q ⟨G, sv, k⟩ => by
    obtain ⟨p, vs, ep, gp, hp, hz, rs⟩ := sv.slot n _ hO
    refine ⟨.ref p, ep, G, sv, fun d2 S2 G2 y H2 ⟨e2, e3⟩ st2 r2 => ?_⟩
    subst e2; subst e3; cases r2
    obtain ⟨p', vs', ep', gp', hp', hz', rs'⟩ := st2.sv.slot n _ hO
    rw [ep] at ep'; cases ep'
    obtain ⟨v, hv, rv⟩ := rs'.rps.atI h
    exact ⟨p, vs', i, v, rfl, rfl, SqL.of hp', hv, k d _ G2 v H2 ⟨rfl, rfl⟩ st2 rv⟩
/-- xs != e of such a list -/
theorem dt_neON (i : Nat) {x : Str} {p1 : Pos} {k : Nat} {PT : Bool → List Sl → Prop} (hr : Room k X.A) {d2 : FW.D} (hO : S[i]? = some (.ownN ds)) (hb : Ep X F S b d2) (h1 : Sh (.list ds)) (h2 : Sh d2) (q : PT (!PyData.eqv (.list ds) d2) S)
    (hN : X.N[i]? = some x := by rfl) (hv : Vis X.env.scope x := by first | exact Or.inl rfl | exact Or.inr (Or.inl rfl) | exact Or.inr (Or.inr rfl)) (hd : (x == ("__debug__" : Str)) = false := by decide) (hcd : (x == ("__classdict__" : Str)) = false := by decide) : DT X F S (.Compare (.Name x p1) [.NotEq] [b] pos) PT :=
  dt_mk (pt_cmpR (op_neD hr.units) (pe_var hN hv hd hcd) hb (nomark b)) fun σ H Q ⟨G, sv, kk⟩ => by
    obtain ⟨p, vs, ep, gp, hp, hz, rs⟩ := sv.slot i _ hO
    refine ⟨.ref p, ep, G, sv, fun d' S' G' v2 H' ⟨ed, eS⟩ st r2 => ?_⟩
    subst ed; subst eS
    obtain ⟨p', vs', ep', gp', hp', hz', rs'⟩ := st.sv.slot i _ hO
    rw [ep] at ep'; cases ep'
    exact ⟨.list ds, d', .lst (SqL.of hp') ((rs'.rps.mono st.sv.gh).dp), (r2.mono st.sv.gh).dp, h1, h2, _, rfl, kk _ S' G' H' q st⟩
theorem db_freezeN (i : Nat) (hs : S[i]? = some (.ownN ds)) (h : DB X F (S.set i (.new (.list ds))) rest P) : DB X F S rest P := db_mk h fun D σ H ⟨G, sv, k⟩ => by
  obtain ⟨p, vs, ep, gp, hp, hz, rs⟩ := sv.slot i _ hs
  exact ⟨_, sv.frS hs rfl ep gp hp hz rfl ⟨.ref p, rfl, .lst hz upd_same (rs.mono (Ex.upd gp) fun _ z => z)⟩, k.mono (Ex.upd gp)⟩
theorem db_freezeO (i : Nat) (hs : S[i]? = some (.own ds)) (hn : noLs ds = true) (h : DB X F (S.set i (.new (.list ds))) rest P) : DB X F S rest P := db_mk h fun D σ H ⟨G, sv, k⟩ => by
  obtain ⟨p, vs, ep, gp, hp, rs⟩ := sv.slot i _ hs
  have hz := sv.own0 i ds p hs ep
  exact ⟨_, sv.frS hs rfl ep gp hp hz rfl ⟨.ref p, rfl, .lst hz upd_same ((rs.mono (Ex.upd gp)).rns hn)⟩, k.mono (Ex.upd gp)⟩
end
/-! ### a part of a body by itself: what stood ahead of it stands behind it, what it made may be changed within -/
def FxL (G : Hp) : List Sl → List Sl → Prop
  | [], S0 => S0 = []
  | .val d :: S, S0 => ∃ v S1, S0 = .fix v :: S1 ∧ Rp G v d ∧ FxL G S S1
  | .new d :: S, S0 => ∃ v S1, S0 = .fix v :: S1 ∧ Rp G v d ∧ FxL G S S1
  | .row :: S, S0 => ∃ v S1, S0 = .fix v :: S1 ∧ FxL G S S1
  | .own _ :: S, S0 => ∃ v S1, S0 = .fix v :: S1 ∧ FxL G S S1
  | .ownN _ :: S, S0 => ∃ v S1, S0 = .fix v :: S1 ∧ FxL G S S1
  | .wild _ :: S, S0 => ∃ v S1, S0 = .fix v :: S1 ∧ FxL G S S1
  | .fix v :: S, S0 => ∃ S1, S0 = .fix v :: S1 ∧ FxL G S S1
  | .hld v _ _ :: S, S0 => ∃ S1, S0 = .fix v :: S1 ∧ FxL G S S1
  | .unk :: S, S0 => ∃ S1, S0 = .unk :: S1 ∧ FxL G S S1
inductive Bck : List Sl → List Sl → List Sl → List Sl → Prop
  | nil : Bck [] [] [] []
  | keep {s : Sl} {v : V} {S S0 S' R : List Sl} : Bck S S0 S' R → Bck (s :: S) (.fix v :: S0) (.fix v :: S') (s :: R)
  | drop {s s0 s' : Sl} {S S0 S' R : List Sl} : Bck S S0 S' R → Bck (s :: S) (s0 :: S0) (s' :: S') (.unk :: R)
theorem Bck.len {S S0 S' R : List Sl} (h : Bck S S0 S' R) : R.length = S.length ∧ S'.length = S.length ∧ S0.length = S.length := by
  induction h with
  | nil => exact ⟨rfl, rfl, rfl⟩
  | keep _ ih => simp only [List.length_cons]; omega
  | drop _ ih => simp only [List.length_cons]; omega
theorem Bck.at {S S0 S' R : List Sl} (h : Bck S S0 S' R) : ∀ (i : Nat) (sl : Sl), R[i]? = some sl → sl = .unk ∨ (S[i]? = some sl ∧ ∃ v, S0[i]? = some (.fix v) ∧ S'[i]? = some (.fix v)) := by
  induction h with
  | nil => intro i sl h; simp at h
  | @keep s v _ _ _ _ _ ih =>
    intro i sl h
    cases i with
    | zero => simp at h; subst h; exact .inr ⟨rfl, v, rfl, rfl⟩
    | succ i => exact ih i sl (by simpa using h)
  | drop _ ih =>
    intro i sl h
    cases i with
    | zero => simp at h; exact .inl h.symm
    | succ i => exact ih i sl (by simpa using h)
section
variable {K : PySem.W.Frag} {F : Fr} {G H : Hp}
theorem fxL_ex : ∀ {S : List Sl} {σ : L2.St}, S.length = σ.length → (∀ (i : Nat) (sl : Sl), S[i]? = some sl → SlOk K F G H σ[i]? sl) → Ex G H → ∃ S0, FxL G S S0 ∧ S0.length = S.length ∧ ∀ (i : Nat) (s0 : Sl), S0[i]? = some s0 → s0 = .unk ∨ ∃ v, s0 = .fix v ∧ σ[i]? = some (some v)
  | [], σ, _, _, _ => ⟨[], rfl, rfl, fun i s0 h => by simp at h⟩
  | s :: S, [], hl, _, _ => by simp at hl
  | s :: S, o :: σ, hl, hs, eg => by
    obtain ⟨S1, f1, l1, a1⟩ := fxL_ex (S := S) (σ := σ) (by simpa using hl) (fun i sl h => by simpa using hs (i + 1) sl (by simpa using h)) eg
    have k0 := hs 0 s rfl
    have fin : ∀ v, o = some v → (∀ (i : Nat) (s0 : Sl), (Sl.fix v :: S1)[i]? = some s0 → s0 = .unk ∨ ∃ v, s0 = .fix v ∧ (o :: σ)[i]? = some (some v)) := fun v ho i s0 h => by
      cases i with
      | zero => simp at h; subst h; exact .inr ⟨v, rfl, by rw [ho]; rfl⟩
      | succ i => simpa using a1 i s0 (by simpa using h)
    cases s with
    | unk =>
      refine ⟨.unk :: S1, ⟨S1, rfl, f1⟩, by simp [l1], fun i s0 h => ?_⟩
      cases i with
      | zero => simp at h; exact .inl h.symm
      | succ i => simpa using a1 i s0 (by simpa using h)
    | val d => obtain ⟨v, e, r⟩ := k0; exact ⟨.fix v :: S1, ⟨v, S1, rfl, r, f1⟩, by simp [l1], fin v (by simpa using e)⟩
    | new d => obtain ⟨v, e, r⟩ := k0; exact ⟨.fix v :: S1, ⟨v, S1, rfl, r.rp, f1⟩, by simp [l1], fin v (by simpa using e)⟩
    | own ds => obtain ⟨p, _, e, _⟩ := k0; exact ⟨.fix (.ref p) :: S1, ⟨_, S1, rfl, f1⟩, by simp [l1], fin _ (by simpa using e)⟩
    | ownN ds => obtain ⟨p, _, e, _⟩ := k0; exact ⟨.fix (.ref p) :: S1, ⟨_, S1, rfl, f1⟩, by simp [l1], fin _ (by simpa using e)⟩
    | wild n => obtain ⟨p, _, e, _⟩ := k0; exact ⟨.fix (.ref p) :: S1, ⟨_, S1, rfl, f1⟩, by simp [l1], fin _ (by simpa using e)⟩
    | row => obtain ⟨p, _, e, _⟩ := k0; exact ⟨.fix (.ref p) :: S1, ⟨_, S1, rfl, f1⟩, by simp [l1], fin _ (by simpa using e)⟩
    | fix v => exact ⟨.fix v :: S1, ⟨S1, rfl, f1⟩, by simp [l1], fin v (by have : some o = some (some v) := k0; simpa using this)⟩
    | hld v a u => exact ⟨.fix v :: S1, ⟨S1, rfl, f1⟩, by simp [l1], fin v (by have : some o = some (some v) := k0.1; simpa using this)⟩
theorem SV.scope {S S0 : List Sl} {σ : L2.St} (sv : SV K F S G σ H) (l0 : S0.length = S.length) (a0 : ∀ (i : Nat) (s0 : Sl), S0[i]? = some s0 → s0 = .unk ∨ ∃ v, s0 = .fix v ∧ σ[i]? = some (some v)) : SV K ⟨G, H, none⟩ S0 G σ H := by
  have no : ∀ {p j}, ¬ MutAt S0 σ p j := fun {p j} ⟨⟨t, h1, h2⟩, _⟩ => by
    rcases a0 j t h1 with rfl | ⟨v, rfl, _⟩ <;> cases h2
  refine ⟨Ex.refl G, sv.gh, fun a o _ h _ => h, ⟨fun r hr => (by cases hr), fun a o h => ⟨o, h⟩, TabG.refl H⟩, fun a o h => .inl h, fun i sl h => ?_, fun i j p _ a _ => no a, fun i es p h _ => ?_, l0.trans sv.len, sv.gh⟩
  · rcases a0 i sl h with rfl | ⟨v, rfl, e⟩
    · trivial
    · exact e
  · rcases a0 i _ h with z | ⟨v, z, _⟩ <;> cases z
theorem SV.unscope {S S0 S' R : List Sl} {G' H' : Hp} {σ σ' : L2.St} (sv : SV K F S G σ H) (a0 : ∀ (i : Nat) (s0 : Sl), S0[i]? = some s0 → s0 = .unk ∨ ∃ v, s0 = .fix v ∧ σ[i]? = some (some v)) (sv' : SV K ⟨G, H, none⟩ S' G' σ' H') (b : Bck S S0 S' R) : SV K F R G σ' H' := by
  have kp : ExT H H' := sv'.kept.ext rfl
  have at_ : ∀ (i : Nat) (sl : Sl), R[i]? = some sl → sl = .unk ∨ (S[i]? = some sl ∧ σ'[i]? = σ[i]?) := fun i sl h => by
    rcases b.at i sl h with z | ⟨h1, v, h2, h3⟩
    · exact .inl z
    · refine .inr ⟨h1, ?_⟩
      have e1 : σ'[i]? = some (some v) := sv'.slot i _ h3
      rcases a0 i _ h2 with z | ⟨v', z, e2⟩
      · cases z
      · cases z
        rw [e1, e2]
  have back : ∀ {p j}, MutAt R σ' p j → MutAt S σ p j := fun {p j} ⟨⟨t, h1, h2⟩, e⟩ => by
    rcases at_ j t h1 with rfl | ⟨h3, h4⟩
    · cases h2
    · exact ⟨⟨t, h3, h2⟩, h4 ▸ e⟩
  have kk := sv.keptX sv'.kept.b kp
  refine ⟨sv.base, sv'.kept.b, kk.k, kk.l, sv.new, fun i sl h => ?_, fun i j p ne ma mb => sv.sep i j p ne (back ma) (back mb), fun i es p h e => ?_, ?_, sv.bh⟩
  · rcases at_ i sl h with rfl | ⟨h1, h2⟩
    · trivial
    · rw [h2]
      refine (sv.slot i sl h1).mono (Ex.refl G) fun p hp hm => ?_
      obtain ⟨vs, hh, g⟩ := sv.mutH ⟨⟨sl, h1, hm⟩, hp⟩
      exact ⟨g, (kp.k p _ hh nt_lst).trans hh.symm⟩
  · rcases at_ i _ h with z | ⟨h1, h2⟩
    · cases z
    · exact sv.own0 i es p h1 (h2 ▸ e)
  · have := b.len
    have h1 := sv'.len
    have h2 := sv.len
    have h3 : σ'.length = S'.length := h1.symm
    omega
end
/-! .. where the ground may go back to what it was at the beginning -/
structure Ends0 (K : PySem.W.Frag) (F : Fr) (P : Post) (D : Ends) : Prop where
  nx : ∀ S' G' σ' H', P.nx S' → SV K F S' G' σ' H' → D.nx σ' H'
  rt : ∀ d S' G' σ' v H', P.rt d S' → SV K F S' G' σ' H' → Rp G' v d → D.rt v H'
  ro : ∀ ds S' G' σ' p vs H', P.ro ds S' → SV K F S' G' σ' H' → G' p = none → F.H0 p = none → H' p = some (.lst vs) → Rps G' vs ds → D.rt (.ref p) H'
  bk : ∀ S' G' σ' H', P.bk S' → SV K F S' G' σ' H' → D.bk σ' H'
  ct : ∀ S' G' σ' H', P.ct S' → SV K F S' G' σ' H' → D.ct σ' H'
  rn : ∀ d S' G' σ' v H', P.rn d S' → SV K F S' G' σ' H' → Rn (fun a => F.H0 a = none) G' v d → D.rt v H'
theorem Ends0.ends {K : PySem.W.Frag} {F : Fr} {P : Post} {D : Ends} {G : Hp} (k : Ends0 K F P D) : Ends' K F P D G :=
  ⟨fun S' G' σ' H' hp _ => k.nx S' G' σ' H' hp, fun d S' G' σ' v H' hp _ => k.rt d S' G' σ' v H' hp, fun ds S' G' σ' p vs H' hp _ => k.ro ds S' G' σ' p vs H' hp, fun S' G' σ' H' hp _ => k.bk S' G' σ' H' hp, fun S' G' σ' H' hp _ => k.ct S' G' σ' H' hp, fun d S' G' σ' v H' hp _ => k.rn d S' G' σ' v H' hp⟩
def rdS0 (K : PySem.W.Frag) (F : Fr) (S : List Sl) (P : Post) : TS := fun D σ H => ∃ G, SV K F S G σ H ∧ Ends0 K F P D
def DS0 (X : Cx) (F : Fr) (S : List Sl) (st : Stmt) (P : Post) : Prop := PS X st (rdS0 X.K F S P)
def DB0 (X : Cx) (F : Fr) (S : List Sl) (sts : List Stmt) (P : Post) : Prop := PSs X sts (rdS0 X.K F S P)
def tSs0 (X : Cx) (F : Fr) (sts : List Stmt) : TS := fun D σ H => ∃ S P, DB0 X F S sts P ∧ rdS0 X.K F S P D σ H
section
variable {X : Cx} {F : Fr} {S S' : List Sl} {P : Post} {body orelse rest : List Stmt} {st : Stmt} {c : Expr} {pos : Pos} {x : Bool}
theorem pss_any0 : PSs X rest (tSs0 X F rest) := ⟨fun pins s σ H D I ⟨_, _, h, r⟩ => PSs.run h pins s σ H D I r⟩
theorem ds0_of (h : DS X F S st P) : DS0 X F S st P := ⟨fun pins s σ H D I ⟨G, sv, k⟩ => PS.run h pins s σ H D I ⟨G, sv, k.ends⟩⟩
theorem db0_of (h : DB X F S rest P) : DB0 X F S rest P := ⟨fun pins s σ H D I ⟨G, sv, k⟩ => PSs.run h pins s σ H D I ⟨G, sv, k.ends⟩⟩
theorem db0_mk {t : TS} (h : PSs X rest t) (k : ∀ D σ H, rdS0 X.K F S P D σ H → t D σ H) : DB0 X F S rest P := ⟨fun pins s σ H D I r => h.run pins s σ H D I (k D σ H r)⟩
theorem ds0_mk {t : TS} (h : PS X st t) (k : ∀ D σ H, rdS0 X.K F S P D σ H → t D σ H) : DS0 X F S st P := ⟨fun pins s σ H D I r => h.run pins s σ H D I (k D σ H r)⟩
theorem db0_nil (h : P.nx S) : DB0 X F S [] P := db0_mk pss_nil fun D σ H ⟨G, sv, k⟩ => k.nx S G σ H h sv
theorem db0_cons (h : DS0 X F S st (P.next fun S1 => DB0 X F S1 rest P)) : DB0 X F S (st :: rest) P :=
  db0_mk (pss_cons h pss_any0) fun D σ H ⟨G, sv, k⟩ => ⟨G, sv, ⟨fun S1 G1 σ1 H1 hp sv1 => ⟨S1, P, hp, G1, sv1, k⟩, k.rt, k.ro, k.bk, k.ct, k.rn⟩⟩
theorem db0_c (h : DS X F S st (P.next fun S1 => DB0 X F S1 rest P)) : DB0 X F S (st :: rest) P := db0_cons (ds0_of h)
theorem ds0_imp {P' : Post} (h : DS0 X F S st P) (k : ∀ S', P.nx S' → P'.nx S') (k1 : ∀ d S', P.rt d S' → P'.rt d S') (k2 : ∀ d S', P.ro d S' → P'.ro d S') (k3 : ∀ S', P.bk S' → P'.bk S') (k4 : ∀ S', P.ct S' → P'.ct S') (k5 : ∀ d S', P.rn d S' → P'.rn d S') : DS0 X F S st P' :=
  ds0_mk h fun D σ H ⟨G, sv, q⟩ => ⟨G, sv, ⟨fun S1 G1 σ1 H1 hp => q.nx S1 G1 σ1 H1 (k _ hp), fun d S1 G1 σ1 v H1 hp => q.rt d S1 G1 σ1 v H1 (k1 _ _ hp), fun d S1 G1 σ1 p vs H1 hp => q.ro d S1 G1 σ1 p vs H1 (k2 _ _ hp), fun S1 G1 σ1 H1 hp => q.bk S1 G1 σ1 H1 (k3 _ hp), fun S1 G1 σ1 H1 hp => q.ct S1 G1 σ1 H1 (k4 _ hp), fun d S1 G1 σ1 v H1 hp => q.rn d S1 G1 σ1 v H1 (k5 _ _ hp)⟩⟩
theorem db0_mid (M : List Sl → Prop) (h1 : DS0 X F S st ⟨M, P.rt, P.ro, P.bk, P.ct, P.rn⟩) (h2 : ∀ S', M S' → DB0 X F S' rest P) : DB0 X F S (st :: rest) P :=
  db0_cons (ds0_imp h1 h2 (fun _ _ h => h) (fun _ _ h => h) (fun _ h => h) (fun _ h => h) (fun _ _ h => h))
theorem db0_weak (w : Wk S S') (h : DB0 X F S' rest P) : DB0 X F S rest P := db0_mk h fun D σ H ⟨G, sv, k⟩ => ⟨G, sv.weak w, k⟩
theorem db0_one (h : DS0 X F S st P) : DB0 X F S [st] P := db0_mk (pss_one h) fun _ _ _ r => r
theorem ds0_if (h : DT X F S c (fun t S' => (t = true → DB0 X F S' body P) ∧ (t = false → DB0 X F S' orelse P))) : DS0 X F S (.If c body orelse pos) P :=
  ds0_mk (ps_if h pss_any0 pss_any0) fun D σ H ⟨G, sv, k⟩ => ⟨G, sv, fun t S' G' H' hp st => by
    cases t with
    | true => exact iteT ⟨S', P, hp.1 rfl, G', st.sv, k⟩
    | false => exact iteF ⟨S', P, hp.2 rfl, G', st.sv, k⟩⟩
theorem ds0_ifP (h : Tp X F S c x) (h1 : x = true → DB0 X F S body P) (h2 : x = false → DB0 X F S orelse P) : DS0 X F S (.If c body orelse pos) P := ds0_if (h.to ⟨h1, h2⟩)
end
section
variable {X : Cx} {F : Fr} {S : List Sl} {P : Post} {blk rest : List Stmt} {st : Stmt}
def postB (S S0 : List Sl) (P : Post) : Post := ⟨fun S' => ∃ R, Bck S S0 S' R ∧ P.nx R, fun _ _ => False, fun _ _ => False, fun _ => False, fun _ => False, fun _ _ => False⟩
theorem db_scope (h : ∀ (F' : Fr) (S0 : List Sl), F'.r = none → FxL F'.B S S0 → DB0 X F' S0 blk (postB S S0 P)) : DB X F S blk P :=
  ⟨fun pins s σ H D I ⟨G, sv, k⟩ => by
    obtain ⟨S0, f0, l0, a0⟩ := fxL_ex sv.len (fun i sl h => sv.slot i sl h) sv.gh
    exact PSs.run (h ⟨G, H, none⟩ S0 rfl f0) pins s σ H D I ⟨G, sv.scope l0 a0, fun S' G' σ' H' ⟨R, b, hp⟩ sv' => k.nx R G σ' H' hp (Ex.refl G) (sv.unscope a0 sv' b), fun _ _ _ _ _ _ h => h.elim, fun _ _ _ _ _ _ _ h => h.elim, fun _ _ _ _ h => h.elim, fun _ _ _ _ h => h.elim, fun _ _ _ _ _ _ h => h.elim⟩⟩
theorem ds_scope (h : ∀ (F' : Fr) (S0 : List Sl), F'.r = none → FxL F'.B S S0 → DS0 X F' S0 st (postB S S0 P)) : DS X F S st P :=
  ⟨fun pins s σ H D I ⟨G, sv, k⟩ => by
    obtain ⟨S0, f0, l0, a0⟩ := fxL_ex sv.len (fun i sl h => sv.slot i sl h) sv.gh
    exact PS.run (h ⟨G, H, none⟩ S0 rfl f0) pins s σ H D I ⟨G, sv.scope l0 a0, fun S' G' σ' H' ⟨R, b, hp⟩ sv' => k.nx R G σ' H' hp (Ex.refl G) (sv.unscope a0 sv' b), fun _ _ _ _ _ _ h => h.elim, fun _ _ _ _ _ _ _ h => h.elim, fun _ _ _ _ h => h.elim, fun _ _ _ _ h => h.elim, fun _ _ _ _ _ _ h => h.elim⟩⟩
end
/-! ### what was told is changed -/
mutual
theorem Rp.keepq {G : Hp} {q : Addr} {ws : List V} {o : HO} (hq : G q = some (.lst ws)) : ∀ {v : V} {d : D}, Rp G v d → noL d = true → Rp (upd G q o) v d
  | _, _, .non, _ => .non
  | _, _, .bl b, _ => .bl b
  | _, _, .int i, _ => .int i
  | _, _, .str x, _ => .str x
  | _, _, .lst _ _, z => by simp [noL] at z
  | _, _, .tup (a := a) h r, z => .tup (by
      rw [upd_ne (fun e => by subst e; rw [hq] at h; cases h)]; exact h) (Rps.keepq hq r (by simpa [noL] using z))
theorem Rps.keepq {G : Hp} {q : Addr} {ws : List V} {o : HO} (hq : G q = some (.lst ws)) : ∀ {vs : List V} {ds : List D}, Rps G vs ds → noLs ds = true → Rps (upd G q o) vs ds
  | _, _, .nil, _ => .nil
  | _, _, .cons a b, z => .cons (Rp.keepq hq a (by simp [noLs] at z; exact z.1)) (Rps.keepq hq b (by simp [noLs] at z; exact z.2))
end
theorem noLs_app {a b : List FW.D} (ha : noLs a = true) (hb : noLs b = true) : noLs (a ++ b) = true := by
  induction a with
  | nil => exact hb
  | cons d a ih =>
    simp only [noLs, Bool.and_eq_true, List.cons_append] at ha ⊢
    exact ⟨ha.1, ih ha.2⟩
theorem noLs_rev : ∀ {a : List FW.D}, noLs a = true → noLs a.reverse = true
  | [], _ => by simp [noLs]
  | d :: a, h => by
    simp only [noLs, Bool.and_eq_true] at h
    rw [List.reverse_cons]
    exact noLs_app (noLs_rev h.2) (by simp [noLs, h.1])
def keepF : Sl → Sl
  | .fix v => .fix v
  | _ => .unk
theorem keepF_get {S : List Sl} {i : Nat} {sl : Sl} (h : (S.map keepF)[i]? = some sl) : sl = .unk ∨ ∃ v, sl = .fix v ∧ S[i]? = some (.fix v) := by
  rw [List.getElem?_map] at h
  cases e : S[i]? with
  | none => rw [e] at h; cases h
  | some t =>
    rw [e] at h
    have h : keepF t = sl := Option.some.inj h
    subst h
    cases t <;> first | exact .inl rfl | exact .inr ⟨_, rfl, rfl⟩
section
variable {K : PySem.W.Frag} {F : Fr} {S : List Sl} {G H H' : Hp} {σ σ' : L2.St} {q : Addr}
theorem SV.chg {i : Nat} {sl : Sl} {vs vs' : List V} (sv : SV K F S G σ H) (hr : F.r = none) (h0 : F.H0 q = none) (hG : G q = some (.lst vs)) (hm : sl.mut = false) (ok : SlOk K F (upd G q (.lst vs')) (upd H q (.lst vs')) σ[i]? sl) : SV K F ((S.map keepF).set i sl) (upd G q (.lst vs')) σ (upd H q (.lst vs')) := by
  have no : ∀ {p j}, ¬ MutAt ((S.map keepF).set i sl) σ p j := fun {p j} ⟨⟨t, h1, h2⟩, _⟩ => by
    by_cases z : i = j
    · subst z
      have := getElem_self_set h1
      subst this
      rw [hm] at h2; cases h2
    · rw [List.getElem?_set_ne z] at h1
      rcases keepF_get h1 with rfl | ⟨v, rfl, _⟩ <;> cases h2
  have hB : F.B q = none := sv.bh.none h0
  refine ⟨sv.base.mut hB, sv.gh.upd2, fun a o ha h nt => ?_, sv.live_upd (sv.gh _ _ hG), fun a o h => ?_, fun j t h => ?_, fun a b p _ ha _ => no ha, fun a es p h _ => ?_, ?_, sv.bh⟩
  · have ne : a ≠ q := fun z => by subst z; rw [h0] at h; cases h
    rw [upd_ne ne]; exact sv.keep a o ha h nt
  · by_cases z : a = q
    · subst z; exact .inr h0
    · rw [upd_ne z] at h; exact sv.new a o h
  · by_cases z : i = j
    · subst z
      have := getElem_self_set h
      subst this
      exact ok
    · rw [List.getElem?_set_ne z] at h
      rcases keepF_get h with rfl | ⟨v, rfl, e⟩
      · trivial
      · exact sv.slot j _ e
  · by_cases z : i = a
    · subst z
      have := getElem_self_set h
      rw [← this] at hm; cases hm
    · rw [List.getElem?_set_ne z] at h
      rcases keepF_get h with z | ⟨v, z, _⟩ <;> cases z
  · rw [List.length_set, List.length_map]; exact sv.len
/-- since H nothing but new lists was written -/
structure Lo (F : Fr) (H H' : Hp) : Prop where
  a : ∀ b o, H b = some o → (∀ xs, o ≠ .lst xs) → H' b = some o
  z : ∀ b o, H b = some o → F.H0 b ≠ none → H' b = some o
theorem Lo.refl (F : Fr) (H : Hp) : Lo F H H := ⟨fun _ _ h _ => h, fun _ _ h _ => h⟩
theorem Lo.upd {q : Addr} {o : HO} (l : Lo F H H') (h0 : F.H0 q = none) (hq : H q = none ∨ ∃ us, H q = some (.lst us)) : Lo F H (L2.upd H' q o) :=
  ⟨fun b u h n => by
    rw [upd_ne (fun z => by
      subst z
      rcases hq with e | ⟨us, e⟩
      · rw [e] at h; cases h
      · rw [e] at h; cases h; exact n _ rfl)]
    exact l.a b u h n, fun b u h n => by rw [upd_ne (fun z => n (by rw [z]; exact h0))]; exact l.z b u h n⟩
/-- back to the ground of the beginning: what is new may be anything -/
theorem SV.bare {R : List Sl} (sv : SV K F S G σ H) (hr : F.r = none) (kp : Lo F H H') (hl : R.length = σ'.length) (hR : ∀ (i : Nat) (sl : Sl), R[i]? = some sl → sl = .unk ∨ ∃ v, sl = .fix v ∧ σ'[i]? = some (some v)) : SV K F R F.B σ' H' := by
  have no : ∀ {p j}, ¬ MutAt R σ' p j := fun {p j} ⟨⟨t, h1, h2⟩, _⟩ => by
    rcases hR j t h1 with rfl | ⟨v, rfl, _⟩ <;> cases h2
  refine ⟨Ex.refl _, fun a o h => kp.z a o (sv.gh a o (sv.base a o h)) (fun z => by rw [sv.bh a o h] at z; cases z), fun a o ha h nt => kp.z a o (sv.keep a o ha h nt) (fun z => by rw [h] at z; cases z),
    ⟨fun r h => (by rw [hr] at h; cases h), fun a o h => by
      obtain ⟨o', h'⟩ := sv.live.2.1 a o h
      exact ⟨o', kp.z a o' h' (fun z => by rw [h] at z; cases z)⟩, sv.live.2.2.trans (TabG.of kp.a)⟩, fun a o h => .inl h, fun j t h => ?_, fun a b p _ ha _ => no ha, fun a es p h _ => ?_, hl, sv.bh⟩
  · rcases hR j t h with rfl | ⟨v, rfl, e⟩
    · trivial
    · exact e
  · rcases hR a _ h with z | ⟨v, z, _⟩ <;> cases z
end
section
variable {X : Cx} {F : Fr} {S : List Sl} {P : Post} {e : Expr} {pos : Pos} {d0 d2 : FW.D} {ds : List FW.D}
theorem rn_pair {N : Addr → Prop} {G : Hp} {v : V} (r : Rn N G v (.tuple [d0, .list ds])) : ∃ p q v0 vs, v = .ref p ∧ G p = some (.tup [v0, .ref q]) ∧ Rn N G v0 d0 ∧ N q ∧ G q = some (.lst vs) ∧ Rns N G vs ds := by
  cases r with
  | tup hp rs =>
    cases rs with
    | cons r0 rs =>
      cases rs with
      | cons r1 rs =>
        cases rs
        cases r1 with
        | lst hn hq rq => exact ⟨_, _, _, _, rfl, hp, r0, hn, hq, rq⟩
/-- x[1].append(e) -/
theorem ds0_apPair (i : Nat) {x : Str} {j : Nat} {p0 p1 p2 p3 pc : Pos} (hF : F.r = none) (h : Ep X F S e d2) (n0 : noL d0 = true) (nd : noLs ds = true) (n2 : noL d2 = true) (hl : ds.length < sizeLine) (k : P.nx ((S.map keepF).set i (.new (.tuple [d0, .list (ds ++ [d2])]))))
    (hS : S[i]? = some (.new (.tuple [d0, .list ds])) := by rfl) (hN : X.N[i]? = some x := by rfl) (hv : Vis X.env.scope x := by first | exact Or.inl rfl | exact Or.inr (Or.inl rfl) | exact Or.inr (Or.inr rfl))
    (hs1 : starEach (e :: []) X.env = (false, eval e X.env) :: starEach [] X.env := by rfl) (hs : swapsWith (.Call (.Attribute (.Subscript (.Name x p0) (.Constant (.int 1) j pc) p1) "append" p2) [e] [] p3) none pos.line X.env = pure false := by rfl)
    (hd : (x == ("__debug__" : Str)) = false := by decide) (hcd : (x == ("__classdict__" : Str)) = false := by decide) (hix : PlainIx (.Constant (.int 1) j pc) := by exact fun _ _ => rfl)
    (hbase : attributeBase (.Subscript (.Name x p0) (.Constant (.int 1) j pc) p1) "append" X.env (eval (.Subscript (.Name x p0) (.Constant (.int 1) j pc) p1) X.env) = eval (.Subscript (.Name x p0) (.Constant (.int 1) j pc) p1) X.env := by rfl)
    (hfew : ((backTo p3 (starEach (e :: []) X.env)).all (fun x => !x.1) && (backToKw p3 (keywordEach [] X.env)).all (fun x => x.1.isSome)
      && decide ((e :: ([] : List Expr)).length + ([] : List Keyword).length + (if ([] : List Keyword).isEmpty then 0 else 1) < 30)) = true := by rfl)
    (hline : (p2.endLine == p3.line) = true := by rfl) :
    DS0 X F S (.Expr (.Call (.Attribute (.Subscript (.Name x p0) (.Constant (.int 1) j pc) p1) "append" p2) [e] [] p3) pos) P :=
  ds0_mk (ps_expr (pe_bm PySem.F.plainAttrs_list PySem.F.slot_list_append PySem.F.type_list_append mt_append (pe_ix ix_seq (pe_var hN hv hd hcd) pe_int hix) (pa_cons h pa_nil hs1) hbase hfew hline hs1) hs) fun D σ H ⟨G, sv, kk⟩ => by
    obtain ⟨v, ev, rv⟩ := sv.slot i _ hS
    obtain ⟨p, q, v0, vs, rfl, hp, r0, hn, hq, rq⟩ := rn_pair rv
    refine ⟨.ref p, ev, .inr (.inl ⟨p, _, 1, .ref q, rfl, rfl, SqT.of (sv.gh _ _ hp), atI_nat (j := 1) rfl, .inl ⟨rfl, _, SqL.of (sv.gh _ _ hq)⟩, G, sv, fun d' S' G' v2 H' ⟨ed, eS⟩ st r2 => ?_⟩)⟩
    subst ed; subst eS
    have hp' := st.g _ _ hp
    have hq' := st.g _ _ hq
    have ne : p ≠ q := fun z => by subst z; rw [hp] at hq; cases hq
    show rAppend (.ref q) [v2] H' fun _ H1 => D.nx σ H1
    refine ⟨q, vs, v2, rfl, rfl, st.sv.gh _ _ hq', by rw [rq.rps.length]; exact hl, kk.nx _ (upd G' q (.lst (vs ++ [v2]))) σ _ k (st.sv.chg hF hn hq' rfl ⟨.ref p, ev, ?_⟩)⟩
    refine .tup (xs := [v0, .ref q]) (by rw [upd_ne ne]; exact hp') (.cons (Rp.rn (Rp.keepq hq' (r0.rp.mono st.g) n0) n0) (.cons (.lst hn upd_same ?_) .nil))
    exact (((rq.rps.mono st.g).keepq hq' nd).rns nd).append (.cons ((r2.keepq hq' n2).rn n2) .nil)
/-- x[1].reverse() -/
theorem ds0_revPair (i : Nat) {x : Str} {j : Nat} {p0 p1 p2 p3 pc : Pos} (hF : F.r = none) (n0 : noL d0 = true) (nd : noLs ds = true) (k : P.nx ((S.map keepF).set i (.new (.tuple [d0, .list ds.reverse]))))
    (hS : S[i]? = some (.new (.tuple [d0, .list ds])) := by rfl) (hN : X.N[i]? = some x := by rfl) (hv : Vis X.env.scope x := by first | exact Or.inl rfl | exact Or.inr (Or.inl rfl) | exact Or.inr (Or.inr rfl))
    (hs : swapsWith (.Call (.Attribute (.Subscript (.Name x p0) (.Constant (.int 1) j pc) p1) "reverse" p2) [] [] p3) none pos.line X.env = pure false := by rfl)
    (hd : (x == ("__debug__" : Str)) = false := by decide) (hcd : (x == ("__classdict__" : Str)) = false := by decide) (hix : PlainIx (.Constant (.int 1) j pc) := by exact fun _ _ => rfl)
    (hbase : attributeBase (.Subscript (.Name x p0) (.Constant (.int 1) j pc) p1) "reverse" X.env (eval (.Subscript (.Name x p0) (.Constant (.int 1) j pc) p1) X.env) = eval (.Subscript (.Name x p0) (.Constant (.int 1) j pc) p1) X.env := by rfl) (hline : (p2.endLine == p3.line) = true := by rfl) :
    DS0 X F S (.Expr (.Call (.Attribute (.Subscript (.Name x p0) (.Constant (.int 1) j pc) p1) "reverse" p2) [] [] p3) pos) P :=
  ds0_mk (ps_expr (pe_bm0 PySem.F.plainAttrs_list PySem.F.slot_list_reverse PySem.F.type_list_reverse mt_reverse (pe_ix ix_seq (pe_var hN hv hd hcd) pe_int hix) hbase hline) hs) fun D σ H ⟨G, sv, kk⟩ => by
    obtain ⟨v, ev, rv⟩ := sv.slot i _ hS
    obtain ⟨p, q, v0, vs, rfl, hp, r0, hn, hq, rq⟩ := rn_pair rv
    have ne : p ≠ q := fun z => by subst z; rw [hp] at hq; cases hq
    refine ⟨.ref p, ev, .inr (.inl ⟨p, _, 1, .ref q, rfl, rfl, SqT.of (sv.gh _ _ hp), atI_nat (j := 1) rfl, .inl ⟨rfl, _, SqL.of (sv.gh _ _ hq)⟩, q, vs, rfl, rfl, sv.gh _ _ hq, kk.nx _ (upd G q (.lst vs.reverse)) σ _ k (sv.chg hF hn hq rfl ⟨.ref p, ev, ?_⟩)⟩)⟩
    refine .tup (xs := [v0, .ref q]) (by rw [upd_ne ne]; exact hp) (.cons (Rp.rn (Rp.keepq hq r0.rp n0) n0) (.cons (.lst hn upd_same ?_) .nil))
    exact ((rq.rps.keepq hq nd).reverse).rns (noLs_rev nd)
end
end FW

namespace FW
open PySem PySem.Spec PyProof.Rows L2
variable [Tb]
/-! ### lists within a list are changed, each by itself -/
/-- no list -/
def NL (H : Hp) (u : V) : Prop := u = .non ∨ (∃ b, u = .bl b) ∨ (∃ i, u = .int i) ∨ (∃ x, u = .str x) ∨ ∃ a xs, u = .ref a ∧ H a = some (.tup xs)
theorem NL.upd {H : Hp} {u : V} {q : Addr} {ws : List V} {o : HO} (h : NL H u) (hq : H q = some (.lst ws)) : NL (L2.upd H q o) u := by
  rcases h with h | h | h | h | ⟨a, xs, e, h⟩
  · exact .inl h
  · exact .inr (.inl h)
  · exact .inr (.inr (.inl h))
  · exact .inr (.inr (.inr (.inl h)))
  · exact .inr (.inr (.inr (.inr ⟨a, xs, e, by rw [upd_ne (fun z => by subst z; rw [hq] at h; cases h)]; exact h⟩)))
/-- a list's item: a new list of things that are none, or no list -/
def ItW (B : Prop) (F : Fr) (H : Hp) (p : Addr) (M : Nat) (u : V) : Prop := (∃ q ws, u = .ref q ∧ q ≠ p ∧ F.H0 q = none ∧ H q = some (.lst ws) ∧ ws.length ≤ M) ∨ (B ∧ NL H u)
/-- data whose lists may be changed within -/
def InL (B : Prop) (M : Nat) (d : FW.D) : Prop := (B ∧ noL d = true) ∨ ∃ es, d = .list es ∧ noLs es = true ∧ es.length ≤ M
theorem rn_get {N : Addr → Prop} {G : Hp} : ∀ {vs : List V} {ds : List FW.D} {u : V}, Rns N G vs ds → u ∈ vs → ∃ d ∈ ds, Rn N G u d
  | _, _, _, .nil, h => nomatch h
  | _, _, u, .cons (d := d) r t, h => by
    rcases List.mem_cons.mp h with rfl | h
    · exact ⟨d, List.mem_cons_self, r⟩
    · obtain ⟨d', hd, r'⟩ := rn_get t h
      exact ⟨d', List.mem_cons_of_mem _ hd, r'⟩
theorem noLs_mem : ∀ {ds : List FW.D} {d : FW.D}, noLs ds = true → d ∈ ds → noL d = true
  | [], _, _, h => nomatch h
  | e :: ds, d, hn, h => by
    simp only [noLs, Bool.and_eq_true] at hn
    rcases List.mem_cons.mp h with rfl | h
    · exact hn.1
    · exact noLs_mem hn.2 h
theorem itW_start {B : Prop} {F : Fr} {G H : Hp} {p : Addr} {us : List V} {ds : List FW.D} {M : Nat} (gh : Ex G H) (hp : G p = some (.lst us)) (r : Rns (Nw F) G us ds) (hd : ∀ d ∈ ds, InL B M d) : ∀ u ∈ us, ItW B F H p M u := fun u hu => by
  obtain ⟨d, hm, rd⟩ := rn_get r hu
  have isB : (∀ es, d ≠ .list es) → B := fun hne => by
    rcases hd d hm with ⟨z, _⟩ | ⟨es, e, _⟩
    · exact z
    · exact absurd e (hne es)
  cases rd with
  | non => exact .inr ⟨isB (fun es z => by cases z), .inl rfl⟩
  | bl b => exact .inr ⟨isB (fun es z => by cases z), .inr (.inl ⟨b, rfl⟩)⟩
  | int i => exact .inr ⟨isB (fun es z => by cases z), .inr (.inr (.inl ⟨i, rfl⟩))⟩
  | str x => exact .inr ⟨isB (fun es z => by cases z), .inr (.inr (.inr (.inl ⟨x, rfl⟩)))⟩
  | tup h _ => exact .inr ⟨isB (fun es z => by cases z), .inr (.inr (.inr (.inr ⟨_, _, rfl, gh _ _ h⟩)))⟩
  | lst hn hq rq =>
    rename_i q ws es
    refine .inl ⟨q, ws, rfl, fun z => ?_, hn, gh _ _ hq, ?_⟩
    · subst z
      rw [hp] at hq; cases hq
      obtain ⟨d', hd', rd'⟩ := rn_get rq hu
      rcases hd _ hm with ⟨_, z⟩ | ⟨es', e, z, _⟩
      · simp [noL] at z
      · cases e
        have hn' := noLs_mem z hd'
        cases rd' with
        | lst _ _ _ => simp [noL] at hn'
        | tup h _ => rw [hp] at h; cases h
    · rcases hd _ hm with ⟨_, z⟩ | ⟨es', e, _, z⟩
      · simp [noL] at z
      · cases e
        rw [rq.rps.length]; exact z
/-- a body that changes its item, a list, or leaves it, none -/
structure WBody (B : Prop) (F : Fr) (j : Nat) (tb : TS) (c : Nat) : Prop where
  l : ∀ (q : Addr) (ws : List V) (σ : L2.St) (H : Hp) (D : Ends), σ[j]? = some (some (.ref q)) → H q = some (.lst ws) → ws.length + 100 ≤ sizeLine → (∀ ws' : List V, ws'.length ≤ ws.length + c → D.nx σ (upd H q (.lst ws'))) → tb D σ H
  n : B → ∀ (u : V) (σ : L2.St) (H : Hp) (D : Ends), σ[j]? = some (some u) → NL H u → D.nx σ H → tb D σ H
theorem set_self {σ : L2.St} {i : Nat} {v : Option V} (h : σ[i]? = some v) : σ.set i v = σ := by
  refine List.ext_getElem? fun k => ?_
  by_cases e : i = k
  · subst e
    rw [List.getElem?_set_self (List.getElem?_eq_some_iff.mp h).1, h]
  · rw [List.getElem?_set_ne e]
section
variable {X : Cx} {F : Fr} {S : List Sl} {P : Post} {pos : Pos} {ds : List FW.D}
theorem ds0_wildFor {B : Prop} (i j : Nat) {x y : Str} {px py : Pos} {body : List Stmt} {tb : TS} (hp : PassesOwn (model X.prog X.w) X.A X.env X.xe) (hc : X.calm = true) (hN : X.N.Nodup) (hF : F.r = none) (hb : PSs X body tb) (wb : WBody B F j tb 10) (hij : i ≠ j)
    (hd : ∀ d ∈ ds, InL B 1000000 d) (hl : ds.length ≤ 1000) (k : P.nx ((((S.map keepF).set i .unk).set j .unk).set i (.wild 1000))) (hS : S[i]? = some (.new (.list ds)) := by rfl) (hjl : Nat.ble (j + 1) S.length = true := by rfl) (hi : X.N[i]? = some x := by rfl) (hv : Vis X.env.scope x := by first | exact Or.inl rfl | exact Or.inr (Or.inl rfl) | exact Or.inr (Or.inr rfl)) (hj : X.N[j]? = some y := by rfl) (hy : Loc X.env.scope y := by first | exact .inl rfl | exact .inr rfl)
    (hf : X.fn y = true ∨ X.env.scope.names.lookup y = some .local := by first | exact .inl rfl | exact .inr rfl) (hd1 : (x == ("__debug__" : Str)) = false := by decide) (hcd : (x == ("__classdict__" : Str)) = false := by decide) (hs : ∀ v, foldedSetIterable (.Name x px) X.env v = pure v := by intro _; rfl) :
    DS0 X F S (.For (.Name y py) (.Name x px) body [] pos) P :=
  ds0_mk (ps_for hp hc (pi_list (pe_var hi hv hd1 hcd)) (pg_name hN hj hy hf) hb hs) fun D σ H ⟨G, sv, kk⟩ => by
    obtain ⟨v, ev, rv⟩ := sv.slot i _ hS
    cases rv with
    | lst hn hp0 rs =>
    rename_i p us
    have hpH := sv.gh _ _ hp0
    have lus : us.length = ds.length := rs.rps.length
    refine ⟨.ref p, ev, p, rfl, ⟨us, SqL.of hpH⟩, fun a m σ' H' => a + m = us.length ∧ H' p = some (.lst us) ∧ Lo F H H' ∧ (∀ l, l ≠ j → σ'[l]? = σ[l]?) ∧ σ'.length = σ.length ∧ ∀ u ∈ us, ItW B F H' p (1000000 + 10 * a) u, ⟨us.length, by omega, hpH, Lo.refl F H, fun l _ => rfl, rfl, itW_start sv.gh hp0 rs hd⟩, ?_⟩
    rintro a m σ' H' ⟨em, hp1, kp, f1, l1, iw⟩
    by_cases ha : a < us.length
    · refine .inr ⟨⟨us, us[a], SqL.of hp1, List.getElem?_eq_getElem ha⟩, fun σ2 H2 => ∃ m', m' < m ∧ (a + 1 + m' = us.length ∧ H2 p = some (.lst us) ∧ Lo F H H2 ∧ (∀ l, l ≠ j → σ2[l]? = σ[l]?) ∧ σ2.length = σ.length ∧ ∀ u ∈ us, ItW B F H2 p (1000000 + 10 * (a + 1)) u), fun σ2 H2 q => q, fun x1 H2 ⟨e2, hx⟩ => ?_⟩
      subst e2
      have hx1 : x1 = us[a] := by
        have := hx us (SqL.of hp1)
        rw [List.getElem?_eq_getElem ha] at this
        exact (Option.some.inj this).symm
      have hm : x1 ∈ us := by rw [hx1]; exact List.getElem_mem ha
      show tb _ (σ'.set j (some x1)) H2
      have hlj : j < σ'.length := by
        rw [l1, ← sv.len]
        exact Nat.le_of_ble_eq_true hjl
      have hsj : (σ'.set j (some x1))[j]? = some (some x1) := List.getElem?_set_self hlj
      have fr : ∀ l, l ≠ j → (σ'.set j (some x1))[l]? = σ[l]? := fun l hl => by rw [List.getElem?_set_ne (fun z => hl z.symm)]; exact f1 l hl
      have grow : ∀ {u : V} {H3 : Hp}, ItW B F H3 p (1000000 + 10 * a) u → ItW B F H3 p (1000000 + 10 * (a + 1)) u := fun {u H3} h => by
        rcases h with ⟨q, ws, h1, h2, h3, h4, h5⟩ | h
        · exact .inl ⟨q, ws, h1, h2, h3, h4, by omega⟩
        · exact .inr h
      rcases iw x1 hm with ⟨q, ws, e1, ne, h0, hq, hw⟩ | ⟨hB, hnl⟩
      · subst e1
        refine wb.l q ws _ _ _ hsj hq (by have := sizeLine_eq; omega) fun ws' hw' => ⟨m - 1, by omega, by omega, by rw [upd_ne (fun z => ne z.symm)]; exact hp1, kp.upd h0 ?_, fr, by rw [List.length_set]; exact l1, fun u hu => ?_⟩
        · rcases itW_start (B := B) sv.gh hp0 rs hd _ hm with ⟨q3, ws3, e3, _, _, h3, _⟩ | ⟨_, h3⟩
          · cases e3; exact .inr ⟨_, h3⟩
          · rcases h3 with h3 | ⟨_, h3⟩ | ⟨_, h3⟩ | ⟨_, h3⟩ | ⟨a3, xs3, e3, h3⟩
            · cases h3
            · cases h3
            · cases h3
            · cases h3
            · cases e3
              have := kp.a q _ h3 (fun xs z => by cases z)
              rw [hq] at this; cases this
        · rcases iw u hu with ⟨q2, ws2, e3, ne2, h02, hq2, hw2⟩ | h
          · by_cases z : q2 = q
            · subst z
              exact .inl ⟨q2, ws', e3, ne, h0, upd_same, by omega⟩
            · exact .inl ⟨q2, ws2, e3, ne2, h02, by rw [upd_ne z]; exact hq2, by omega⟩
          · exact .inr ⟨h.1, h.2.upd hq⟩
      · exact wb.n hB x1 _ _ _ hsj hnl ⟨m - 1, by omega, by omega, hp1, kp, fr, by rw [List.length_set]; exact l1, fun u hu => grow (iw u hu)⟩
    · have ea : a = us.length := by omega
      subst ea
      refine .inl ⟨⟨us, SqL.of hp1, Nat.le_refl _⟩, kk.nx _ F.B σ' H' k ?_⟩
      have e1 : σ'[i]? = some (some (.ref p)) := (f1 i hij).trans ev
      have hR : ∀ (l : Nat) (sl : Sl), (((S.map keepF).set i .unk).set j .unk)[l]? = some sl → sl = .unk ∨ ∃ v, sl = .fix v ∧ σ'[l]? = some (some v) := fun l sl h => by
        by_cases z : j = l
        · subst z; exact .inl (getElem_self_set h)
        · rw [List.getElem?_set_ne z] at h
          by_cases z2 : i = l
          · subst z2; exact .inl (getElem_self_set h)
          · rw [List.getElem?_set_ne z2] at h
            rcases keepF_get h with e | ⟨v, e, hv⟩
            · exact .inl e
            · exact .inr ⟨v, e, (f1 l (fun w => z w.symm)).trans (sv.slot l _ hv)⟩
      have b0 : SV X.K F (((S.map keepF).set i .unk).set j .unk) F.B σ' H' := sv.bare hF kp (by rw [List.length_set, List.length_set, List.length_map, l1]; exact sv.len) hR
      have b1 := b0.setS (i := i) (v := .ref p) (sl := .wild 1000) ⟨p, us, rfl, sv.bh.none hn, hp1, hn, by omega⟩ (fun _ => ⟨p, rfl, fun l m => by
        obtain ⟨⟨t, h1, h2⟩, _⟩ := m
        rcases hR l t h1 with rfl | ⟨v, rfl, _⟩ <;> cases h2⟩) (fun _ z => nomatch z)
      rw [set_self e1] at b1
      exact b1
/-- for x in xs: x.append(c) -/
theorem wbody_append (j : Nat) {y : Str} {p1 p2 p3 pe pos2 : Pos} {c : Int} {jj} (hj : X.N[j]? = some y := by rfl) (hv : Vis X.env.scope y := by first | exact Or.inl rfl | exact Or.inr (Or.inl rfl) | exact Or.inr (Or.inr rfl)) (hd1 : (y == ("__debug__" : Str)) = false := by decide) (hcd : (y == ("__classdict__" : Str)) = false := by decide)
    (hs1 : starEach (.Constant (.int c) jj pe :: []) X.env = (false, eval (.Constant (.int c) jj pe) X.env) :: starEach [] X.env := by rfl) (hs : swapsWith (.Call (.Attribute (.Name y p1) "append" p2) [.Constant (.int c) jj pe] [] p3) none pos2.line X.env = pure false := by rfl)
    (hbase : attributeBase (.Name y p1) "append" X.env (eval (.Name y p1) X.env) = eval (.Name y p1) X.env := by rfl)
    (hfew : ((backTo p3 (starEach (.Constant (.int c) jj pe :: []) X.env)).all (fun x => !x.1) && (backToKw p3 (keywordEach [] X.env)).all (fun x => x.1.isSome)
      && decide (((.Constant (.int c) jj pe) :: ([] : List Expr)).length + ([] : List Keyword).length + (if ([] : List Keyword).isEmpty then 0 else 1) < 30)) = true := by rfl)
    (hline : (p2.endLine == p3.line) = true := by rfl) : ∃ tb : TS, PS X (.Expr (.Call (.Attribute (.Name y p1) "append" p2) [.Constant (.int c) jj pe] [] p3) pos2) tb ∧
      ∀ (q : Addr) (ws : List V) (σ : L2.St) (H : Hp) (D : Ends), σ[j]? = some (some (.ref q)) → H q = some (.lst ws) → ws.length + 1 ≤ sizeLine → D.nx σ (upd H q (.lst (ws ++ [.int c]))) → tb D σ H :=
  ⟨_, ps_expr (pe_bm PySem.F.plainAttrs_list PySem.F.slot_list_append PySem.F.type_list_append mt_append (pe_var hj hv hd1 hcd) (pa_cons pe_int pa_nil hs1) hbase hfew hline hs1) hs, fun q ws σ H D e hq hl hk =>
    ⟨.ref q, e, .inl ⟨rfl, _, SqL.of hq⟩, q, ws, .int c, rfl, rfl, hq, hl, hk⟩⟩
/-- xs.reverse() -/
theorem ps_rev (j : Nat) {y : Str} {p1 p2 p3 pos2 : Pos} (hj : X.N[j]? = some y := by rfl) (hv : Vis X.env.scope y := by first | exact Or.inl rfl | exact Or.inr (Or.inl rfl) | exact Or.inr (Or.inr rfl)) (hd1 : (y == ("__debug__" : Str)) = false := by decide) (hcd : (y == ("__classdict__" : Str)) = false := by decide)
    (hs : swapsWith (.Call (.Attribute (.Name y p1) "reverse" p2) [] [] p3) none pos2.line X.env = pure false := by rfl)
    (hbase : attributeBase (.Name y p1) "reverse" X.env (eval (.Name y p1) X.env) = eval (.Name y p1) X.env := by rfl) (hline : (p2.endLine == p3.line) = true := by rfl) : ∃ tb : TS, PS X (.Expr (.Call (.Attribute (.Name y p1) "reverse" p2) [] [] p3) pos2) tb ∧
      ∀ (q : Addr) (ws : List V) (σ : L2.St) (H : Hp) (D : Ends), σ[j]? = some (some (.ref q)) → H q = some (.lst ws) → D.nx σ (upd H q (.lst ws.reverse)) → tb D σ H :=
  ⟨_, ps_expr (pe_bm0 PySem.F.plainAttrs_list PySem.F.slot_list_reverse PySem.F.type_list_reverse mt_reverse (pe_var hj hv hd1 hcd) hbase hline) hs, fun q ws σ H D e hq hk =>
    ⟨.ref q, e, .inl ⟨rfl, _, SqL.of hq⟩, q, ws, rfl, rfl, hq, hk⟩⟩
/-- for x in xs: x.append(c), all items lists -/
theorem ds0_wild8 (i j : Nat) {x y : Str} {px py p1 p2 p3 pe pos2 : Pos} {c : Int} {jj} (hp : PassesOwn (model X.prog X.w) X.A X.env X.xe) (hc : X.calm = true) (hN : X.N.Nodup) (hF : F.r = none) (hij : i ≠ j)
    (hd : ∀ d ∈ ds, ∃ es, d = .list es ∧ noLs es = true ∧ es.length ≤ 1000) (hl : ds.length ≤ 1000) (k : P.nx ((((S.map keepF).set i .unk).set j .unk).set i (.wild 1000))) (hS : S[i]? = some (.new (.list ds)) := by rfl) (hjl : Nat.ble (j + 1) S.length = true := by rfl) (hi : X.N[i]? = some x := by rfl) (hv : Vis X.env.scope x := by first | exact Or.inl rfl | exact Or.inr (Or.inl rfl) | exact Or.inr (Or.inr rfl)) (hj : X.N[j]? = some y := by rfl) (hy : Loc X.env.scope y := by first | exact .inl rfl | exact .inr rfl)
    (hvy : Vis X.env.scope y := by first | exact Or.inl rfl | exact Or.inr (Or.inl rfl) | exact Or.inr (Or.inr rfl)) (hf : X.fn y = true ∨ X.env.scope.names.lookup y = some .local := by first | exact .inl rfl | exact .inr rfl) (hd1 : (x == ("__debug__" : Str)) = false := by decide) (hcd : (x == ("__classdict__" : Str)) = false := by decide) (hs : ∀ v, foldedSetIterable (.Name x px) X.env v = pure v := by intro _; rfl)
    (hdy : (y == ("__debug__" : Str)) = false := by decide) (hcy : (y == ("__classdict__" : Str)) = false := by decide)
    (hs1 : starEach (.Constant (.int c) jj pe :: []) X.env = (false, eval (.Constant (.int c) jj pe) X.env) :: starEach [] X.env := by rfl) (hs2 : swapsWith (.Call (.Attribute (.Name y p1) "append" p2) [.Constant (.int c) jj pe] [] p3) none pos2.line X.env = pure false := by rfl)
    (hbase : attributeBase (.Name y p1) "append" X.env (eval (.Name y p1) X.env) = eval (.Name y p1) X.env := by rfl)
    (hfew : ((backTo p3 (starEach (.Constant (.int c) jj pe :: []) X.env)).all (fun x => !x.1) && (backToKw p3 (keywordEach [] X.env)).all (fun x => x.1.isSome)
      && decide (((.Constant (.int c) jj pe) :: ([] : List Expr)).length + ([] : List Keyword).length + (if ([] : List Keyword).isEmpty then 0 else 1) < 30)) = true := by rfl)
    (hline : (p2.endLine == p3.line) = true := by rfl) : DS0 X F S (.For (.Name y py) (.Name x px) [.Expr (.Call (.Attribute (.Name y p1) "append" p2) [.Constant (.int c) jj pe] [] p3) pos2] [] pos) P := by
  obtain ⟨tb, h1, h2⟩ := wbody_append (X := X) j (y := y) (p1 := p1) (p2 := p2) (p3 := p3) (pe := pe) (pos2 := pos2) (c := c) (jj := jj) hj hvy hdy hcy hs1 hs2 hbase hfew hline
  exact ds0_wildFor (B := False) i j hp hc hN hF (pss_one h1) ⟨fun q ws σ H D e hq hl hk => h2 q ws σ H D e hq (by omega) (hk _ (by rw [List.length_append]; show ws.length + 1 ≤ _; omega)), fun z => z.elim⟩ hij (fun d h => by
    obtain ⟨es, e, h3, h4⟩ := hd d h
    exact .inr ⟨es, e, h3, by omega⟩) hl k hS hjl hi hv hj hy hf hd1 hcd hs
/-- .. on one's own list of any kind -/
theorem ds0_revWild (i : Nat) {n : Nat} {x : Str} {p1 p2 p3 : Pos} (k : P.nx (S.set i (.wild n))) (hS : S[i]? = some (.wild n) := by rfl) (hN : X.N[i]? = some x := by rfl) (hv : Vis X.env.scope x := by first | exact Or.inl rfl | exact Or.inr (Or.inl rfl) | exact Or.inr (Or.inr rfl))
    (hs : swapsWith (.Call (.Attribute (.Name x p1) "reverse" p2) [] [] p3) none pos.line X.env = pure false := by rfl) (hd : (x == ("__debug__" : Str)) = false := by decide) (hcd : (x == ("__classdict__" : Str)) = false := by decide)
    (hbase : attributeBase (.Name x p1) "reverse" X.env (eval (.Name x p1) X.env) = eval (.Name x p1) X.env := by rfl) (hline : (p2.endLine == p3.line) = true := by rfl) : DS0 X F S (.Expr (.Call (.Attribute (.Name x p1) "reverse" p2) [] [] p3) pos) P :=
  ds0_mk (ps_expr (pe_bm0 PySem.F.plainAttrs_list PySem.F.slot_list_reverse PySem.F.type_list_reverse mt_reverse (pe_var hN hv hd hcd) hbase hline) hs) fun D σ H ⟨G, sv, kk⟩ => by
    obtain ⟨p, us, ep, gp, hp, h0, hl⟩ := sv.slot i _ hS
    exact ⟨.ref p, ep, .inl ⟨rfl, _, SqL.of hp⟩, p, us, rfl, rfl, hp, kk.nx _ G σ _ k (sv.wS hS rfl ep h0 gp ⟨p, _, rfl, gp, upd_same, h0, by rw [List.length_reverse]; exact hl⟩)⟩
theorem ds0_apWild (i : Nat) {n : Nat} {x : Str} {c : Int} {jj} {p1 p2 p3 pe : Pos} (hn : n < sizeLine) (k : P.nx (S.set i (.wild (n + 1)))) (hS : S[i]? = some (.wild n) := by rfl) (hN : X.N[i]? = some x := by rfl) (hv : Vis X.env.scope x := by first | exact Or.inl rfl | exact Or.inr (Or.inl rfl) | exact Or.inr (Or.inr rfl))
    (hs1 : starEach (.Constant (.int c) jj pe :: []) X.env = (false, eval (.Constant (.int c) jj pe) X.env) :: starEach [] X.env := by rfl) (hs : swapsWith (.Call (.Attribute (.Name x p1) "append" p2) [.Constant (.int c) jj pe] [] p3) none pos.line X.env = pure false := by rfl)
    (hd : (x == ("__debug__" : Str)) = false := by decide) (hcd : (x == ("__classdict__" : Str)) = false := by decide)
    (hbase : attributeBase (.Name x p1) "append" X.env (eval (.Name x p1) X.env) = eval (.Name x p1) X.env := by rfl)
    (hfew : ((backTo p3 (starEach (.Constant (.int c) jj pe :: []) X.env)).all (fun x => !x.1) && (backToKw p3 (keywordEach [] X.env)).all (fun x => x.1.isSome)
      && decide (((.Constant (.int c) jj pe) :: ([] : List Expr)).length + ([] : List Keyword).length + (if ([] : List Keyword).isEmpty then 0 else 1) < 30)) = true := by rfl)
    (hline : (p2.endLine == p3.line) = true := by rfl) : DS0 X F S (.Expr (.Call (.Attribute (.Name x p1) "append" p2) [.Constant (.int c) jj pe] [] p3) pos) P :=
  ds0_mk (ps_expr (pe_bm PySem.F.plainAttrs_list PySem.F.slot_list_append PySem.F.type_list_append mt_append (pe_var hN hv hd hcd) (pa_cons pe_int pa_nil hs1) hbase hfew hline hs1) hs) fun D σ H ⟨G, sv, kk⟩ => by
    obtain ⟨p, us, ep, gp, hp, h0, hl⟩ := sv.slot i _ hS
    exact ⟨.ref p, ep, .inl ⟨rfl, _, SqL.of hp⟩, p, us, .int c, rfl, rfl, hp, by omega, kk.nx _ G σ _ k (sv.wS hS rfl ep h0 gp ⟨p, _, rfl, gp, upd_same, h0, by rw [List.length_append]; show us.length + 1 ≤ _; omega⟩)⟩
end
end FW

namespace FW
open PySem PySem.Spec PyProof.Rows L2
variable [Tb]
/-! ### the program's own errors -/
inductive Ec where
  | neck
  | shape
  | hand
  | chord
  | tune
  | text
def Ec.nm : Ec → Str
  | .neck => "BadNeck"
  | .shape => "BadShape"
  | .hand => "BadHand"
  | .chord => "BadChord"
  | .tune => "BadTune"
  | .text => "BadText"
def Ec.eq : Ec → Ec → Bool
  | .neck, .neck => true
  | .shape, .shape => true
  | .hand, .hand => true
  | .chord, .chord => true
  | .tune, .tune => true
  | .text, .text => true
  | _, _ => false
/-- what the top says of a class of errors -/
structure ExK (K : PySem.W.Frag) (mg : Str → Option Value) (NE : Addr) (x : Str) (C : Addr) : Prop where
  g : mg x = some (.ref C)
  k : PySem.W.keepIn K (.ref C) = true
  b : PySem.W.subIn K (.ref C) (.type "BaseException") = some true
  t : PySem.W.typeIn K (.ref C) = some (.type "type")
  i : PySem.W.isClsIn K C = true
  c : ExcC K C
  n : PySem.W.subIn K (.ref C) (.ref NE) = some true
  v : PySem.W.subIn K (.ref C) (.type "ValueError") = some true
structure XcOk (K : PySem.W.Frag) (mg : Str → Option Value) (NE : Addr) (EA : Ec → Addr) : Prop where
  ne : mg "NeckError" = some (.ref NE)
  nb : PySem.W.subIn K (.ref NE) (.type "BaseException") = some true
  nt : PySem.W.typeIn K (.ref NE) = some (.type "type")
  ni : PySem.W.isClsIn K NE = true
  vn : mg "ValueError" = none
  x : ∀ e : Ec, ExK K mg NE e.nm (EA e)
  o : ∀ e : Ec, e ≠ .chord → PySem.W.excIn K (EA e) [.type "ValueError", .type "Exception", .type "BaseException", .type "object"] "ValueError.__new__" = true
  s : ∀ e e' : Ec, PySem.W.subIn K (.ref (EA e)) (.ref (EA e')) = some (e.eq e')
def eaOf (a b c d e f : Addr) : Ec → Addr
  | .neck => a
  | .shape => b
  | .hand => c
  | .chord => d
  | .tune => e
  | .text => f
theorem kit_VE {K : PySem.W.Frag} {C : Addr} {b : Bool} (h : PySem.W.subIn K (.ref C) (.type "ValueError") = some b) : PySem.W.kitOne K (.ref C) (.type "ValueError") = some b := by
  unfold PySem.W.kitOne
  rw [if_neg (by simp)]
  show (if PySem.W.kitMeta "ValueError" = true then PySem.W.subIn K (.ref C) (.type "ValueError") else none) = some b
  rw [if_pos (by decide +kernel)]
  exact h
theorem kit_own {K : PySem.W.Frag} {D C : Addr} {b : Bool} (h1 : PySem.W.isClsIn K C = true) (h2 : PySem.W.typeIn K (.ref C) = some (.type "type")) (h3 : PySem.W.subIn K (.ref D) (.ref C) = some b) (h4 : D = C → b = true) : PySem.W.kitOne K (.ref D) (.ref C) = some b := by
  unfold PySem.W.kitOne
  by_cases e : D = C
  · subst e
    rw [if_pos (by simp), h4 rfl]
  · rw [if_neg (by simpa using e)]
    have e2 : ((PySem.W.clsIn K C).isSome && PySem.W.typeIn K (.ref C) == some (.type "type")) = true := by
      have h1' : (PySem.W.clsIn K C).isSome = true := h1
      rw [h1', h2] <;> rfl
    show (if ((PySem.W.clsIn K C).isSome && PySem.W.typeIn K (.ref C) == some (.type "type")) = true then PySem.W.subIn K (.ref D) (.ref C) else none) = some b
    rw [if_pos e2]
    exact h3
theorem exm_own {K : PySem.W.Frag} {D C : Addr} {b : Bool} (h0 : PySem.W.subIn K (.ref C) (.type "BaseException") = some true) (h1 : PySem.W.isClsIn K C = true) (h2 : PySem.W.typeIn K (.ref C) = some (.type "type")) (h3 : PySem.W.subIn K (.ref D) (.ref C) = some b) : PySem.W.exmOne K (.ref D) (.ref C) = some b := by
  have e1 : (PySem.W.subIn K (.ref C) (.type "BaseException") == some true) = true := by rw [h0] <;> rfl
  have e2 : ((PySem.W.clsIn K C).isSome && PySem.W.typeIn K (.ref C) == some (.type "type")) = true := by
    have h1' : (PySem.W.clsIn K C).isSome = true := h1
    rw [h1', h2] <;> rfl
  show (if (PySem.W.subIn K (.ref C) (.type "BaseException") == some true) = true then (if ((PySem.W.clsIn K C).isSome && PySem.W.typeIn K (.ref C) == some (.type "type")) = true then PySem.W.subIn K (.ref D) (.ref C) else none) else none) = some b
  rw [if_pos e1, if_pos e2]
  exact h3
theorem XcOk.kit {K : PySem.W.Frag} {mg : Str → Option Value} {NE : Addr} {EA : Ec → Addr} (E : XcOk K mg NE EA) (e e' : Ec) : PySem.W.kitOne K (.ref (EA e)) (.ref (EA e')) = some (e.eq e') := kit_own (E.x e').i (E.x e').t (E.s e e') fun h => by
  have h1 := E.s e e'
  rw [← h] at h1
  have h2 := E.s e e
  rw [h2] at h1
  have h3 : e.eq e = true := by cases e <;> rfl
  rw [h3] at h1
  exact (Option.some.inj h1).symm
theorem XcOk.kitV {K : PySem.W.Frag} {mg : Str → Option Value} {NE : Addr} {EA : Ec → Addr} (E : XcOk K mg NE EA) (e : Ec) : PySem.W.kitOne K (.ref (EA e)) (.type "ValueError") = some true := kit_VE (E.x e).v
theorem XcOk.exm {K : PySem.W.Frag} {mg : Str → Option Value} {NE : Addr} {EA : Ec → Addr} (E : XcOk K mg NE EA) (e : Ec) : PySem.W.exmOne K (.ref (EA e)) (.ref NE) = some true := exm_own E.nb E.ni E.nt (E.x e).n
section
variable {X : Cx} {F : Fr} {S : List Sl} {P : Post} {pos p p2 pos2 : Pos} {NE : Addr} {EA : Ec → Addr}
/-- raise X('m') -/
theorem ds_raise {W : WX} {m : Str} {j} (e : Ec) {x : Str} (E : XcOk X.K X.mg NE EA) (hc : X.calm = true) (tk : Takes X W) (hw : ∀ (dd : Option Addr) (σ : L2.St) (H' : Hp), Keep F H' → dd = none → W (.ref (EA e)) dd σ H') (hx : x = e.nm := by rfl) (hne : e ≠ .chord := by intro z; cases z) (hg : Gl X x := by rfl) (hdb : (x == ("__debug__" : Str)) = false := by decide) :
    DS X F S (.Raise (some (.Call (.Name x p) [.Constant (.str m) j p2] [] pos)) none pos2) P :=
  ds_mk (ps_raise hc tk (pmk_own PySem.F.excBase_ValueError (E.o e hne) (by rw [hx]; exact (E.x e).g) (E.x e).k (raises_own (E.x e).b (E.x e).t) hg hdb)) fun D σ H ⟨G, sv, k⟩ => hw none σ H sv.kept rfl
/-- what a def lets out, its callee let out -/
theorem wishX {ex : Xk → Prop} {E : XK} (tk : Takes X (fun cls d _ H => E cls d H)) (hE : ∀ x dd H', ex x → Keep F H' → XSh x dd F.H0 H' → E (.ref x.1) dd H') : Wish (L2.CX X.prog X.w) X F ex := ⟨E, passes_call tk (fun _ _ _ _ h => h), hE⟩
/-- .. by the caller's slots -/
theorem de_callS {x : Str} {k : Nat} {e : Expr} {es : List Expr} {Pd : PD} {Z : Zp} {W : WX} {RX : Xk → List Sl → Prop} (c : Kn X.prog X.w X.K X.mg X.base (L2.CX X.prog X.w) x k (spP Z)) (hr : Room k X.A) (tk : Takes X W) (hw : ∀ xk dd S1 G1 σ1 H1, RX xk S1 → SV X.K F S1 G1 σ1 H1 → XSh xk dd F.H0 H1 → W (.ref xk.1) dd σ1 H1)
    (h : DA X F S (e :: es) (fun ds S' => Z ds (fun d => Pd d S') (fun l => Pd (.list l) S') (fun xk => RX xk S'))) (hg : Gl X x := by rfl)
    (hdb : (x == ("__debug__" : Str)) = false := by decide) (he : starEach (e :: es) X.env = (false, eval e X.env) :: starEach es X.env := by rfl) (hpl : (backTo pos (starEach es X.env)).any (·.1) = false := by rfl) : DE X F S (.Call (.Name x p) (e :: es) [] pos) Pd := by
  obtain ⟨f, fd, ps, F1, hm, hk, hb⟩ := c.ex
  exact de_mk (pe_callS F1 hr hg hm hk hb (fun σ => passAt tk σ) h hdb he hpl) fun σ H Q ⟨G, sv, k⟩ => ⟨G, sv, fun ds S' G' vs H' hp st rs => by
    refine ⟨G', ds, _, _, _, st.sv.gh, rs, hp, fun d G2 v H2 hk2 ps2 r2 => k d S' G2 v H2 hk2 (st.trans (stp_of st.sv ps2)) r2, fun l G2 q ws H2 hk2 ps2 gq hq hl r2 => ?_, fun xk dd H2 hx2 eg eh sh => ?_⟩
    · have st2 := st.trans (stp_of st.sv ps2)
      have nm : NotMut S' σ q := st.sv.fresh hq
      refine k _ S' (upd G2 q (.lst ws)) _ H2 hk2 ⟨st2.g.trans (Ex.upd gq), st2.kp, st2.less, st2.sv.ground gq nm (st.sv.h0 hq) hl, st2.lv, fun a o z => ?_⟩ (.lst upd_same (r2.mono (Ex.upd gq)))
      by_cases za : a = q
      · subst za; exact .inr (st.fresh hq)
      · rw [upd_ne za] at z; exact st2.nw a o z
    · have st2 := stp_of st.sv (G' := G') (H' := H2) ⟨Ex.refl G', eg, eh, fun a o h => .inl h⟩
      exact hw xk dd S' G' σ H2 hx2 st2.sv (sh.back fun d => st.sv.h0)⟩
/-! ### isinstance of the error that a suite holds -/
/-- the slot of the error's name within its suite -/
def sufSl (xk : Xk) (a : Addr) (dd : Option Addr) : Sl := match xk.2, dd with
  | some n, some d => .hld (.ref a) d (.xd [(("number" : Str), .int n)])
  | _, _ => .fix (.ref a)
theorem slok_suf {K : PySem.W.Frag} {G H : Hp} {o : Option (Option V)} {xk : Xk} {a : Addr} {dd : Option Addr} (h : SlOk K F G H o (sufSl xk a dd)) : o = some (some (.ref a)) := by
  unfold sufSl at h
  split at h
  · exact h.1
  · exact h
theorem call_isEd {X : Cx} {a D : Addr} {d : Option Addr} {oe : Obj} {pn : List (Addr × Obj)} (C : ExcC X.K D) (hz : Zc (.ref D) d oe) (hd : d = none) (hf : ∃ vs, oe.data = .fields vs) : CallR (X.suite a ((a, oe) :: pn)) (.builtin "isinstance") (rIsE X.K D a) := by
  subst hd
  exact call_isE C hz hf
/-- isinstance(e, T) in a suite -/
theorem ep_isE (i : Nat) {a D C : Addr} {oe : Obj} {pn : List (Addr × Obj)} {xk : Xk} {dd : Option Addr} {x y : Str} {b : Bool} {p1 p3 : Pos} (B : BT X.mg) (hC : ExcC X.K D) (hz : Zc (.ref D) none oe) (hf : ∃ vs, oe.data = .fields vs) (hm : X.mg y = some (.ref C)) (hk : PySem.W.kitOne X.K (.ref D) (.ref C) = some b) (hS : S[i]? = some (sufSl xk a dd) := by rfl) (hN : X.N[i]? = some x := by rfl)
    (hv : Vis X.env.scope x := by first | exact Or.inl rfl | exact Or.inr (Or.inl rfl) | exact Or.inr (Or.inr rfl)) (hg : Gl X "isinstance" := by rfl) (hgT : Gl X y := by rfl) (hd : (x == ("__debug__" : Str)) = false := by decide) (hcd : (x == ("__classdict__" : Str)) = false := by decide) (hdy : (y == ("__debug__" : Str)) = false := by decide)
    (hs : starEach [.Name x p1, .Name y p3] X.env = (false, eval (.Name x p1) X.env) :: starEach [.Name y p3] X.env := by rfl) (hs2 : starEach [.Name y p3] X.env = (false, eval (.Name y p3) X.env) :: starEach [] X.env := by rfl) (hpl : (backTo pos (starEach [.Name y p3] X.env)).any (·.1) = false := by rfl) :
    Ep (X.suite a ((a, oe) :: pn)) F S (.Call (.Name "isinstance" p) [.Name x p1, .Name y p3] [] pos) (.bool b) :=
  de_mk (pe_callB (X := X.suite a ((a, oe) :: pn)) (call_isE hC hz hf) hg B.isinstance (by decide +kernel) (pa_cons (pe_var (X := X.suite a ((a, oe) :: pn)) hN hv hd hcd) (pa_cons (pe_glob (X := X.suite a ((a, oe) :: pn)) (v := .ref C) hgT hm rfl hdy) pa_nil hs2) hs) (by decide) (by decide) hs hpl) fun σ H Q ⟨G, sv, k⟩ =>
    ⟨.ref a, slok_suf (sv.slot i _ hS), .ref C, .ref C, b, rfl, fun u ru => ru, hk, k _ S G _ H ⟨rfl, rfl⟩ (.refl sv) (.bl b)⟩
theorem ep_isV (i : Nat) {a D : Addr} {oe : Obj} {pn : List (Addr × Obj)} {xk : Xk} {dd : Option Addr} {x : Str} {b : Bool} {p1 p3 : Pos} (B : BT X.mg) (hC : ExcC X.K D) (hz : Zc (.ref D) none oe) (hf : ∃ vs, oe.data = .fields vs) (hm : X.mg "ValueError" = none) (hk : PySem.W.kitOne X.K (.ref D) (.type "ValueError") = some b) (hS : S[i]? = some (sufSl xk a dd) := by rfl) (hN : X.N[i]? = some x := by rfl)
    (hv : Vis X.env.scope x := by first | exact Or.inl rfl | exact Or.inr (Or.inl rfl) | exact Or.inr (Or.inr rfl)) (hg : Gl X "isinstance" := by rfl) (hgT : Gl X "ValueError" := by rfl) (hd : (x == ("__debug__" : Str)) = false := by decide) (hcd : (x == ("__classdict__" : Str)) = false := by decide)
    (hs : starEach [.Name x p1, .Name "ValueError" p3] X.env = (false, eval (.Name x p1) X.env) :: starEach [.Name "ValueError" p3] X.env := by rfl) (hs2 : starEach [.Name "ValueError" p3] X.env = (false, eval (.Name "ValueError" p3) X.env) :: starEach [] X.env := by rfl) (hpl : (backTo pos (starEach [.Name "ValueError" p3] X.env)).any (·.1) = false := by rfl) :
    Ep (X.suite a ((a, oe) :: pn)) F S (.Call (.Name "isinstance" p) [.Name x p1, .Name "ValueError" p3] [] pos) (.bool b) :=
  de_mk (pe_callB (X := X.suite a ((a, oe) :: pn)) (call_isE hC hz hf) hg B.isinstance (by decide +kernel) (pa_cons (pe_var (X := X.suite a ((a, oe) :: pn)) hN hv hd hcd) (pa_cons (pe_bltn (X := X.suite a ((a, oe) :: pn)) (v := .ty "ValueError") hgT hm (by decide +kernel) rfl (by decide) (by decide)) pa_nil hs2) hs) (by decide) (by decide) hs hpl) fun σ H Q ⟨G, sv, k⟩ =>
    ⟨.ref a, slok_suf (sv.slot i _ hS), .ty "ValueError", .type "ValueError", b, rfl, fun u ru => ru, hk, k _ S G _ H ⟨rfl, rfl⟩ (.refl sv) (.bl b)⟩
end
/-! ### try: .. except X as n: .. -/
def Post.suite (P : Post) (i : Nat) : Post := ⟨fun S => P.nx (S.set i .unk), P.rt, P.ro, fun S => P.bk (S.set i .unk), fun S => P.ct (S.set i .unk), P.rn⟩
theorem SV.setU {K : PySem.W.Frag} {F : Fr} {S : List Sl} {G H : Hp} {σ : L2.St} {i : Nat} {v : Option V} (sv : SV K F S G σ H) : SV K F (S.set i .unk) G (σ.set i v) H := by
  have back : ∀ {p j}, MutAt (S.set i .unk) (σ.set i v) p j → MutAt S σ p j := fun {p j} m => mutAt_set m fun e => by
    subst e
    obtain ⟨⟨t, h1, h2⟩, _⟩ := m
    rw [getElem_self_set h1] at h2; cases h2
  refine ⟨sv.base, sv.gh, sv.keep, sv.live, sv.new, fun j t h => ?_, fun a b p ne ma mb => sv.sep a b p ne (back ma) (back mb), fun a es p h e => ?_, by rw [List.length_set, List.length_set]; exact sv.len, sv.bh⟩
  · by_cases z : i = j
    · subst z; rw [getElem_self_set h]; trivial
    · rw [List.getElem?_set_ne z] at h ⊢; exact sv.slot j t h
  · by_cases z : i = a
    · subst z; have := getElem_self_set h; cases this
    · rw [List.getElem?_set_ne z] at h e; exact sv.own0 a es p h e
section
variable {X : Cx} {F : Fr} {S : List Sl} {P : Post} {pos np pos' : Pos} {body suite : List Stmt} {b₀ : Stmt}
theorem Ends0.su {K : PySem.W.Frag} {F : Fr} {P : Post} {D : Ends} {i : Nat} (k : Ends0 K F P D) : Ends0 K F (P.suite i) { nx := fun σ' H' => D.nx (σ'.set i none) H', rt := D.rt, bk := fun σ' H' => D.bk (σ'.set i none) H', ct := fun σ' H' => D.ct (σ'.set i none) H' } :=
  ⟨fun S' G' σ' H' hp sv => k.nx _ G' _ H' hp sv.setU, k.rt, k.ro, fun S' G' σ' H' hp sv => k.bk _ G' _ H' hp sv.setU, fun S' G' σ' H' hp sv => k.ct _ G' _ H' hp sv.setU, k.rn⟩
theorem ds0_tryAs (i : Nat) {x n : Str} {c : Value} (RX : Xk → List Sl → Prop) (hs : X.stack = X.env :: X.outer) (hf : X.env.frame = some X.env.locals) (hN : X.N.Nodup) (hc : Names X x c)
    (hb : ∀ (W : WX) (pn : List (Addr × Obj)) (xe : Value → Shared → Prop), Takes (X.tr pn xe) W → (∀ xk dd S1 G1 σ1 H1, RX xk S1 → SV X.K F S1 G1 σ1 H1 → XSh xk dd F.H0 H1 → W (.ref xk.1) dd σ1 H1) → DB0 (X.tr pn xe) F S body P)
    (hx : ∀ xk S1, RX xk S1 → PySem.W.exmOne X.K (.ref xk.1) c = some true ∧ ∀ (a : Addr) (oe : Obj) (dd : Option Addr) (pn : List (Addr × Obj)), (xk.2 = none → dd = none) → Zc (.ref xk.1) dd oe → (∃ vs, oe.data = .fields vs) → DB0 (X.suite a ((a, oe) :: pn)) F (S1.set i (sufSl xk a dd)) (b₀ :: suite) (P.suite i))
    (hi : X.N[i]? = some n := by rfl) (hln : X.env.kindOf n = some .local := by rfl) : DS0 X F S (.Try body [.ExceptHandler (some (.Name x np)) (some n) (b₀ :: suite) pos'] [] [] pos) P :=
  ds0_mk (ps_try_as (i := i) (tb := fun W D σ H => ∃ S P, (∀ pn xe, Takes (X.tr pn xe) W → DB0 (X.tr pn xe) F S body P) ∧ rdS0 X.K F S P D σ H)
    (ts := fun a cls d D σ H => ∃ S P, (∀ oe pn, Zc cls d oe → (∃ vs, oe.data = .fields vs) → DB0 (X.suite a ((a, oe) :: pn)) F S (b₀ :: suite) P) ∧ rdS0 X.K F S P D σ H) (Wout := fun _ _ _ _ => False) hs hf hN hi hln hc takes0
    (fun W pn xe tk _ => ⟨fun pins s σ H D I ⟨_, _, h, r⟩ => PSs.run (h pn xe tk) pins s σ H D I r⟩) (fun a oe cls d pn hz hff => ⟨fun pins s σ H D I ⟨_, _, h, r⟩ => PSs.run (h oe pn hz hff) pins s σ H D I r⟩)) fun D σ H ⟨G, sv, k⟩ =>
      ⟨S, P, fun pn xe tk => hb _ pn xe tk fun xk dd S1 G1 σ1 H1 hR sv1 sh => by
        obtain ⟨h1, h2⟩ := hx xk S1 hR
        refine ⟨true, h1, fun _ a ha => ?_, fun z => nomatch z⟩
        obtain ⟨cl, num⟩ := xk
        cases num with
        | none =>
          have sh : dd = none := sh
          exact ⟨_, _, fun oe pn hz hff => h2 a oe dd pn (fun _ => sh) hz hff, G1, sv1.setS (sl := .fix (.ref a)) rfl (fun z => nomatch z) (fun _ z => nomatch z), k.su⟩
        | some m =>
          obtain ⟨d, ed, hd0, hd1⟩ := sh
          subst ed
          have grow : ∃ G2, SV X.K F S1 G2 σ1 H1 ∧ G2 d = some (.xd [(("number" : Str), .int m)]) := by
            cases hg : G1 d with
            | some o =>
              have := sv1.gh _ _ hg
              rw [hd1] at this; cases this
              exact ⟨G1, sv1, hg⟩
            | none =>
              refine ⟨upd G1 d (.xd [(("number" : Str), .int m)]), sv1.ground hg (fun j mm => ?_) hd0 hd1, upd_same⟩
              obtain ⟨vs, hv, _⟩ := sv1.mutH mm
              rw [hd1] at hv; cases hv
          obtain ⟨G2, sv2, hg2⟩ := grow
          exact ⟨_, _, fun oe pn hz hff => h2 a oe (some d) pn (fun z => nomatch z) hz hff, G2, sv2.setS (sl := .hld (.ref a) d (.xd [(("number" : Str), .int m)])) ⟨rfl, hg2⟩ (fun z => nomatch z) (fun _ z => nomatch z), k.su⟩, G, sv, k⟩
end
/-! ### defs by such bodies -/
section
variable {P : Program} {w : World} {K : PySem.W.Frag} {mg : Str → Option Value} {base : Heap}
theorem ends_P0 {G H : Hp} {Q : VK} {kt : FW.D → Prop} {ko : List FW.D → Prop} (h1 : ∀ d G' v H', kt d → PSt G H G' H' → Rp G' v d → Q v H')
    (h2 : ∀ es G' p ws H', ko es → PSt G H G' H' → G' p = none → H p = none → H' p = some (.lst ws) → Rps G' ws es → Q (.ref p) H') : Ends0 K ⟨G, H, none⟩ (postP kt ko) { nx := fun _ H' => Q .non H', rt := Q } := by
  have pst : ∀ {S' G' σ' H'}, SV K ⟨G, H, none⟩ S' G' σ' H' → PSt G H G' H' := fun {S' G' σ' H'} sv => ⟨sv.base, sv.gh, sv.kept.ext rfl, sv.new⟩
  exact ⟨fun S' G' σ' H' hp sv => h1 _ G' _ H' hp (pst sv) .non, fun d S' G' σ' v H' hp sv r => h1 d G' v H' hp (pst sv) r, fun es S' G' σ' p ws H' hp sv gp h0 hl r => h2 es G' p ws H' hp (pst sv) gp h0 hl r, fun _ _ _ _ h => h.elim, fun _ _ _ _ h => h.elim, fun _ _ _ _ _ _ h => h.elim⟩
theorem fn_ok0 {x qual : Str} {st : Stmt} {f : Addr} {fd : FuncData} {N ps : List Str} {k : Nat} {Z : Zp} (F : Fun K x qual st f fd) (S : FnScope N ps (defScope st)) (hlen : ∀ ds kt ko ke, Z ds kt ko ke → ds.length = ps.length) (hNl : ps.length ≤ N.length)
    (hb : ∀ (cdv : Value) (A : Around) (outer : List Env) (s : Shared) (H : Hp) (E : XK) (Fm : Fr) (ds : List FW.D) (kt : FW.D → Prop) (ko : List FW.D → Prop) (ke : Xk → Prop), Room k (A.deeper (envOfC qual (defScope st) s.heap.objs.size f cdv)) → Fm.r = none → Z ds kt ko ke →
      DB0 (cxOf CX0 P w K mg base N qual (defScope st) f cdv A outer s H E).nox Fm (sl0 N ds) (defBody st) (postP kt ko)) : FnOk P w K mg base CX0 (k + 1) f fd ps (spP Z) := by
  refine F.ok S (fun vs H Q E h => ?_) (fun cdv A outer s H vs Q E hr h => ?_)
  · obtain ⟨G, ds, kt, ko, ke, e, r, z, _⟩ := h
    rw [r.length]; exact hlen ds kt ko ke z
  · obtain ⟨G, ds, kt, ko, ke, e, r, z, h1, h2, h3⟩ := h
    have hl := hlen ds kt ko ke z
    exact ⟨_, hb cdv A outer s H E ⟨G, H, none⟩ ds kt ko ke hr rfl z, G, sv_start (by omega) e r, ends_P0 h1 h2⟩
end
end FW

namespace FW
open PySem PySem.Spec PyProof.Rows L2
variable [Tb]
/-! ### xs.count(b), xs.index(b) of truth values; != where no room is known -/
theorem eqU_count {b : Bool} : ∀ {us : List Value} {bs : List Bool}, Vals (bs.map V.bl) us → us.countP (eqU (.bl b)) = bs.count b
  | [], [], .nil => rfl
  | u :: us, c :: bs, .cons r t => by
    have ih := eqU_count (b := b) t
    rw [List.countP_cons, List.count_cons, ih, eqU_of r rfl] <;> rfl
def rCntB (K : PySem.W.Frag) : V → List V → Hp → VK → Prop := fun x xs H Q => ∃ (p : Addr) (bs : List Bool) (b : Bool), x = .ref p ∧ xs = [.bl b] ∧ SqL K H p (bs.map V.bl) ∧ Q (.int (bs.count b : Nat)) H
theorem all_flat_bl (bs : List Bool) : (bs.map V.bl).all flatV = true := List.all_eq_true.mpr fun x hx => by
  obtain ⟨b, _, rfl⟩ := List.mem_map.mp hx
  rfl
theorem mt_countB {X : Cx} : MtR X "list.count" (rCntB X.K) := by
  intro pins s σ H x xs v us Q I rx rxs h
  obtain ⟨p, bs, b, rfl, rfl, hs, q⟩ := h
  cases rx
  cases rxs with
  | cons ry rt =>
    rename_i uy ut
    cases rt
    obtain ⟨its, rv, ⟨⟨cls, dd, data, sl⟩, n, ho, hc, hdn, hd⟩, hlen⟩ := I.list hs
    simp only at hc hd
    subst hc hd
    refine call_meets PySem.F.slot_list_count ⟨_, ho, rfl⟩ PySem.F.entry_list_count (PySem.F.args_list_count_2 _ _)
      (SeqAt.list_countAt p its.toArray n dd sl uy (eqU (.bl b))) ⟨ho, fun y hy => mem_eqAt ry rfl rv (all_flat_bl bs) y (by simpa using hy), ?_⟩
    have ec : its.toArray.toList.countP (eqU (.bl b)) = bs.count b := eqU_count rv
    refine ⟨.int (bs.count b : Nat), H, I.tok _, ⟨s.toks, ?_⟩, q⟩
    show Value.int ((its.toArray.toList.countP (eqU (.bl b)) : Nat) : Int) s.toks = Value.int ((bs.count b : Nat) : Int) s.toks
    rw [ec]
theorem rps_bools {G : Hp} : ∀ {vs : List V} {bs : List Bool}, Rps G vs (bs.map PyData.bool) → vs = bs.map V.bl
  | _, [], .nil => rfl
  | _, b :: bs, .cons r t => by
    cases r
    rw [rps_bools t]; rfl
section
variable {X : Cx} {F : Fr} {S : List Sl} {P : Post} {pos p1 p2 p3 : Pos} {a b : Expr} {bs : List Bool} {c : Bool}
theorem ep_countB (h : Ep X F S a (.list (bs.map .bool))) (hb : Ep X F S b (.bool c))
    (hs1 : starEach (b :: []) X.env = (false, eval b X.env) :: starEach [] X.env := by rfl)
    (hbase : attributeBase a "count" X.env (eval a X.env) = eval a X.env := by rfl)
    (hfew : ((backTo p3 (starEach (b :: []) X.env)).all (fun x => !x.1) && (backToKw p3 (keywordEach [] X.env)).all (fun x => x.1.isSome)
      && decide ((b :: ([] : List Expr)).length + ([] : List Keyword).length + (if ([] : List Keyword).isEmpty then 0 else 1) < 30)) = true := by rfl)
    (hline : (p2.endLine == p3.line) = true := by rfl) : Ep X F S (.Call (.Attribute a "count" p2) [b] [] p3) (.int (bs.count c : Nat)) :=
  de_mk (pe_bm PySem.F.plainAttrs_list PySem.F.slot_list_count PySem.F.type_list_count mt_countB h (pa_cons hb pa_nil hs1) hbase hfew hline hs1) fun σ H Q ⟨G, sv, k⟩ => ⟨G, sv, fun d1 S1 G1 x H1 ⟨e1, e2⟩ st1 r1 => by
    subst e1; subst e2
    cases r1 with
    | lst hp rs =>
      rename_i p vs
      refine ⟨.inl ⟨rfl, _, SqL.of (st1.sv.gh _ _ hp)⟩, G1, st1.sv, fun d2 S2 G2 y H2 ⟨e3, e4⟩ st2 r2 => ?_⟩
      subst e3; subst e4
      cases r2
      have e := rps_bools rs
      subst e
      exact ⟨p, bs, c, rfl, rfl, SqL.of (st2.sv.gh _ _ (st2.g _ _ hp)), k _ S2 G2 _ H2 ⟨rfl, rfl⟩ (st1.trans st2) (.int _)⟩⟩
theorem ep_indexB (j : Nat) (h : Ep X F S a (.list (bs.map .bool))) (hb : Ep X F S b (.bool c)) (h1 : bs[j]? = some c) (h2 : ∀ m, m < j → bs[m]? ≠ some c)
    (hs1 : starEach (b :: []) X.env = (false, eval b X.env) :: starEach [] X.env := by rfl)
    (hbase : attributeBase a "index" X.env (eval a X.env) = eval a X.env := by rfl)
    (hfew : ((backTo p3 (starEach (b :: []) X.env)).all (fun x => !x.1) && (backToKw p3 (keywordEach [] X.env)).all (fun x => x.1.isSome)
      && decide ((b :: ([] : List Expr)).length + ([] : List Keyword).length + (if ([] : List Keyword).isEmpty then 0 else 1) < 30)) = true := by rfl)
    (hline : (p2.endLine == p3.line) = true := by rfl) : Ep X F S (.Call (.Attribute a "index" p2) [b] [] p3) (.int (j : Nat)) :=
  de_mk (pe_bm PySem.F.plainAttrs_list PySem.F.slot_list_index PySem.F.type_list_index mt_index h (pa_cons hb pa_nil hs1) hbase hfew hline hs1) fun σ H Q ⟨G, sv, k⟩ => ⟨G, sv, fun d1 S1 G1 x H1 ⟨e1, e2⟩ st1 r1 => by
    subst e1; subst e2
    cases r1 with
    | lst hp rs =>
      rename_i p vs
      refine ⟨.inl ⟨rfl, _, SqL.of (st1.sv.gh _ _ hp)⟩, G1, st1.sv, fun d2 S2 G2 y H2 ⟨e3, e4⟩ st2 r2 => ?_⟩
      subst e3; subst e4
      cases r2
      have e := rps_bools rs
      subst e
      refine ⟨p, bs.map V.bl, .bl c, j, .bl c, rfl, rfl, SqL.of (st2.sv.gh _ _ (st2.g _ _ hp)), rfl, all_flat_bl bs, by rw [List.getElem?_map, h1]; rfl, by cases c <;> rfl, fun m z' hm hz => ?_, k _ S2 G2 _ H2 ⟨rfl, rfl⟩ (st1.trans st2) (.int _)⟩
      rw [List.getElem?_map] at hz
      cases hb2 : bs[m]? with
      | none => rw [hb2] at hz; cases hz
      | some b' =>
        rw [hb2] at hz
        have hz : V.bl b' = z' := Option.some.inj hz
        subst hz
        have := h2 m hm
        rw [hb2] at this
        cases b' <;> cases c <;> first | rfl | exact absurd rfl this⟩
theorem tp_neU {d1 d2 : FW.D} (hu : X.A.units + 64 < cLine) (ha : Ep X F S a d1) (hb : Ep X F S b d2) (h1 : Sh d1) (h2 : Sh d2) : Tp X F S (.Compare a [.NotEq] [b] pos) (!PyData.eqv d1 d2) :=
  dt_cmp (op_neD hu) (nomark b) (DE.imp ha fun e1 S1 ⟨h3, h4⟩ => by
    subst h3; subst h4
    exact DE.imp hb fun e2 S2 ⟨h5, h6⟩ => by
      subst h5; subst h6
      exact opd_ne ⟨h1, h2, b1 ⟨rfl, rfl⟩⟩)
end
end FW

namespace FW
open PySem PySem.Spec PyProof.Rows L2
variable [Tb]
/-! ### a list comprehension that may let an exception out -/
/-- its block: what leaves it goes on in the def's frame -/
abbrev BkX (X : Cx) (scope : Scope) (s : Shared) (H : Hp) (C : Addr) (cl : List (Str × Addr)) (fp : List Addr) : Cx :=
  { X.blk s H scope (compEnvC scope cl C X.env) fp with xe := notedBy (model X.prog X.w) X.A (compEnvC scope cl C X.env) (CompFails (model X.prog X.w) X.A X.xe (compEnvC scope cl C X.env)) }
/-- what a block takes: what the def takes -/
def PassX (X : Cx) (scope : Scope) (s : Shared) (H : Hp) (C : Addr) (cl : List (Str × Addr)) (fp : List Addr) : Prop := ∀ E : XK, Takes X (fun cls d _ H => E cls d H) → Passes (L2.CX X.prog X.w) (BkX X scope s H C cl fp) E
section
variable {X : Cx}
theorem pass_out {pins : List (Addr × Obj)} {σ : L2.St} {H : Hp} {s : Shared} {scope : Scope} {cl : List (Str × Addr)} {fp : List Addr} (hs : X.stack = X.env :: X.outer) (hf : X.env.frame = some X.env.locals) (I : Inv X pins σ H s)
    (f3 : ∀ b ∈ fp, FpOk X pins H b ∧ b < s.heap.objs.size) : PassX X scope s H s.heap.objs.size cl fp := by
  intro E tk pins' σ' H5 s5 u s6 I5 c
  have hfr : X.A.frames = some (X.env :: X.outer) := by rw [I.ok.frames, hs]
  generalize hC : s.heap.objs.size = C at I5 c ⊢
  obtain ⟨a, B, sI, pins2, σ2, H', cls, d, rfl, J, nb, up, sky, na, os, ag, w⟩ := XE.of_call (W := fun cls d _ H => E cls d H) I5 (fun _ _ _ h => h) c
  obtain ⟨a2, B2, H2, cls2, d2, ea, fl2, _⟩ := c
  cases ea
  have rawne : ∀ {L : Addr}, (Value.none : Value) ≠ rawInt L := fun {L} z => by cases z
  have fl : HandSPX.FlyingZ B (X.env :: X.outer) a (Zc cls d) s6.heap := by
    obtain ⟨_, _, _, oe, vs, T, oT, ts, he, _, hd, h1, _, _, hT, hdT, h3⟩ := fl2
    have sky : Sky B X.stack a (Zc cls d) C s6.heap := sky
    rw [hs] at sky
    rcases sky with ⟨_, _, _, oe', vs', he', _, hd', h1'⟩ | fl | ⟨_, _, _, oe', vs', T', oT', ts', he', _, hd', h1', _, _, hT', hdT', h3'⟩
    · exfalso
      rw [he] at he'; cases he'
      rw [hd] at hd'; cases hd'
      rw [h1] at h1'; cases h1'
    · exact fl
    · exfalso
      rw [he] at he'; cases he'
      rw [hd] at hd'; cases hd'
      rw [h1] at h1'; cases h1'
      rw [hT] at hT'; cases hT'
      rw [hdT] at hdT'; cases hdT'
      rw [h3] at h3'
      exact rawne (Option.some.inj h3')
  show wpAny (model X.prog X.w) X.A (noteFrame (.ref a) X.env) (fun _ s'' => CompFails (model X.prog X.w) X.A X.xe (compEnvC scope cl C X.env) (.ref a) s'') _ s6
  refine HandSPX.looks_onZ Zc.steady hfr hf fl fun h1 held up1 => ?_
  -- the block's names
  have nC : H' C = none := J.free
  obtain ⟨m, hn, _⟩ := J.loc
  have hn : sI.heap.Ns C m := hn
  have nCf : C ∉ frs X.stack := fun z => by
    obtain ⟨_, o, ho, _⟩ := I.stack.mem z
    have := Heap.lt_size ho
    rw [hC] at this
    exact absurd this (Nat.lt_irrefl _)
  have hn1 : h1.Ns C m := by
    obtain ⟨o, es, ep, ho, r⟩ := hn
    exact ⟨o, es, ep, held.1 _ _ (nb _ _ ho nCf), r⟩
  have BC : ∃ o, B.get? C = some o := by
    obtain ⟨o, es, ep, ho, r⟩ := hn
    exact ⟨o, nb _ _ ho nCf⟩
  refine ⟨m, hn1, fun h' m' hn' sb => ?_⟩
  -- the ground without the block
  obtain ⟨k1, k2, k3, oe, vs, T, oT, ts, he, hz, hd, hv1, hnT, hTe, hT, hdT, hv3⟩ := held
  have aC : a ≠ C := fun z => by
    obtain ⟨o, q⟩ := BC
    rw [← z, k2] at q; cases q
  have TC : T ≠ C := fun z => by
    obtain ⟨o, q⟩ := BC
    rw [← z, hnT] at q; cases q
  have toB : ∀ b o, (PySem.W.hideAll B [C]).get? b = some o → B.get? b = some o ∧ b ≠ C := fun b o q => by
    refine ⟨PySem.W.of_hideAll _ q, fun z => ?_⟩
    subst z
    rw [PySem.W.hideAll_none [b] (List.mem_singleton.mpr rfl)] at q; cases q
  have noB : ∀ {b}, B.get? b = none → (PySem.W.hideAll B [C]).get? b = none := fun {b} q => by
    cases z : (PySem.W.hideAll B [C]).get? b with
    | none => rfl
    | some o => rw [(toB b o z).1] at q; cases q
  have frB : ∀ {l : List Env} {h : Heap}, h.FunFrames B l → ∀ L ∈ frs l, B.get? L = none := by
    intro l
    induction l with
    | nil => intro h _ L hL; cases hL
    | cons e l ih =>
      intro h ⟨_, ⟨L', o, hf', hb', _, _⟩, hr⟩ L hL
      obtain ⟨e2, he2, q⟩ := List.mem_filterMap.mp hL
      rcases List.mem_cons.mp he2 with z | z
      · subst z
        rw [hf'] at q; cases q
        exact hb'
      · exact ih hr L (List.mem_filterMap.mpr ⟨e2, z, q⟩)
  have held2 : HandSPX.HeldZ (PySem.W.hideAll B [C]) (X.env :: X.outer) a (Zc cls d) X.env.locals h' :=
    ⟨fun b o q => (sb.2 b (toB b o q).2).trans (k1 b o (toB b o q).1), noB k2, funFrames_none (Heap.FunFrames.sameBut sb hn' k3) fun L hL => noB (frB k3 L hL),
      oe, vs, T, oT, ts, (sb.2 a aC).trans he, hz, hd, hv1, noB hnT, hTe, (sb.2 T TC).trans hT, hdT, hv3⟩
  unfold PySem.passOn
  refine wpAny_bind (wpAny_field ((sb.2 a aC).trans he) hd hv1 ?_)
  refine wpAny_bind ?_
  show wpAny _ _ (setFlight (.ref a) X.env.frame) _ _ _
  rw [hf]
  refine HandSPX.setFlight_onZ held2 fun h2 held3 up3 => wpAny_throw ?_
  -- the state without the exception, back in the def
  have I7 : Inv X pins σ H' sI := I.call' (ch := fp) J.os J.base J.hok J.bare fun b hb => ⟨(f3 b hb).1.2.2.2.1, (f3 b hb).1.2.1, (f3 b hb).1.2.2.2.2.1, (f3 b hb).1.2.2.2.2.2⟩
  obtain ⟨f0, f1, f2, f4, f5, f6⟩ := I.fpOk (H' := H') (Nat.le_of_eq hC) nC
  have I8 := I7.turned (h' := PySem.W.hideAll sI.heap [C]) (t' := sI.toks) (it := C) (fun b o hb e => PySem.W.hideAll_get _ e fun z => hb (List.mem_singleton.mp z)) f0 f1 f4 f5 f6
  have toI : ∀ b o, (PySem.W.hideAll sI.heap [C]).get? b = some o → sI.heap.get? b = some o ∧ b ≠ C := fun b o q => by
    refine ⟨PySem.W.of_hideAll _ q, fun z => ?_⟩
    subst z
    rw [PySem.W.hideAll_none [b] (List.mem_singleton.mpr rfl)] at q; cases q
  refine tk _ _ ⟨a, PySem.W.hideAll B [C], _, pins, σ, H', cls, d, rfl, I8, fun b o e hb => ?_, fun b o e hnf => ?_, ?_, na, os, ag, w⟩
  · obtain ⟨e1, e2⟩ := toI b o e
    exact PySem.W.hideAll_get _ (nb b o e1 hb) fun z => e2 (List.mem_singleton.mp z)
  · obtain ⟨e1, e2⟩ := toI b o e
    obtain ⟨sl1, q1⟩ := up b o e1 hnf
    obtain ⟨sl2, q2⟩ := up1 b _ q1 hnf
    obtain ⟨sl3, q3⟩ := up3 b _ ((sb.2 b e2).trans q2) hnf
    exact ⟨sl3, q3⟩
  · rw [hs]
    exact .inr (.inr held3)
theorem reX {xe : Value → Shared → Prop} {pins : List (Addr × Obj)} {σ : L2.St} {H : Hp} {s : Shared} (I : Inv X pins σ H s) : Inv { X with xe := xe } pins σ H s :=
  ⟨⟨I.ok.mod, I.ok.kind, I.ok.glob, I.ok.blt, I.ok.above, I.ok.inj, I.ok.has, I.ok.cab, I.ok.hd, I.ok.frames, I.ok.stk, I.ok.exf, I.ok.bs, I.ok.bsz, I.ok.noex, I.ok.exfs, I.ok.funs, I.ok.frf⟩, I.os, I.bare, I.base, I.loc, I.cell, I.free, I.freeC, I.pin, I.hok, I.len⟩
/-- as a value; what its parts let out leaves it -/
theorem pe_lcX {elt tg iter : Expr} {ifs : List Expr} {scope : Scope} {own : List (Str × Nat)} {pos : Pos} {wi : TI} {g : TG} {tt : TT} {te : TE} (hc : X.calm = true) (hN : X.N.Nodup) (hs0 : X.stack = X.env :: X.outer) (hf0 : X.env.frame = some X.env.locals)
    (hi : PI X tg iter wi) (ok : BlkOk X.N X.env.scope scope own) (hg : ∀ s H C cl fp, PassX X scope s H C cl fp → PG (BkX X scope s H C cl fp) tg g) (ht : ∀ s H C cl fp, PassX X scope s H C cl fp → PTs (BkX X scope s H C cl fp) ifs tt)
    (he : ∀ s H C cl fp, PassX X scope s H C cl fp → PE (BkX X scope s H C cl fp) elt te) (hs : ∀ x, foldedSetIterable iter X.env x = pure x := by intro _; rfl) :
    PE X (.ListComp elt [⟨tg, iter, ifs, 0⟩] scope pos) (tLc wi g tt te (own.map (·.2))) := by
  refine ⟨fun pins s σ H Q I h => ?_⟩
  rw [eval_ListComp]
  have hfree : ∀ y ∈ scope.names, y.2 = .free → ∃ c, X.env.cells.lookup y.1 = some c := fun y hy e => by
    rcases ok.free y hy e with k | k
    · exact I.ok.has _ (.inl k)
    · exact I.ok.has _ (.inr k)
  refine comprehension_at (use := none) rfl hs (closure_ok hfree) ok.kind (fun y hy e => by rw [ok.uniq y hy, e]) (thn (hi.run pins s σ H _ I h) fun xv s1 hx => thn hx fun itv s2 h2 => ?_)
  obtain ⟨it, fp, tn, J, H2, e, I2, T, st2, f2, q⟩ := h2
  subst e
  refine wpAny_newObj_type (newEnv_comp ?_) (by show 0 ≤ sizeLine; decide)
  generalize hD : s2.heap.objs.size = D
  have hDn : H2 D = none := I2.hok.fresh (Nat.le_of_eq hD)
  obtain ⟨W, ⟨m0, w0⟩, turn⟩ := q D hDn
  generalize hs3 : ({ s2 with heap := s2.heap.push { cls := .type "list", data := .seq ([] : List Value).toArray } } : Shared) = s3
  have h3 : s3.heap = s2.heap.push { cls := .type "list", data := .seq ([] : List Value).toArray } := by rw [← hs3]
  have old3 : ∀ b o, s2.heap.get? b = some o → s3.heap.get? b = some o := fun b o e => by rw [h3]; exact Heap.get?_push_of_some _ e
  have I3 : Inv X pins σ (upd H2 D (.lst [])) s3 := by
    rw [← hs3]
    exact I2.laid (t' := s2.toks) (fun b o e => Heap.get?_push_of_some _ e) (Nat.le_of_eq hD) ⟨Nat.zero_le _, [], 0, .nil, by rw [← hD]; exact Heap.get?_push_size _ rfl⟩
  have f3 : ∀ b ∈ fp, FpOk X pins (upd H2 D (.lst [])) b ∧ b < s3.heap.objs.size := fun b hb => by
    obtain ⟨o, e, _⟩ := T.obj _ _ st2 b hb
    have hlt := Heap.lt_size e
    exact ⟨⟨by rw [upd_ne (by rw [← hD]; exact Nat.ne_of_lt hlt)]; exact (f2 b hb).1, (f2 b hb).2⟩, Heap.lt_size (old3 b o e)⟩
  have st3 : tn 0 s3.heap := T.keep _ _ _ st2 fun b _ o e => old3 b o e
  have nfp : ∀ b ∈ fp, (upd H2 D (.lst [])) b = none := fun b hb => (f3 b hb).1.1
  have I4 := reX (xe := notedBy (model X.prog X.w) X.A (compEnvC scope (cellsFrom (s3.heap.objs.size + 1) scope.names (cloFrom X.env.cells scope.names [])) s3.heap.objs.size X.env) (CompFails (model X.prog X.w) X.A X.xe (compEnvC scope (cellsFrom (s3.heap.objs.size + 1) scope.names (cloFrom X.env.cells scope.names [])) s3.heap.objs.size X.env))) (block_start I3 ok hN f3)
  have po : PassX X scope s3 (upd H2 D (.lst [])) s3.heap.objs.size (cellsFrom (s3.heap.objs.size + 1) scope.names (cloFrom X.env.cells scope.names [])) fp := pass_out hs0 hf0 I3 f3
  have pg := hg _ _ _ _ _ po
  have pt := ht _ _ _ _ _ po
  have pe := he _ _ _ _ _ po
  show codeAny _ _ (.compStart (.ListComp elt [⟨tg, iter, ifs, 0⟩] scope pos) 0 (.ref it) (.ref D) (compEnvC scope (cellsFrom (s3.heap.objs.size + 1) scope.names (cloFrom X.env.cells scope.names [])) s3.heap.objs.size X.env)) (compEnds (model X.prog X.w) X.A X.xe none (EP X pins σ Q) (.ref D) (compEnvC scope (cellsFrom (s3.heap.objs.size + 1) scope.names (cloFrom X.env.cells scope.names [])) s3.heap.objs.size X.env)) { s3 with heap := pushCells (s3.heap.push { cls := .type "dict", data := .dict #[] }) scope.names }
  generalize hcl : cellsFrom (s3.heap.objs.size + 1) scope.names (cloFrom X.env.cells scope.names []) = cl at I4 pg pt pe ⊢
  generalize hH3 : upd H2 D (.lst []) = H3 at I3 I4 pg pt pe w0 nfp f3
  generalize hs4 : ({ s3 with heap := pushCells (s3.heap.push { cls := .type "dict", data := .dict #[] }) scope.names } : Shared) = s4 at I4 ⊢
  have st4 : tn 0 s4.heap := T.keep _ _ _ st3 fun b _ o e => by rw [← hs4]; exact pushCells_keeps _ _ _ _ (Heap.get?_push_of_some _ e)
  have stat : ∀ {σ' : L2.St} {H' : Hp} {s' : Shared}, Inv (BkX X scope s3 H3 s3.heap.objs.size cl fp) [] σ' H' s' → (∀ b ∈ fp, H' b = none) → ∀ b ∈ fp, FpOk (BkX X scope s3 H3 s3.heap.objs.size cl fp) [] H' b := fun {σ' H' s'} I' hn b hb =>
    ⟨hn b hb, (I'.ok.exf b hb).1, I'.ok.exfs b hb, .inl hb, fun x c e => (I'.ok.exf b hb).2 x c e, fun p hp => absurd (show p ∈ ([] : List (Addr × Obj)) ++ [] from hp) (by simp)⟩
  have loop : codeAny (model X.prog X.w) X.A (.compLoop (.ListComp elt [⟨tg, iter, ifs, 0⟩] scope pos) 0 (.ref it) (.ref D) (compEnvC scope cl s3.heap.objs.size X.env)) (compEnds (model X.prog X.w) X.A X.xe none (EP X pins σ Q) (.ref D) (compEnvC scope cl s3.heap.objs.size X.env)) s4 := by
    refine compLoop_any (fun n s' => ∃ i H', Inv (BkX X scope s3 H3 s3.heap.objs.size cl fp) [] (wipe σ (own.map (·.2))) H' s' ∧ tn i s'.heap ∧ (∀ b ∈ fp, H' b = none) ∧ W i n H') ?_ m0 ⟨0, H3, I4, st4, nfp, w0⟩
    rintro n s5 ⟨i, H5, I5, st5, n5, w5⟩
    rcases turn i n H5 w5 with ⟨stop, qq⟩ | ⟨go, Nx, hNx, step⟩
    · refine thnF (T.done (BkX X scope s3 H3 s3.heap.objs.size cl fp) rfl rfl rfl hc i [] s5 _ H5 (fun _ _ => False) I5 (stat I5 n5) st5 stop) fun r s6 ⟨hr, I6⟩ => ?_
      subst hr
      have I7 : Inv X pins σ H5 s6 := I3.call' (ch := fp) I6.os I6.base I6.hok I6.bare fun b hb => ⟨(f3 b hb).1.2.2.2.1, (f3 b hb).1.2.1, (f3 b hb).1.2.2.2.2.1, (f3 b hb).1.2.2.2.2.2⟩
      have nC : H5 s3.heap.objs.size = none := I6.free
      obtain ⟨m, hn, _⟩ := I6.loc
      obtain ⟨q0, q1, q2, q3, q4, q5⟩ := I3.fpOk (H' := H5) (Nat.le_refl _) nC
      exact ⟨m, hn, fun h'' sb => ⟨.ref D, H5, I7.turned (t' := s6.toks) (fun b o hb e => (sb.2 b hb).trans e) q0 q1 q3 q4 q5, rfl, qq⟩⟩
    · refine thnF (T.item (BkX X scope s3 H3 s3.heap.objs.size cl fp) rfl rfl rfl hc i [] s5 _ H5 (fun _ _ => False) I5 (stat I5 n5) st5 go) fun r s6 ⟨u, hr, h6⟩ => ?_
      subst hr
      refine thnF h6 fun _ s7 ⟨x, H7, I7, r7, y7, st7, n7⟩ => ?_
      have I7' := I7.pinned (stat I7 n7) (T.obj _ _ st7)
      refine thn (pg.run _ s7 _ H7 x u _ I7' r7 (step x H7 y7)) fun _ s8 ⟨σ8, H8, I8, hw8, q8⟩ => ?_
      refine thn (pt.run _ s8 σ8 H8 _ I8 q8) fun b s9 ⟨H9, I9, q9⟩ => ?_
      have fin : ∀ {s' : Shared} {H' : Hp}, Inv (BkX X scope s3 H3 s3.heap.objs.size cl fp) ([] ++ pinsAt fp s7.heap) σ8 H' s' → Nx H' → ∃ m, m < n ∧ ∃ i H', Inv (BkX X scope s3 H3 s3.heap.objs.size cl fp) [] (wipe σ (own.map (·.2))) H' s' ∧ tn i s'.heap ∧ (∀ b ∈ fp, H' b = none) ∧ W i m H' := fun {s' H'} I' nx => by
        obtain ⟨m', hm, w'⟩ := hNx H' nx
        have pin' : ∀ b ∈ fp, ∀ o, s7.heap.get? b = some o → s'.heap.get? b = some o ∧ H' b = none := fun b hb o e =>
          let z := I'.pin (b, o) (List.mem_append_right _ (List.mem_append_right _ (mem_pinsAt hb e)))
          ⟨z.1, z.2.1⟩
        refine ⟨m', hm, i + 1, H', (I'.unpinned (pins := [])).weak (by rw [← hw8, wipe_length]) (fun j v e => by rw [← hw8] at e; exact (wipe_some e).1), T.keep _ _ _ st7 fun b hb o e => (pin' b hb o e).1, fun b hb => ?_, w'⟩
        obtain ⟨o, e, _⟩ := T.obj _ _ st7 b hb
        exact (pin' b hb o e).2
      cases b with
      | false =>
        simp only [Bool.false_eq_true, if_false] at q9 ⊢
        exact fin I9 q9
      | true =>
        simp only [if_true] at q9 ⊢
        refine thn (pe.run _ s9 σ8 H9 _ I9 q9) fun z s10 ⟨yv, H10, I10, r10, acc, hD10, hz10, nx⟩ => ?_
        exact app_ok (X := BkX X scope s3 H3 s3.heap.objs.size cl fp) I10 hD10 hz10 r10 fun s11 I11 => fin I11 nx
  exact codeAny_compStart_list loop (T.self X.A 0 _ _ _ st4 loop)
end
def tTx (X : Cx) (F : Fr) (scope : Scope) (ifs : List Expr) : TT := fun σ H Q => ∃ S P, (∀ s H C cl fp, PassX X scope s H C cl fp → DTs (BkX X scope s H C cl fp) F S ifs P) ∧ rdT X.K F S P σ H Q
def tEx (X : Cx) (F : Fr) (scope : Scope) (e : Expr) : TE := fun σ H Q => ∃ S P, (∀ s H C cl fp, PassX X scope s H C cl fp → DE (BkX X scope s H C cl fp) F S e P) ∧ rd X.K F S P σ H Q
/-- what is to be shown of such a comprehension, the items known -/
def LcIX (X : Cx) (F : Fr) (scope : Scope) (vs : List Nat) (g : FW.D → List Sl → (List Sl → Prop) → Prop) (elt : Expr) (ifs : List Expr) (P : List FW.D → List Sl → Prop) (xs : List FW.D) (S0 : List Sl) : Prop :=
  ∃ Iv : Nat → List Sl → List FW.D → Prop, Iv 0 (wipeS S0 vs) [] ∧ (∀ i d Si acc, xs[i]? = some d → Iv i Si acc → g d Si fun S2 =>
    ∃ PT, (∀ s H C cl fp, PassX X scope s H C cl fp → DTs (BkX X scope s H C cl fp) F S2 ifs PT) ∧ ∀ t S3, PT t S3 → (t = true → acc.length < sizeLine ∧ ∀ s H C cl fp, PassX X scope s H C cl fp → DE (BkX X scope s H C cl fp) F S3 elt fun d' S4 => Iv (i + 1) (wipeS S4 vs) (acc ++ [d'])) ∧
      (t = false → Iv (i + 1) (wipeS S3 vs) acc)) ∧ ∀ Sn acc, Iv xs.length Sn acc → P acc (wipeS Sn vs)
section
variable {X : Cx} {F : Fr} {S : List Sl} {elt tg iter : Expr} {ifs : List Expr} {scope : Scope} {own : List (Str × Nat)} {pos : Pos} {is : List Nat} {g : FW.D → List Sl → (List Sl → Prop) → Prop} {P : List FW.D → List Sl → Prop}
/-- the reading of a comprehension -/
theorem lc_readX (hsub : ∀ j ∈ is, j ∈ own.map (·.2)) {σ : L2.St} {H0 : Hp} {G0 : Hp} {S0 : List Sl} {xs : List FW.D} {J : It} {Q : VK} (sv0 : SV X.K F S0 G0 σ H0) (it : ItD J G0 xs) (h : LcIX X F scope (own.map (·.2)) g elt ifs P xs S0)
    (k : ∀ ds S' G' p vs H', P ds S' → Stp X.K F σ S0 G0 H0 S' G' H' → G' p = none → H0 p = none → NotMut S' σ p → H' p = some (.lst vs) → Rps G' vs ds → Q (.ref p) H') :
    ∀ D, H0 D = none → ∃ W : Nat → Nat → Hp → Prop, (∃ m, W 0 m (upd H0 D (.lst []))) ∧ ∀ i m H, W i m H →
      (J.stop i H ∧ Q (.ref D) H) ∨ (J.go i H ∧ ∃ Nx : Hp → Prop, (∀ H', Nx H' → ∃ m', m' < m ∧ W (i + 1) m' H') ∧ ∀ x H', J.yld i H x H' → rdG X.K F is g x (wipe σ (own.map (·.2))) H' fun σ2 H2 => wipe σ2 (own.map (·.2)) = wipe σ (own.map (·.2)) ∧ tTx X F scope ifs σ2 H2 fun b H3 =>
        if b = true then tEx X F scope elt σ2 H3 fun y H4 => ∃ acc, H4 D = some (.lst acc) ∧ acc.length < sizeLine ∧ Nx (upd H4 D (.lst (acc ++ [y]))) else Nx H3) := by
  intro D hD
  obtain ⟨Iv, i0, turn, fin⟩ := h
  have h0D : F.H0 D = none := sv0.h0 hD
  have gD : G0 D = none := sv0.gh.none hD
  have out : ∀ j, j ∉ own.map (·.2) → (wipe σ (own.map (·.2)))[j]? = σ[j]? := fun j hj => wipe_out hj
  have out' : ∀ j, j ∉ own.map (·.2) → σ[j]? = (wipe σ (own.map (·.2)))[j]? := fun j hj => (out j hj).symm
  generalize hw : wipe σ (own.map (·.2)) = σw at out out' ⊢
  have lw : σw.length = σ.length := by rw [← hw, wipe_length]
  -- the invariant
  refine ⟨fun i m H => i + m = xs.length ∧ ∃ G Si acc vs, SV X.K F Si G σw H ∧ Ex G0 G ∧ Iv i Si acc ∧ G D = none ∧ H D = some (.lst vs) ∧ Rps G vs acc ∧
      (∀ a o, H0 a = some o → NotMut S0 σ a → NT o → H a = some o) ∧ (∀ p j, MutAt Si σw p j → MutAt S0 σ p j) ∧ (∀ a o, G a = some o → G0 a = some o ∨ H0 a = none) ∧ (∀ a o, H0 a = some o → ∃ o', H a = some o'),
    ⟨xs.length, by omega, G0, wipeS S0 (own.map (·.2)), [], [], (sv0.allocO hD).moved out lw, Ex.refl G0, i0, gD, upd_same, .nil, fun a o ha _ _ => Ex.upd hD a o ha, fun p j m => moved_back out m, fun a o h => .inl h, fun a o h => ⟨o, Ex.upd hD a o h⟩⟩, ?_⟩
  rintro i m H ⟨em, G, Si, acc, vs, sv, e0, iv, gd, hd, rs, kp, mb, nw, lv⟩
  have it1 := it.mono e0
  have nmD : NotMut Si σw D := fun j mm => sv0.fresh hD j (mb D j mm)
  by_cases hi : i < xs.length
  · refine .inr ⟨it1.go i H hi sv.gh, fun H' => ∃ m', m' < m ∧ (i + 1 + m' = xs.length ∧ ∃ G Si acc vs, SV X.K F Si G σw H' ∧ Ex G0 G ∧ Iv (i + 1) Si acc ∧ G D = none ∧ H' D = some (.lst vs) ∧ Rps G vs acc ∧
      (∀ a o, H0 a = some o → NotMut S0 σ a → NT o → H' a = some o) ∧ (∀ p j, MutAt Si σw p j → MutAt S0 σ p j) ∧ (∀ a o, G a = some o → G0 a = some o ∨ H0 a = none) ∧ (∀ a o, H0 a = some o → ∃ o', H' a = some o')), fun H' q => q, fun x H2 y => ?_⟩
    obtain ⟨d, hdx, q⟩ := it1.yld i H x H2 hi sv.gh y
    -- the item known over a ground G2
    have go : ∀ G2, Ex G G2 → SV X.K F Si G2 σw H2 → Rp G2 x d → G2 D = none → H2 D = some (.lst vs) → Ex H H2 → (∀ a o, G2 a = some o → G a = some o ∨ H a = none) → rdG X.K F is g x σw H2 fun σ2 H3 => wipe σ2 (own.map (·.2)) = σw ∧ tTx X F scope ifs σ2 H3 fun b H4 =>
        if b = true then tEx X F scope elt σ2 H4 fun y H5 => ∃ acc, H5 D = some (.lst acc) ∧ acc.length < sizeLine ∧ (∃ m', m' < m ∧ (i + 1 + m' = xs.length ∧ ∃ G Si acc' vs, SV X.K F Si G σw (upd H5 D (.lst (acc ++ [y]))) ∧ Ex G0 G ∧ Iv (i + 1) Si acc' ∧ G D = none ∧ (upd H5 D (.lst (acc ++ [y]))) D = some (.lst vs) ∧ Rps G vs acc' ∧
          (∀ a o, H0 a = some o → NotMut S0 σ a → NT o → (upd H5 D (.lst (acc ++ [y]))) a = some o) ∧ (∀ p j, MutAt Si σw p j → MutAt S0 σ p j) ∧ (∀ a o, G a = some o → G0 a = some o ∨ H0 a = none) ∧ (∀ a o, H0 a = some o → ∃ o', (upd H5 D (.lst (acc ++ [y]))) a = some o')))
        else (∃ m', m' < m ∧ (i + 1 + m' = xs.length ∧ ∃ G Si acc vs, SV X.K F Si G σw H4 ∧ Ex G0 G ∧ Iv (i + 1) Si acc ∧ G D = none ∧ H4 D = some (.lst vs) ∧ Rps G vs acc ∧
          (∀ a o, H0 a = some o → NotMut S0 σ a → NT o → H4 a = some o) ∧ (∀ p j, MutAt Si σw p j → MutAt S0 σ p j) ∧ (∀ a o, G a = some o → G0 a = some o ∨ H0 a = none) ∧ (∀ a o, H0 a = some o → ∃ o', H4 a = some o'))) := by
      intro G2 e2 sv2 r2 g2 h2 eh nw2
      refine ⟨G2, Si, d, _, sv2, r2, turn i d Si acc hdx iv, fun S3 σ3 ⟨PT, ht, hte⟩ f3 l3 m3 sv3 => ?_⟩
      have f3' : ∀ j, j ∉ own.map (·.2) → σ3[j]? = σw[j]? := fun j hj => f3 j fun z => hj (hsub j z)
      have f3b : ∀ j, j ∉ own.map (·.2) → σw[j]? = σ3[j]? := fun j hj => (f3' j hj).symm
      have ww : wipe σw (own.map (·.2)) = σw := by
        have := wipe_eq (σ := σ) (σ' := σw) (vs := own.map (·.2)) out lw
        rw [hw] at this
        exact this
      have wE : wipe σ3 (own.map (·.2)) = σw := (wipe_eq f3' l3).trans ww
      have nm3 : NotMut S3 σ3 D := fun j mm => nmD j (m3 D j mm)
      refine ⟨wE, S3, PT, ht, G2, sv3, fun t S4 G4 H4 hp4 st4 => ?_⟩
      have hD4 : H4 D = some (.lst vs) := st4.kp D _ h2 nm3 nt_lst
      have gD4 : G4 D = none := by
        cases q : G4 D with
        | none => rfl
        | some o =>
          rcases st4.nw D o q with z | z
          · rw [g2] at z; cases z
          · rw [h2] at z; cases z
      have nwf : ∀ {Gx Hx : Hp}, (∀ a o, Gx a = some o → G2 a = some o ∨ H2 a = none) → ∀ a o, Gx a = some o → G0 a = some o ∨ H0 a = none := fun {Gx Hx} hx a o z => by
        have h0n : H2 a = none → H0 a = none := fun z => by
          cases q : H0 a with
          | none => rfl
          | some o' =>
            obtain ⟨o2, z2⟩ := lv a o' q
            rw [eh a o2 z2] at z; cases z
        have h0n' : H a = none → H0 a = none := fun z => by
          cases q : H0 a with
          | none => rfl
          | some o' =>
            obtain ⟨o2, z2⟩ := lv a o' q
            rw [z2] at z; cases z
        rcases hx a o z with z | z
        · rcases nw2 a o z with z | z
          · exact nw a o z
          · exact .inr (h0n' z)
        · exact .inr (h0n z)
      have kpf : ∀ {Hx : Hp}, (∀ a o, H2 a = some o → NotMut S3 σ3 a → NT o → Hx a = some o) → ∀ a o, H0 a = some o → NotMut S0 σ a → NT o → Hx a = some o := fun {Hx} hx a o z nz nt =>
        hx a o (eh a o (kp a o z nz nt)) (fun j mm => nz j (mb a j (m3 a j mm))) nt
      cases t with
      | false =>
        refine iteF ⟨m - 1, by omega, by omega, G4, wipeS S4 (own.map (·.2)), acc, vs, st4.sv.moved f3b (by rw [l3]), (e0.trans e2).trans st4.g, (hte false S4 hp4).2 rfl, gD4, hD4, (rs.mono e2).mono st4.g, kpf st4.kp,
          fun p j mm => ?_, nwf (Hx := H4) st4.nw, fun a o z => ?_⟩
        · obtain ⟨⟨t1, h1, hh⟩, ee⟩ := moved_back f3b mm
          obtain ⟨t2, h3, h4⟩ := st4.less j t1 h1 hh
          exact mb p j (m3 p j ⟨⟨t2, h3, h4⟩, ee⟩)
        · obtain ⟨o1, z1⟩ := lv a o z
          exact st4.lv a o1 (eh a o1 z1)
      | true =>
        obtain ⟨hlen, he⟩ := (hte true S4 hp4).1 rfl
        refine iteT ⟨S4, _, he, G4, st4.sv, fun d5 S5 G5 y H5 hp5 st5 r5 => ?_⟩
        have st := st4.trans st5
        have hD5 : H5 D = some (.lst vs) := st.kp D _ h2 nm3 nt_lst
        have gD5 : G5 D = none := by
          cases q : G5 D with
          | none => rfl
          | some o =>
            rcases st.nw D o q with z | z
            · rw [g2] at z; cases z
            · rw [h2] at z; cases z
        have rs5 : Rps G5 (vs ++ [y]) (acc ++ [d5]) := Rps.append (((rs.mono e2).mono st4.g).mono st5.g) (.cons r5 .nil)
        have nm5 : NotMut S5 σ3 D := st.less.not nm3
        refine ⟨vs, hD5, by rw [rs.length]; exact hlen, m - 1, by omega, by omega, G5, wipeS S5 (own.map (·.2)), acc ++ [d5], vs ++ [y], (st5.sv.write gD5 nm5 h0D hD5).moved f3b (by rw [l3]), (e0.trans e2).trans st.g, hp5, gD5, upd_same, rs5, fun a o z nz nt => ?_,
          fun p j mm => ?_, nwf (Hx := H5) st.nw, fun a o z => ?_⟩
        · have ne : a ≠ D := ne_of_none z hD
          rw [upd_ne ne]
          exact kpf st.kp a o z nz nt
        · obtain ⟨⟨t1, h1, hh⟩, ee⟩ := moved_back f3b mm
          obtain ⟨t2, h3, h4⟩ := st.less j t1 h1 hh
          exact mb p j (m3 p j ⟨⟨t2, h3, h4⟩, ee⟩)
        · have ne : a ≠ D := ne_of_none z hD
          rw [upd_ne ne]
          obtain ⟨o1, z1⟩ := lv a o z
          exact st.lv a o1 (eh a o1 z1)
    rcases q with ⟨e2, r2⟩ | ⟨p, ys, ds, hn, e2, ex, ed, r2⟩
    · subst e2
      exact go G (Ex.refl G) sv r2 gd hd (Ex.refl H2) fun a o z => .inl z
    · subst e2; subst ex; subst ed
      have ne : D ≠ p := ne_of_none hd hn
      exact go _ (Ex.upd (sv.gh.none hn)) (sv.alloc hn) (.tup upd_same (r2.mono (Ex.upd (sv.gh.none hn)))) (by rw [upd_ne ne]; exact gd) (by rw [upd_ne ne]; exact hd) (Ex.upd hn) fun a o z => by
        by_cases za : a = p
        · subst za; exact .inr hn
        · rw [upd_ne za] at z; exact .inl z
  · have ei : i = xs.length := by omega
    subst ei
    have svF : SV X.K F (wipeS Si (own.map (·.2))) G σ H := sv.moved out' (by rw [lw])
    refine .inl ⟨it1.stop H sv.gh, k acc _ G D vs H (fin Si acc iv) ⟨e0, kp, fun j sl h1 hm => ?_, svF, lv, nw⟩ gd hD (fun j mm => ?_) hd rs⟩
    · by_cases hj : j ∈ own.map (·.2)
      · have := wipeS_in hj h1
        subst this; cases hm
      · rw [wipeS_out hj] at h1
        have hlt : j < σw.length := by
          rw [← sv.len]; exact (List.getElem?_eq_some_iff.mp h1).1
        have ks := sv.slot j sl h1
        have : ∃ p, σw[j]? = some (some (.ref p)) := by
          cases sl with
          | unk => cases hm
          | val d => cases hm
          | own ds => obtain ⟨p, _, e, _⟩ := ks; exact ⟨p, e⟩
          | row => obtain ⟨p, _, e, _⟩ := ks; exact ⟨p, e⟩
          | fix v => cases hm
          | new d => cases hm
          | ownN ds => obtain ⟨p, _, e, _⟩ := ks; exact ⟨p, e⟩
          | wild n => obtain ⟨p, _, e, _⟩ := ks; exact ⟨p, e⟩
          | hld v a u => cases hm
        obtain ⟨p, ep⟩ := this
        exact (mb p j ⟨⟨sl, h1, hm⟩, ep⟩).1
    · exact nmD j (moved_back out' mm)
theorem do_lcX (own : List (Str × Nat)) (hc : X.calm = true) (hN : X.N.Nodup) (hs0 : X.stack = X.env :: X.outer) (hf0 : X.env.frame = some X.env.locals) (hsub : ∀ j ∈ is, j ∈ own.map (·.2)) (hg : ∀ s H C cl fp, DG (BkX X scope s H C cl fp) F is tg g) (h : DI X F S tg iter (LcIX X F scope (own.map (·.2)) g elt ifs P))
    (ok : BlkOk X.N X.env.scope scope own) (hs : ∀ x, foldedSetIterable iter X.env x = pure x := by intro _; rfl) : DO X F S (.ListComp elt [⟨tg, iter, ifs, 0⟩] scope pos) P :=
  do_mk (pe_lcX (g := rdG X.K F is g) hc hN hs0 hf0 h ok (fun s H C cl fp _ => hg s H C cl fp) (tt := tTx X F scope ifs) (fun s H C cl fp po => ⟨fun pins s σ H Q I ⟨_, _, h, r⟩ => PTs.run (h _ _ _ _ _ po) pins s σ H Q I r⟩) (te := tEx X F scope elt) (fun s H C cl fp po => ⟨fun pins s σ H Q I ⟨_, _, h, r⟩ => PE.run (h _ _ _ _ _ po) pins s σ H Q I r⟩) hs)
    fun σ H Q ⟨G, sv, k⟩ => ⟨G, sv, fun xs S0 G0 J H0 hl st0 it => lc_readX hsub st0.sv it hl fun ds S' G' p vs H' hp st gp hn nm hh rs => k ds S' G' p vs H' hp (st0.trans st) gp (st0.fresh hn) nm hh rs⟩
end
end FW

namespace FW
open PySem PySem.Spec PyProof.Rows L2
variable [Tb]
/-! ### texts -/
section
variable {X : Cx} {F : Fr} {S : List Sl} {P : PD} {PO : List FW.D → List Sl → Prop} {e a b : Expr} {pos p p1 p2 : Pos} {z z2 : Str} {i : Int}
theorem ep_strI (B : BT X.mg) (h : Ep X F S e (.int i)) (hl : i.natAbs.log2 < 1920) (hg : Gl X "str" := by rfl) (he : starEach (e :: []) X.env = (false, eval e X.env) :: starEach [] X.env := by rfl) (hpl : (backTo pos (starEach [] X.env)).any (·.1) = false := by rfl) : Ep X F S (.Call (.Name "str" p) [e] [] pos) (.str (toString i)) :=
  de_strI B (h.to ⟨i, rfl, hl, rfl, rfl⟩) hg he hpl
theorem ep_lenS (B : BT X.mg) (h : Ep X F S e (.str z)) (hl : z.length ≤ sizeLine) (hg : Gl X "len" := by rfl) (he : starEach (e :: []) X.env = (false, eval e X.env) :: starEach [] X.env := by rfl) (hpl : (backTo pos (starEach [] X.env)).any (·.1) = false := by rfl) : Ep X F S (.Call (.Name "len" p) [e] [] pos) (.int z.length) :=
  de_lenS B (h.to ⟨z, rfl, hl, rfl, rfl⟩) hg he hpl
theorem ep_intS (B : BT X.mg) (h : Ep X F S e (.str z)) (hn : PySem.intText? z = some i) (hl : z.length ≤ 640) (hg : Gl X "int" := by rfl) (he : starEach (e :: []) X.env = (false, eval e X.env) :: starEach [] X.env := by rfl) (hpl : (backTo pos (starEach [] X.env)).any (·.1) = false := by rfl) : Ep X F S (.Call (.Name "int" p) [e] [] pos) (.int i) :=
  de_callT call_int_str B.int (by decide +kernel) (da_cons (h.to (da_nil fun vs G σ H Q sv r k => by
    cases r with
    | cons r1 r2 => cases r1; cases r2; exact ⟨z, i, rfl, hn, hl, k _ S G _ H ⟨rfl, rfl⟩ (.refl sv) (.int _)⟩)) he) hg (by decide) (by decide) he hpl
/-- z[i] -/
theorem de_ixS (h : DE X F S a (fun d1 S1 => DE X F S1 b (fun d2 S2 => ∃ z i c, d1 = .str z ∧ d2 = .int i ∧ z.length ≤ sizeLine ∧ atI z.cps.toList i = some c ∧ P (.str ⟨#[c]⟩) S2))) (hs : PlainIx b := by exact fun _ _ => rfl) : DE X F S (.Subscript a b pos) P :=
  de_mk (pe_ix ix_str h pe_any hs) fun σ H Q ⟨G, sv, k⟩ => ⟨G, sv, fun d1 S1 G1 x H1 h1 st1 r1 => ⟨S1, _, h1, G1, st1.sv, fun d2 S2 G2 y H2 ⟨z, i, c, e1, e2, hl, ea, hp⟩ st2 r2 => by
    subst e1; subst e2; cases r1; cases r2
    exact ⟨z, i, c, rfl, rfl, hl, ea, k _ S2 G2 _ H2 hp (st1.trans st2) (.str _)⟩⟩⟩
theorem ep_ixS {c : Nat} (ha : Ep X F S a (.str z)) (hb : Ep X F S b (.int i)) (hl : z.length ≤ sizeLine) (h : atI z.cps.toList i = some c) (hs : PlainIx b := by exact fun _ _ => rfl) : Ep X F S (.Subscript a b pos) (.str ⟨#[c]⟩) :=
  de_ixS (ha.to (hb.to ⟨z, i, c, rfl, rfl, hl, h, rfl, rfl⟩)) hs
/-- z[l:u] -/
theorem de_slS {lo hi : Option Expr} (h : DE X F S a (fun d S1 => ∃ z, d = .str z ∧ z.length ≤ sizeLine ∧ DP X F S1 lo (fun l S2 => DP X F S2 hi (fun u S3 => P (.str (cutS z l u)) S3)))) : DE X F S (.Subscript a (.Slice lo hi none p2) pos) P :=
  de_mk (pe_slice sl_str h po_any po_any) fun σ H Q ⟨G, sv, k⟩ => ⟨G, sv, fun d S1 G1 x H1 ⟨z, e, hz, h1⟩ st1 r1 => ⟨S1, _, h1, G1, st1.sv, fun l S2 G2 H2 h2 st2 => ⟨S2, _, h2, G2, st2.sv, fun u S3 G3 H3 h3 st3 => by
    subst e
    cases r1
    exact ⟨z, rfl, hz, k _ S3 G3 _ H3 h3 ((st1.trans st2).trans st3) (.str _)⟩⟩⟩⟩
theorem ep_slS {lo hi : Option Expr} {l u : Option Int} (ha : Ep X F S a (.str z)) (hz : z.length ≤ sizeLine) (hl : Pp X F S lo l) (hu : Pp X F S hi u) : Ep X F S (.Subscript a (.Slice lo hi none p2) pos) (.str (cutS z l u)) :=
  de_slS (ha.to ⟨z, rfl, hz, hl.to (hu.to ⟨rfl, rfl⟩)⟩)
/-- z + z2 -/
theorem de_addS (h : DE X F S a (fun d1 S1 => DE X F S1 b (fun d2 S2 => ∃ z z2, d1 = .str z ∧ d2 = .str z2 ∧ z.length + z2.length ≤ sizeLine ∧ P (.str (z ++ z2)) S2))) : DE X F S (.BinOp a .Add b pos) P :=
  de_op op_add_str (h.imp fun d1 S1 h1 => h1.imp fun d2 S2 ⟨z, z2, e1, e2, hl, hp⟩ x y G σ H Q sv r1 r2 k => by
    subst e1; subst e2
    cases r1; cases r2
    exact ⟨z, z2, rfl, rfl, hl, k _ S2 G _ H hp (.refl sv) (.str _)⟩)
theorem ep_addS (ha : Ep X F S a (.str z)) (hb : Ep X F S b (.str z2)) (hl : z.length + z2.length ≤ sizeLine) : Ep X F S (.BinOp a .Add b pos) (.str (z ++ z2)) := de_addS (ha.to (hb.to ⟨z, z2, rfl, rfl, hl, rfl, rfl⟩))
theorem rps_strs {G : Hp} : ∀ {vs : List V} {ys : List Str}, Rps G vs (ys.map PyData.str) → vs = ys.map V.str
  | _, [], .nil => rfl
  | _, y :: ys, .cons r t => by
    cases r
    rw [rps_strs t]; rfl
theorem strs_rps {G : Hp} : ∀ ys : List Str, Rps G (ys.map V.str) (ys.map PyData.str)
  | [] => .nil
  | y :: ys => .cons (.str y) (strs_rps ys)
/-- z.split(z2) -/
theorem op_split (ha : Ep X F S a (.str z)) (hb : Ep X F S b (.str z2)) (h2 : (z2.length == 0) = false) (hl : z.length + 2 ≤ sizeLine)
    (hs1 : starEach [b] X.env = [(false, eval b X.env)] := by rfl) (hbase : attributeBase a "split" X.env (eval a X.env) = eval a X.env := by rfl) (hline : (p1.endLine == pos.line) = true := by rfl) : Op X F S (.Call (.Attribute a "split" p1) [b] [] pos) ((Txt.split z z2).map .str) :=
  do_mk (pe_split ha hb hs1 hbase hline) fun σ H Q ⟨G, sv, k⟩ => ⟨G, sv, fun d1 S1 G1 x H1 ⟨e1, e2⟩ st1 r1 => by
    subst e1; subst e2
    cases r1
    refine ⟨⟨z, rfl⟩, G1, st1.sv, fun d2 S2 G2 y H2 ⟨e3, e4⟩ st2 r2 => ?_⟩
    subst e3; subst e4
    cases r2
    refine ⟨z, z2, rfl, rfl, h2, hl, fun q hq => ?_⟩
    have st := st1.trans st2
    exact k _ S2 G2 q _ _ ⟨rfl, rfl⟩ (st.trans (.allocO st2.sv hq)) (st2.sv.gh.none hq) (st.fresh hq) (st2.sv.fresh hq) upd_same (strs_rps _)⟩
/-- z.join(ys) -/
theorem ep_join {ys : List Str} (ha : Ep X F S a (.str z)) (hb : Ep X F S b (.list (ys.map .str))) (hl : (ys.map (·.length)).sum + ys.length * z.length ≤ 16777216)
    (hs1 : starEach [b] X.env = [(false, eval b X.env)] := by rfl) (hbase : attributeBase a "join" X.env (eval a X.env) = eval a X.env := by rfl) (hline : (p1.endLine == pos.line) = true := by rfl) : Ep X F S (.Call (.Attribute a "join" p1) [b] [] pos) (.str (Txt.join z ys)) :=
  de_mk (pe_join ha hb hs1 hbase hline) fun σ H Q ⟨G, sv, k⟩ => ⟨G, sv, fun d1 S1 G1 x H1 ⟨e1, e2⟩ st1 r1 => by
    subst e1; subst e2
    cases r1
    refine ⟨⟨z, rfl⟩, G1, st1.sv, fun d2 S2 G2 y H2 ⟨e3, e4⟩ st2 r2 => ?_⟩
    subst e3; subst e4
    cases r2 with
    | lst hp rs =>
      have e := rps_strs rs
      subst e
      exact ⟨z, _, ys, rfl, rfl, .inl (SqL.of (st2.sv.gh _ _ hp)), hl, k _ S2 G2 _ H2 ⟨rfl, rfl⟩ (st1.trans st2) (.str _)⟩⟩
/-- for c in z -/
theorem itd_str {G : Hp} : ItD (Its z) G (z.cps.toList.map fun c => .str ⟨#[c]⟩) where
  go := fun i H hi _ => by rw [List.length_map, Array.length_toList] at hi; exact hi
  stop := fun H _ => by rw [List.length_map, Array.length_toList]; exact Nat.le_refl _
  yld := fun i H x H' hi _ ⟨e, c, hc, hx⟩ => by
    subst hx
    refine ⟨.str ⟨#[c]⟩, ?_, .inl ⟨e, .str _⟩⟩
    rw [List.getElem?_map, Array.getElem?_toList, hc]; rfl
theorem di_str {tg : Expr} (h : DE X F S e (fun d S' => ∃ z, d = .str z ∧ PO (z.cps.toList.map fun c => .str ⟨#[c]⟩) S')) : DI X F S tg e PO :=
  di_mk (pi_str h) fun σ H R ⟨G, sv, k⟩ => ⟨G, sv, fun d S' G' v H' ⟨z, ed, hp⟩ st r => by
    subst ed
    cases r
    exact ⟨z, rfl, k _ S' G' _ H' hp st itd_str⟩⟩
/-- c not in z -/
theorem tp_ninS {c : Nat} (ha : Ep X F S a (.str ⟨#[c]⟩)) (hb : Ep X F S b (.str z)) (hm : behindInMarks .NotIn b = false := by rfl) : Tp X F S (.Compare a [.NotIn] [b] pos) (!decide (c ∈ z.cps.toList)) :=
  dt_cmp op_notIn_sign hm (ha.to (hb.to fun x y G σ H Q sv r1 r2 k => by
    cases r1; cases r2
    exact ⟨c, z, rfl, rfl, k _ S G _ H (b1 ⟨rfl, rfl⟩) (.refl sv) (.bl _)⟩))
end
end FW

namespace FW
open PySem PySem.Spec PyProof.Rows L2
variable [Tb]
/-! ### sorted by a key that a lambda tells -/
/-- a lambda without captured names, called -/
theorem run_lam {CX : CXT} {P : Program} {w : World} {K : PySem.W.Frag} {mg : Str → Option Value} {base : Heap} {k : Nat} {f c' : Addr} {q : Str} {params : Arguments} {body : Expr} {scope : Scope} {pm ctv : Value} {N ps : List Str}
    {A : Around} {outer : List Env} {s : Shared} {H : Hp} {us : List Value} {vs : List V} {Q : VK} {E : XK} (ho : s.heap.get? f = some (PySem.W.kla_obj "<lambda>" q params body scope [] pm c' ctv)) (hc : H c' = some (LamX.CodeO c' q)) (S : FnScope N ps scope) (hr : Room (k + 1) A) (e0 : Env0 P w K mg base A outer s H)
    (hb : bindArgs (PySem.W.kla_fn "<lambda>" q params body scope [] pm (.ref c') ctv) ⟨us, []⟩ = pure (ps.zip us)) (r : Vals vs us) (hl : vs.length = ps.length)
    (hbody : Room k (A.deeper (envOfC q scope s.heap.objs.size f (.ref c'))) → ∃ t, PE (cxOf CX P w K mg base N q scope f (.ref c') A outer s H E).nox body t ∧ t (L2.start N vs) H Q) :
    codeAny (model P w) A (.call (.ref f) ⟨us, []⟩) (CR CX outer P w H s Q E) s := by
  have lim : s.heap.NoLimit := e0.mod.nolimit.keeps fun b o e => (e0.bs b o e).1
  have hkind : ∀ y ∈ ps.zip us, scope.names.lookup y.1 = some .local ∨ (scope.names.lookup y.1 = some .cell ∧ ((cellsFrom (s.heap.objs.size + 1) scope.names []).lookup y.1).isSome = true) := fun ⟨n, v⟩ hy => by
    rcases S.par n (List.of_mem_zip hy).1 with z | z
    · exact .inl z
    · exact .inr ⟨z, PySem.W.cellsFrom_some _ _ _ (.inl z)⟩
  obtain ⟨⟨oc, vs', t, hoc, hdc, hvc⟩, _, _⟩ := e0.hok c' _ hc
  refine PySem.W.kla_callFunE hr.depth ho rfl S.co S.gen rfl ⟨c', oc, vs', t, rfl, hoc, hdc, hvc⟩ ?_
  rw [hb]
  refine wpAny_pure (wpAny_newFunctionEnv_cells S.kind hkind fun env he s1 x => ?_)
  subst he
  refine ⟨lim.keeps x.toInCall.keep, ?_⟩
  obtain ⟨t, ht, hq⟩ := hbody (hr.deeper _)
  have I : Inv (cxOf CX P w K mg base N q scope f (.ref c') A outer s H E) [] (L2.start N vs) H s1 := inv_start S hr.hd e0 hl r x
  refine PySem.W.kla_codeExpr (wpAny_mono (ht.run [] s1 (L2.start N vs) H Q (I.wish _) hq) (fun u s' hs => ?_) fun e s' hs => hs.elim)
  obtain ⟨v, H', J, rv, q⟩ := hs
  exact ⟨v, H', J.os, J.bare, J.base, J.hok, rv, q⟩
theorem PSt.refl {G H : Hp} (e : Ex G H) : PSt G H G H := ⟨Ex.refl G, e, .of (Ex.refl H), fun _ _ h => .inl h⟩
theorem PSt.trans {G H G1 H1 G2 H2 : Hp} (a : PSt G H G1 H1) (b : PSt G1 H1 G2 H2) : PSt G H G2 H2 := ⟨a.g.trans b.g, b.gh, a.h.trans b.h, fun x o h => by
  rcases b.nw x o h with h | h
  · exact a.nw x o h
  · right
    cases q : H x with
    | none => rfl
    | some u =>
      obtain ⟨o', h'⟩ := a.h.l x u q
      rw [h'] at h; cases h⟩
section
variable {X : Cx} {pins : List (Addr × Obj)} {σ : L2.St} {H : Hp} {s : Shared}
theorem ltN {h : Heap} {b : Addr} {o : Obj} (e : h.get? b = some o) : @LT.lt Nat _ b h.objs.size := Heap.lt_size e
open PySem.W PySem.Calls in
/-- sorted(l, key=f), f a lambda without captured names -/
theorem sortkey_run {k : Nat} {l f c' : Addr} {q : Str} {params : Arguments} {body : Expr} {scope : Scope} {pm ctv : Value} {N : List Str} {y : Str} {its : List Value} {xs : List V} {G : Hp} {ds : List FW.D} {kd : FW.D → FW.D} {Q : VK}
    (I : Inv X pins σ H s) (hr : Room (k + 2) X.A) (hl : s.heap.IsList l its.toArray) (rv : Vals xs its) (eg : Ex G H) (rs : Rps G xs ds) (hz : ds.length ≤ sizeLine)
    (hf : s.heap.get? f = some (kla_obj "<lambda>" q params body scope [] pm c' ctv)) (hfn : H f = none) (hfr : f ∉ frs X.stack) (hfL : f ≠ X.env.locals) (hfS : f ∉ X.fs) (hc : H c' = some (LamX.CodeO c' q)) (S : FnScope N [y] scope) (hN : 1 ≤ N.length)
    (hb : ∀ u, bindArgs (kla_fn "<lambda>" q params body scope [] pm (.ref c') ctv) ⟨[u], []⟩ = pure [(y, u)])
    (hal : AllAlike (ds.map kd)) (hsk : Sortable (ds.map kd)) (hdp : ∀ d ∈ ds, (kd d).depth ≤ 60)
    (turn : ∀ d ∈ ds, ∀ (A : Around) (outer : List Env) (s : Shared) (H : Hp) (E : XK) (Fm : Fr), Room k (A.deeper (envOfC q scope s.heap.objs.size f (.ref c'))) → Fm.r = none →
      DE (cxOf CX0 X.prog X.w X.K X.mg X.base N q scope f (.ref c') A outer s H E).nox Fm (sl0 N [d]) body (fun r _ => r = kd d))
    (h : ∀ G' H' p ys, PSt G H G' H' → H p = none → H' p = none → Rps G' ys (ds.mergeSort (dataLe false kd)) → Q (.ref p) (upd H' p (.lst ys))) :
    wpAny (model X.prog X.w) X.A (call (.builtin "sorted") [.ref l] [(Str.ofString "key", .ref f)]) (EP X pins σ Q) X.xe s := by
  have lx : its.length = ds.length := (rv.length).symm.trans rs.length
  have szK := I.sz
  refine sorted_of_sort hl (by rw [lx]; exact hz) (ksk_s1 _ _) (fun _ => ksk_l1 _ _) fun E' => ?_
  rw [ksk_t1]
  generalize ea : s.heap.objs.size + 1 = a
  have eaN : @Eq Nat (s.heap.objs.size + 1) a := ea
  have hoA : (copyHeap s.heap its).get? a = some (seqObj "list" its.toArray 0) := by rw [← ea]; exact copyHeap_at s.heap its
  have old1 : ∀ b o, s.heap.get? b = some o → b ≠ a := fun b o e => Nat.ne_of_lt (by have := ltN e; omega)
  obtain ⟨e1, ho1⟩ : ∃ e1, ((copyHeap s.heap its).update a (Obj.mapSeq fun _ => (#[] : Array Value))).get? a = some (seqObj "list" #[] e1) := ⟨_, get?_update_seq hoA fun _ => #[]⟩
  unfold ksk_tree
  refine wpAny_bind (listItems_at hoA rfl ?_)
  refine wpAny_bind (listUpdate_at hoA rfl ?_ (by rw [List.size_toArray, lx]; exact hz) (Nat.zero_le _))
  refine wpAny_bind (seqEpoch_at ho1 rfl ?_)
  refine wpAny_bind (wpAny_newTuple ?_ (by show its.length ≤ _; rw [lx]; exact hz))
  refine wpAny_bind (wpAny_newList ?_ (Nat.zero_le _))
  refine wpAny_holding ?_
  generalize ek : (((copyHeap s.heap its).update a (Obj.mapSeq fun _ => (#[] : Array Value))).push (seqObj "tuple" its.toArray 0)).objs.size = kS
  have hka : @LT.lt Nat _ a kS := by rw [← ek, size_push', Heap.size_update]; exact Nat.lt_succ_of_lt (ltN hoA)
  have kp0 : ∀ b o, s.heap.get? b = some o → (sortingHeap (copyHeap s.heap its) a its).get? b = some o := fun b o e => sortingHeap_old (old1 b o e) (copyHeap_old e)
  have nk0 : (sortingHeap (copyHeap s.heap its) a its).get? kS = some (seqObj "list" #[] 0) := by
    rw [← ek]; exact Heap.get?_push_size _ rfl
  have na0 : (sortingHeap (copyHeap s.heap its) a its).get? a = some (seqObj "list" #[] e1) := Heap.get?_push_of_some _ (Heap.get?_push_of_some _ ho1)
  show wpAny _ X.A.in1.in1 (ksk_rest a (.ref f) false its.toArray e1 (.ref kS)) _ E' { s with heap := sortingHeap (copyHeap s.heap its) a its }
  generalize sortingHeap (copyHeap s.heap its) a its = h0 at kp0 nk0 na0 ⊢
  -- places
  have hA : H a = none := I.hok.fresh (by omega)
  have hK : H kS = none := I.hok.fresh (by omega)
  have lL : @LT.lt Nat _ X.env.locals s.heap.objs.size := I.lt
  have ltf : @LT.lt Nat _ f s.heap.objs.size := Heap.lt_size hf
  have nfs : ∀ b : Nat, s.heap.objs.size ≤ b → b ∉ X.fs := fun b hb => I.nofs hb
  have ncl : ∀ b : Nat, s.heap.objs.size ≤ b → ∀ x c, X.env.cells.lookup x = some c → c ≠ b := fun b hb x c e z => by
    obtain ⟨v, o, ho, _⟩ := I.cell x c e
    rw [z] at ho
    have := ltN ho
    omega
  have npn : ∀ b : Nat, s.heap.objs.size ≤ b → ∀ p ∈ X.pn ++ pins, p.1 ≠ b := fun b hb p hp z => by
    have e := (I.pin p hp).1
    rw [z] at e
    have := ltN e
    omega
  have nst : ∀ b : Nat, s.heap.objs.size ≤ b → b ∉ frs X.stack := fun b hb z => by
    rcases List.mem_cons.mp (I.stkSub _ z) with e | e
    · rw [e] at hb; omega
    · exact nfs b hb e
  have I0 : Inv X pins σ H { s with heap := h0 } := I.kept kp0
  have pinSub : ∀ {q1 q2 : List (Addr × Obj)} {H' : Hp} {s' : Shared}, Inv X q1 σ H' s' → (∀ p ∈ q2, p ∈ q1) → Inv X q2 σ H' s' := fun J hs => J.pins_of fun p hp => J.pin p (List.mem_append_right _ (hs p hp))
  have pf : ∀ {H' : Hp} {s' : Shared} {q1 : List (Addr × Obj)}, Inv X q1 σ H' s' → ∀ (b : Addr) (vs : Array Value) (n : Nat), s'.heap.get? b = some (seqObj "list" vs n) → H' b = none → @LE.le Nat _ s.heap.objs.size b → Inv X ((b, seqObj "list" vs n) :: q1) σ H' s' := fun {H' s' q1} J b vs n hb hn hs => J.pins_of fun p hp => by
    rcases List.mem_cons.mp hp with rfl | hp
    · exact ⟨hb, hn, Nat.ne_of_gt (by omega), nfs b hs, fun v z => by cases z⟩
    · exact J.pin p (List.mem_append_right _ hp)
  unfold ksk_rest
  refine wpAny_bind (wpAny_rule ?_)
  first
    | rw [List.forIn_toArray]
    | (rw [← Array.forIn_toList]; simp only [List.toList_toArray])
    | rw [← Array.forIn_toList]
  refine wpAny_bind (ksk_fold (fun i s' => ∃ (G' H' : Hp) (kA : Array Value) (e : Nat) (us : List V), Inv X ((kS, seqObj "list" kA e) :: (a, seqObj "list" #[] e1) :: (f, kla_obj "<lambda>" q params body scope [] pm c' ctv) :: pins) σ H' s' ∧ PSt G H G' H' ∧ Vals us kA.toList ∧ Rps G' us ((ds.map kd).take i)) its 0 _ ⟨G, H, #[], 0, [], ?start, .refl eg, .nil, ?start2⟩ ?step ?done)
  case start =>
    have J0 : Inv X ((f, kla_obj "<lambda>" q params body scope [] pm c' ctv) :: pins) σ H { s with heap := h0 } := I0.pins_of fun p hp => by
      rcases List.mem_cons.mp hp with rfl | hp
      · exact ⟨kp0 _ _ hf, hfn, hfL, hfS, fun v z => by cases z⟩
      · exact I0.pin p (List.mem_append_right _ hp)
    exact pf (pf J0 a _ _ na0 hA (by omega)) kS _ _ nk0 hK (by omega)
  case start2 => rw [List.take_zero]; exact .nil
  case step =>
    rintro j x s' hx ⟨G', H', kA, e, us, J, ps, vk, rk⟩
    simp only [Nat.zero_add] at rk ⊢
    have hj : j < its.length := (List.getElem?_eq_some_iff.mp hx).1
    obtain ⟨d, hd⟩ : ∃ d, ds[j]? = some d := ⟨_, List.getElem?_eq_getElem (by omega)⟩
    obtain ⟨w, hw, rwd⟩ := rs.get hd
    obtain ⟨u0, hu0, ru⟩ := rv.get hw
    rw [hx] at hu0; cases hu0
    have hdm : d ∈ ds := List.mem_of_getElem? hd
    have hdk : (ds.map kd)[j]? = some (kd d) := by rw [List.getElem?_map, hd]; rfl
    have pinK := J.pin (kS, seqObj "list" kA e) (List.mem_append_right _ (.head _))
    have pinF := J.pin (f, kla_obj "<lambda>" q params body scope [] pm c' ctv) (List.mem_append_right _ (.tail _ (.tail _ (.head _))))
    have hc' : H' c' = some (LamX.CodeO c' q) := ps.h.k c' _ hc (fun qs z => LamX.codeO_ne qs z)
    have hkz : kA.size ≤ its.length := by
      have h1 : us.length = kA.toList.length := vk.length
      have h2 := rk.length
      have h3 : kA.toList.length = kA.size := Array.length_toList
      rw [List.length_take, List.length_map] at h2
      rw [← h3, ← h1, h2]
      exact Nat.le_trans (Nat.min_le_right _ _) (Nat.le_of_eq lx.symm)
    have e0 : Env0 X.prog X.w X.K X.mg X.base X.A.in1.in1 X.stack s' H' := let e := J.env0; ⟨e.frames, e.mod, e.bs, e.bsz, e.funs, e.frf, e.hok, e.bare⟩
    have hrA : Room (k + 1) X.A.in1.in1 := ⟨hr.hd, by have := hr.dp; show X.A.depth + 3 * (k + 1) + 5 < _; omega, by have := hr.un; show X.A.units + 1 + 1 + 16 * (k + 1) + 200 < _; omega⟩
    have rc : codeAny (model X.prog X.w) X.A.in1.in1 (.call (.ref f) ⟨[x], []⟩) (CR CX0 X.stack X.prog X.w H' s' (fun u H2 => ∃ G2, PSt G' H' G2 H2 ∧ Rp G2 u (kd d)) E0) s' := by
      refine run_lam (N := N) (ps := [y]) (us := [x]) (vs := [w]) pinF.1 hc' S hrA e0 (hb x) (.cons ru .nil) rfl fun hr2 => ⟨_, turn d hdm _ _ _ _ _ ⟨G', H', none⟩ hr2 rfl, G', sv_start hN ps.gh (.cons (rwd.mono ps.g) .nil), fun r S2 G2 v H2 hr st rr => ?_⟩
      subst hr
      exact ⟨G2, ⟨st.g, st.sv.gh, st.sv.kept.ext rfl, st.sv.new⟩, rr⟩
    refine wpAny_bind (wpAny_attempt (wpAny_mono (wpAny_call (Q := fun u s2 => CE X.stack X.prog X.w H' s' (fun u H2 => ∃ G2, PSt G' H' G2 H2 ∧ Rp G2 u (kd d)) u s2) (E := fun _ _ => False) (codeAny_mono rc fun r s2 hq => ?_)) (fun v s2 he => ?_) fun _ _ hF => hF.elim))
    · cases r with
      | error e => exact (show False from hq).elim
      | ok fl =>
        cases fl with
        | ret u => exact hq
        | next => exact False.elim hq
        | brk => exact False.elim hq
        | cont => exact False.elim hq
    · obtain ⟨kv, H2, os, bare, un, hok, rkv, G2, ps2, rk2⟩ := he
      have J2 := J.call' os un hok bare (fun b hb => absurd hb (by simp))
      try dsimp only
      have pinK2 := J2.pin (kS, seqObj "list" kA e) (List.mem_append_right _ (.head _))
      have s1 := Heap.SameBut.update s2.heap kS (Obj.mapSeq (·.push v))
      obtain ⟨c2, hc2⟩ : ∃ c2, (s2.heap.update kS (Obj.mapSeq (·.push v))).get? kS = some (seqObj "list" (kA.push v) c2) := ⟨_, get?_update_seq pinK2.1 (·.push v)⟩
      have ek : (ds.map kd).take (j + 1) = (ds.map kd).take j ++ [kd d] := by rw [List.take_add_one, hdk]; simp
      have ea2 : (kA.push v).toList = kA.toList ++ [v] := by simp
      refine wpAny_bind (listUpdate_at pinK2.1 rfl ?_ (Nat.le_trans hkz (by omega)) (Nat.le_trans (Nat.le_of_eq (Array.size_push ..)) (Nat.succ_le_succ (Nat.le_trans hkz (by omega)))))
      have J3 : Inv X ((a, seqObj "list" #[] e1) :: (f, kla_obj "<lambda>" q params body scope [] pm c' ctv) :: pins) σ H2 { s2 with heap := s2.heap.update kS (Obj.mapSeq (·.push v)) } := (pinSub J2 fun p hp => .tail _ hp).turned (t' := s2.toks) (fun b o hb e => (s1.2 b hb).trans e) pinK2.2.1 (Nat.ne_of_gt (by omega)) (.inr (by omega)) (fun x c e z => ncl kS (by omega) x c e z) fun p hp z => by
        rcases List.mem_append.mp hp with hp | hp
        · exact npn kS (by omega) p (List.mem_append_left _ hp) z
        · rcases List.mem_cons.mp hp with rfl | hp
          · exact absurd z (Nat.ne_of_lt hka)
          · rcases List.mem_cons.mp hp with rfl | hp
            · exact absurd z (Nat.ne_of_lt (by omega))
            · exact npn kS (by omega) p (List.mem_append_right _ hp) z
      refine wpAny_pure ⟨rfl, G2, H2, kA.push v, c2, us ++ [kv], pf J3 kS _ _ hc2 pinK2.2.1 (by omega), ps.trans ps2, ?_, ?_⟩
      · rw [ea2]; exact vk.append (.cons rkv .nil)
      · rw [ek]; exact (rk.mono ps2.g).append (.cons rk2 .nil)
  case done =>
    rintro s' ⟨G', H', kA, e, us, J, ps, vk, rk⟩
    have ek : (ds.map kd).take (0 + its.length) = ds.map kd := List.take_of_length_le (by rw [List.length_map]; omega)
    rw [ek] at rk
    have pinK := J.pin (kS, seqObj "list" kA e) (List.mem_append_right _ (.head _))
    have pinA := J.pin (a, seqObj "list" #[] e1) (List.mem_append_right _ (.tail _ (.head _)))
    have hk' : EachIs (fun v k => ∃ as, Reads s'.heap v k as) kA.toList (ds.map kd) := by
      have key : ∀ {us : List V} {ks : List Value} {es : List FW.D}, Vals us ks → Rps G' us es → EachIs (fun v k => ∃ as, Reads s'.heap v k as) ks es := by
        intro us
        induction us with
        | nil => intro ks es v r; cases v; cases r; exact .nil
        | cons x xs ih =>
          intro ks es v r
          cases v with
          | cons v1 v2 => cases r with | cons r1 r2 => exact .cons (Dp.reads J _ _ _ ((r1.mono ps.gh).dp) v1) (ih v2 r2)
      exact key vk rk
    have hsz : kA.size = its.length := by
      have h1 := hk'.length
      rw [Array.length_toList, List.length_map] at h1
      omega
    try dsimp only
    refine wpAny_bind (listItems_at pinK.1 rfl ?_)
    refine keyH_end (κ := dataKind s'.heap (ds.map kd)) (h₁ := hideAll s'.heap [kS]) (b := false) (fun b o hb e => of_hideAll _ e) (hideAll_none _ (by simp)) pinK.1 pinA.1 (Nat.ne_of_gt hka) (SortsAt.data (s := s') hk' hal hsk fun d hd => ?_) hsz (by omega) fun h3 tk3 c3 k3 n3 => ⟨rfl, ?_⟩
    · obtain ⟨d0, hd0, rfl⟩ := List.mem_map.mp hd
      have := hdp d0 hd0
      have := hr.un
      show X.A.units + 1 + 1 + (kd d0).depth < cLine
      omega
    · have ko : KeyedOut false (ds.map kd) its (sortVals (dataKind s'.heap (ds.map kd)) false kA.toList its) := ⟨s'.heap, kA.toList, hal, rfl, hk'⟩
      obtain ⟨ys, vy, ry⟩ := each_rps (G := G') (keyedOut_each kd ko (rps_each rv (rs.mono ps.g)))
      have kp3 : ∀ b o, b ≠ a → b ≠ kS → s'.heap.get? b = some o → h3.get? b = some o := fun b o n1 n2 e => k3 b o n1 (hideAll_get _ e (by simpa using n2))
      have ly : ys.length ≤ sizeLine := by rw [ry.length, List.length_mergeSort]; exact hz
      have J0 : Inv X pins σ H' s' := pinSub J fun p hp => .tail _ (.tail _ (.tail _ hp))
      have neA : ∀ b u, H' b = some u → b ≠ a := fun b u e z => by rw [z, pinA.2.1] at e; cases e
      have neK : ∀ b u, H' b = some u → b ≠ kS := fun b u e z => by rw [z, pinK.2.1] at e; cases e
      have hch : ∀ b ∈ [kS, a], b = kS ∨ b = a := fun b hb => by simpa using hb
      refine ⟨.ref a, upd H' a (.lst ys), ?_, rfl, h G' H' a ys ps hA pinA.2.1 ry⟩
      refine J0.step (g' := s'.gens) (d' := s'.drawn) (ch := [kS, a]) (fun b hb => ?_) (fun b o _ _ hc e _ => kp3 b o (fun z => hc (by simp [z])) (fun z => hc (by simp [z])) e) (fun b o _ _ hc e _ => ⟨o.slots, kp3 b o (fun z => hc (by simp [z])) (fun z => hc (by simp [z])) e⟩)
        (fun b o hc _ n => by rw [upd_ne (fun z => hc (by simp [z]))]; exact n) (fun b o hc e => ⟨o, kp3 b o (fun z => hc (by simp [z])) (fun z => hc (by simp [z])) e⟩) (fun b xs e => by rw [upd_ne (neA b _ e)]; exact e) (fun b o u e => by rw [upd_ne (neA b _ e)]; exact e) (fun b ps e => ⟨#[], by rw [upd_ne (neA b _ e), e]; simp⟩) (fun m hm => ?_) (fun b u e => ?_) J0.bare
      · have sb : @LE.le Nat _ s.heap.objs.size b := by rcases hch b hb with z | z <;> rw [z] <;> omega
        exact ⟨.inr (by omega), Nat.ne_of_gt (by omega), fun x c e z => ncl b sb x c e z, fun p hp => npn b sb p hp⟩
      · obtain ⟨o, es, ep, ho, r⟩ := hm
        exact ⟨o, es, ep, kp3 _ o (Nat.ne_of_lt (by omega)) (Nat.ne_of_lt (by omega)) ho, r⟩
      · by_cases hb : b = a
        · subst hb
          rw [upd_same] at e; cases e
          exact ⟨ly, _, c3, vy, n3⟩
        · rw [upd_ne hb] at e
          refine (J0.hok b u e).stay (fun c v hc q => kp3 c v ?_ ?_ q) (fun d q => by rw [upd_ne (neA d _ q)]; exact q) fun d xs q => by rw [upd_ne (neA d _ q)]; exact q
          · rcases hc with z | z
            · rw [z]; exact hb
            · exact neA c _ z
          · rcases hc with z | z
            · rw [z]; exact neK b _ e
            · exact neK c _ z
end
/-! ### lambdas are made -/
section
variable {X : Cx} {pins : List (Addr × Obj)} {σ : L2.St} {H : Hp} {s : Shared}
/-- what a lambda's making does to the abstract heap -/
def Made (H : Hp) (P : Addr) (q : Str) (H1 : Hp) : Prop := H1 = H ∨ ∃ (ps : Array Value) (u : Pos) (c' : Addr), H P = some (.tbl ps) ∧ H c' = none ∧ H1 = upd (upd H P (.tbl (ps ++ #[rawInt u.line, rawInt u.col, .ref c']))) c' (LamX.CodeO c' q)
theorem lam_make3 {c P : Addr} {q : Str} {params : Arguments} {body : Expr} {scope : Scope} {pos : Pos} {E : Value → Shared → Prop} {Q : Value → Shared → Prop} (I : Inv X pins σ H s) (TB : LamX.TabB X.base X.mg c P) (hcode : X.env.code = .ref c) (hq : X.env.qual ++ "<lambda>" = q)
    (tS : LamX.TabS H P q) (hdef : defaultsOf params X.env = ([], [])) (hfree : ∀ y ∈ scope.names, y.2 = .free → ∃ c, X.env.cells.lookup y.1 = some c)
    (h : ∀ (f c' : Addr) (pm ctv : Value) (H1 : Hp) (s' : Shared), Inv X pins σ H1 s' → Made H P q H1 → H1 c' = some (LamX.CodeO c' q) →
      s'.heap.get? f = some (PySem.W.kla_obj "<lambda>" q params body scope (cloFrom X.env.cells scope.names []) pm c' ctv) → H1 f = none → @LE.le Nat _ s.heap.objs.size f → Q (.ref f) s') :
    wpAny (model X.prog X.w) X.A (eval (.Lambda params body scope pos) X.env) Q E s := by
  subst hq
  obtain ⟨ps, hP, ht, ha⟩ := tS
  refine PySem.W.kla_eval hdef ?_
  have gP := I.hok P _ hP
  have gP : s.heap.get? P = some { cls := .none, data := .fields ps } := gP
  have bP := TB.bm.keeps I.bk
  have cP := TB.code.keeps I.bk
  have gG := I.mod.glob.keeps I.bk
  cases am : codeAmong pos ps.toList with
  | none =>
    refine PySem.W.kla_makeFunction (c := c) (P := P) (ps := ps) (closure_ok hfree) I.ok.glob gG hcode cP gP ht am TB.gP bP fun k ctv h1 tk hx hge hlt hrec htb => ?_
    obtain ⟨k2, oc, vs, t, e2, hoc, hd, hv⟩ := hrec
    injection e2 with e2
    subst e2
    have hk : H k = none := I.hok.fresh hge
    have hz : @LE.le Nat _ s.heap.objs.size h1.objs.size := Nat.le_trans hge (Nat.le_of_lt hlt)
    have J := LamX.inv_table (q := X.env.qual ++ "<lambda>") (t' := tk) (more := #[rawInt pos.line, rawInt pos.col, .ref k]) (h' := h1.push (PySem.W.kla_obj "<lambda>" (X.env.qual ++ "<lambda>") params body scope (cloFrom X.env.cells scope.names []) ((X.mg "__name__").getD .none) k ctv)) I hP (fun b o hb e => Heap.get?_push_of_some _ (hx b o hb e)) (Heap.get?_push_of_some _ htb) hge
      ⟨oc, vs, t, Heap.get?_push_of_some _ hoc, hd, hv⟩
    refine h _ k _ ctv _ _ J (.inr ⟨ps, pos, k, hP, hk, rfl⟩) upd_same (Heap.get?_push_size _ rfl) ?_ hz
    have n2 : @Ne Nat h1.objs.size P := Nat.ne_of_gt (Nat.lt_of_lt_of_le (ltN gP) hz)
    rw [upd_ne (Nat.ne_of_gt hlt), upd_ne n2]
    exact I.hok.fresh hz
  | some cv =>
    obtain ⟨k, e, hco⟩ := ha pos cv am
    subst e
    refine PySem.W.kla_makeFunctionHit (c := c) (P := P) (ps := ps) (closure_ok hfree) I.ok.glob gG hcode cP gP ht am bP fun ctv h1 tk hx hz => ?_
    exact h _ k _ ctv H _ (I.kept (t' := tk) fun b o e => Heap.get?_push_of_some _ (hx b o e)) (.inl rfl) hco (Heap.get?_push_size _ rfl) (I.hok.fresh hz) hz
end
theorem Made.keep {H H1 : Hp} {P : Addr} {q : Str} (m : Made H P q H1) {b : Addr} {o : HO} (h : H b = some o) (ne : b ≠ P) : H1 b = some o := by
  rcases m with rfl | ⟨ps, u, k, _, hk, rfl⟩
  · exact h
  · rw [upd_ne (ne_of_none h hk), upd_ne ne]; exact h
theorem Made.tabs {T : List (Addr × Str)} {H H1 : Hp} {P : Addr} {q : Str} (m : Made H P q H1) (hu : ∀ p ∈ T, p.1 = P → p.2 = q) (t : LamX.Tabs T H) : LamX.Tabs T H1 := by
  rcases m with rfl | ⟨ps, u, k, hP, hk, rfl⟩
  · exact t
  · intro p hp
    obtain ⟨ps2, a1, a2, a3⟩ := t p hp
    have up : ∀ {c0 : Addr} {nm : Str}, H c0 = some (LamX.CodeO c0 nm) → upd (upd H P (.tbl (ps ++ #[rawInt u.line, rawInt u.col, .ref k]))) k (LamX.CodeO k q) c0 = some (LamX.CodeO c0 nm) := fun {c0 nm} e => by
      rw [upd_ne (ne_of_none e hk), upd_ne (fun z => by subst z; rw [e] at hP; exact LamX.codeO_ne ps (Option.some.inj hP))]; exact e
    by_cases hb : p.1 = P
    · have eq := hu p hp hb
      rw [hb, hP] at a1
      cases a1
      rw [eq] at a3
      rw [hb, eq]
      have el : (ps ++ #[rawInt u.line, rawInt u.col, .ref k]).toList = ps.toList ++ [rawInt u.line, rawInt u.col, .ref k] := by simp
      refine ⟨_, by rw [upd_ne (ne_of_none hP hk), upd_same], by rw [el]; exact PySem.TriplesOk_snoc _ _ _ _ a2, fun p' cv hcv => ?_⟩
      rw [el] at hcv
      rcases LamX.among_app _ a2 hcv with z | z
      · obtain ⟨c0, e1, e2⟩ := a3 p' cv z
        exact ⟨c0, e1, up e2⟩
      · exact ⟨k, z, upd_same⟩
    · refine ⟨ps2, by rw [upd_ne (ne_of_none a1 hk), upd_ne hb]; exact a1, a2, fun p' cv hcv => ?_⟩
      obtain ⟨c0, e1, e2⟩ := a3 p' cv hcv
      exact ⟨c0, e1, up e2⟩
/-- tables stand, and none in the ground -/
structure TbOk (G H : Hp) : Prop where
  t : LamX.Tabs Tb.T H
  g : ∀ p ∈ Tb.T, G p.1 = none
theorem TbOk.at {G H : Hp} (t : TbOk G H) {p : Addr × Str} (hp : p ∈ Tb.T) : ∃ ps, H p.1 = some (.tbl ps) := by
  obtain ⟨ps, h, _⟩ := t.t p hp
  exact ⟨ps, h⟩
theorem SV.tb {K : PySem.W.Frag} {F : Fr} {S : List Sl} {G H : Hp} {σ : L2.St} (sv : SV K F S G σ H) (t : TbOk F.B F.H0) : TbOk G H := ⟨sv.live.2.2 t.t, fun p hp => by
  cases q : G p.1 with
  | none => rfl
  | some o =>
    rcases sv.new _ _ q with z | z
    · rw [t.g p hp] at z; cases z
    · obtain ⟨ps, h⟩ := t.at hp
      rw [h] at z; cases z⟩
/-- the def's code object c makes lambdas of the one name q -/
def Mk (base : Heap) (mg : Str → Option Value) (c : Addr) (q : Str) : Prop := ∃ P, LamX.TabB base mg c P ∧ (P, q) ∈ Tb.T ∧ ∀ p ∈ Tb.T, p.1 = P → p.2 = q
theorem stp_made {K : PySem.W.Frag} {F : Fr} {S : List Sl} {G H H1 : Hp} {σ : L2.St} {P : Addr} {q : Str} (sv : SV K F S G σ H) (t : TbOk F.B F.H0) (hm : (P, q) ∈ Tb.T) (hu : ∀ p ∈ Tb.T, p.1 = P → p.2 = q) (m : Made H P q H1) : Stp K F σ S G H S G H1 := by
  have t1 := sv.tb t
  obtain ⟨ps, hP⟩ := t1.at hm
  have nP : ∀ b o, H b = some o → NT o → b ≠ P := fun b o e nt z => by subst z; rw [hP] at e; cases e; exact nt ps rfl
  have el : ∀ b o, H b = some o → ∃ o', H1 b = some o' := fun b o e => by
    rcases m with rfl | ⟨ps, u, k, _, hk, rfl⟩
    · exact ⟨o, e⟩
    · rw [upd_ne (ne_of_none e hk)]
      by_cases z : b = P
      · subst z; exact ⟨_, upd_same⟩
      · exact ⟨o, by rw [upd_ne z]; exact e⟩
  refine ⟨Ex.refl G, fun b o e _ nt => m.keep e (nP b o e nt), Less.refl S, sv.growT (Ex.refl G) (fun b o e => m.keep (sv.gh b o e) fun z => ?_) (fun b o _ e nt => m.keep e (nP b o e nt)) el (fun t => m.tabs hu t) (fun j p mm => ?_) (fun _ _ h => .inl h), el, fun _ _ h => .inl h⟩
  · subst z
    rw [t1.g (b, q) hm] at e; cases e
  · obtain ⟨vs, h, g⟩ := sv.mutH mm
    exact ⟨g, (m.keep h (nP p _ h nt_lst)).trans h.symm⟩
section
variable {X : Cx} {F : Fr} {S : List Sl} {e : Expr} {pos p : Pos}
theorem run_single {PD0 : PD} {pins : List (Addr × Obj)} {σ : L2.St} {G H : Hp} {s : Shared} (h : DE X F S e PD0) (he2 : starEach (e :: []) X.env = (false, eval e X.env) :: starEach [] X.env) (I : Inv X pins σ H s) (sv : SV X.K F S G σ H) :
    wpAny (model X.prog X.w) X.A (spliced (backTo pos (starEach (e :: []) X.env))) (fun us s1 => ∃ u d S' G' v H', us = [u] ∧ Inv X pins σ H' s1 ∧ RelV v u ∧ PD0 d S' ∧ Stp X.K F σ S G H S' G' H' ∧ Rp G' v d) X.xe s :=
  thn ((pa_cons h pa_nil he2).run pos pins s σ H (fun vs H' => ∃ d S' G' v, vs = [v] ∧ PD0 d S' ∧ Stp X.K F σ S G H S' G' H' ∧ Rp G' v d) I ⟨G, sv, fun d S' G' v H' hp st r => ⟨d, S', G', v, rfl, hp, st, r⟩⟩) fun us s1 ⟨vs, H1, I1, r1, d, S', G', v, ev, hp, st, r⟩ => by
    subst ev
    obtain ⟨u, rfl, ru⟩ := vals1 r1
    exact ⟨u, d, S', G', v, H1, rfl, I1, ru, hp, st, r⟩
/-- sorted(e, key=lambda y: ..) -/
theorem do_sortLam {k : Nat} {c : Addr} {params : Arguments} {body : Expr} {scope : Scope} {lpos kpos : Pos} {N : List Str} {y : Str} {kd : FW.D → FW.D} {P : List FW.D → List Sl → Prop} (B : BT X.mg) (M : Mk X.base X.mg c (X.env.qual ++ "<lambda>")) (hcode : X.env.code = .ref c) (t : TbOk F.B F.H0) (hr : Room (k + 2) X.A)
    (S1 : FnScope N [y] scope) (hN : 1 ≤ N.length)
    (h : DE X F S e fun d S' => ∃ ds, d = .list ds ∧ ds.length ≤ sizeLine ∧ PySem.W.AllAlike (ds.map kd) ∧ PySem.W.Sortable (ds.map kd) ∧ (∀ d ∈ ds, (kd d).depth ≤ 60) ∧ (∀ d ∈ ds, ∀ (f c' : Addr) (A : Around) (outer : List Env) (s : Shared) (H : Hp) (E : XK) (Fm : Fr), Room k (A.deeper (envOfC (X.env.qual ++ "<lambda>") scope s.heap.objs.size f (.ref c'))) → Fm.r = none →
      DE (cxOf CX0 X.prog X.w X.K X.mg X.base N (X.env.qual ++ "<lambda>") scope f (.ref c') A outer s H E).nox Fm (sl0 N [d]) body (fun r _ => r = kd d)) ∧ P (ds.mergeSort (PySem.W.dataLe false kd)) S')
    (hdef : defaultsOf params X.env = ([], []) := by rfl) (hcl : cloFrom X.env.cells scope.names [] = [] := by rfl) (hfree : ∀ y ∈ scope.names, y.2 ≠ .free := by decide +kernel)
    (hb : ∀ (q : Str) (pm cv ctv u : Value), bindArgs (PySem.W.kla_fn "<lambda>" q params body scope [] pm cv ctv) ⟨[u], []⟩ = pure [(y, u)] := by intros; rfl)
    (hg : Gl X "sorted" := by rfl) (he : backTo pos (starEach (e :: []) X.env) = (false, eval e X.env) :: backTo pos (starEach [] X.env) := by rfl) (hpl : (backTo pos (starEach (e :: []) X.env)).any (·.1) = false := by rfl) (he2 : starEach (e :: []) X.env = (false, eval e X.env) :: starEach [] X.env := by rfl) :
    DO X F S (.Call (.Name "sorted" p) [e] [⟨some "key", .Lambda params body scope lpos, kpos⟩] pos) P := by
  obtain ⟨T, TB, hm, hu⟩ := M
  refine ⟨fun pins s σ H Q I ⟨G, sv, kk⟩ => ?_⟩
  refine wpAny_Call_Name_kw (ld_blt (u := .builtin "sorted") I hg B.sorted (by decide +kernel) ?_ (by decide) (by decide))
  refine PyProof.Rows.callWith_kw (thn (run_single h he2 I sv) fun us s1 ⟨u1, d, S', G1, v1, H1, eu, I1, r1, hd, st1, ra⟩ => ?_) he hpl rfl rfl
  subst eu
  obtain ⟨ds, ed, hz, hal, hsk, hdp, turn, hp⟩ := hd
  subst ed
  cases ra with | lst hl rs =>
  have e0 : u1 = Value.ref _ := r1
  subst e0
  have t1 := st1.sv.tb t
  show wpAny _ _ (evalAll ((do let v ← eval (.Lambda params body scope lpos) X.env; standAt pos; pure v) :: [])) _ _ s1
  refine wpAny_evalAll_cons (wpAny_bind (lam_make3 I1 TB hcode rfl (t1.t _ hm) hdef (fun y hy z => absurd z (hfree y hy)) fun f c' pm ctv H2 s2 I2 md hco hf hfn hge => wpAny_bind (wpAny_standAt (wpAny_pure ?_))))
  refine wpAny_evalAll_nil ?_
  rw [hcl] at hf
  have st2 := stp_made st1.sv t hm hu md
  have st := st1.trans st2
  obtain ⟨its, rv, hpl2, _⟩ := I2.list (SqL.of (st2.sv.gh _ _ hl))
  have lL := I1.lt
  show wpAny _ _ (call (.builtin "sorted") [.ref _] [(Str.ofString "key", .ref f)]) _ _ _
  have nst : f ∉ frs X.stack := fun z => by
    rcases List.mem_cons.mp (I1.stkSub _ z) with e | e
    · rw [e] at hge
      exact Nat.lt_irrefl _ (Nat.lt_of_lt_of_le I1.lt hge)
    · exact I1.nofs hge e
  refine sortkey_run (G := G1) I2 hr hpl2.isList rv st2.sv.gh rs hz hf hfn nst (Nat.ne_of_gt (Nat.lt_of_lt_of_le I1.lt hge)) (I1.nofs hge) hco S1 hN (fun u => hb _ _ _ _ u) hal hsk hdp (fun d hd A outer s H E Fm hr2 hF => turn d hd f c' A outer s H E Fm hr2 hF) fun G3 H3 q ys ps hq hq3 ry => ?_
  have st3 := st.trans (stp_of st2.sv ps)
  exact kk _ S' G3 q ys _ hp (st3.trans (.allocO st3.sv hq3)) (st3.sv.gh.none hq3) (st3.fresh hq3) (st3.sv.fresh hq3) upd_same ry
end
end FW

namespace FW
open PySem PySem.Spec PyProof.Rows L2
variable [Tb]
/-! ### promises where tables are written -/
def spPT (Z : Zp) : Sp := fun vs H Q E => ∃ (G : Hp) (ds : List FW.D) (kt : FW.D → Prop) (ko : List FW.D → Prop) (ke : Xk → Prop), TbOk G H ∧ Ex G H ∧ Rps G vs ds ∧ Z ds kt ko ke ∧
  (∀ d G' v H', kt d → PSt G H G' H' → Rp G' v d → Q v H') ∧
  (∀ es G' p ws H', ko es → PSt G H G' H' → G' p = none → H p = none → H' p = some (.lst ws) → Rps G' ws es → Q (.ref p) H') ∧
  (∀ x dd H', ke x → Ex G H' → ExT H H' → XSh x dd H H' → E (.ref x.1) dd H')
def spNT (Z : Zn) : Sp := fun vs H Q _ => ∃ (G : Hp) (ds : List FW.D) (kn : FW.D → Prop), TbOk G H ∧ Ex G H ∧ Rps G vs ds ∧ Z ds kn ∧
  ∀ d G' v H', kn d → PSt G H G' H' → Rn (fun a => H a = none) G' v d → Q v H'
/-- a def whose code object stands at c -/
structure FunC (K : PySem.W.Frag) (x qual : Str) (st : Stmt) (f : Addr) (fd : FuncData) (c : Addr) : Prop where
  ex : ∃ (oc : Value) (od : Option Addr) (kV doc pm : Value) (an : Option Addr) (ct : Value) (osl : Array (Option Value)),
    fd = PySem.W.fnOf x qual (defArgs st) (defBody st) (defScope st) .none kV doc pm an (.ref c) ct ∧ K.lookup f = some ⟨oc, od, .func fd, osl⟩ ∧ PySem.W.codeIn K (.ref c) qual = true
section
variable {P : Program} {w : World} {K : PySem.W.Frag} {mg : Str → Option Value} {base : Heap}
theorem funC_mk {x qual : Str} {st : Stmt} {f c : Addr} {oc : Value} {od an : Option Addr} {osl : Array (Option Value)} {kV doc pm ct : Value} (l : K.lookup f = some ⟨oc, od, .func (PySem.W.fnOf x qual (defArgs st) (defBody st) (defScope st) .none kV doc pm an (.ref c) ct), osl⟩)
    (k : PySem.W.codeIn K (.ref c) qual = true) : FunC K x qual st f (PySem.W.fnOf x qual (defArgs st) (defBody st) (defScope st) .none kV doc pm an (.ref c) ct) c := ⟨oc, od, kV, doc, pm, an, ct, osl, rfl, l, k⟩
theorem fn_okC {x qual : Str} {st : Stmt} {f c : Addr} {fd : FuncData} {N ps : List Str} {k : Nat} {Z : Zp} (F : FunC K x qual st f fd c) (S : FnScope N ps (defScope st)) (hlen : ∀ ds kt ko ke, Z ds kt ko ke → ds.length = ps.length) (hNl : ps.length ≤ N.length)
    (hb : ∀ (A : Around) (outer : List Env) (s : Shared) (H : Hp) (E : XK) (Fm : Fr) (ds : List FW.D) (kt : FW.D → Prop) (ko : List FW.D → Prop) (ke : Xk → Prop), Room k (A.deeper (envOfC qual (defScope st) s.heap.objs.size f (.ref c))) → Fm.r = none → TbOk Fm.B Fm.H0 → Z ds kt ko ke →
      DB (cxOf CX0 P w K mg base N qual (defScope st) f (.ref c) A outer s H E).nox Fm (sl0 N ds) (defBody st) (postP kt ko)) : FnOk P w K mg base CX0 (k + 1) f fd ps (spPT Z) := by
  obtain ⟨oc, od, kV, doc, pm, an, ct, osl, rfl, lk, hcd⟩ := F.ex
  refine fn_of lk hcd S (fun vs H Q E h => ?_) fun A outer s H vs Q E hr h => ?_
  · obtain ⟨G, ds, kt, ko, ke, _, e, r, z, _⟩ := h
    rw [r.length]; exact hlen ds kt ko ke z
  · obtain ⟨G, ds, kt, ko, ke, t, e, r, z, h1, h2, h3⟩ := h
    have hl := hlen ds kt ko ke z
    exact ⟨_, PSs.nox (hb A outer s H E ⟨G, H, none⟩ ds kt ko ke hr rfl t z), G, sv_start (by omega) e r, ends_P (Z := Z) h1 h2⟩
theorem fn_okT {x qual : Str} {st : Stmt} {f : Addr} {fd : FuncData} {N ps : List Str} {k : Nat} {Z : Zp} (F : Fun K x qual st f fd) (S : FnScope N ps (defScope st)) (hlen : ∀ ds kt ko ke, Z ds kt ko ke → ds.length = ps.length) (hNl : ps.length ≤ N.length)
    (hb : ∀ (cdv : Value) (A : Around) (outer : List Env) (s : Shared) (H : Hp) (E : XK) (Fm : Fr) (ds : List FW.D) (kt : FW.D → Prop) (ko : List FW.D → Prop) (ke : Xk → Prop), Room k (A.deeper (envOfC qual (defScope st) s.heap.objs.size f cdv)) → Fm.r = none → TbOk Fm.B Fm.H0 → Z ds kt ko ke →
      DB (cxOf CX0 P w K mg base N qual (defScope st) f cdv A outer s H E).nox Fm (sl0 N ds) (defBody st) (postP kt ko)) : FnOk P w K mg base CX0 (k + 1) f fd ps (spPT Z) := by
  refine F.ok S (fun vs H Q E h => ?_) (fun cdv A outer s H vs Q E hr h => ?_)
  · obtain ⟨G, ds, kt, ko, ke, _, e, r, z, _⟩ := h
    rw [r.length]; exact hlen ds kt ko ke z
  · obtain ⟨G, ds, kt, ko, ke, t, e, r, z, h1, h2, h3⟩ := h
    have hl := hlen ds kt ko ke z
    exact ⟨_, hb cdv A outer s H E ⟨G, H, none⟩ ds kt ko ke hr rfl t z, G, sv_start (by omega) e r, ends_P (Z := Z) h1 h2⟩
theorem fn_okNT {x qual : Str} {st : Stmt} {f : Addr} {fd : FuncData} {N ps : List Str} {k : Nat} {Z : Zn} (F : Fun K x qual st f fd) (S : FnScope N ps (defScope st)) (hlen : ∀ ds kn, Z ds kn → ds.length = ps.length) (hNl : ps.length ≤ N.length)
    (hb : ∀ (cdv : Value) (A : Around) (outer : List Env) (s : Shared) (H : Hp) (E : XK) (Fm : Fr) (ds : List FW.D) (kn : FW.D → Prop), Room k (A.deeper (envOfC qual (defScope st) s.heap.objs.size f cdv)) → Fm.r = none → TbOk Fm.B Fm.H0 → Z ds kn →
      DB (cxOf CX0 P w K mg base N qual (defScope st) f cdv A outer s H E).nox Fm (sl0 N ds) (defBody st) (postN kn)) : FnOk P w K mg base CX0 (k + 1) f fd ps (spNT Z) := by
  refine F.ok S (fun vs H Q E h => ?_) (fun cdv A outer s H vs Q E hr h => ?_)
  · obtain ⟨G, ds, kn, _, e, r, z, _⟩ := h
    rw [r.length]; exact hlen ds kn z
  · obtain ⟨G, ds, kn, t, e, r, z, h1⟩ := h
    have hl := hlen ds kn z
    exact ⟨_, hb cdv A outer s H E ⟨G, H, none⟩ ds kn hr rfl t z, G, sv_start (by omega) e r, ends_N h1⟩
end
section
variable {X : Cx} {F : Fr} {S : List Sl} {e : Expr} {es : List Expr} {P : PD} {pos p : Pos} {x : Str} {k : Nat} {CX : CXT}
theorem de_callTb {Z : Zp} {ex : Xk → Prop} (t : TbOk F.B F.H0) (c : Kn X.prog X.w X.K X.mg X.base CX x k (spPT Z)) (hr : Room k X.A) (hw : Wish CX X F ex) (h : DA X F S (e :: es) (fun ds S' => Z ds (fun d => P d S') (fun l => P (.list l) S') ex)) (hg : Gl X x := by rfl)
    (hdb : (x == ("__debug__" : Str)) = false := by decide) (he : starEach (e :: es) X.env = (false, eval e X.env) :: starEach es X.env := by rfl) (hpl : (backTo pos (starEach es X.env)).any (·.1) = false := by rfl) : DE X F S (.Call (.Name x p) (e :: es) [] pos) P := by
  obtain ⟨f, fd, ps, F1, hm, hk, hb⟩ := c.ex
  obtain ⟨E, hx, hE⟩ := hw
  exact de_mk (pe_call F1 hr hg hm hk hb .nil hx h hdb he hpl) fun σ H Q ⟨G, sv, k⟩ => ⟨G, sv, fun ds S' G' vs H' hp st rs => by
    show spPT Z (vs ++ []) H' Q E
    rw [List.append_nil]
    refine ⟨G', ds, _, _, _, st.sv.tb t, st.sv.gh, rs, hp, fun d G2 v H2 hk2 ps2 r2 => k d S' G2 v H2 hk2 (st.trans (stp_of st.sv ps2)) r2, fun l G2 q ws H2 hk2 ps2 gq hq hl r2 => ?_, fun x dd H2 hx2 eg eh sh => hE x dd H2 hx2 (st.sv.keptX eg eh) (sh.back fun d => st.sv.h0)⟩
    have st2 := st.trans (stp_of st.sv ps2)
    have nm : NotMut S' σ q := st.sv.fresh hq
    refine k _ S' (upd G2 q (.lst ws)) _ H2 hk2 ⟨st2.g.trans (Ex.upd gq), st2.kp, st2.less, st2.sv.ground gq nm (st.sv.h0 hq) hl, st2.lv, fun a o z => ?_⟩ (.lst upd_same (r2.mono (Ex.upd gq)))
    by_cases za : a = q
    · subst za; exact .inr (st.fresh hq)
    · rw [upd_ne za] at z; exact st2.nw a o z⟩
theorem ep_callT {Z : Zp} {ex : Xk → Prop} {d : FW.D} {ds : List FW.D} (t : TbOk F.B F.H0) (c : Kn X.prog X.w X.K X.mg X.base CX x k (spPT Z)) (hr : Room k X.A) (hw : Wish CX X F ex) (h : Ap X F S (e :: es) ds) (hz : Z ds (fun d' => d' = d ∧ S = S) (fun l => .list l = d ∧ S = S) ex) (hg : Gl X x := by rfl)
    (hdb : (x == ("__debug__" : Str)) = false := by decide) (he : starEach (e :: es) X.env = (false, eval e X.env) :: starEach es X.env := by rfl) (hpl : (backTo pos (starEach es X.env)).any (·.1) = false := by rfl) : Ep X F S (.Call (.Name x p) (e :: es) [] pos) d :=
  de_callTb t c hr hw (h.to hz) hg hdb he hpl
theorem dn_callT {Z : Zn} (t : TbOk F.B F.H0) (c : Kn X.prog X.w X.K X.mg X.base CX0 x k (spNT Z)) (hr : Room k X.A) (h : DA X F S (e :: es) (fun ds S' => Z ds (fun d => P d S'))) (hg : Gl X x := by rfl)
    (hdb : (x == ("__debug__" : Str)) = false := by decide) (he : starEach (e :: es) X.env = (false, eval e X.env) :: starEach es X.env := by rfl) (hpl : (backTo pos (starEach es X.env)).any (·.1) = false := by rfl) : DN X F S (.Call (.Name x p) (e :: es) [] pos) P := by
  obtain ⟨f, fd, ps, F1, hm, hk, hb⟩ := c.ex
  exact dn_mk (pe_call F1 hr hg hm hk hb .nil (E := E0) pass0 h hdb he hpl) fun σ H Q ⟨G, sv, k⟩ => ⟨G, sv, fun ds S' G' vs H' hp st rs => by
    show spNT Z (vs ++ []) H' Q E0
    rw [List.append_nil]
    exact ⟨G', ds, _, st.sv.tb t, st.sv.gh, rs, hp, fun d G2 v H2 hk2 ps2 r2 => k d S' G2 v H2 hk2 (st.trans (stp_of st.sv ps2)) (r2.mono (Ex.refl _) fun a z => st.sv.h0 z)⟩⟩
theorem ep_callNT {Z : Zn} {d : FW.D} {ds : List FW.D} (t : TbOk F.B F.H0) (c : Kn X.prog X.w X.K X.mg X.base CX0 x k (spNT Z)) (hr : Room k X.A) (h : Ap X F S (e :: es) ds) (hz : Z ds (fun d' => d' = d ∧ S = S)) (hg : Gl X x := by rfl)
    (hdb : (x == ("__debug__" : Str)) = false := by decide) (he : starEach (e :: es) X.env = (false, eval e X.env) :: starEach es X.env := by rfl) (hpl : (backTo pos (starEach es X.env)).any (·.1) = false := by rfl) : Ep X F S (.Call (.Name x p) (e :: es) [] pos) d :=
  de_n (dn_callT t c hr (h.to hz) hg hdb he hpl)
end
section
variable {X : Cx} {F : Fr} {S : List Sl} {blk : List Stmt} {st : Stmt} {P : Post}
theorem db_scopeT (t : TbOk F.B F.H0) (h : ∀ (F' : Fr) (S0 : List Sl), F'.r = none → FxL F'.B S S0 → TbOk F'.B F'.H0 → DB0 X F' S0 blk (postB S S0 P)) : DB X F S blk P :=
  ⟨fun pins s σ H D I ⟨G, sv, k⟩ => by
    obtain ⟨S0, f0, l0, a0⟩ := fxL_ex sv.len (fun i sl h => sv.slot i sl h) sv.gh
    exact PSs.run (h ⟨G, H, none⟩ S0 rfl f0 (sv.tb t)) pins s σ H D I ⟨G, sv.scope l0 a0, fun S' G' σ' H' ⟨R, b, hp⟩ sv' => k.nx R G σ' H' hp (Ex.refl G) (sv.unscope a0 sv' b), fun _ _ _ _ _ _ h => h.elim, fun _ _ _ _ _ _ _ h => h.elim, fun _ _ _ _ h => h.elim, fun _ _ _ _ h => h.elim, fun _ _ _ _ _ _ h => h.elim⟩⟩
end
/-! ### the law -/
def gnd (H : Hp) : Hp := fun a => match H a with
  | some (.tbl _) => none
  | o => o
theorem gnd_ex (H : Hp) : Ex (gnd H) H := fun a o h => by
  unfold gnd at h
  split at h
  · cases h
  · exact h
theorem gnd_nt {H : Hp} {a : Addr} {o : HO} (h : H a = some o) (nt : NT o) : gnd H a = some o := by
  unfold gnd
  split
  · rename_i ps e
    rw [h] at e; cases e
    exact absurd rfl (nt ps)
  · exact h
theorem gnd_tbl {H : Hp} {a : Addr} {ps : Array Value} (h : H a = some (.tbl ps)) : gnd H a = none := by
  unfold gnd
  rw [h]
theorem gnd_none {H : Hp} {a : Addr} (h : H a = none) : gnd H a = none := by
  unfold gnd
  rw [h]
def spLawT (K : PySem.W.Frag) : Sp := fun vs H Q _ => LamX.Tabs Tb.T H ∧ ∃ (a : Addr) (ns : List Int), vs = [.ref a] ∧ SqL K H a (ns.map V.int) ∧ ns.length ≤ 63 ∧ ∀ H', Q (.bl true) H'
section
variable {P : Program} {w : World} {K : PySem.W.Frag} {mg : Str → Option Value} {base : Heap}
theorem fn_lawT {st s0 : Stmt} {rest : List Stmt} {f : Addr} {fd : FuncData} {N : List Str} {k n : Nat} (F : Fun K "law" "law" st f fd) (S : FnScope N ["_law_script"] (defScope st)) (hbd : defBody st = s0 :: rest) (hN : N.length = n + 2)
    (h0 : ∀ (cdv : Value) (A : Around) (outer : List Env) (s : Shared) (H : Hp) (E : XK), PS (cxOf CX0 P w K mg base N "law" (defScope st) f cdv A outer s H E).nox s0 tRow)
    (hb : ∀ (cdv : Value) (A : Around) (outer : List Env) (s : Shared) (H : Hp) (E : XK) (Fm : Fr), TbOk Fm.B Fm.H0 → Room k (A.deeper (envOfC "law" (defScope st) s.heap.objs.size f cdv)) →
      DB (cxOf CX0 P w K mg base N "law" (defScope st) f cdv A outer s H E).nox Fm (.unk :: .row :: List.replicate n .unk) rest postL) : FnOk P w K mg base CX0 (k + 1) f fd ["_law_script"] (spLawT K) := by
  refine F.ok S (fun vs H Q E h => ?_) (fun cdv A outer s H vs Q E hr h => ?_)
  · obtain ⟨_, a, ns, rfl, _⟩ := h; rfl
  · obtain ⟨tT, a, ns, rfl, hS, hlen, q⟩ := h
    refine ⟨tSeq tRow (tSsA (cxOf CX0 P w K mg base N "law" (defScope st) f cdv A outer s H E).nox rest), ?_, ?_⟩
    · rw [hbd]; exact pss_cons (h0 cdv A outer s H E) pss_anyA
    · refine ⟨.ref a, rfl, by show 4 ≤ sizeLine; decide, fun p hp => ?_⟩
      have e1 : Ex H (upd H p (.lst [.ref a, .int 0, .int 0, .int 0])) := Ex.upd hp
      have tb : TbOk (gnd H) (upd H p (.lst [.ref a, .int 0, .int 0, .int 0])) := ⟨tT.ext fun b o h => e1 b o h, fun x hx => by
        obtain ⟨ps, h, _⟩ := tT x hx
        exact gnd_tbl h⟩
      refine ⟨⟨gnd H, upd H p (.lst [.ref a, .int 0, .int 0, .int 0]), some p⟩, _, _, hb cdv A outer s H E _ tb hr, gnd H, ?_, ?_⟩
      · have hst : (L2.start N [.ref a]).set 1 (some (.ref p)) = some (.ref a) :: some (.ref p) :: List.replicate n none := by
          unfold L2.start
          have : N.length - [V.ref a].length = n + 1 := by rw [hN]; rfl
          rw [this, List.replicate_succ]
          rfl
        have only : ∀ {x j}, MutAt (.unk :: .row :: List.replicate n .unk) (some (.ref a) :: some (.ref p) :: List.replicate n none) x j → j = 1 := fun {x j} ⟨⟨t, h1, h2⟩, _⟩ => by
          match j, h1 with
          | 0, h1 => simp at h1; subst h1; cases h2
          | 1, _ => rfl
          | j + 2, h1 =>
            exfalso
            have h1' : (List.replicate n Sl.unk)[j]? = some t := h1
            have := getElem?_replicate_unk h1'
            subst this; cases h2
        have hS' : SqL K (gnd H) a (ns.map V.int) := by
          rcases hS with (h | ⟨o, h⟩) | h
          · exact .inl (.inl (gnd_nt h nt_lst))
          · exact .inl (.inr ⟨o, gnd_nt h fun _ z => by cases z⟩)
          · exact .inr h
        show SV K _ _ (gnd H) ((L2.start N [.ref a]).set 1 (some (.ref p))) _
        rw [hst]
        refine ⟨Ex.refl _, (gnd_ex H).trans e1, fun x o _ h _ => h, ⟨fun r hr => (by cases hr; exact ⟨_, upd_same⟩), fun a o h => ⟨o, h⟩, TabG.refl _⟩, fun x o h => .inl h, fun i sl h => ?_, fun i j x ne ma mb => ne ((only ma).trans (only mb).symm), fun i es x h _ => ?_, ?_, (gnd_ex H).trans e1⟩
        · match i, h with
          | 0, h => simp at h; subst h; trivial
          | 1, h => simp at h; subst h; exact ⟨p, rfl, rfl, gnd_none hp, a, ns, 0, 0, 0, upd_same, hS', ⟨hlen, by decide, by decide, by decide, by decide⟩⟩
          | i + 2, h =>
            have h1' : (List.replicate n Sl.unk)[i]? = some sl := h
            have := getElem?_replicate_unk h1'
            subst this; trivial
        · exfalso
          match i, h with
          | 0, h => simp at h
          | 1, h => simp at h
          | i + 2, h =>
            have h1' : (List.replicate n Sl.unk)[i]? = some (.own es) := h
            have := getElem?_replicate_unk h1'
            cases this
        · simp
      · exact ⟨fun _ _ _ _ h => h.elim, fun d S' G' σ' v H' hd ex sv r => by
          have hd : d = .bool true := hd
          subst hd
          cases r
          exact q H', fun _ _ _ _ _ _ _ h => h.elim, fun _ _ _ _ h => h.elim, fun _ _ _ _ h => h.elim, fun _ _ _ _ _ _ h => h.elim⟩
end
end FW

namespace FW
open PySem PySem.Spec PyProof.Rows L2
variable [Tb]
/-! ### x or y by truth, list(..) of a value whose lists are new -/
def truD : D → Bool
  | .bool b => b
  | .int i => i != 0
  | .list ds => !ds.isEmpty
  | .tuple ds => !ds.isEmpty
  | _ => false
theorem rps_empty {H : Hp} {vs : List V} {ds : List D} (r : Rps H vs ds) : ds.isEmpty = vs.isEmpty := by cases r <;> rfl
theorem tru_rp {K : PySem.W.Frag} {G H : Hp} {v : V} {d : D} (e : Ex G H) (r : Rp G v d) (hs : ∀ x, d ≠ .str x) : TruV K v H (truD d) := by
  cases r with
  | non => rfl
  | bl b => rfl
  | int i => rfl
  | str x => exact absurd rfl (hs x)
  | lst h rs => exact .inl ⟨_, SqL.of (e _ _ h), by rw [truD, rps_empty rs]⟩
  | tup h rs => exact .inr (.inl ⟨_, SqT.of (e _ _ h), by rw [truD, rps_empty rs]⟩)
section
variable {X : Cx} {F : Fr} {S : List Sl} {e a b : Expr} {es rest : List Expr} {P : PD} {pos p : Pos}
def tNx (X : Cx) (F : Fr) (e : Expr) : TE := fun σ H Q => ∃ S P, DN X F S e P ∧ rdN X.K F S P σ H Q
theorem pn_any : PE X e (tNx X F e) := ⟨fun pins s σ H Q I ⟨_, _, h, r⟩ => PE.run h pins s σ H Q I r⟩
theorem dn_orT (h : DN X F S a fun d S' => (∀ x, d ≠ .str x) ∧ (truD d = true → P d S') ∧ (truD d = false → DN X F S' b P)) : DN X F S (.BoolOp .Or [a, b] pos) P :=
  dn_mk (pe_orT h (pe_one pn_any)) fun σ H Q ⟨G, sv, k⟩ => ⟨G, sv, fun d S' G' v H' ⟨hs, h1, h2⟩ st r => by
    refine ⟨truD d, tru_rp st.sv.gh r.rp hs, ?_⟩
    cases ht : truD d with
    | true => exact iteT (k d S' G' v H' (h1 ht) st r)
    | false => exact iteF ⟨S', _, h2 ht, G', st.sv, fun d2 S2 G2 v2 H2 hp2 st2 r2 => k d2 S2 G2 v2 H2 hp2 (st.trans st2) r2⟩⟩
theorem rn_sq {K : PySem.W.Frag} {N : Addr → Prop} {G H : Hp} {v : V} {d : D} {ds : List D} (e : Ex G H) (s : Sq d ds) (r : Rn N G v d) : ∃ p xs, v = .ref p ∧ (SqL K H p xs ∨ SqT K H p xs) ∧ Rns N G xs ds := by
  cases s with
  | l => cases r with | lst _ h r => exact ⟨_, _, rfl, .inl (SqL.of (e _ _ h)), r⟩
  | t => cases r with | tup h r => exact ⟨_, _, rfl, .inr (SqT.of (e _ _ h)), r⟩
theorem dn_listOf (B : BT X.mg) (h : DN X F S e fun d S' => ∃ ds, Sq d ds ∧ P (.list ds) S') (hg : Gl X "list" := by rfl) (he : starEach (e :: []) X.env = (false, eval e X.env) :: starEach [] X.env := by rfl) (hpl : (backTo pos (starEach [] X.env)).any (·.1) = false := by rfl) : DN X F S (.Call (.Name "list" p) [e] [] pos) P :=
  dn_mk (pe_callTy call_list_of hg B.list (by decide +kernel) (pa_cons h pa_nil he) (by decide) (by decide) he hpl) fun σ H Q ⟨G, sv, k⟩ => ⟨G, sv, fun d S' G' v H' ⟨ds, sq, hp⟩ st r => by
    obtain ⟨q, xs, rfl, hq, rs⟩ := rn_sq (K := X.K) st.sv.gh sq r
    exact ⟨q, xs, rfl, hq, fun l hn => k _ S' _ _ _ hp (st.trans (.alloc st.sv hn)) (.lst (st.sv.h0 hn) upd_same (rs.mono (Ex.upd (st.sv.gh.none hn)) fun _ z => z))⟩⟩
end
/-! ### for x in xs: if isinstance(x, list): x.append(c); x.reverse() -/
section
variable {X : Cx} {pos : Pos} {c : Expr} {s1 s2 : Stmt}
theorem wbody_if (j : Nat) {n : Int} {tc : TT} {t1 t2 : TS} (hc : PT X c tc) (hl : ∀ (q : Addr) (ws : List V) (σ : L2.St) (H : Hp) (Q : Bool → Hp → Prop), σ[j]? = some (some (.ref q)) → H q = some (.lst ws) → Q true H → tc σ H Q)
    (hn : ∀ (u : V) (σ : L2.St) (H : Hp) (Q : Bool → Hp → Prop), σ[j]? = some (some u) → NL H u → Q false H → tc σ H Q) (h1 : PS X s1 t1) (h2 : PS X s2 t2)
    (k1 : ∀ (q : Addr) (ws : List V) (σ : L2.St) (H : Hp) (D : Ends), σ[j]? = some (some (.ref q)) → H q = some (.lst ws) → ws.length + 1 ≤ sizeLine → D.nx σ (upd H q (.lst (ws ++ [.int n]))) → t1 D σ H)
    (k2 : ∀ (q : Addr) (ws : List V) (σ : L2.St) (H : Hp) (D : Ends), σ[j]? = some (some (.ref q)) → H q = some (.lst ws) → D.nx σ (upd H q (.lst ws.reverse)) → t2 D σ H) : ∃ tb : TS, PSs X [.If c [s1, s2] [] pos] tb ∧ ∀ F, WBody True F j tb 10 := by
  refine ⟨_, pss_one (ps_if hc (pss_cons h1 (pss_one h2)) pss_nil), fun F => ⟨fun q ws σ H D e hq hz hk => ?_, fun _ u σ H D e hN hk => ?_⟩⟩
  · refine hl q ws σ H _ e hq (iteT ?_)
    refine k1 q ws σ H _ e hq (by omega) ?_
    refine k2 q _ σ _ D e upd_same ?_
    rw [upd_upd]
    exact hk _ (by rw [List.length_reverse, List.length_append]; show ws.length + 1 ≤ _; omega)
  · exact hn u σ H _ e hN (iteF hk)
/-- isinstance(y, list) at a slot -/
theorem pt_isl (j : Nat) {y : Str} {p p0 p1 : Pos} (B : BT X.mg) (hg : Gl X "isinstance" := by rfl) (hgT : Gl X "list" := by rfl) (hj : X.N[j]? = some y := by rfl) (hv : Vis X.env.scope y := by first | exact Or.inl rfl | exact Or.inr (Or.inl rfl) | exact Or.inr (Or.inr rfl)) (hd1 : (y == ("__debug__" : Str)) = false := by decide) (hcd : (y == ("__classdict__" : Str)) = false := by decide)
    (hs : starEach [.Name y p0, .Name "list" p1] X.env = (false, eval (.Name y p0) X.env) :: starEach [.Name "list" p1] X.env := by rfl) (hs2 : starEach [.Name "list" p1] X.env = (false, eval (.Name "list" p1) X.env) :: starEach [] X.env := by rfl) (hpl : (backTo pos (starEach [.Name "list" p1] X.env)).any (·.1) = false := by rfl)
    (he : ∀ whole, isTrue (.Call (.Name "isinstance" p) [.Name y p0, .Name "list" p1] [] pos) X.env whole = (do let v ← whole; standAt (Expr.Call (.Name "isinstance" p) [.Name y p0, .Name "list" p1] [] pos).pos; holding [v] (truthy v)) := by intro _; rfl) :
    ∃ tc : TT, PT X (.Call (.Name "isinstance" p) [.Name y p0, .Name "list" p1] [] pos) tc ∧ (∀ (q : Addr) (ws : List V) (σ : L2.St) (H : Hp) (Q : Bool → Hp → Prop), σ[j]? = some (some (.ref q)) → H q = some (.lst ws) → Q true H → tc σ H Q) ∧
      ∀ (u : V) (σ : L2.St) (H : Hp) (Q : Bool → Hp → Prop), σ[j]? = some (some u) → NL H u → Q false H → tc σ H Q := by
  refine ⟨_, pt_val (pe_callB call_isi hg B.isinstance (by decide +kernel) (pa_cons (pe_var hj hv hd1 hcd) (pa_cons (pe_bltn (v := .ty "list") hgT B.list (by decide +kernel) rfl (by decide) (by decide)) pa_nil hs2) hs) (by decide) (by decide) hs hpl) he, fun q ws σ H Q e hq hk => ?_, fun u σ H Q e hN hk => ?_⟩
  · exact ⟨.ref q, e, .ref q, .ty "list", _, _, true, rfl, .ty "list", .base (.lst hq), kit_ty (by decide +kernel : kitB "list" "list" = some true), true, rfl, hk⟩
  · rcases hN with h | ⟨b, h⟩ | ⟨i, h⟩ | ⟨x, h⟩ | ⟨q, xs, h, hq⟩
    · subst h; exact ⟨.non, e, .non, .ty "list", _, _, false, rfl, .ty "list", .base .non, kit_ty (by decide +kernel : kitB "NoneType" "list" = some false), false, rfl, hk⟩
    · subst h; exact ⟨.bl b, e, .bl b, .ty "list", _, _, false, rfl, .ty "list", .base (.bl b), kit_ty (by decide +kernel : kitB "bool" "list" = some false), false, rfl, hk⟩
    · subst h; exact ⟨.int i, e, .int i, .ty "list", _, _, false, rfl, .ty "list", .base (.int i), kit_ty (by decide +kernel : kitB "int" "list" = some false), false, rfl, hk⟩
    · subst h; exact ⟨.str x, e, .str x, .ty "list", _, _, false, rfl, .ty "list", .base (.str x), kit_ty (by decide +kernel : kitB "str" "list" = some false), false, rfl, hk⟩
    · subst h; exact ⟨.ref q, e, .ref q, .ty "list", _, _, false, rfl, .ty "list", .base (.tup hq), kit_ty (by decide +kernel : kitB "tuple" "list" = some false), false, rfl, hk⟩
end
section
variable {X : Cx} {F : Fr} {S : List Sl} {P : Post} {pos : Pos} {ds : List FW.D}
/-- for y in x: if isinstance(y, list): y.append(c); y.reverse() -/
theorem ds0_wildIf (i j : Nat) {x y : Str} {px py p p0 pl pos1 pos2 pos3 pos4 p1 p2 p3 pe q1 q2 q3 : Pos} {c : Int} {jj} (B : BT X.mg) (hp : PassesOwn (model X.prog X.w) X.A X.env X.xe) (hc : X.calm = true) (hN : X.N.Nodup) (hF : F.r = none) (hij : i ≠ j)
    (hd : ∀ d ∈ ds, InL True 1000000 d) (hl : ds.length ≤ 1000) (k : P.nx ((((S.map keepF).set i .unk).set j .unk).set i (.wild 1000))) (hS : S[i]? = some (.new (.list ds)) := by rfl) (hjl : Nat.ble (j + 1) S.length = true := by rfl) (hi : X.N[i]? = some x := by rfl) (hv : Vis X.env.scope x := by first | exact Or.inl rfl | exact Or.inr (Or.inl rfl) | exact Or.inr (Or.inr rfl)) (hj : X.N[j]? = some y := by rfl) (hy : Loc X.env.scope y := by first | exact .inl rfl | exact .inr rfl)
    (hvy : Vis X.env.scope y := by first | exact Or.inl rfl | exact Or.inr (Or.inl rfl) | exact Or.inr (Or.inr rfl)) (hf : X.fn y = true ∨ X.env.scope.names.lookup y = some .local := by first | exact .inl rfl | exact .inr rfl) (hd1 : (x == ("__debug__" : Str)) = false := by decide) (hcd : (x == ("__classdict__" : Str)) = false := by decide) (hs : ∀ v, foldedSetIterable (.Name x px) X.env v = pure v := by intro _; rfl)
    (hdy : (y == ("__debug__" : Str)) = false := by decide) (hcy : (y == ("__classdict__" : Str)) = false := by decide) (hgi : Gl X "isinstance" := by rfl) (hgl : Gl X "list" := by rfl)
    (ha : starEach [.Name y p0, .Name "list" pl] X.env = (false, eval (.Name y p0) X.env) :: starEach [.Name "list" pl] X.env := by rfl) (hb : starEach [.Name "list" pl] X.env = (false, eval (.Name "list" pl) X.env) :: starEach [] X.env := by rfl) (hpl : (backTo pos1 (starEach [.Name "list" pl] X.env)).any (·.1) = false := by rfl)
    (ht : ∀ whole, isTrue (.Call (.Name "isinstance" p) [.Name y p0, .Name "list" pl] [] pos1) X.env whole = (do let v ← whole; standAt (Expr.Call (.Name "isinstance" p) [.Name y p0, .Name "list" pl] [] pos1).pos; holding [v] (truthy v)) := by intro _; rfl)
    (hs1 : starEach (.Constant (.int c) jj pe :: []) X.env = (false, eval (.Constant (.int c) jj pe) X.env) :: starEach [] X.env := by rfl) (hs2 : swapsWith (.Call (.Attribute (.Name y p1) "append" p2) [.Constant (.int c) jj pe] [] p3) none pos3.line X.env = pure false := by rfl)
    (hbase : attributeBase (.Name y p1) "append" X.env (eval (.Name y p1) X.env) = eval (.Name y p1) X.env := by rfl)
    (hfew : ((backTo p3 (starEach (.Constant (.int c) jj pe :: []) X.env)).all (fun x => !x.1) && (backToKw p3 (keywordEach [] X.env)).all (fun x => x.1.isSome)
      && decide (((.Constant (.int c) jj pe) :: ([] : List Expr)).length + ([] : List Keyword).length + (if ([] : List Keyword).isEmpty then 0 else 1) < 30)) = true := by rfl)
    (hline : (p2.endLine == p3.line) = true := by rfl) (hs3 : swapsWith (.Call (.Attribute (.Name y q1) "reverse" q2) [] [] q3) none pos4.line X.env = pure false := by rfl)
    (hbase3 : attributeBase (.Name y q1) "reverse" X.env (eval (.Name y q1) X.env) = eval (.Name y q1) X.env := by rfl) (hline3 : (q2.endLine == q3.line) = true := by rfl) :
    DS0 X F S (.For (.Name y py) (.Name x px) [.If (.Call (.Name "isinstance" p) [.Name y p0, .Name "list" pl] [] pos1) [.Expr (.Call (.Attribute (.Name y p1) "append" p2) [.Constant (.int c) jj pe] [] p3) pos3, .Expr (.Call (.Attribute (.Name y q1) "reverse" q2) [] [] q3) pos4] [] pos2] [] pos) P := by
  obtain ⟨tc, c1, c2, c3⟩ := pt_isl (X := X) (pos := pos1) j (y := y) (p := p) (p0 := p0) (p1 := pl) B hgi hgl hj hvy hdy hcy ha hb hpl ht
  obtain ⟨t1, a1, a2⟩ := wbody_append (X := X) j (y := y) (p1 := p1) (p2 := p2) (p3 := p3) (pe := pe) (pos2 := pos3) (c := c) (jj := jj) hj hvy hdy hcy hs1 hs2 hbase hfew hline
  obtain ⟨t2, b1, b2⟩ := ps_rev (X := X) j (y := y) (p1 := q1) (p2 := q2) (p3 := q3) (pos2 := pos4) hj hvy hdy hcy hs3 hbase3 hline3
  obtain ⟨tb, w1, w2⟩ := wbody_if (X := X) (pos := pos2) j (n := c) c1 c2 c3 a1 b1 a2 b2
  exact ds0_wildFor (B := True) i j hp hc hN hF w1 (w2 F) hij hd hl k hS hjl hi hv hj hy hf hd1 hcd hs
end
end FW

namespace Q
open PySem PySem.Spec PyProof.Rows L2 FW
def topS (i : Nat) : Stmt := PySem.Challenge.pw_fretways_k14_asked_again.main.body.getD i (.Pass ⟨0, 0, 0, 0⟩)
abbrev s_need_neck : Stmt := topS 12
abbrev s_places_of : Stmt := topS 13
abbrev s_places : Stmt := topS 14
abbrev s_notes : Stmt := topS 15
abbrev s_missing : Stmt := topS 16
abbrev s_need_shape : Stmt := topS 22
abbrev s_need_hand : Stmt := topS 23
abbrev s_is_chord : Stmt := topS 24
abbrev s_need_chord : Stmt := topS 25
abbrev s_is_laid : Stmt := topS 26
abbrev s_all_ways : Stmt := topS 27
abbrev s_ways : Stmt := topS 28
abbrev s_sounded : Stmt := topS 29
abbrev s_slid_by : Stmt := topS 30
abbrev s_slid : Stmt := topS 31
abbrev s_written : Stmt := topS 34
abbrev s_place_of : Stmt := topS 35
abbrev s_read : Stmt := topS 36
abbrev s_need_tune : Stmt := topS 40
abbrev s_need_reach : Stmt := topS 41
abbrev s_positions : Stmt := topS 42
abbrev s_place_in : Stmt := topS 43
abbrev s_numbers_behind : Stmt := topS 44
abbrev s_table_of : Stmt := topS 45
abbrev s_table : Stmt := topS 46
abbrev s_played : Stmt := topS 47
abbrev s_need_chords : Stmt := topS 51
abbrev s_size_of : Stmt := topS 52
abbrev s_all_retunings : Stmt := topS 53
abbrev s_first_without : Stmt := topS 54
abbrev s_retuned : Stmt := topS 55
abbrev s__law_taken : Stmt := topS 57
abbrev s__law_alike : Stmt := topS 58
abbrev s__law_neck : Stmt := topS 59
abbrev s__law_places : Stmt := topS 60
abbrev s__law_shape : Stmt := topS 61
abbrev s__law_hand : Stmt := topS 62
abbrev s__law_sounds : Stmt := topS 63
abbrev s__law_laid : Stmt := topS 64
abbrev s__law_ways : Stmt := topS 65
abbrev s__law_chord : Stmt := topS 66
abbrev s__law_positions : Stmt := topS 67
abbrev s__law_plays : Stmt := topS 68
abbrev s__law_can : Stmt := topS 69
abbrev s__law_tune : Stmt := topS 70
abbrev s__law_asked : Stmt := topS 71
abbrev s__law_copied : Stmt := topS 72
abbrev s_law : Stmt := topS 73
structure Cn (mg : Str → Option Value) : Prop where
  MOST_STRINGS_necks : ∃ t, mg "MOST_STRINGS_necks" = some (.int 6 t)
  MOST_NOTE : ∃ t, mg "MOST_NOTE" = some (.int 60 t)
  MOST_FRETS : ∃ t, mg "MOST_FRETS" = some (.int 20 t)
  SILENT : ∃ t, mg "SILENT" = some (.int (-1) t)
  MOST_REACH : ∃ t, mg "MOST_REACH" = some (.int 6 t)
  MOST_CHORD : ∃ t, mg "MOST_CHORD" = some (.int 6 t)
  MOST_SOUND : ∃ t, mg "MOST_SOUND" = some (.int 80 t)
  FIGURES : ∃ t, mg "FIGURES" = some (.str "0123456789" t)
  MOST_TUNE : ∃ t, mg "MOST_TUNE" = some (.int 30 t)
  NEVER : ∃ t, mg "NEVER" = some (.int (-1) t)
  MOST_STRINGS_tunings : ∃ t, mg "MOST_STRINGS_tunings" = some (.int 4 t)
  MOST_CHANGE : ∃ t, mg "MOST_CHANGE" = some (.int 2 t)
end Q
namespace Q
open PySem PySem.Spec PyProof.Rows L2 FW
section
variable [Tb]
variable {P : Program} {w : World} {K : PySem.W.Frag} {mg : Str → Option Value} {base : Heap} {NE : Addr} {EA : Ec → Addr}
theorem sc__law_taken : FnScope ["_law_row", "_law_many", "_law_found", "_law_cell"] ["_law_row", "_law_many"] (defScope s__law_taken) := ⟨rfl, rfl, rfl, by decide +kernel, rfl, by decide +kernel, by decide +kernel⟩
theorem ok__law_taken {f : Addr} {fd : FuncData} (Fn : Fun K "_law_taken" "_law_taken" s__law_taken f fd) (B : BT mg) : FnOk P w K mg base CX0 1 f fd ["_law_row", "_law_many"] (spR K z_taken) := by
  refine fn_rawR Fn sc__law_taken (by rintro ds kt ko ke ⟨m, rfl, _⟩; rfl) fun cdv A outer s H vs Q E hr h => ?_
  obtain ⟨G, p, vs', ds, kt, ko, rfl, eg, gp, ra, rs, ⟨m, rfl, ⟨m0, m1⟩, hk⟩, h1, h2⟩ := h
  obtain ⟨v, rfl⟩ : ∃ v, vs' = [v] := by
    cases rs with
    | cons a b => cases b; exact ⟨_, rfl⟩
  cases rs with
  | cons rv _ =>
  cases rv
  obtain ⟨q, sc, a, b, c, hp, hq, ri⟩ := ra
  have nd := sc__law_taken.nd
  have gpH : ∀ (b' c' a' : Int), RowIn sc a' b' c' → RSt K p G H G (upd H p (.lst [.ref q, .int a', .int b', .int c'])) := fun b' c' a' r' =>
    ⟨Ex.refl G, eg.mut gp, gp, fun x o ne h _ => by rw [upd_ne ne]; exact h, fun x o h => (by
      by_cases z : x = p
      · subst z; exact ⟨_, upd_same⟩
      · exact ⟨o, by rw [upd_ne z]; exact h⟩), TabG.of fun x o h nl => (by rw [upd_ne (fun z => by subst z; rw [hp] at h; cases h; exact nl _ rfl)]; exact h), fun a o h => .inl h, ⟨q, sc, a', b', c', upd_same, hq, r'⟩⟩
  have fin : ∀ (b' c' a' r : Int), RowIn sc a' b' c' → 0 ≤ r → r < m → Q (.int r) (upd H p (.lst [.ref q, .int a', .int b', .int c'])) := fun b' c' a' r r' z0 z1 => h1 (.int r) G _ _ (hk r z0 z1) (gpH b' c' a' r') (.int r)
  have qq : ∀ a' b' c', SqL K (upd H p (.lst [.ref q, .int a', .int b', .int c'])) q (sc.map V.int) := fun a' b' c' => sqL_mono (eg.mut gp) hq
  have pp : ∀ a' b' c', SqL K (upd H p (.lst [.ref q, .int a', .int b', .int c'])) p [.ref q, .int a', .int b', .int c'] := fun a' b' c' => SqL.of upd_same
  have hgt : ∀ {X : Cx}, OpR X (compareOp .Gt) (rI0 fun i j => .bl (decide (j < i))) := OrdOp.gt.op
  have hge : ∀ {X : Cx}, OpR X (compareOp .GtE) (rI0 fun i j => .bl (decide (j ≤ i))) := OrdOp.ge.op
  refine ⟨_, pss_cons (ps_if (pt_cmpR hgt (pe_ix ix_list (pv 0) pe_int (fun _ _ => rfl)) pe_int (nomark _))
      (pss_cons (ps_set (i := 2) nd rfl (.inl rfl) (pe_op op_mod (pe_ix ix_list (pv 0) pe_int (fun _ _ => rfl)) (pv 1)))
        (pss_cons (ps_asg (pe_op op_fdiv (pe_ix ix_list (pv 0) pe_int (fun _ _ => rfl)) (pv 1)) (pg_sub (pv 0) pe_int set_list (by intro _; rfl)))
          (pss_one (ps_ret (pv 2))))) pss_nil)
    (pss_cons (ps_asg (pe_op op_add (pe_ix ix_list (pv 0) pe_int (fun _ _ => rfl)) pe_int) (pg_sub (pv 0) pe_int set_list (by intro _; rfl)))
    (pss_cons (ps_if (pt_cmpR hgt (pe_ix ix_list (pv 0) pe_int (fun _ _ => rfl)) (pe_callB call_len_seq (by rfl) B.len PySem.boot_len (pa_cons (pe_ix ix_list (pv 0) pe_int (fun _ _ => rfl)) pa_nil)) (nomark _))
      (pss_cons (ps_asg (pe_op op_mod (pe_op op_add (pe_op op_mul (pe_ix ix_list (pv 0) pe_int (fun _ _ => rfl)) pe_int) pe_int) pe_int) (pg_sub (pv 0) pe_int set_list (by intro _; rfl)))
        (pss_one (ps_ret (pe_op op_mod (pe_op op_fdiv (pe_ix ix_list (pv 0) pe_int (fun _ _ => rfl)) pe_int) (pv 1))))) pss_nil)
    (pss_cons (ps_set (i := 3) nd rfl (.inl rfl) (pe_ix ix_list (pe_ix ix_list (pv 0) pe_int (fun _ _ => rfl)) (pe_op op_sub (pe_ix ix_list (pv 0) pe_int (fun _ _ => rfl)) pe_int) (fun _ _ => rfl)))
    (pss_cons (ps_asg (pe_op op_mod (pe_op op_add (pe_op op_add (pe_op op_mul (pe_ix ix_list (pv 0) pe_int (fun _ _ => rfl)) pe_int) (pv 3)) pe_int) pe_int) (pg_sub (pv 0) pe_int set_list (by intro _; rfl)))
    (pss_cons (ps_if (pt_cmpR hge (pv 3) (pe_op op_pow pe_int pe_int) (nomark _))
      (pss_one (ps_asg (pe_op op_fdiv (pv 3) (pv 1)) (pg_sub (pv 0) pe_int set_list (by intro _; rfl)))) pss_nil)
    (pss_one (ps_ret (pe_op op_mod (pv 3) (pv 1))))))))), ?_⟩
  have H0 : SqL K H p [.ref q, .int a, .int b, .int c] := SqL.of hp
  have hm0 : 0 ≤ ((0 : Int)) := by decide
  refine ⟨.ref p, rfl, p, _, 3, _, rfl, rfl, H0, rfl, c, 0, rfl, rfl, decide (0 < c), rfl, ?_⟩
  refine ite2 (fun hc => ?_) (fun hc => ?_)
  · have hc := of_decide_eq_true hc
    refine ⟨.ref p, rfl, p, _, 3, _, rfl, rfl, H0, rfl, .int m, rfl, c, m, rfl, rfl, m0, ?_⟩
    refine ⟨.ref p, rfl, p, _, 3, _, rfl, rfl, H0, rfl, .int m, rfl, c, m, rfl, rfl, ⟨m0, m1⟩, .ref p, rfl, p, _, 3, 3, rfl, rfl, hp, rfl, .int (c % m), rfl, ?_⟩
    exact fin b (c / m) a (c % m) ⟨ri.l, ri.a0, ri.b0, ri.b1, Int.ediv_nonneg ri.c0 (by omega)⟩ (Int.emod_nonneg _ (by omega)) (Int.emod_lt_of_pos _ m0)
  · refine ⟨.ref p, rfl, p, _, 1, _, rfl, rfl, H0, rfl, a, 1, rfl, rfl, .ref p, rfl, p, _, 1, 1, rfl, rfl, hp, rfl, ?_⟩
    refine ⟨.ref p, rfl, p, _, 1, _, rfl, rfl, pp (a + 1) b c, rfl, .ref p, rfl, p, _, 0, .ref q, rfl, rfl, pp (a + 1) b c, rfl, q, sc.map V.int, rfl, .inl (qq _ _ _), a + 1, ((sc.map V.int).length : Int), rfl, rfl, decide (((sc.map V.int).length : Int) < a + 1), rfl, ?_⟩
    refine ite2 (fun ha => ?_) (fun ha => ?_)
    · have ha := of_decide_eq_true ha
      refine ⟨.ref p, rfl, p, _, 2, _, rfl, rfl, pp (a + 1) b c, rfl, b, 48271, rfl, rfl, .inr ⟨by decide, by decide⟩, b * 48271, 11, rfl, rfl, b * 48271 + 11, 2147483647, rfl, rfl, (by decide : (0 : Int) < 2147483647), .ref p, rfl, p, _, 2, 2, rfl, rfl, upd_same, rfl, ?_⟩
      rw [upd_upd]
      refine ⟨.ref p, rfl, p, _, 2, _, rfl, rfl, pp (a + 1) ((b * 48271 + 11) % 2147483647) c, rfl, (b * 48271 + 11) % 2147483647, 7, rfl, rfl, ⟨by decide, by decide⟩, .int m, rfl, (b * 48271 + 11) % 2147483647 / 7, m, rfl, rfl, m0, ?_⟩
      exact fin _ c (a + 1) _ ⟨ri.l, by have := ri.a0; omega, Int.emod_nonneg _ (by decide), Int.emod_lt_of_pos _ (by decide), ri.c0⟩ (Int.emod_nonneg _ (by omega)) (Int.emod_lt_of_pos _ m0)
    · have ha : ¬ ((sc.map V.int).length : Int) < a + 1 := fun z => ha (decide_eq_true z)
      have ha2 : a + 1 ≤ (sc.length : Int) := by rw [List.length_map] at ha; omega
      have ha3 : a.toNat < sc.length := by have := ri.a0; omega
      have hat : atI (sc.map V.int) (a + 1 - 1) = some (.int sc[a.toNat]) := by
        have e1 : a + 1 - 1 = ((a.toNat : Nat) : Int) := by have := ri.a0; omega
        rw [e1]
        exact atI_nat (j := a.toNat) (by rw [List.getElem?_map, List.getElem?_eq_getElem ha3]; rfl)
      refine ⟨.ref p, rfl, p, _, 0, .ref q, rfl, rfl, pp (a + 1) b c, rfl, .ref p, rfl, p, _, 1, _, rfl, rfl, pp (a + 1) b c, rfl, a + 1, 1, rfl, rfl, q, _, a + 1 - 1, .int sc[a.toNat], rfl, rfl, qq _ _ _, hat, ?_⟩
      generalize sc[a.toNat] = cell
      refine ⟨.ref p, rfl, p, _, 2, _, rfl, rfl, pp (a + 1) b c, rfl, b, 48271, rfl, rfl, .inr ⟨by decide, by decide⟩, .int cell, rfl, b * 48271, cell, rfl, rfl, b * 48271 + cell, 11, rfl, rfl, b * 48271 + cell + 11, 2147483647, rfl, rfl, (by decide : (0 : Int) < 2147483647), .ref p, rfl, p, _, 2, 2, rfl, rfl, upd_same, rfl, ?_⟩
      rw [upd_upd]
      refine ⟨.int cell, rfl, 10, 18, rfl, rfl, ⟨by decide, by decide, by decide⟩, cell, 10 ^ 18, rfl, rfl, decide ((10 ^ 18 : Int) ≤ cell), rfl, ?_⟩
      have rw2 : 0 ≤ (b * 48271 + cell + 11) % 2147483647 := Int.emod_nonneg _ (by decide)
      have rw3 : (b * 48271 + cell + 11) % 2147483647 < 2147483647 := Int.emod_lt_of_pos _ (by decide)
      refine ite2 (fun hb => ?_) (fun hb => ?_)
      · have hb := of_decide_eq_true hb
        have hcell : 0 ≤ cell := Int.le_trans (by decide) hb
        refine ⟨.int cell, rfl, .int m, rfl, cell, m, rfl, rfl, ⟨m0, m1⟩, .ref p, rfl, p, _, 3, 3, rfl, rfl, upd_same, rfl, ?_⟩
        rw [upd_upd]
        refine ⟨.int cell, rfl, .int m, rfl, cell, m, rfl, rfl, m0, ?_⟩
        exact fin _ (cell / m) (a + 1) _ ⟨ri.l, by have := ri.a0; omega, rw2, rw3, Int.ediv_nonneg hcell (by omega)⟩ (Int.emod_nonneg _ (by omega)) (Int.emod_lt_of_pos _ m0)
      · refine ⟨.int cell, rfl, .int m, rfl, cell, m, rfl, rfl, m0, ?_⟩
        exact fin _ c (a + 1) _ ⟨ri.l, by have := ri.a0; omega, rw2, rw3, ri.c0⟩ (Int.emod_nonneg _ (by omega)) (Int.emod_lt_of_pos _ m0)

/-! ### the data -/
abbrev Tu (ns : List Int) : PyData := .tuple (ns.map .int)
abbrev Li (ns : List Int) : PyData := .list (ns.map .int)
abbrev Nk (t : List Int) (f c : Int) : PyData := .tuple [Tu t, .int f, .int c]
structure OkN (t : List Int) (f c : Int) : Prop where
  l1 : 1 ≤ t.length
  l2 : t.length ≤ 6
  n : ∀ x ∈ t, 0 ≤ x ∧ x ≤ 60
  c0 : 0 ≤ c
  cf : c ≤ f
  f2 : f ≤ 20
structure OkS (t : List Int) (f c : Int) (sh : List Int) : Prop where
  l : sh.length = t.length
  p : ∀ x ∈ sh, x = -1 ∨ c ≤ x ∧ x ≤ f
theorem get_int {ns : List Int} {i : Nat} {d : PyData} (h : (ns.map PyData.int)[i]? = some d) : ∃ p, ns[i]? = some p ∧ d = .int p := by
  rw [List.getElem?_map] at h
  cases e : ns[i]? with
  | none => rw [e] at h; cases h
  | some p => rw [e] at h; cases h; exact ⟨p, rfl, rfl⟩
theorem take_succ {α : Type} {ns : List α} {i : Nat} {p : α} (h : ns[i]? = some p) : ns.take (i + 1) = ns.take i ++ [p] := by
  rw [List.take_add_one, h]; rfl
theorem lt_of_get {α : Type} {ns : List α} {i : Nat} {p : α} (h : ns[i]? = some p) : i < ns.length := (List.getElem?_eq_some_iff.mp h).1

theorem sc__law_neck : FnScope ["_law_row", "_law_most", "_law_begin", "_law_tuning", "_law_k", "_law_note", "_law_frets", "_law_capo"] ["_law_row", "_law_most"] (defScope s__law_neck) := ⟨rfl, rfl, rfl, by decide +kernel, rfl, by decide +kernel, by decide +kernel⟩
def z__law_neck : Zp := fun ds kt _ _ => ∃ most : Int, ds = [.int most] ∧ 1 ≤ most ∧ most ≤ 6 ∧ ∀ t f c, OkN t f c → (t.length : Int) ≤ most → kt (Nk t f c)
theorem ok__law_neck {k : Nat} {f : Addr} {fd : FuncData} (Fn : Fun K "_law_neck" "_law_neck" s__law_neck f fd) (B : BT mg) (k__law_taken : Kn P w K mg base CX0 "_law_taken" k (spR K z_taken)) : FnOk P w K mg base CX0 (k + 1) f fd ["_law_row", "_law_most"] (spR K z__law_neck) := by
  refine fn_okR Fn sc__law_neck (by rintro ds kt ko ke ⟨m, rfl, _⟩; rfl) (by decide) fun cdv A outer s H E Fm ds kt ko hr hz => ?_
  obtain ⟨most, rfl, h1, h6, q⟩ := hz
  have nd := sc__law_neck.nd
  -- _law_begin = _law_taken(_law_row, 40)
  refine db_cons (ds_set 2 nd (de_takeP 0 k__law_taken hr ep_int ⟨by decide, by decide⟩ fun r1 a1 b1 => ?_))
  -- _law_tuning = [_law_begin]
  refine db_cons (ds_setOP 3 nd (op_lst (ap_cons (ep_v 2) ap_nil)) ?_)
  -- for _law_k in range(_law_taken(_law_row, _law_most)):
  refine db_mid (fun S => ∃ (t : List Int) (s4 : Sl), S = [.row, .val (.int most), .val (.int r1), .own (t.map .int), s4, .unk, .unk, .unk] ∧ 1 ≤ t.length ∧ (t.length : Int) ≤ most ∧ ∀ x ∈ t, 0 ≤ x ∧ x ≤ 60) (ds_for PassesOwn.never rfl (dg_name 4 nd) (di_range1 B.range (da_cons (de_takeP 0 k__law_taken hr (ep_v 1) ⟨by omega, by omega⟩ fun r2 a2 b2 => (da_nil ⟨_, rfl, ⟨by omega, by omega⟩,
    ⟨fun i S => ∃ (t : List Int) (s4 : Sl), S = [.row, .val (.int most), .val (.int r1), .own (t.map .int), s4, .unk, .unk, .unk] ∧ t.length = i + 1 ∧ ∀ x ∈ t, 0 ≤ x ∧ x ≤ 60, ⟨[r1], _, rfl, rfl, ?_⟩, fun i d Si hd hI => ?_, fun Sn hI => ?_⟩⟩)))))  ?_
  · intro x hx
    rw [List.mem_singleton.mp hx]
    omega
  · obtain ⟨t, s4, rfl, tl, tb⟩ := hI
    have hi : i < (rgD 0 r2.toNat).length := (List.getElem?_eq_some_iff.mp hd).1
    rw [rgD_length] at hi
    obtain ⟨tz, tl0, et⟩ : ∃ tz tl0, t = tl0 ++ [tz] := by
      rcases List.eq_nil_or_concat t with e | ⟨l, z, e⟩
      · subst e; cases tl
      · exact ⟨z, l, by rw [e, List.concat_eq_append]⟩
    refine db_cons (ds_append 3 ⟨_, rfl⟩ (de_min2 B rfl (da_cons (ep_int.to (da_cons (de_max2 B rfl (da_cons (ep_int.to (da_cons (de_add ((ep_ixO (d := .int tz) 3 (ep_neg ep_int) ?_).to (de_pickI (-5) 8 0 k__law_taken hr ⟨by decide, by decide⟩ (de_o (do_lst (da_cons (ep_int.to (da_cons (ep_int.to (da_cons (ep_int.to (da_cons (ep_int.to (da_cons (de_sub (de_takeP 0 k__law_taken hr ep_int ⟨by decide, by decide⟩ fun r4 a4 b4 => (ep_int.to (i2 (da_nil ⟨by show 5 ≤ sizeLine; decide, ⟨rfl, _, rfl, rfl, .cons (by omega) (by omega) (.cons (by omega) (by omega) (.cons (by omega) (by omega) (.cons (by omega) (by omega) (.cons (by omega) (by omega) .nil)))), fun v3 v3a v3b => (i2 (da_nil ⟨_, _, rfl, (da_nil ⟨_, _, rfl, ⟨_, rfl, ?_, ?_⟩⟩)⟩))⟩⟩))))))))))))))))))))))))))))
    · rw [et, List.map_append]; exact atI_last _ _
    · rw [List.length_map, tl]
      exact small1000 (by omega)
    · refine db_nil ⟨t ++ [_], _, by rw [List.map_append]; rfl, by rw [List.length_append, tl]; rfl, fun x hx => ?_⟩
      rcases List.mem_append.mp hx with hx | hx
      · exact tb x hx
      · rw [List.mem_singleton.mp hx]
        omega
  · obtain ⟨t, s4, rfl, tl, tb⟩ := hI
    rw [rgD_length] at tl
    exact ⟨t, s4, rfl, by omega, by omega, tb⟩
  rintro S ⟨t, s4, rfl, tl0, tl1, tb⟩
  -- if _law_taken(_law_row, 6) == 5:
  refine db_mid (fun S => ∃ (t : List Int) (s4 : Sl), S = [.row, .val (.int most), .val (.int r1), .val (Li t), s4, .unk, .unk, .unk] ∧ 1 ≤ t.length ∧ (t.length : Int) ≤ most ∧ ∀ x ∈ t, 0 ≤ x ∧ x ≤ 60) (ds_if (dt_eq hr (de_takeP 0 k__law_taken hr ep_int ⟨by decide, by decide⟩ fun r5 a5 b5 => (ep_int.to ⟨sh_int _, sh_int _, ⟨fun h => ?_, fun h => ?_⟩⟩)))) ?_
  · -- _law_tuning = [_law_taken(_law_row, 61) for _law_note in _law_tuning]
    refine db_freeze 3 rfl (db_cons (ds_setLc 3 [("_law_note", 5)] rfl nd (by decide) (fun _ _ _ _ _ => (dg_name 5 nd)) (di_list ((ep_v 3).to ⟨_, rfl, ⟨fun i Si acc => Si = [.row, .val (.int most), .val (.int r1), .val (Li t), s4, .unk, .unk, .unk] ∧ acc.length = i ∧ AI 0 60 acc, ⟨rfl, rfl, .nil⟩, fun i d Si acc hd hI => ?_, fun Sn acc hI => ?_⟩⟩)) (blkOk_by rfl) (sw_true rfl rfl rfl (by decide +kernel))))
    · obtain ⟨rfl, e2, e3⟩ := hI
      have hi : i < t.length := by have := (List.getElem?_eq_some_iff.mp hd).1; rwa [List.length_map] at this
      refine ⟨fun tt S' => tt = true ∧ S' = [.row, .val (.int most), .val (.int r1), .val (Li t), s4, .val d, .unk, .unk], fun _ _ _ _ _ => dts_nil ⟨rfl, rfl⟩, fun tt S3 hp => ?_⟩
      obtain ⟨rfl, rfl⟩ := hp
      refine ⟨fun _ => ⟨Nat.lt_of_lt_of_le (by omega : acc.length < 7) (by decide), fun s H C cl fp => de_takeP 0 k__law_taken hr ep_int ⟨by decide, by decide⟩ fun r6 a6 b6 => ⟨rfl, by rw [List.length_append, e2]; rfl, ?_⟩⟩, fun z => nomatch z⟩
      intro d hd
      rcases List.mem_append.mp hd with hd | hd
      · exact e3 d hd
      · rw [List.mem_singleton.mp hd]
        exact ⟨r6, rfl, a6, by omega⟩
    · obtain ⟨rfl, e2, e3⟩ := hI
      obtain ⟨ns, rfl, hn⟩ := e3.toInts
      rw [List.length_map, List.length_map] at e2
      exact db_freeze 3 rfl (db_nil ⟨ns, s4, rfl, by omega, by omega, hn⟩)
  · exact db_freeze 3 rfl (db_nil ⟨t, s4, rfl, tl0, tl1, tb⟩)
  rintro S ⟨t, s4, rfl, tl0, tl1, tb⟩
  -- _law_frets = [12, 5, 7, _law_taken(_law_row, 21)][_law_taken(_law_row, 4)]
  refine db_cons (ds_set 6 nd (de_pickI 0 20 0 k__law_taken hr ⟨by decide, by decide⟩ (de_o (do_lst (da_cons (ep_int.to (da_cons (ep_int.to (da_cons (ep_int.to (da_cons (de_takeP 0 k__law_taken hr ep_int ⟨by decide, by decide⟩ fun r8 a8 b8 => (da_nil ⟨by show 4 ≤ sizeLine; decide, ⟨rfl, _, rfl, rfl, .cons (by omega) (by omega) (.cons (by omega) (by omega) (.cons (by omega) (by omega) (.cons (by omega) (by omega) .nil))), fun fr f0 f1 => ?_⟩⟩)))))))))))))
  -- _law_capo = [0, 0, _law_taken(_law_row, _law_frets + 1)][_law_taken(_law_row, 3)]
  refine db_cons (ds_set 7 nd (de_pickI 0 fr 0 k__law_taken hr ⟨by decide, by decide⟩ (de_o (do_lst (da_cons (ep_int.to (da_cons (ep_int.to (da_cons (de_takeP 0 k__law_taken hr (ep_add (ep_v 6) ep_int) ⟨by omega, by omega⟩ fun r10 a10 b10 => (da_nil ⟨by show 3 ≤ sizeLine; decide, ⟨rfl, _, rfl, rfl, .cons (by omega) (by omega) (.cons (by omega) (by omega) (.cons (by omega) (by omega) .nil)), fun cp c0 c1 => ?_⟩⟩)))))))))))
  -- return (tuple(_law_tuning), _law_frets, _law_capo)
  exact db_cons (ds_retP (ep_tup (ap_cons (ep_tupOfV B (ep_v 3)) (ap_cons (ep_v 6) (ap_cons (ep_v 7) ap_nil)))) ⟨rfl, q t fr cp ⟨tl0, by omega, tb, c0, c1, f1⟩ tl1⟩)

theorem sc__law_shape : FnScope ["_law_row", "_law_neck_here", "_law_low", "_law_found", "_law_note", "_law_near", "_law_any_place"] ["_law_row", "_law_neck_here"] (defScope s__law_shape) := ⟨rfl, rfl, rfl, by decide +kernel, rfl, by decide +kernel, by decide +kernel⟩
def z__law_shape : Zp := fun ds kt _ _ => ∃ t f c, ds = [Nk t f c] ∧ OkN t f c ∧ ∀ sh, OkS t f c sh → kt (Tu sh)
theorem ok__law_shape {k : Nat} {f : Addr} {fd : FuncData} (Fn : Fun K "_law_shape" "_law_shape" s__law_shape f fd) (B : BT mg) (k__law_taken : Kn P w K mg base CX0 "_law_taken" k (spR K z_taken)) : FnOk P w K mg base CX0 (k + 1) f fd ["_law_row", "_law_neck_here"] (spR K z__law_shape) := by
  refine fn_okR Fn sc__law_shape (by rintro ds kt ko ke ⟨t, f, c, rfl, _⟩; rfl) (by decide) fun cdv A outer s H E Fm ds kt ko hr hz => ?_
  obtain ⟨t, f, c, rfl, ok, q⟩ := hz
  have nd := sc__law_shape.nd
  have c0 := ok.c0
  have cf := ok.cf
  have f2 := ok.f2
  have l6 := ok.l2
  -- _law_low = _law_neck_here[2] + _law_taken(_law_row, _law_neck_here[1] - _law_neck_here[2] + 1)
  refine db_cons (ds_set 2 nd (de_add ((ep_ixT (ep_v 1) ep_int rfl).to (de_takeP 0 k__law_taken hr (ep_add (ep_sub (ep_ixT (ep_v 1) ep_int rfl) (ep_ixT (ep_v 1) ep_int rfl)) ep_int) ⟨by omega, by omega⟩ fun r1 a1 b1 => (i2 ?_)))))
  -- _law_found = []
  refine db_cons (ds_setOP 3 nd (op_lst ap_nil) ?_)
  -- for _law_note in _law_neck_here[0]:
  refine db_mid (fun S => ∃ (sh : List Int) (s4 s5 s6 : Sl), S = [.row, .val (Nk t f c), .val (.int (c + r1)), .own (sh.map .int), s4, s5, s6] ∧ OkS t f c sh) (ds_for PassesOwn.never rfl (dg_name 4 nd) (di_tup ((ep_ixT (ep_v 1) ep_int rfl).to ⟨_, rfl, ⟨fun i S => ∃ (sh : List Int) (s4 s5 s6 : Sl), S = [.row, .val (Nk t f c), .val (.int (c + r1)), .own (sh.map .int), s4, s5, s6] ∧ sh.length = i ∧ ∀ x ∈ sh, x = -1 ∨ c ≤ x ∧ x ≤ f, ⟨[], _, _, _, rfl, rfl, fun _ h => nomatch h⟩, fun i d Si hd hI => ?_, fun Sn hI => ?_⟩⟩))) ?_
  · obtain ⟨sh, s4, s5, s6, rfl, sl, sp⟩ := hI
    have hi : i < (t.map PyData.int).length := (List.getElem?_eq_some_iff.mp hd).1
    rw [List.length_map] at hi
    -- _law_near = min(_law_neck_here[1], _law_low + _law_taken(_law_row, 4))
    refine db_cons (ds_set 5 nd (de_min2 B rfl (da_cons ((ep_ixT (ep_v 1) ep_int rfl).to (da_cons (de_add ((ep_v 2).to (de_takeP 0 k__law_taken hr ep_int ⟨by decide, by decide⟩ fun r2 a2 b2 => (i2 (da_nil ⟨_, _, rfl, ?_⟩))))))))))
    -- _law_any_place = _law_neck_here[2] + _law_taken(_law_row, _law_neck_here[1] - _law_neck_here[2] + 1)
    refine db_cons (ds_set 6 nd (de_add ((ep_ixT (ep_v 1) ep_int rfl).to (de_takeP 0 k__law_taken hr (ep_add (ep_sub (ep_ixT (ep_v 1) ep_int rfl) (ep_ixT (ep_v 1) ep_int rfl)) ep_int) ⟨by omega, by omega⟩ fun r3 a3 b3 => (i2 ?_)))))
    -- _law_found.append([_law_near, _law_near, _law_near, 0 - 1, _law_neck_here[2], _law_any_place][_law_taken(_law_row, 6)])
    refine db_cons (ds_append 3 ⟨_, rfl⟩ (de_pick 0 k__law_taken hr ⟨by decide, by decide⟩ ((ep_o (op_lst (ap_cons (ep_v 5) (ap_cons (ep_v 5) (ap_cons (ep_v 5) (ap_cons (ep_sub ep_int ep_int) (ap_cons (ep_ixT (ep_v 1) ep_int rfl) (ap_cons (ep_v 6) ap_nil)))))))).to ⟨rfl, _, rfl, rfl, fun d' hd' => ⟨_, rfl, by rw [List.length_map, sl]; exact small1000 (by omega), ?_⟩⟩)))
    obtain ⟨v, rfl, hv⟩ : ∃ v : Int, d' = .int v ∧ (v = -1 ∨ c ≤ v ∧ v ≤ f) := by
      simp only [List.mem_cons, List.not_mem_nil, or_false] at hd'
      rcases hd' with rfl | rfl | rfl | rfl | rfl | rfl <;> exact ⟨_, rfl, by omega⟩
    refine db_nil ⟨sh ++ [v], _, _, _, by rw [List.map_append]; rfl, by rw [List.length_append, sl]; rfl, fun x hx => ?_⟩
    rcases List.mem_append.mp hx with hx | hx
    · exact sp x hx
    · rw [List.mem_singleton.mp hx]; exact hv
  · obtain ⟨sh, s4, s5, s6, rfl, sl, sp⟩ := hI
    exact ⟨sh, s4, s5, s6, rfl, by rw [sl, List.length_map], sp⟩
  rintro S ⟨sh, s4, s5, s6, rfl, os⟩
  -- return tuple(_law_found)
  exact db_freeze 3 rfl (db_cons (ds_retP (ep_tupOfV B (ep_v 3)) ⟨rfl, q sh os⟩))

theorem sc__law_hand : FnScope ["_law_row"] ["_law_row"] (defScope s__law_hand) := ⟨rfl, rfl, rfl, by decide +kernel, rfl, by decide +kernel, by decide +kernel⟩
def z__law_hand : Zp := fun ds kt _ _ => ds = [] ∧ ∀ r g : Int, 0 ≤ r → r ≤ 6 → 0 ≤ g → g ≤ 6 → kt (Tu [r, g])
theorem ok__law_hand {k : Nat} {f : Addr} {fd : FuncData} (Fn : Fun K "_law_hand" "_law_hand" s__law_hand f fd) (B : BT mg) (k__law_taken : Kn P w K mg base CX0 "_law_taken" k (spR K z_taken)) : FnOk P w K mg base CX0 (k + 1) f fd ["_law_row"] (spR K z__law_hand) := by
  refine fn_okR Fn sc__law_hand (by rintro ds kt ko ke ⟨rfl, _⟩; rfl) (by decide) fun cdv A outer s H E Fm ds kt ko hr hz => ?_
  obtain ⟨rfl, q⟩ := hz
  have nd := sc__law_hand.nd
  -- return ([3, 4, _law_taken(_law_row, 7)][_law_taken(_law_row, 3)], [4, 3, _law_taken(_law_row, 7)][_law_taken(_law_row, 3)])
  exact db_cons (ds_ret (de_tup (da_cons (de_pickI 0 6 0 k__law_taken hr ⟨by decide, by decide⟩ (de_o (do_lst (da_cons (ep_int.to (da_cons (ep_int.to (da_cons (de_takeP 0 k__law_taken hr ep_int ⟨by decide, by decide⟩ fun r4 a4 b4 => (da_nil ⟨by show 3 ≤ sizeLine; decide, ⟨rfl, _, rfl, rfl, .cons (by omega) (by omega) (.cons (by omega) (by omega) (.cons (by omega) (by omega) .nil)), fun v3 v3a v3b => (da_cons (de_pickI 0 6 0 k__law_taken hr ⟨by decide, by decide⟩ (de_o (do_lst (da_cons (ep_int.to (da_cons (ep_int.to (da_cons (de_takeP 0 k__law_taken hr ep_int ⟨by decide, by decide⟩ fun r2 a2 b2 => (da_nil ⟨by show 3 ≤ sizeLine; decide, ⟨rfl, _, rfl, rfl, .cons (by omega) (by omega) (.cons (by omega) (by omega) (.cons (by omega) (by omega) .nil)), fun v1 v1a v1b => (da_nil ⟨by show 2 ≤ sizeLine; decide, rfl, q v3 v1 v3a v3b v1a v1b⟩)⟩⟩)))))))))))⟩⟩)))))))))))))

theorem sc__law_sounds : FnScope ["_law_neck_here", "_law_shape_here", "_law_k"] ["_law_neck_here", "_law_shape_here"] (defScope s__law_sounds) := ⟨rfl, rfl, rfl, by decide +kernel, rfl, by decide +kernel, by decide +kernel⟩
/-- the notes of the sounding strings -/
def sounds (t sh : List Int) : List Int := ((t.zip sh).filter fun p => decide (0 ≤ p.2)).map fun p => p.1 + p.2
def z__law_sounds : Zp := fun ds _ ko _ => ∃ t f c sh, ds = [Nk t f c, Tu sh] ∧ OkN t f c ∧ sh.length ≤ t.length ∧ ko ((sounds t sh).map .int)
theorem ok__law_sounds {k : Nat} {f : Addr} {fd : FuncData} (Fn : Fun K "_law_sounds" "_law_sounds" s__law_sounds f fd) (B : BT mg) : FnOk P w K mg base CX0 (k + 1) f fd ["_law_neck_here", "_law_shape_here"] (spP z__law_sounds) := by
  refine fn_ok Fn sc__law_sounds (by rintro ds kt ko ke ⟨t, f, c, s, rfl, _⟩; rfl) (by decide) fun cdv A outer s H E Fm ds kt ko ke hr hF hz => ?_
  obtain ⟨t, f, c, sh, rfl, ok, hl, q⟩ := hz
  have nd := sc__law_sounds.nd
  have l6 := ok.l2
  have e := rzL (0 : Int) (0 : Int) hl (fun p => decide (0 ≤ p.2)) (fun p => PyData.int (p.1 + p.2))
  refine db_cons (ds_retO (do_lc [("_law_k", 2)] rfl nd (by decide) (fun _ _ _ _ _ => (dg_name 2 nd)) (di_range1 B.range (da_cons ((ep_lenT B (ep_v 1)).to (da_nil ⟨_, rfl, ⟨by omega, by rw [List.length_map]; omega⟩, (lcp 2 (fun b => .int (0 + (b : Nat))) (List.range sh.length) (fun b => decide (0 ≤ sh.getD b 0)) (fun b => .int (t.getD b 0 + sh.getD b 0)) (by rw [List.length_map]; rfl) (small1000 (by rw [List.length_range]; omega)) (fun b hb s H C cl fp => ts_one (tp_ord .ge (ep_ixT (ep_v 1) (ep_v 2) (atI_ints0 (mem_range hb))) ep_int)) (fun b hb hf s H C cl fp => (ep_add (ep_ixT (ep_ixT (ep_v 0) ep_int rfl) (ep_v 2) (atI_ints0 (by have := mem_range hb; omega))) (ep_ixT (ep_v 1) (ep_v 2) (atI_ints0 (mem_range hb))))) ?_)⟩)))) (blkOk_by rfl)))
  show ko _
  rw [e]
  have : ((t.zip sh).filter fun p => decide (0 ≤ p.2)).map (fun p => PyData.int (p.1 + p.2)) = (sounds t sh).map .int := by unfold sounds; rw [List.map_map]; rfl
  rw [this]; exact q

theorem sc__law_alike : FnScope ["_law_found", "_law_due", "_law_k"] ["_law_found", "_law_due"] (defScope s__law_alike) := ⟨rfl, rfl, rfl, by decide +kernel, rfl, by decide +kernel, by decide +kernel⟩
/-- data that the look goes through, to a depth -/
def AlD : Nat → FW.D → Prop
  | 0, _ => False
  | n + 1, d => (match d with
    | .none => True
    | .bool _ => True
    | .int _ => True
    | .str z => PyData.strOk z = true
    | .tuple ds => ds.length ≤ 50000 ∧ ∀ x ∈ ds, AlD n x
    | .list ds => ds.length ≤ 50000 ∧ ∀ x ∈ ds, AlD n x
    | .dict _ => False)
def z__law_alike (n : Nat) : Zp := fun ds kt _ _ => ∃ d, ds = [d, d] ∧ AlD n d ∧ kt (.bool true)
theorem ok__law_alike {k n : Nat} {f : Addr} {fd : FuncData} (Fn : Fun K "_law_alike" "_law_alike" s__law_alike f fd) (B : BT mg) (k__law_alike : Kn P w K mg base CX0 "_law_alike" k (spP (z__law_alike n))) : FnOk P w K mg base CX0 (k + 1) f fd ["_law_found", "_law_due"] (spP (z__law_alike (n + 1))) := by
  refine fn_ok Fn sc__law_alike (by rintro ds kt ko ke ⟨d, rfl, _⟩; rfl) (by decide) fun cdv A outer s H E Fm ds kt ko ke hr hF hz => ?_
  obtain ⟨d, rfl, hd, q⟩ := hz
  have nd := sc__law_alike.nd
  have nB : ∀ b, Sh (.bool b) := fun b => sh_of (shD_bool 0 b)
  by_cases hT : (isT d || isL d) = true
  · obtain ⟨xs, sq, hx, hix⟩ : ∃ xs : List FW.D, Sq d xs ∧ (xs.length ≤ 50000 ∧ ∀ x ∈ xs, AlD n x) ∧ ∀ {X : Cx} {b : Nat} {S : List Sl} {a c : Expr} {pos : Pos}, Ep X Fm S a d → Ep X Fm S c (.int (0 + (b : Nat))) → b < xs.length → PlainIx c → Ep X Fm S (.Subscript a c pos) (xs.getD b .none) := by
      cases d with
      | tuple ds => exact ⟨ds, .t _, hd, fun ha hc hb hp => ep_ixT ha hc (atI_D hb) hp⟩
      | list ds => exact ⟨ds, .l _, hd, fun ha hc hb hp => ep_ixL ha hc (atI_D hb) hp⟩
      | none => cases hT
      | bool _ => cases hT
      | int _ => cases hT
      | str _ => cases hT
      | dict _ => cases hT
    refine db_cons (ds_ifP (tp_w (wp_or (tp_val (by intro _; rfl) (ep_isT B (ep_v 1))) fun h => (wp_or1 (tp_val (by intro _; rfl) (ep_isL B (ep_v 1)))))) (fun h => ?_) (fun h => ?_))
    · refine db_cons (ds_ifP (tp_w (wp_or (tp_ne hr (ep_isT B (ep_v 0)) (ep_isT B (ep_v 1)) (nB _) (nB _)) fun h => (wp_or1 (tp_not (tp_val (by intro _; rfl) (ep_isTL B (ep_v 0))))))) (fun h => ?_) (fun h => db_nil ?_))
      · exfalso
        rw [hT] at h
        simp [PyData.eqv] at h
      refine db_cons (ds_if (dt_ne hr (de_len B ((ep_v 0).to ⟨xs, sq, de_len B ((ep_v 1).to ⟨xs, sq, sh_int _, sh_int _, fun h => ?_, fun h => db_nil ?_⟩)⟩))))
      · exfalso
        simp [PyData.eqv] at h
      refine db_cons (ds_ret (de_eq hr (de_o (do_lc [("_law_k", 2)] rfl nd (by decide) (fun _ _ _ _ _ => (dg_name 2 nd)) (di_range1 B.range (da_cons (de_len B ((ep_v 1).to ⟨xs, sq, da_nil ⟨_, rfl, ⟨by omega, by omega⟩, (lcp 2 (fun b => .int (0 + (b : Nat))) (List.range xs.length) (fun _ => false) (fun b => .none) rfl (Nat.lt_of_le_of_lt (by rw [List.length_range]; exact hx.1) (by decide : 50000 < sizeLine)) (fun b hb s H C cl fp => ts_one (tp_not (tp_val (by intro _; rfl) (ep_call (d := .bool true) k__law_alike hr wish0 (ap_cons (hix (ep_v 0) (ep_v 2) (mem_range hb) (fun _ _ => rfl)) (ap_cons (hix (ep_v 1) (ep_v 2) (mem_range hb) (fun _ _ => rfl)) ap_nil)) ?_)))) (fun b hb hf s H C cl fp => nomatch hf) ?_)⟩⟩)))) (blkOk_by rfl)))))
      · have hb2 := mem_range hb
        rw [show xs.getD b .none = xs[b] from getD_lt hb2]
        exact ⟨_, rfl, hx.2 _ (List.getElem_mem hb2), rfl, rfl⟩
      · have e0 : ((List.range xs.length).filter fun _ => false).map (fun _ => PyData.none) = [] := by simp
        rw [e0]
        exact (ep_o (op_lst ap_nil)).to ⟨sh_nil, sh_nil, q⟩
    · exfalso
      rw [hT] at h; cases h
  · have h1 : isT d = false := by cases d <;> first | rfl | exact absurd rfl hT
    have h2 : isL d = false := by cases d <;> first | rfl | exact absurd rfl hT
    refine db_cons (ds_ifP (tp_w (wp_or (tp_val (by intro _; rfl) (ep_isT B (ep_v 1))) fun h => (wp_or1 (tp_val (by intro _; rfl) (ep_isL B (ep_v 1)))))) (fun h => absurd h hT) (fun h => db_nil ?_))
    refine db_cons (ds_ifP (tp_w (wp_or (tp_isN (ep_v 1)) fun h => (wp_or1 (tp_isN (ep_v 0))))) (fun h => ?_) (fun h => db_nil ?_))
    · refine db_cons (ds_retP (ep_and (ep_isN (ep_v 1)) fun h => (ep_one (ep_isN (ep_v 0)))) ?_)
      rw [Bool.or_self] at h
      rw [h]; exact q
    rw [Bool.or_self] at h
    refine db_cons (ds_ifP (tp_w (wp_or (tp_val (by intro _; rfl) (ep_isB B (ep_v 1))) fun h => (wp_or1 (tp_val (by intro _; rfl) (ep_isB B (ep_v 0)))))) (fun h3 => ?_) (fun h3 => db_nil ?_))
    · rw [Bool.or_self] at h3
      have hs : Sh d := by cases d <;> first | exact nB _ | cases h3
      have he : PyData.eqv d d = true := by cases d <;> first | (simp [PyData.eqv]; done) | cases h3
      refine db_cons (ds_retP (ep_and (ep_isB B (ep_v 1)) fun h => (ep_and (ep_isB B (ep_v 0)) fun h => (ep_one (ep_eq hr (ep_v 0) (ep_v 1) hs hs)))) ?_)
      rw [h3, he]; exact q
    rw [Bool.or_self] at h3
    refine db_cons (ds_ifP (tp_val (by intro _; rfl) (ep_isS B (ep_v 1))) (fun h4 => ?_) (fun h4 => db_nil ?_))
    · have hs : Sh d := by cases d <;> first | exact sh_of (shD_str 0 hd) | cases h4
      have he : PyData.eqv d d = true := by cases d <;> first | (simp [PyData.eqv]; done) | cases h4
      refine db_cons (ds_retP (ep_and (ep_isS B (ep_v 0)) fun h => (ep_one (ep_eq hr (ep_v 0) (ep_v 1) hs hs))) ?_)
      rw [h4, he]; exact q
    obtain ⟨i, rfl⟩ : ∃ i, d = .int i := by
      cases d with
      | none => cases h
      | bool _ => cases h3
      | int i => exact ⟨i, rfl⟩
      | str _ => cases h4
      | tuple _ => cases h1
      | list _ => cases h2
      | dict _ => exact hd.elim
    refine db_cons (ds_retP (ep_and (ep_isI B (ep_v 0)) fun h => (ep_one (ep_eq hr (ep_v 0) (ep_v 1) (sh_int i) (sh_int i)))) ?_)
    have he : PyData.eqv (.int i) (.int i) = true := by rw [eqv_int]; exact beq_self_eq_true i
    rw [he]; exact q
theorem kn__law_alike {f : Addr} {fd : FuncData} (Fn : Fun K "_law_alike" "_law_alike" s__law_alike f fd) (B : BT mg) (hm : mg "_law_alike" = some (.ref f)) (hk : PySem.W.keepIn K (.ref f) = true) (hb : Binds K fd ["_law_found", "_law_due"] []) : ∀ n, Kn P w K mg base CX0 "_law_alike" n (spP (z__law_alike n))
  | 0 => ⟨f, fd, _, ⟨fun vs H Q E h => (by obtain ⟨_, _, _, _, _, _, _, ⟨_, _, hf, _⟩, _⟩ := h; exact hf.elim), fun A outer s H args us vs Q E hr _ _ _ h => (by obtain ⟨_, _, _, _, _, _, _, ⟨_, _, hf, _⟩, _⟩ := h; exact hf.elim)⟩, hm, hk, hb⟩
  | n + 1 => ⟨f, fd, _, ok__law_alike Fn B (kn__law_alike Fn B hm hk hb n), hm, hk, hb⟩

theorem ds_alikeP {X : Cx} {F : Fr} {S : List Sl} {e1 e2 : Expr} {body : List Stmt} {P : Post} {d : PyData} {j n : Nat} {p1 p2 p3 pos : Pos} (c : Kn X.prog X.w X.K X.mg X.base CX0 "_law_alike" j (spP (z__law_alike n))) (hr : Room j X.A) (ha : Ep X F S e1 d) (hb : Ep X F S e2 d) (hd : AlD n d) (k : P.nx S) (hg : Gl X "_law_alike" := by rfl)
    (he : starEach (e1 :: [e2]) X.env = (false, eval e1 X.env) :: starEach [e2] X.env := by rfl) (he2 : starEach [e2] X.env = (false, eval e2 X.env) :: starEach [] X.env := by rfl) (hpl : (backTo p2 (starEach [e2] X.env)).any (·.1) = false := by rfl)
    (hv : ∀ whole, isTrue (.Call (.Name "_law_alike" p1) (e1 :: [e2]) [] p2) X.env whole = (do let v ← whole; standAt (Expr.Call (.Name "_law_alike" p1) (e1 :: [e2]) [] p2).pos; holding [v] (truthy v)) := by intro _; rfl) :
    DS X F S (.If (.UnaryOp .Not (.Call (.Name "_law_alike" p1) (e1 :: [e2]) [] p2) p3) body [] pos) P :=
  ds_ifP (tp_not (tp_val hv (ep_call c hr wish0 (ap_cons ha (da_cons (hb.to (da_nil ⟨rfl, rfl⟩)) he2) he) ⟨d, rfl, hd, rfl, rfl⟩ hg (by decide) he hpl))) (fun h => nomatch h) (fun _ => db_nil k)
theorem tp_alikeP {X : Cx} {F : Fr} {S : List Sl} {e1 e2 : Expr} {d : PyData} {j n : Nat} {p1 p2 : Pos} (c : Kn X.prog X.w X.K X.mg X.base CX0 "_law_alike" j (spP (z__law_alike n))) (hr : Room j X.A) (ha : Ep X F S e1 d) (hb : Ep X F S e2 d) (hd : AlD n d) (hg : Gl X "_law_alike" := by rfl)
    (he : starEach (e1 :: [e2]) X.env = (false, eval e1 X.env) :: starEach [e2] X.env := by rfl) (he2 : starEach [e2] X.env = (false, eval e2 X.env) :: starEach [] X.env := by rfl) (hpl : (backTo p2 (starEach [e2] X.env)).any (·.1) = false := by rfl)
    (hv : ∀ whole, isTrue (.Call (.Name "_law_alike" p1) (e1 :: [e2]) [] p2) X.env whole = (do let v ← whole; standAt (Expr.Call (.Name "_law_alike" p1) (e1 :: [e2]) [] p2).pos; holding [v] (truthy v)) := by intro _; rfl) :
    Tp X F S (.Call (.Name "_law_alike" p1) (e1 :: [e2]) [] p2) true :=
  tp_val hv (ep_call c hr wish0 (ap_cons ha (da_cons (hb.to (da_nil ⟨rfl, rfl⟩)) he2) he) ⟨d, rfl, hd, rfl, rfl⟩ hg (by decide) he hpl)
theorem al_int (n : Nat) (i : Int) : AlD (n + 1) (.int i) := trivial
theorem al_none (n : Nat) : AlD (n + 1) .none := trivial
theorem al_bool (n : Nat) (b : Bool) : AlD (n + 1) (.bool b) := trivial
theorem al_tup {n : Nat} {ds : List PyData} (h1 : ds.length ≤ 1000) (h : ∀ x ∈ ds, AlD n x) : AlD (n + 1) (.tuple ds) := ⟨by omega, h⟩
theorem al_lst {n : Nat} {ds : List PyData} (h1 : ds.length ≤ 1000) (h : ∀ x ∈ ds, AlD n x) : AlD (n + 1) (.list ds) := ⟨by omega, h⟩
theorem al_tu (n : Nat) {ns : List Int} (h : ns.length ≤ 1000) : AlD (n + 2) (Tu ns) := al_tup (by rw [List.length_map]; exact h) fun x hx => by
  obtain ⟨i, _, rfl⟩ := List.mem_map.mp hx
  trivial
theorem al_li (n : Nat) {ns : List Int} (h : ns.length ≤ 1000) : AlD (n + 2) (Li ns) := al_lst (by rw [List.length_map]; exact h) fun x hx => by
  obtain ⟨i, _, rfl⟩ := List.mem_map.mp hx
  trivial
theorem cutD_take {ds : List FW.D} {k : Int} (h0 : 0 ≤ k) (h1 : k ≤ ds.length) : FW.cutD ds none (some k) = ds.take k.toNat := by
  unfold FW.cutD HT.sIx
  simp only [List.drop_zero, Nat.sub_zero]
  congr 1
  rw [if_neg (by omega)]
  omega
theorem cutD_drop {ds : List FW.D} {k : Int} (h0 : 0 ≤ k) (h1 : k ≤ ds.length) : FW.cutD ds (some k) none = ds.drop k.toNat := by
  unfold FW.cutD HT.sIx
  simp only
  rw [if_neg (by omega)]
  have : min k.toNat ds.length = k.toNat := by omega
  rw [this]
  exact List.take_of_length_le (by rw [List.length_drop]; exact Nat.le_refl _)
/-- .. the first a list of one's own -/
theorem ds_alikeO {X : Cx} {F : Fr} {S : List Sl} {e2 : Expr} {body : List Stmt} {P : Post} {ds : List PyData} (i : Nat) {j n : Nat} {x0 : Str} {p0 p1 p2 p3 pos : Pos} (c : Kn X.prog X.w X.K X.mg X.base CX0 "_law_alike" j (spP (z__law_alike n))) (hr : Room j X.A) (hO : S[i]? = some (.own ds)) (hb : Ep X F S e2 (.list ds)) (hd : AlD n (.list ds)) (k : P.nx S) (hg : Gl X "_law_alike" := by rfl)
    (hN : X.N[i]? = some x0 := by rfl) (hv0 : Vis X.env.scope x0 := by first | exact Or.inl rfl | exact Or.inr (Or.inl rfl) | exact Or.inr (Or.inr rfl)) (hd0 : (x0 == ("__debug__" : Str)) = false := by decide) (hcd : (x0 == ("__classdict__" : Str)) = false := by decide)
    (he : starEach (.Name x0 p0 :: [e2]) X.env = (false, eval (.Name x0 p0) X.env) :: starEach [e2] X.env := by rfl) (he2 : starEach [e2] X.env = (false, eval e2 X.env) :: starEach [] X.env := by rfl) (hpl : (backTo p2 (starEach [e2] X.env)).any (·.1) = false := by rfl)
    (hv : ∀ whole, isTrue (.Call (.Name "_law_alike" p1) (.Name x0 p0 :: [e2]) [] p2) X.env whole = (do let v ← whole; standAt (Expr.Call (.Name "_law_alike" p1) (.Name x0 p0 :: [e2]) [] p2).pos; holding [v] (truthy v)) := by intro _; rfl) :
    DS X F S (.If (.UnaryOp .Not (.Call (.Name "_law_alike" p1) (.Name x0 p0 :: [e2]) [] p2) p3) body [] pos) P := by
  obtain ⟨f, fd, ps, F1, hm, hk, hbd⟩ := c.ex
  have call : DE X F S (.Call (.Name "_law_alike" p1) (.Name x0 p0 :: [e2]) [] p2) fun d S' => d = .bool true ∧ S' = S :=
    de_mk (pe_call F1 hr hg hm hk hbd .nil (E := E0) pass0 (pa_cons (pe_var hN hv0 hd0 hcd) (pa_cons hb pa_nil he2) he) (by decide) he hpl) fun σ H Q ⟨G, sv, kk⟩ => by
      obtain ⟨p, vs, ep, gp, hp, rs⟩ := sv.slot i _ hO
      refine ⟨.ref p, ep, G, sv, fun d' S' G' v2 H' ⟨ed, eS⟩ st r2 => ?_⟩
      subst ed; subst eS
      obtain ⟨p', vs', ep', gp', hp', rs'⟩ := st.sv.slot i _ hO
      rw [ep] at ep'; cases ep'
      have eg : Ex G' (upd G' p (.lst vs')) := Ex.upd gp'
      have rfound : Rp (upd G' p (.lst vs')) (.ref p) (.list ds) := .lst upd_same (rs'.mono eg)
      have gh2 : Ex (upd G' p (.lst vs')) H' := fun a o h => by
        by_cases z : a = p
        · subst z; rw [upd_same] at h; cases h; exact hp'
        · rw [upd_ne z] at h; exact st.sv.gh a o h
      refine ⟨upd G' p (.lst vs'), [.list ds, .list ds], fun d => d = .bool true, fun _ => False, fun _ => False, gh2, .cons rfound (.cons (r2.mono eg) .nil), ⟨_, rfl, hd, rfl⟩, fun d G2 v H2 hk2 ps2 r3 => ?_, fun _ _ _ _ _ h => h.elim, fun _ _ _ h => h.elim⟩
      subst hk2
      cases r3
      exact kk _ S' G' _ H2 ⟨rfl, rfl⟩ (st.trans (stp_of st.sv ⟨Ex.refl G', ((Ex.upd gp').trans ps2.g).trans ps2.gh, ps2.h, fun a o h => .inl h⟩)) (.bl true)
  exact ds_ifP (x := false) (dt_not (dt_val hv (DE.imp call fun d S' ⟨e1, e2⟩ => by subst e1; subst e2; exact b1 ⟨rfl, rfl⟩))) (fun h => nomatch h) (fun _ => db_nil k)

theorem isEmpty_map {α β : Type} (f : α → β) (l : List α) : (l.map f).isEmpty = l.isEmpty := by cases l <;> rfl
theorem sh_bool (b : Bool) : Sh (.bool b) := sh_of (shD_bool 0 b)
theorem eqv_bool (a b : Bool) : PyData.eqv (.bool a) (.bool b) = (a == b) := by simp [PyData.eqv]

/-! ### ways, plainly -/
theorem sounds_set {p : Int} (hp : 0 ≤ p) : ∀ {t sh : List Int} {i : Nat}, t.length = sh.length → i < sh.length → sh.getD i 0 = -1 → (sounds t (sh.set i p)).Perm ((t.getD i 0 + p) :: sounds t sh)
  | [], [], i, _, hi, _ => absurd hi (Nat.not_lt_zero _)
  | a :: t, b :: sh, 0, _, _, hb => by
    have hb : b = -1 := hb
    subst hb
    have h1 : sounds (a :: t) ((-1) :: sh) = sounds t sh := by unfold sounds; rw [List.zip_cons_cons, List.filter_cons, if_neg (by simp)]
    have h2 : sounds (a :: t) (((-1) :: sh).set 0 p) = (a + p) :: sounds t sh := by unfold sounds; rw [List.set_cons_zero, List.zip_cons_cons, List.filter_cons, if_pos (by simpa using hp)]; rfl
    rw [h1, h2]; exact List.Perm.refl _
  | a :: t, b :: sh, i + 1, hl, hi, hb => by
    have ih := sounds_set hp (t := t) (sh := sh) (i := i) (by simpa using hl) (by simpa using hi) hb
    have h1 : ∀ s, sounds (a :: t) (b :: s) = (if 0 ≤ b then [a + b] else []) ++ sounds t s := fun s => by
      unfold sounds
      rw [List.zip_cons_cons, List.filter_cons]
      by_cases h : 0 ≤ b
      · rw [if_pos (by simpa using h), if_pos h]; rfl
      · rw [if_neg (by simpa using h), if_neg h]; rfl
    rw [List.set_cons_succ, h1, h1]
    show ((if 0 ≤ b then [a + b] else []) ++ sounds t (sh.set i p)).Perm ((t.getD i 0 + p) :: ((if 0 ≤ b then [a + b] else []) ++ sounds t sh))
    exact (List.Perm.append_left _ ih).trans List.perm_middle
theorem mem_sounds {n : Int} : ∀ {t sh : List Int}, sh.length ≤ t.length → (n ∈ sounds t sh ↔ ∃ i, i < sh.length ∧ 0 ≤ sh.getD i 0 ∧ t.getD i 0 + sh.getD i 0 = n)
  | t, sh, hl => by
    unfold sounds
    constructor
    · intro h
      obtain ⟨⟨a, b⟩, h1, h2⟩ := List.mem_map.mp h
      obtain ⟨h3, h4⟩ := List.mem_filter.mp h1
      obtain ⟨i, hi, e⟩ := List.mem_iff_getElem.mp h3
      rw [List.getElem_zip] at e
      rw [List.length_zip] at hi
      have hi1 : i < t.length := by omega
      have hi2 : i < sh.length := by omega
      have e1 : t[i] = a := congrArg Prod.fst e
      have e2 : sh[i] = b := congrArg Prod.snd e
      exact ⟨i, hi2, by rw [getD_lt hi2, e2]; simpa using h4, by rw [getD_lt hi2, getD_lt hi1, e1, e2]; exact h2⟩
    · rintro ⟨i, hi, h0, e⟩
      have hi1 : i < t.length := by omega
      rw [getD_lt hi] at h0 e
      rw [getD_lt hi1] at e
      exact List.mem_map.mpr ⟨(t[i], sh[i]), List.mem_filter.mpr ⟨List.mem_iff_getElem.mpr ⟨i, by rw [List.length_zip]; omega, by rw [List.getElem_zip]⟩, by simpa using h0⟩, e⟩
def strsOf (t : List Int) (f c n : Int) : List Nat := (List.range t.length).filter fun b => decide (c ≤ n - t.getD b 0) && decide (n - t.getD b 0 ≤ f)
def extW (t : List Int) (f c n : Int) (sh : List Int) : List (List Int) := ((strsOf t f c n).filter fun b => decide (sh.getD b 0 = -1)).map fun b => sh.set b (n - t.getD b 0)
def presd (c : Int) (sh : List Int) : List Int := sh.filter fun p => decide (c < p)
def laidB (c r g : Int) (sh : List Int) : Bool := decide (((presd c sh).length : Int) ≤ g) && (presd c sh).all fun x => (presd c sh).all fun y => decide (x - y ≤ r)
def stepW (t : List Int) (f c r g : Int) (some : List (List Int)) (n : Int) : List (List Int) := (some.flatMap (extW t f c n)).filter (laidB c r g)
def allW (t : List Int) (f c r g : Int) (chord : List Int) : List (List Int) := chord.foldl (stepW t f c r g) [List.replicate t.length (-1)]
/-- a way: a shape that sounds the chord and can be laid -/
structure WayW (t : List Int) (f c r g : Int) (chord sh : List Int) : Prop where
  ok : OkS t f c sh
  so : (sounds t sh).Perm chord
  la : laidB c r g sh = true
theorem mem_extW {t : List Int} {f c n : Int} {sh sh' : List Int} : sh' ∈ extW t f c n sh ↔ ∃ i, i < t.length ∧ (c ≤ n - t.getD i 0 ∧ n - t.getD i 0 ≤ f) ∧ sh.getD i 0 = -1 ∧ sh' = sh.set i (n - t.getD i 0) := by
  unfold extW strsOf
  constructor
  · intro h
    obtain ⟨i, hi, rfl⟩ := List.mem_map.mp h
    obtain ⟨h1, h2⟩ := List.mem_filter.mp hi
    obtain ⟨h3, h4⟩ := List.mem_filter.mp h1
    exact ⟨i, List.mem_range.mp h3, by simpa using h4, by simpa using h2, rfl⟩
  · rintro ⟨i, hi, h1, h2, rfl⟩
    exact List.mem_map.mpr ⟨i, List.mem_filter.mpr ⟨List.mem_filter.mpr ⟨List.mem_range.mpr hi, by simpa using h1⟩, by simpa using h2⟩, rfl⟩
theorem presd_set {c : Int} (hc : 0 ≤ c) : ∀ (sh : List Int) (i : Nat), (presd c (sh.set i (-1))).Sublist (presd c sh)
  | [], _ => List.Sublist.refl _
  | a :: sh, 0 => by
    unfold presd
    rw [List.set_cons_zero, List.filter_cons, if_neg (by simp; omega), List.filter_cons]
    split
    · exact List.sublist_cons_self _ _
    · exact List.Sublist.refl _
  | a :: sh, i + 1 => by
    have ih := presd_set hc sh i
    unfold presd at ih ⊢
    rw [List.set_cons_succ, List.filter_cons, List.filter_cons]
    split
    · exact ih.cons_cons a
    · exact ih
theorem laidB_sub {c r g : Int} {a b : List Int} (h : (presd c a).Sublist (presd c b)) (hb : laidB c r g b = true) : laidB c r g a = true := by
  unfold laidB at *
  simp only [Bool.and_eq_true, decide_eq_true_eq, List.all_eq_true] at *
  exact ⟨Int.le_trans (by have := h.length_le; omega) hb.1, fun x hx y hy => hb.2 x (h.subset hx) y (h.subset hy)⟩
theorem getD_set_self {sh : List Int} {i : Nat} {p : Int} (h : i < sh.length) : (sh.set i p).getD i 0 = p := by
  rw [getD_lt (by rw [List.length_set]; exact h), List.getElem_set_self]
theorem getD_set_ne {sh : List Int} {i j : Nat} {p : Int} (h : i ≠ j) : (sh.set i p).getD j 0 = sh.getD j 0 := by
  rw [List.getD_eq_getElem?_getD, List.getD_eq_getElem?_getD, List.getElem?_set_ne h]
theorem set_back {sh : List Int} {i : Nat} (h : i < sh.length) (q : Int) : (sh.set i q).set i (sh.getD i 0) = sh := by
  rw [List.set_set, getD_lt h, List.set_getElem_self]
theorem okS_set {t : List Int} {f c : Int} {sh : List Int} {i : Nat} {p : Int} (h : OkS t f c sh) (hp : p = -1 ∨ c ≤ p ∧ p ≤ f) : OkS t f c (sh.set i p) :=
  ⟨by rw [List.length_set]; exact h.l, fun x hx => by
    rcases List.mem_or_eq_of_mem_set hx with hx | rfl
    · exact h.p x hx
    · exact hp⟩
theorem getD_mem {sh : List Int} {i : Nat} (h : i < sh.length) : sh.getD i 0 ∈ sh := by
  rw [getD_lt h]; exact List.getElem_mem h
theorem stepW_mem {t : List Int} {f c r g n : Int} {chord : List Int} {some : List (List Int)} (hc : 0 ≤ c) (hs : ∀ sh, sh ∈ some ↔ WayW t f c r g chord sh) (sh' : List Int) : sh' ∈ stepW t f c r g some n ↔ WayW t f c r g (chord ++ [n]) sh' := by
  unfold stepW
  rw [List.mem_filter, List.mem_flatMap]
  constructor
  · rintro ⟨⟨sh, h1, h2⟩, h3⟩
    have w := (hs sh).mp h1
    obtain ⟨i, hi, hp, hm, rfl⟩ := mem_extW.mp h2
    have hl := w.ok.l
    refine ⟨okS_set w.ok (.inr hp), ?_, h3⟩
    have q := sounds_set (t := t) (p := n - t.getD i 0) (by omega) hl.symm (by omega) hm
    have e : t.getD i 0 + (n - t.getD i 0) = n := by omega
    rw [e] at q
    exact q.trans ((w.so.cons n).trans (List.perm_append_singleton n chord).symm)
  · intro w
    have hl := w.ok.l
    have hn : n ∈ sounds t sh' := w.so.mem_iff.mpr (List.mem_append_right _ List.mem_cons_self)
    obtain ⟨i, hi, h0, e⟩ := (mem_sounds (by omega)).mp hn
    have e2 : n - t.getD i 0 = sh'.getD i 0 := by omega
    have hr := w.ok.p _ (getD_mem hi)
    have q := sounds_set (t := t) (sh := sh'.set i (-1)) (i := i) (p := sh'.getD i 0) h0 (by rw [List.length_set]; exact hl.symm) (by rw [List.length_set]; exact hi) (getD_set_self hi)
    rw [set_back hi, e] at q
    refine ⟨⟨sh'.set i (-1), (hs _).mpr ⟨okS_set w.ok (.inl rfl), ?_, laidB_sub (presd_set hc sh' i) w.la⟩, mem_extW.mpr ⟨i, by omega, by omega, getD_set_self hi, ?_⟩⟩, w.la⟩
    · exact (q.symm.trans (w.so.trans (List.perm_append_singleton n chord))).cons_inv
    · rw [e2, set_back hi]
theorem extW_nodup {t : List Int} {f c n : Int} {sh : List Int} (hc : 0 ≤ c) (hl : sh.length = t.length) : (extW t f c n sh).Nodup := by
  unfold extW
  refine List.pairwise_map.mpr ?_
  have hd : ((strsOf t f c n).filter fun b => decide (sh.getD b 0 = -1)).Nodup := by
    unfold strsOf
    exact List.Pairwise.filter _ (List.Pairwise.filter _ List.nodup_range)
  refine List.Pairwise.imp_of_mem (fun {a b} ha hb ne e => ?_) hd
  obtain ⟨h1, h2⟩ := List.mem_filter.mp ha
  unfold strsOf at h1
  obtain ⟨h3, h4⟩ := List.mem_filter.mp h1
  obtain ⟨h5, h6⟩ := List.mem_filter.mp hb
  have h3 := List.mem_range.mp h3
  have q : (sh.set a (n - t.getD a 0)).getD a 0 = (sh.set b (n - t.getD b 0)).getD a 0 := by rw [e]
  rw [getD_set_self (by omega), getD_set_ne (Ne.symm ne)] at q
  simp only [decide_eq_true_eq, Bool.and_eq_true] at h2 h4
  omega
theorem stepW_nodup {t : List Int} {f c r g n : Int} {chord : List Int} {some : List (List Int)} (hc : 0 ≤ c) (hn : n ∉ chord) (hs : ∀ sh, sh ∈ some ↔ WayW t f c r g chord sh) (hd : some.Nodup) : (stepW t f c r g some n).Nodup := by
  unfold stepW
  refine List.Pairwise.filter _ (List.pairwise_flatMap.mpr ⟨fun sh h => extW_nodup hc ((hs sh).mp h).ok.l, ?_⟩)
  refine List.Pairwise.imp_of_mem (fun {a b} ha hb ne x hx y hy e => ?_) hd
  subst e
  have wa := (hs a).mp ha
  have wb := (hs b).mp hb
  have la := wa.ok.l
  have lb := wb.ok.l
  obtain ⟨i, hi, pi, mi, ei⟩ := mem_extW.mp hx
  obtain ⟨j, hj, pj, mj, ej⟩ := mem_extW.mp hy
  by_cases e : i = j
  · subst e
    have h1 : a = x.set i (-1) := by rw [ei, List.set_set, ← mi]; exact (by rw [getD_lt (by omega), List.set_getElem_self])
    have h2 : b = x.set i (-1) := by rw [ej, List.set_set, ← mj]; exact (by rw [getD_lt (by omega), List.set_getElem_self])
    exact ne (h1.trans h2.symm)
  · have q : a.getD j 0 = n - t.getD j 0 := by
      rw [← getD_set_ne (sh := a) (p := n - t.getD i 0) e, ← ei, ej, getD_set_self (by omega)]
    exact hn (wa.so.mem_iff.mp ((mem_sounds (by omega)).mpr ⟨j, by omega, by omega, by omega⟩))
theorem foldW {t : List Int} {f c r g : Int} (hc : 0 ≤ c) : ∀ (rest chord : List Int) (some : List (List Int)), (∀ sh, sh ∈ some ↔ WayW t f c r g chord sh) → some.Nodup → (chord ++ rest).Nodup →
    (∀ sh, sh ∈ rest.foldl (stepW t f c r g) some ↔ WayW t f c r g (chord ++ rest) sh) ∧ (rest.foldl (stepW t f c r g) some).Nodup
  | [], chord, sm, hs, hd, _ => by rw [List.append_nil]; exact ⟨hs, hd⟩
  | n :: rest, chord, sm, hs, hd, hn => by
    have e : chord ++ n :: rest = (chord ++ [n]) ++ rest := by simp
    have h1 : n ∉ chord := fun z => by
      have := (List.nodup_append.mp hn).2.2 n z n List.mem_cons_self
      exact this rfl
    rw [e]
    exact foldW hc rest (chord ++ [n]) (stepW t f c r g sm n) (stepW_mem hc hs) (stepW_nodup hc h1 hs hd) (by rw [← e]; exact hn)
theorem sounds_none (t : List Int) : ∀ k : Nat, sounds t (List.replicate k (-1)) = [] := fun k => by
  unfold sounds
  rw [List.filter_eq_nil_iff.mpr]
  · rfl
  · rintro ⟨a, b⟩ h
    have := (List.of_mem_zip h).2
    rw [(List.mem_replicate.mp this).2]
    simp
theorem start_way {t : List Int} {f c r g : Int} (hc : 0 ≤ c) (hg : 0 ≤ g) (sh : List Int) : sh ∈ [List.replicate t.length (-1 : Int)] ↔ WayW t f c r g [] sh := by
  rw [List.mem_singleton]
  constructor
  · rintro rfl
    refine ⟨⟨List.length_replicate, fun x hx => .inl (List.mem_replicate.mp hx).2⟩, by rw [sounds_none], ?_⟩
    have e : presd c (List.replicate t.length (-1)) = [] := by
      unfold presd
      rw [List.filter_eq_nil_iff]
      intro x hx
      rw [(List.mem_replicate.mp hx).2]
      simp; omega
    unfold laidB
    rw [e]
    simpa using hg
  · intro w
    have hl := w.ok.l
    refine List.eq_replicate_iff.mpr ⟨hl, fun x hx => ?_⟩
    rcases w.ok.p x hx with h | h
    · exact h
    · exfalso
      obtain ⟨i, hi, rfl⟩ := List.mem_iff_getElem.mp hx
      have : t.getD i 0 + sh.getD i 0 ∈ sounds t sh := (mem_sounds (by omega)).mpr ⟨i, hi, by rw [getD_lt hi]; omega, rfl⟩
      rw [w.so.mem_iff] at this
      cases this
/-- all ways: just these, each once -/
theorem allW_mem {t : List Int} {f c r g : Int} {chord : List Int} (hc : 0 ≤ c) (hg : 0 ≤ g) (hd : chord.Nodup) (sh : List Int) : sh ∈ allW t f c r g chord ↔ WayW t f c r g chord sh := by
  have := (foldW hc chord [] _ (start_way (t := t) (f := f) (r := r) hc hg) (by simp) (by simpa using hd)).1 sh
  rwa [List.nil_append] at this
theorem allW_nodup {t : List Int} {f c r g : Int} {chord : List Int} (hc : 0 ≤ c) (hg : 0 ≤ g) (hd : chord.Nodup) : (allW t f c r g chord).Nodup :=
  (foldW hc chord [] _ (start_way (t := t) (f := f) (r := r) hc hg) (by simp) (by simpa using hd)).2

structure OkC (ch : List Int) : Prop where
  l1 : 1 ≤ ch.length
  l6 : ch.length ≤ 6
  n : ∀ x ∈ ch, 0 ≤ x ∧ x ≤ 80
  s : ch.Pairwise (· < ·)
theorem OkC.nd {ch : List Int} (h : OkC ch) : ch.Nodup := h.s.imp fun {a b} z => by omega
structure OkH (r g : Int) : Prop where
  r0 : 0 ≤ r
  r6 : r ≤ 6
  g0 : 0 ≤ g
  g6 : g ≤ 6

theorem sc_need_neck : FnScope ["neck", "tuning", "frets", "capo", "note"] ["neck"] (defScope s_need_neck) := ⟨rfl, rfl, rfl, by decide +kernel, rfl, by decide +kernel, by decide +kernel⟩
def z_need_neck : Zp := fun ds kt _ _ => ∃ t f c, ds = [Nk t f c] ∧ OkN t f c ∧ kt .none
theorem need_neck_notes {t : List Int} (h : ∀ x ∈ t, 0 ≤ x ∧ x ≤ 60) : t.filter (fun b => !(decide ((0 : Int) ≤ b) && decide (b ≤ 60))) = [] := by
  rw [List.filter_eq_nil_iff]
  intro x hx
  have := h x hx
  simp [this.1, this.2]
theorem ok_need_neck {k : Nat} {f : Addr} {fd : FuncData} (Fn : Fun K "need_neck" "need_neck" s_need_neck f fd) (B : BT mg) (C : Cn mg) : FnOk P w K mg base CX0 (k + 1) f fd ["neck"] (spP z_need_neck) := by
  refine fn_ok Fn sc_need_neck (by rintro ds kt ko ke ⟨t, f, c, rfl, _⟩; rfl) (by decide) fun cdv A outer s H E Fm ds kt ko ke hr hF hz => ?_
  obtain ⟨t, f, c, rfl, ok, q⟩ := hz
  have nd := sc_need_neck.nd
  have l1 := ok.l1
  have l2 := ok.l2
  have c0 := ok.c0
  have cf := ok.cf
  have f2 := ok.f2
  -- tuning, frets, capo = neck
  refine db_cons (ds_asg (dg_tup rfl (dgs_cons (dg_name 1 nd) (dgs_cons (dg_name 2 nd) (dgs_cons (dg_name 3 nd) dgs_nil)))) ((ep_v 0).to ⟨_, rfl, rfl, _, _, rfl, _, _, rfl, _, _, rfl, rfl, ?_⟩))
  -- if not 1 <= len(tuning) <= MOST_STRINGS or not 0 <= capo <= frets <= MOST_FRETS:
  refine db_cons (ds_ifP (tp_w (wp_or (tp_not (tp_ch2 .le .le ep_int (ep_lenT B (ep_v 1)) (ep_gi C.MOST_STRINGS_necks))) fun h => (wp_or1 (tp_not (tp_ch3 .le .le .le ep_int (ep_v 3) (ep_v 2) (ep_gi C.MOST_FRETS)))))) (fun h => ?_) (fun h => db_nil ?_))
  · exfalso
    rw [List.length_map] at h
    simp only [Bool.or_eq_true, Bool.not_eq_true', Bool.and_eq_false_iff, decide_eq_false_iff_not] at h
    omega
  -- if [note for note in tuning if not 0 <= note <= MOST_NOTE] != []:
  refine db_cons (ds_ifP (tp_ne hr (ep_o (do_lc [("note", 4)] rfl nd (by decide) (fun _ _ _ _ _ => (dg_name 4 nd)) (di_tup ((ep_v 1).to ⟨_, rfl, (lcp 4 (fun b => .int b) t (fun b => !(decide ((0 : Int) ≤ b) && decide (b ≤ 60))) (fun b => .int b) rfl (small1000 (by omega)) (fun b hb s H C' cl fp => ts_one (tp_not (tp_ch2 .le .le ep_int (ep_v 4) (ep_gi C.MOST_NOTE)))) (fun b hb hf s H C' cl fp => (ep_v 4)) ⟨rfl, rfl⟩)⟩)) (blkOk_by rfl))) (ep_o (op_lst ap_nil)) (sh_lints _) sh_nil) (fun h => ?_) (fun h => db_nil (db_nil q)))
  exfalso
  rw [need_neck_notes ok.n] at h
  simp [PyData.eqv, PyData.eqvAll] at h

theorem sc_places_of : FnScope ["neck", "note", "tuning", "frets", "capo", "string"] ["neck", "note"] (defScope s_places_of) := ⟨rfl, rfl, rfl, by decide +kernel, rfl, by decide +kernel, by decide +kernel⟩
def encP (t : List Int) (n : Int) (b : Nat) : PyData := .tuple [.int (0 + (b : Nat)), .int (n - t.getD b 0)]
def z_places_of : Zp := fun ds _ ko _ => ∃ t f c n, ds = [Nk t f c, .int n] ∧ t.length ≤ 6 ∧ ko ((strsOf t f c n).map (encP t n))
theorem ok_places_of {k : Nat} {f : Addr} {fd : FuncData} (Fn : Fun K "places_of" "places_of" s_places_of f fd) (B : BT mg) : FnOk P w K mg base CX0 (k + 1) f fd ["neck", "note"] (spP z_places_of) := by
  refine fn_ok Fn sc_places_of (by rintro ds kt ko ke ⟨t, f, c, n, rfl, _⟩; rfl) (by decide) fun cdv A outer s H E Fm ds kt ko ke hr hF hz => ?_
  obtain ⟨t, f, c, n, rfl, l6, q⟩ := hz
  have nd := sc_places_of.nd
  -- tuning, frets, capo = neck
  refine db_cons (ds_asg (dg_tup rfl (dgs_cons (dg_name 2 nd) (dgs_cons (dg_name 3 nd) (dgs_cons (dg_name 4 nd) dgs_nil)))) ((ep_v 0).to ⟨_, rfl, rfl, _, _, rfl, _, _, rfl, _, _, rfl, rfl, ?_⟩))
  -- return [..]
  exact db_cons (ds_retO (do_lc [("string", 5)] rfl nd (by decide) (fun _ _ _ _ _ => (dg_name 5 nd)) (di_range1 B.range (da_cons ((ep_lenT B (ep_v 2)).to (da_nil ⟨_, rfl, ⟨by omega, by rw [List.length_map]; omega⟩, (lcp 5 (fun b => .int (0 + (b : Nat))) (List.range t.length) (fun b => decide (c ≤ n - t.getD b 0) && decide (n - t.getD b 0 ≤ f)) (encP t n) (by rw [List.length_map]; rfl) (small1000 (by rw [List.length_range]; omega)) (fun b hb s H C cl fp => ts_one (tp_ch2 .le .le (ep_v 4) (ep_sub (ep_v 1) (ep_ixT (ep_v 2) (ep_v 5) (atI_ints0 (mem_range hb)))) (ep_v 3))) (fun b hb hf s H C cl fp => (ep_tup (ap_cons (ep_v 5) (ap_cons (ep_sub (ep_v 1) (ep_ixT (ep_v 2) (ep_v 5) (atI_ints0 (mem_range hb)))) ap_nil)))) q)⟩)))) (blkOk_by rfl)))

theorem sc_need_hand : FnScope ["hand", "number"] ["hand"] (defScope s_need_hand) := ⟨rfl, rfl, rfl, by decide +kernel, rfl, by decide +kernel, by decide +kernel⟩
def z_need_hand : Zp := fun ds kt _ _ => ∃ r g, ds = [Tu [r, g]] ∧ OkH r g ∧ kt .none
theorem ok_need_hand {k : Nat} {f : Addr} {fd : FuncData} (Fn : Fun K "need_hand" "need_hand" s_need_hand f fd) (B : BT mg) (C : Cn mg) : FnOk P w K mg base CX0 (k + 1) f fd ["hand"] (spP z_need_hand) := by
  refine fn_ok Fn sc_need_hand (by rintro ds kt ko ke ⟨r, g, rfl, _⟩; rfl) (by decide) fun cdv A outer s H E Fm ds kt ko ke hr hF hz => ?_
  obtain ⟨r, g, rfl, ⟨r0, r6, g0, g6⟩, q⟩ := hz
  have nd := sc_need_hand.nd
  refine db_cons (ds_ifP (tp_w (wp_or (tp_ne hr (ep_lenT B (ep_v 0)) ep_int (sh_int _) (sh_int _)) fun h => (wp_or1 (tp_ne hr (ep_o (do_lc [("number", 1)] rfl nd (by decide) (fun _ _ _ _ _ => (dg_name 1 nd)) (di_tup ((ep_v 0).to ⟨_, rfl, (lcp 1 (fun b => .int b) [r, g] (fun b => !(decide ((0 : Int) ≤ b) && decide (b ≤ 6))) (fun b => .int b) rfl (small1000 (by show 2 ≤ 1000; omega)) (fun b hb s H C' cl fp => ts_one (tp_not (tp_ch2 .le .le ep_int (ep_v 1) (ep_gi C.MOST_REACH)))) (fun b hb hf s H C' cl fp => (ep_v 1)) ⟨rfl, rfl⟩)⟩)) (blkOk_by rfl))) (ep_o (op_lst ap_nil)) (sh_lints _) sh_nil)))) (fun h => ?_) (fun h => db_nil (db_nil q)))
  exfalso
  have e : [r, g].filter (fun b => !(decide ((0 : Int) ≤ b) && decide (b ≤ 6))) = [] := by
    rw [List.filter_eq_nil_iff]
    intro x hx
    simp only [List.mem_cons, List.not_mem_nil, or_false] at hx
    rcases hx with rfl | rfl <;> simp <;> omega
  rw [e] at h
  simp [PyData.eqv, PyData.eqvAll] at h

theorem sc_is_chord : FnScope ["chord", "note", "k"] ["chord"] (defScope s_is_chord) := ⟨rfl, rfl, rfl, by decide +kernel, rfl, by decide +kernel, by decide +kernel⟩
def isC (ch : List Int) : Bool := (decide (1 ≤ ch.length) && decide (ch.length ≤ 6)) && (ch.all (fun b => decide ((0 : Int) ≤ b) && decide (b ≤ 80)) && (List.range (ch.length - 1)).all fun i => decide (ch.getD i 0 < ch.getD (i + 1) 0))
theorem pair_step : ∀ {l : List Int}, (∀ i, i + 1 < l.length → l.getD i 0 < l.getD (i + 1) 0) → l.Pairwise (· < ·)
  | [], _ => List.Pairwise.nil
  | [_], _ => List.pairwise_singleton ..
  | a :: b :: l, h => by
    have ih : (b :: l).Pairwise (· < ·) := pair_step fun i hi => by
      have := h (i + 1) (by simpa using hi)
      simpa using this
    refine List.pairwise_cons.mpr ⟨fun x hx => ?_, ih⟩
    have h0 : a < b := h 0 (by simp)
    rcases List.mem_cons.mp hx with rfl | hx
    · exact h0
    · have := (List.pairwise_cons.mp ih).1 x hx
      omega
theorem isC_ok {ch : List Int} : isC ch = true ↔ OkC ch := by
  unfold isC
  simp only [Bool.and_eq_true, decide_eq_true_eq, List.all_eq_true, List.mem_range]
  constructor
  · rintro ⟨⟨h1, h2⟩, h3, h4⟩
    exact ⟨h1, h2, h3, pair_step fun i hi => h4 i (by omega)⟩
  · intro h
    refine ⟨⟨h.l1, h.l6⟩, h.n, fun i hi => ?_⟩
    rw [getD_lt (by omega), getD_lt (by omega)]
    exact List.pairwise_iff_getElem.mp h.s i (i + 1) (by omega) (by omega) (by omega)
def z_is_chord : Zp := fun ds kt _ _ => ∃ ch, ds = [Tu ch] ∧ ch.length ≤ 1000 ∧ kt (.bool (isC ch))
theorem ok_is_chord {k : Nat} {f : Addr} {fd : FuncData} (Fn : Fun K "is_chord" "is_chord" s_is_chord f fd) (B : BT mg) (C : Cn mg) : FnOk P w K mg base CX0 (k + 1) f fd ["chord"] (spP z_is_chord) := by
  refine fn_ok Fn sc_is_chord (by rintro ds kt ko ke ⟨ch, rfl, _⟩; rfl) (by decide) fun cdv A outer s H E Fm ds kt ko ke hr hF hz => ?_
  obtain ⟨ch, rfl, l1000, q⟩ := hz
  have nd := sc_is_chord.nd
  have e1 : PyData.eqv (.list ((ch.filter fun b => !(decide ((0 : Int) ≤ b) && decide (b ≤ 80))).map fun b => PyData.int b)) (.list []) = ch.all (fun b => decide ((0 : Int) ≤ b) && decide (b ≤ 80)) := by
    rw [eqv_nilL]
    cases h : ch.all (fun b => decide ((0 : Int) ≤ b) && decide (b ≤ 80)) with
    | true =>
      rw [List.filter_eq_nil_iff.mpr (fun x hx => by rw [List.all_eq_true.mp h x hx]; decide)]; rfl
    | false =>
      rw [List.isEmpty_eq_false_iff]
      intro z
      have z := List.filter_eq_nil_iff.mp (List.map_eq_nil_iff.mp z)
      have : ch.all (fun b => decide ((0 : Int) ≤ b) && decide (b ≤ 80)) = true := List.all_eq_true.mpr fun x hx => by simpa using z x hx
      rw [this] at h; cases h
  refine db_cons (ds_ifP (tp_w (wp_or (tp_not (tp_ch2 .le .le ep_int (ep_lenT B (ep_v 0)) (ep_gi C.MOST_CHORD))) fun h => (wp_or1 ((tp_ne hr (ep_o (do_lc [("note", 1)] rfl nd (by decide) (fun _ _ _ _ _ => (dg_name 1 nd)) (di_tup ((ep_v 0).to ⟨_, rfl, (lcp 1 (fun b => .int b) ch (fun b => !(decide ((0 : Int) ≤ b) && decide (b ≤ 80))) (fun b => .int b) rfl (small1000 l1000) (fun b hb s H C' cl fp => ts_one (tp_not (tp_ch2 .le .le ep_int (ep_v 1) (ep_gi C.MOST_SOUND)))) (fun b hb hf s H C' cl fp => (ep_v 1)) ⟨rfl, rfl⟩)⟩)) (blkOk_by rfl))) (ep_o (op_lst ap_nil)) (sh_lints _) sh_nil).cast (congrArg (!·) e1))))) (fun h => ?_) (fun h => db_nil ?_))
  · refine db_cons (ds_retP ep_bl ?_)
    have : isC ch = false := by
      rw [List.length_map] at h
      unfold isC
      cases h2 : ch.all (fun b => decide ((0 : Int) ≤ b) && decide (b ≤ 80)) with
      | false => simp
      | true =>
        rw [h2] at h
        simp only [Bool.or_eq_true, Bool.not_eq_true', Bool.and_eq_false_iff, decide_eq_false_iff_not, Bool.not_true, Bool.false_eq_true, or_false] at h
        have : ¬ (1 ≤ ch.length ∧ ch.length ≤ 6) := by omega
        simp only [Bool.and_eq_false_iff, decide_eq_false_iff_not]
        exact .inl (by omega)
    rw [this] at q; exact q
  · rw [List.length_map] at h
    simp only [Bool.or_eq_false_iff, Bool.not_eq_false', Bool.and_eq_true, decide_eq_true_eq] at h
    obtain ⟨⟨h1, h2⟩, h3⟩ := h
    refine db_cons (ds_retP (ep_eq hr (ep_o (do_lc [("k", 2)] rfl nd (by decide) (fun _ _ _ _ _ => (dg_name 2 nd)) (di_range2 B.range (da_cons (ep_int.to (da_cons ((ep_lenT B (ep_v 0)).to (da_nil ⟨_, _, rfl, by rw [List.length_map]; omega, (lcp 2 (fun b => .int (1 + (b : Nat))) (List.range (ch.length - 1)) (fun b => decide (ch.getD (b + 1) 0 ≤ ch.getD b 0)) (fun b => .int (1 + (b : Nat))) (by
      rw [List.length_map]
      have e : ((ch.length : Nat) - 1 : Int).toNat = ch.length - 1 := by omega
      rw [e]; rfl) (small1000 (by rw [List.length_range]; omega)) (fun b hb s H C cl fp => ts_one (tp_ord .ge (ep_ixT (ep_v 0) (ep_sub (ep_v 2) ep_int) ?_) (ep_ixT (ep_v 0) (ep_v 2) ?_))) (fun b hb hf s H C cl fp => (ep_v 2)) ⟨rfl, rfl⟩)⟩)))))) (blkOk_by rfl))) (ep_o (op_lst ap_nil)) ?_ sh_nil) ?_)
    · have hb := mem_range hb
      have e : (1 + (b : Int) - 1) = ((b : Nat) : Int) := by omega
      rw [e]; exact atI_ints (by omega)
    · have hb := mem_range hb
      have e : (1 + (b : Int)) = ((b + 1 : Nat) : Int) := by omega
      rw [e]; exact atI_ints (by omega)
    · refine sh_of (n := 1) (shD_lst fun d hd => ?_)
      obtain ⟨b, _, rfl⟩ := List.mem_map.mp hd
      exact shD_int 0 _
    · show kt (.bool _)
      rw [eqv_nilL]
      have : isC ch = (((List.range (ch.length - 1)).filter fun b => decide (ch.getD (b + 1) 0 ≤ ch.getD b 0)).map fun b => PyData.int (1 + (b : Nat))).isEmpty := by
        unfold isC
        rw [decide_eq_true (by omega : 1 ≤ ch.length), decide_eq_true (by omega : ch.length ≤ 6), h3]
        simp only [Bool.and_self, Bool.true_and]
        cases h5 : (((List.range (ch.length - 1)).filter fun b => decide (ch.getD (b + 1) 0 ≤ ch.getD b 0)).map fun b => PyData.int (1 + (b : Nat))).isEmpty with
        | true =>
          rw [List.isEmpty_iff, List.map_eq_nil_iff, List.filter_eq_nil_iff] at h5
          rw [List.all_eq_true]
          intro x hx
          have := h5 x hx
          simp only [decide_eq_true_eq] at this ⊢
          omega
        | false =>
          rw [List.all_eq_false]
          rw [List.isEmpty_eq_false_iff] at h5
          obtain ⟨x, hx⟩ := List.exists_mem_of_ne_nil _ h5
          obtain ⟨y, hy, _⟩ := List.mem_map.mp hx
          obtain ⟨h6, h7⟩ := List.mem_filter.mp hy
          refine ⟨y, h6, ?_⟩
          simp only [decide_eq_true_eq] at h7 ⊢
          omega
      rw [← this]; exact q

theorem sc_need_chord : FnScope ["chord"] ["chord"] (defScope s_need_chord) := ⟨rfl, rfl, rfl, by decide +kernel, rfl, by decide +kernel, by decide +kernel⟩
def z_need_chord : Zp := fun ds kt _ _ => ∃ ch, ds = [Tu ch] ∧ OkC ch ∧ kt .none
theorem ok_need_chord {k : Nat} {f : Addr} {fd : FuncData} (Fn : Fun K "need_chord" "need_chord" s_need_chord f fd) (k_is_chord : Kn P w K mg base CX0 "is_chord" k (spP z_is_chord)) : FnOk P w K mg base CX0 (k + 1) f fd ["chord"] (spP z_need_chord) := by
  refine fn_ok Fn sc_need_chord (by rintro ds kt ko ke ⟨ch, rfl, _⟩; rfl) (by decide) fun cdv A outer s H E Fm ds kt ko ke hr hF hz => ?_
  obtain ⟨ch, rfl, ok, q⟩ := hz
  have h6 := ok.l6
  refine db_cons (ds_ifP (tp_not (tp_val (by intro _; rfl) (ep_call (d := .bool true) k_is_chord hr wish0 (ap_cons (ep_v 0) ap_nil) ⟨ch, rfl, by omega, by rw [isC_ok.mpr ok], rfl⟩))) (fun h => nomatch h) (fun h => db_nil (db_nil q)))

theorem sc_is_laid : FnScope ["capo", "shape", "hand", "pressed", "place"] ["capo", "shape", "hand"] (defScope s_is_laid) := ⟨rfl, rfl, rfl, by decide +kernel, rfl, by decide +kernel, by decide +kernel⟩
def z_is_laid : Zp := fun ds kt _ _ => ∃ c sh r g, ds = [.int c, Tu sh, Tu [r, g]] ∧ 0 ≤ g ∧ sh.length ≤ 1000 ∧ kt (.bool (laidB c r g sh))
theorem ok_is_laid {k : Nat} {f : Addr} {fd : FuncData} (Fn : Fun K "is_laid" "is_laid" s_is_laid f fd) (B : BT mg) : FnOk P w K mg base CX0 (k + 1) f fd ["capo", "shape", "hand"] (spP z_is_laid) := by
  refine fn_ok Fn sc_is_laid (by rintro ds kt ko ke ⟨c, sh, r, g, rfl, _⟩; rfl) (by decide) fun cdv A outer s H E Fm ds kt ko ke hr hF hz => ?_
  obtain ⟨c, sh, r, g, rfl, g0, hl, q⟩ := hz
  have nd := sc_is_laid.nd
  refine db_cons (ds_setLc 3 [("place", 4)] rfl nd (by decide) (fun _ _ _ _ _ => (dg_name 4 nd)) (di_tup ((ep_v 1).to ⟨_, rfl, (lcp 4 (fun b => .int b) sh (fun b => decide (c < b)) (fun b => .int b) rfl (small1000 hl) (fun b hb s H C cl fp => ts_one (tp_ord .gt (ep_v 4) (ep_v 0))) (fun b hb hf s H C cl fp => (ep_v 4)) ?_)⟩)) (blkOk_by rfl) (sw_true rfl rfl rfl (by decide +kernel)))
  unfold laidB presd at q
  generalize (sh.filter fun b => decide (c < b)) = pr at q ⊢
  refine db_freeze 3 rfl (db_cons (ds_retP (ep_or (ep_eq hr (ep_v 3) (ep_o (op_lst ap_nil)) (sh_lints _) sh_nil) fun h => (ep_one (ep_and (y := decide (maxOf pr - minOf pr ≤ r)) (ep_ord .le (ep_lenL B (ep_v 3)) (ep_ixT (ep_v 2) ep_int rfl)) fun h => (ep_one (ep_ord .le (ep_sub (ep_maxL B rfl (ep_v 3) ?_) (ep_minL B rfl (ep_v 3) ?_)) (ep_ixT (ep_v 2) ep_int rfl)))))) ?_))
  · rintro rfl; simp [PyData.eqv, PyData.eqvAll] at *
  · rintro rfl; simp [PyData.eqv, PyData.eqvAll] at *
  have e : (PyData.eqv (.list (pr.map .int)) (.list []) || (decide (((pr.map PyData.int).length : Int) ≤ g) && decide (maxOf pr - minOf pr ≤ r))) = (decide ((pr.length : Int) ≤ g) && pr.all fun x => pr.all fun y => decide (x - y ≤ r)) := by
    rw [eqv_nilL, List.length_map]
    cases pr with
    | nil => simp [g0]
    | cons a l =>
      have h1 := maxOf_mem (l := a :: l) (by simp)
      have h2 := minOf_mem (l := a :: l) (by simp)
      show (false || _) = _
      rw [Bool.false_or]
      congr 1
      rw [Bool.eq_iff_iff]
      simp only [decide_eq_true_eq, List.all_eq_true]
      constructor
      · intro h x hx y hy
        have := h1.2 x hx
        have := h2.2 y hy
        omega
      · intro h
        exact h _ h1.1 _ h2.1
  show kt (.bool _)
  rw [← e] at q; exact q

theorem sc_all_ways : FnScope ["neck", "chord", "hand", "some", "note", "longer", "shape", "string", "place"] ["neck", "chord", "hand"] (defScope s_all_ways) := ⟨rfl, rfl, rfl, by decide +kernel, rfl, by decide +kernel, by decide +kernel⟩
def z_all_ways : Zp := fun ds _ ko _ => ∃ t f c ch r g, ds = [Nk t f c, Tu ch, Tu [r, g]] ∧ OkN t f c ∧ OkC ch ∧ OkH r g ∧ ko (((allW t f c r g ch).mergeSort leT).map encT)
theorem strsOf_len (t : List Int) (f c n : Int) : (strsOf t f c n).length ≤ t.length := by
  unfold strsOf
  exact Nat.le_trans (List.length_filter_le _ _) (by rw [List.length_range]; exact Nat.le_refl _)
theorem extW_len (t : List Int) (f c n : Int) (sh : List Int) : (extW t f c n sh).length ≤ t.length := by
  unfold extW
  rw [List.length_map]
  exact Nat.le_trans (List.length_filter_le _ _) (strsOf_len t f c n)
theorem flat_len {α β : Type} (f : α → List β) (m : Nat) (h : ∀ a, (f a).length ≤ m) : ∀ l : List α, (l.flatMap f).length ≤ l.length * m
  | [] => by simp
  | a :: l => by
    rw [List.flatMap_cons, List.length_append, List.length_cons, Nat.succ_mul]
    have := flat_len f m h l
    have := h a
    omega
theorem stepW_len {t : List Int} {f c r g n : Int} (h6 : t.length ≤ 6) (sm : List (List Int)) : (stepW t f c r g sm n).length ≤ sm.length * 6 := by
  unfold stepW
  exact Nat.le_trans (List.length_filter_le _ _) (flat_len _ 6 (fun a => Nat.le_trans (extW_len t f c n a) h6) sm)
theorem foldW_len {t : List Int} {f c r g : Int} (h6 : t.length ≤ 6) : ∀ (ch : List Int) (sm : List (List Int)), (ch.foldl (stepW t f c r g) sm).length ≤ sm.length * 6 ^ ch.length
  | [], sm => by simp
  | n :: ch, sm => by
    rw [List.foldl_cons, List.length_cons, Nat.pow_succ]
    have h1 := foldW_len (f := f) (c := c) (r := r) (g := g) h6 ch (stepW t f c r g sm n)
    have h2 := stepW_len (f := f) (c := c) (r := r) (g := g) (n := n) h6 sm
    have h3 : (stepW t f c r g sm n).length * 6 ^ ch.length ≤ (sm.length * 6) * 6 ^ ch.length := Nat.mul_le_mul_right _ h2
    calc _ ≤ _ := h1
      _ ≤ _ := h3
      _ = _ := by rw [Nat.mul_assoc, Nat.mul_comm 6]
theorem takeW_len {t : List Int} {f c r g : Int} (h6 : t.length ≤ 6) {ch : List Int} (hl : ch.length ≤ 6) (i : Nat) : ((ch.take i).foldl (stepW t f c r g) [List.replicate t.length (-1)]).length ≤ 46656 := by
  refine Nat.le_trans (foldW_len h6 _ _) ?_
  rw [List.length_singleton, Nat.one_mul]
  have : 6 ^ (ch.take i).length ≤ 6 ^ 6 := Nat.pow_le_pow_right (by decide) (by rw [List.length_take]; omega)
  exact Nat.le_trans this (by decide)
theorem set_cut {sh : List Int} {b : Nat} {p : Int} (h : b < sh.length) : List.take b (sh.map PyData.int) ++ [PyData.int p] ++ List.drop (b + 1) (sh.map PyData.int) = (sh.set b p).map .int := by
  rw [List.set_eq_take_append_cons_drop, if_pos h, List.map_append, List.map_cons, List.map_take, List.map_drop, List.append_assoc]; rfl
theorem ok_all_ways {k : Nat} {f : Addr} {fd : FuncData} (Fn : Fun K "all_ways" "all_ways" s_all_ways f fd) (B : BT mg) (C : Cn mg) (k_places_of : Kn P w K mg base CX0 "places_of" k (spP z_places_of)) (k_is_laid : Kn P w K mg base CX0 "is_laid" k (spP z_is_laid)) : FnOk P w K mg base CX0 (k + 1) f fd ["neck", "chord", "hand"] (spP z_all_ways) := by
  refine fn_ok Fn sc_all_ways (by rintro ds kt ko ke ⟨t, f, c, ch, r, g, rfl, _⟩; rfl) (by decide) fun cdv A outer s H E Fm ds kt ko ke hr hF hz => ?_
  obtain ⟨t, f, c, ch, r, g, rfl, ok, oc, oh, q⟩ := hz
  have nd := sc_all_ways.nd
  have l1 := ok.l1
  have l6 := ok.l2
  have c0 := ok.c0
  have g0 := oh.g0
  have h6 := oc.l6
  -- some = [(SILENT,) * len(neck[0])]
  refine db_cons (ds_setP (d := .list ([List.replicate t.length (-1 : Int)].map encT)) 3 nd ((ep_o (op_lst (ap_cons (ep_mulT1 (ep_tup (ap_cons (ep_gi C.SILENT) ap_nil)) (ep_lenT B (ep_ixT (ep_v 0) ep_int rfl)) (by intro z; cases z) (by rw [List.length_map]; omega) (by decide)) ap_nil))).cast ?_) ?_)
  · rw [List.length_map]
    show PyData.list [.tuple (List.replicate (Int.toNat (t.length : Nat)) [PyData.int (-1)]).flatten] = .list [.tuple ((List.replicate t.length (-1 : Int)).map .int)]
    rw [Int.toNat_natCast, List.map_replicate, List.flatten_replicate_singleton]
  -- for note in chord:
  refine db_mid (fun S => ∃ s4 s5 s6 s7 s8, S = [.val (Nk t f c), .val (Tu ch), .val (Tu [r, g]), .val (.list ((allW t f c r g ch).map encT)), s4, s5, s6, s7, s8]) (ds_for PassesOwn.never rfl (dg_name 4 nd) (di_tup ((ep_v 1).to ⟨_, rfl, ⟨fun i S => ∃ s4 s5 s6 s7 s8, S = [.val (Nk t f c), .val (Tu ch), .val (Tu [r, g]), .val (.list (((ch.take i).foldl (stepW t f c r g) [List.replicate t.length (-1)]).map encT)), s4, s5, s6, s7, s8], ⟨_, _, _, _, _, rfl⟩, fun i d Si hd hI => ?_, fun Sn hI => ?_⟩⟩))) ?_
  · obtain ⟨s4, s5, s6, s7, s8, rfl⟩ := hI
    obtain ⟨n, hn, rfl⟩ := get_int hd
    have hsmL := takeW_len (t := t) (f := f) (c := c) (r := r) (g := g) l6 h6 i
    have hsm0 : ∀ sh ∈ (ch.take i).foldl (stepW t f c r g) [List.replicate t.length (-1)], sh.length = t.length := fun sh h =>
      ((allW_mem (f := f) (r := r) c0 g0 (List.Pairwise.sublist (List.take_sublist i ch) oc.nd) sh).mp h).ok.l
    have eS : (ch.take (i + 1)).foldl (stepW t f c r g) [List.replicate t.length (-1)] = stepW t f c r g ((ch.take i).foldl (stepW t f c r g) [List.replicate t.length (-1)]) n := by
      rw [take_succ hn, List.foldl_append]; rfl
    generalize (ch.take i).foldl (stepW t f c r g) [List.replicate t.length (-1)] = sm at hsmL hsm0 eS ⊢
    -- longer = []
    refine db_cons (ds_setOP 5 nd (op_lst ap_nil) ?_)
    -- for shape in some:
    refine db_mid (fun S => ∃ s6 s7 s8, S = [.val (Nk t f c), .val (Tu ch), .val (Tu [r, g]), .val (.list (sm.map encT)), .val (.int n), .own ((sm.flatMap (extW t f c n)).map encT), s6, s7, s8]) (ds_for PassesOwn.never rfl (dg_name 6 nd) (di_list ((ep_v 3).to ⟨_, rfl, ⟨fun j S => ∃ s6 s7 s8, S = [.val (Nk t f c), .val (Tu ch), .val (Tu [r, g]), .val (.list (sm.map encT)), .val (.int n), .own (((sm.take j).flatMap (extW t f c n)).map encT), s6, s7, s8], ⟨_, _, _, rfl⟩, fun j d Sj hd hJ => ?_, fun Sn hJ => ?_⟩⟩))) ?_
    · obtain ⟨s6, s7, s8, rfl⟩ := hJ
      rw [List.getElem?_map] at hd
      cases hsh : sm[j]? with
      | none => rw [hsh] at hd; cases hd
      | some sh =>
      rw [hsh] at hd; cases hd
      have hmem := List.mem_of_getElem? hsh
      have hl := hsm0 sh hmem
      have hb0 : ((sm.take j).flatMap (extW t f c n)).length ≤ 46656 * 6 := by
        refine Nat.le_trans (flat_len _ 6 (fun a => Nat.le_trans (extW_len t f c n a) l6) _) (Nat.mul_le_mul_right 6 ?_)
        rw [List.length_take]; omega
      -- for string, place in places_of(neck, note):
      refine db_one (ds_for PassesOwn.never rfl (dg_tup rfl (dgs_cons (dg_name 7 nd) (dgs_cons (dg_name 8 nd) dgs_nil))) (di_list ((ep_call (d := .list ((strsOf t f c n).map (encP t n))) k_places_of hr wish0 (ap_cons (ep_v 0) (ap_cons (ep_v 4) ap_nil)) ⟨t, f, c, n, rfl, l6, rfl, rfl⟩).to ⟨_, rfl, ⟨fun m S => ∃ s7 s8, S = [.val (Nk t f c), .val (Tu ch), .val (Tu [r, g]), .val (.list (sm.map encT)), .val (.int n), .own (((sm.take j).flatMap (extW t f c n)).map encT ++ ((((strsOf t f c n).take m).filter fun b => decide (sh.getD b 0 = -1)).map fun b => encT (sh.set b (n - t.getD b 0)))), .val (Tu sh), s7, s8], ⟨s7, s8, by rw [List.take_zero, List.filter_nil, List.map_nil, List.append_nil]; rfl⟩, fun m d Sm hd hM => ?_, fun Sn hM => ?_⟩⟩)))
      · obtain ⟨s7, s8, rfl⟩ := hM
        rw [List.getElem?_map] at hd
        cases hb : (strsOf t f c n)[m]? with
        | none => rw [hb] at hd; cases hd
        | some b =>
        rw [hb] at hd; cases hd
        have hbm := List.mem_of_getElem? hb
        have hbt : b < t.length := by
          unfold strsOf at hbm
          exact List.mem_range.mp (List.mem_filter.mp hbm).1
        have hbs : b < sh.length := by omega
        refine ⟨_, rfl, rfl, _, _, rfl, _, _, rfl, rfl, ?_⟩
        -- if shape[string] == SILENT:
        refine db_one (ds_ifP (x := decide (sh.getD b 0 = -1)) ((tp_eq hr (ep_ixT (ep_v 6) (ep_v 7) (atI_ints0 hbs)) (ep_gi C.SILENT) (sh_int _) (sh_int _)).cast (eqv_int _ _)) (fun h => ?_) (fun h => db_nil ⟨_, _, by rw [take_succ hb, List.filter_append, List.map_append, List.filter_cons, if_neg (by rw [h]; decide), List.filter_nil, List.map_nil, List.append_nil]; rfl⟩))
        · -- longer.append(shape[:string] + (place,) + shape[string + 1:])
          have e0 : (0 + (b : Int)) = ((b : Nat) : Int) := Int.zero_add _
          have t1 : FW.cutD (sh.map PyData.int) none (some (0 + (b : Int))) = List.take b (sh.map PyData.int) := by
            rw [cutD_take (by omega) (by rw [List.length_map]; omega), e0, Int.toNat_natCast]
          have t2 : FW.cutD (sh.map PyData.int) (some (0 + (b : Int) + 1)) none = List.drop (b + 1) (sh.map PyData.int) := by
            rw [cutD_drop (by omega) (by rw [List.length_map]; omega)]
            congr 1
            omega
          refine db_one (ds_append 5 ⟨_, rfl⟩ ((ep_addT (ep_addT (ep_slT (ep_v 6) pp_none (pp_some (ep_v 7))) (ep_tup (ap_cons (ep_v 8) ap_nil)) ?_) (ep_slT (ep_v 6) (pp_some (ep_add (ep_v 7) ep_int)) pp_none) ?_).to ⟨_, rfl, ?_, ?_⟩))
          · rw [t1, List.length_take, List.length_map]
            exact Nat.le_of_lt (small1000 (by show _ + 1 ≤ 1000; omega))
          · rw [t1, t2, List.length_append, List.length_take, List.length_drop, List.length_map]
            exact Nat.le_of_lt (small1000 (by show _ + 1 + _ ≤ 1000; omega))
          · rw [List.length_append, List.length_map, List.length_map]
            have : (((strsOf t f c n).take m).filter fun b => decide (sh.getD b 0 = -1)).length ≤ 6 := by
              refine Nat.le_trans (List.length_filter_le _ _) ?_
              have := strsOf_len t f c n
              rw [List.length_take]; omega
            exact Nat.lt_of_lt_of_le (show _ < 300000 by omega) (by decide)
          · rw [t1, t2, set_cut hbs]
            exact ⟨_, _, by rw [take_succ hb, List.filter_append, List.map_append, List.filter_cons, if_pos h, List.append_assoc]; rfl⟩
      · obtain ⟨s7, s8, rfl⟩ := hM
        rw [List.length_map, List.take_length]
        have eX : ((strsOf t f c n).filter fun b => decide (sh.getD b 0 = -1)).map (fun b => encT (sh.set b (n - t.getD b 0))) = (extW t f c n sh).map encT := by
          unfold extW; rw [List.map_map]; rfl
        exact ⟨_, _, _, by rw [take_succ hsh, List.flatMap_append, List.map_append, List.flatMap_singleton, ← eX]⟩
    · obtain ⟨s6, s7, s8, rfl⟩ := hJ
      rw [List.length_map, List.take_length]
      exact ⟨_, _, _, rfl⟩
    rintro S ⟨s6, s7, s8, rfl⟩
    -- some = [shape for shape in longer if is_laid(neck[2], shape, hand)]
    have hfl : (sm.flatMap (extW t f c n)).length ≤ 46656 * 6 := Nat.le_trans (flat_len _ 6 (fun a => Nat.le_trans (extW_len t f c n a) l6) _) (Nat.mul_le_mul_right 6 hsmL)
    have hshl : ∀ sh ∈ sm.flatMap (extW t f c n), sh.length = t.length := fun sh h => by
      obtain ⟨s0, h1, h2⟩ := List.mem_flatMap.mp h
      obtain ⟨i, _, _, _, rfl⟩ := mem_extW.mp h2
      rw [List.length_set]; exact hsm0 s0 h1
    refine db_freeze 5 rfl (db_cons (ds_setLc 3 [("shape", 6)] rfl nd (by decide) (fun _ _ _ _ _ => (dg_name 6 nd)) (di_list ((ep_v 5).to ⟨_, rfl, (lcp 6 encT (sm.flatMap (extW t f c n)) (laidB c r g) encT rfl (Nat.lt_of_le_of_lt hfl (by decide)) (fun b hb s H C' cl fp => ts_one (tp_val (by intro _; rfl) (ep_call (d := .bool (laidB c r g b)) k_is_laid hr wish0 (ap_cons (ep_ixT (ep_v 0) ep_int rfl) (ap_cons (ep_v 6) (ap_cons (ep_v 2) ap_nil))) ⟨c, b, r, g, rfl, g0, by rw [hshl b hb]; omega, rfl, rfl⟩))) (fun b hb hf s H C' cl fp => (ep_v 6)) ?_)⟩)) (blkOk_by rfl) (sw_true rfl rfl rfl (by decide +kernel))))
    exact db_freeze 3 rfl (db_nil ⟨_, _, _, _, _, by rw [eS]; rfl⟩)
  · obtain ⟨s4, s5, s6, s7, s8, rfl⟩ := hI
    rw [List.length_map, List.take_length]
    exact ⟨_, _, _, _, _, rfl⟩
  rintro S ⟨s4, s5, s6, s7, s8, rfl⟩
  -- return sorted(some)
  refine db_cons (ds_retOP (op_sortT B hr (ep_v 3) (fun sh h e => ?_) ?_) q)
  · have := ((allW_mem (f := f) (r := r) c0 g0 oc.nd sh).mp h).ok.l
    rw [e, List.length_nil] at this
    omega
  · have := takeW_len (t := t) (f := f) (c := c) (r := r) (g := g) l6 h6 ch.length
    rw [List.take_length] at this
    exact Nat.le_trans this (by decide)

theorem sc_ways : FnScope ["neck", "chord", "hand"] ["neck", "chord", "hand"] (defScope s_ways) := ⟨rfl, rfl, rfl, by decide +kernel, rfl, by decide +kernel, by decide +kernel⟩
theorem ok_ways {k : Nat} {f : Addr} {fd : FuncData} (Fn : Fun K "ways" "ways" s_ways f fd) (k_need_neck : Kn P w K mg base CX0 "need_neck" k (spP z_need_neck)) (k_need_chord : Kn P w K mg base CX0 "need_chord" k (spP z_need_chord)) (k_need_hand : Kn P w K mg base CX0 "need_hand" k (spP z_need_hand)) (k_all_ways : Kn P w K mg base CX0 "all_ways" k (spP z_all_ways)) : FnOk P w K mg base CX0 (k + 1) f fd ["neck", "chord", "hand"] (spP z_all_ways) := by
  refine fn_ok Fn sc_ways (by rintro ds kt ko ke ⟨t, f, c, ch, r, g, rfl, _⟩; rfl) (by decide) fun cdv A outer s H E Fm ds kt ko ke hr hF hz => ?_
  obtain ⟨t, f, c, ch, r, g, rfl, ok, oc, oh, q⟩ := hz
  -- need_neck(neck)
  refine db_cons (ds_expr (de_call k_need_neck hr wish0 ((ap_cons (ep_v 0) ap_nil).to ⟨t, f, c, rfl, ok, ?_⟩)))
  -- need_chord(chord)
  refine db_cons (ds_expr (de_call k_need_chord hr wish0 ((ap_cons (ep_v 1) ap_nil).to ⟨ch, rfl, oc, ?_⟩)))
  -- need_hand(hand)
  refine db_cons (ds_expr (de_call k_need_hand hr wish0 ((ap_cons (ep_v 2) ap_nil).to ⟨r, g, rfl, oh, ?_⟩)))
  -- return all_ways(neck, chord, hand)
  exact db_cons (ds_retO (do_call k_all_ways hr wish0 ((ap_cons (ep_v 0) (ap_cons (ep_v 1) (ap_cons (ep_v 2) ap_nil))).to ⟨t, f, c, ch, r, g, rfl, ok, oc, oh, q⟩)))

theorem sc__law_chord : FnScope ["_law_row", "_law_neck_here", "_law_told", "_law_note", "_law_k"] ["_law_row", "_law_neck_here"] (defScope s__law_chord) := ⟨rfl, rfl, rfl, by decide +kernel, rfl, by decide +kernel, by decide +kernel⟩
def z__law_chord : Zp := fun ds kt _ _ => ∃ t f c, ds = [Nk t f c] ∧ OkN t f c ∧ ∀ ch, OkC ch → kt (Tu ch)
theorem sounds_bd {t sh : List Int} {f c : Int} (ok : OkN t f c) (os : OkS t f c sh) : (sounds t sh).length ≤ 6 ∧ ∀ x ∈ sounds t sh, 0 ≤ x ∧ x ≤ 80 := by
  have l6 := ok.l2
  have f2 := ok.f2
  have c0 := ok.c0
  refine ⟨?_, fun x hx => ?_⟩
  · unfold sounds
    rw [List.length_map]
    refine Nat.le_trans (List.length_filter_le _ _) ?_
    rw [List.length_zip]; omega
  · have sl := os.l
    obtain ⟨i, hi, h0, rfl⟩ := (mem_sounds (by omega)).mp hx
    have h1 := os.p _ (getD_mem hi)
    have h2 := ok.n _ (getD_mem (show i < t.length by omega))
    omega
theorem ok__law_chord {k : Nat} {f : Addr} {fd : FuncData} (Fn : Fun K "_law_chord" "_law_chord" s__law_chord f fd) (B : BT mg) (k__law_taken : Kn P w K mg base CX0 "_law_taken" k (spR K z_taken)) (k__law_shape : Kn P w K mg base CX0 "_law_shape" k (spR K z__law_shape)) (k__law_sounds : Kn P w K mg base CX0 "_law_sounds" k (spP z__law_sounds)) : FnOk P w K mg base CX0 (k + 1) f fd ["_law_row", "_law_neck_here"] (spR K z__law_chord) := by
  refine fn_okR Fn sc__law_chord (by rintro ds kt ko ke ⟨t, f, c, rfl, _⟩; rfl) (by decide) fun cdv A outer s H E Fm ds kt ko hr hz => ?_
  obtain ⟨t, f, c, rfl, ok, q⟩ := hz
  have nd := sc__law_chord.nd
  -- _law_told = [..]
  refine db_cons (ds_setLc 2 [("_law_note", 3)] rfl nd (by decide) (fun _ _ _ _ _ => (dg_name 3 nd)) (di_list (de_call k__law_sounds hr wish0 (da_cons ((ep_v 1).to (da_cons (de_callR 0 k__law_shape hr wish0 (da_cons ((ep_v 1).to (da_nil ⟨rfl, t, f, c, rfl, ok, fun sh os => (da_nil ⟨t, f, c, sh, rfl, ok, by rw [os.l]; exact Nat.le_refl _, ⟨_, rfl, (lcp 3 (fun b => .int b) (sounds t sh) (fun b => decide (b < 81)) (fun b => .int b) rfl (small1000 (by have := (sounds_bd ok os).1; omega)) (fun b hb s H C cl fp => ts_one (tp_ord .lt (ep_v 3) ep_int)) (fun b hb hf s H C cl fp => (ep_v 3)) ?_)⟩⟩)⟩))))))))) (blkOk_by rfl) (sw_true rfl rfl rfl (by decide +kernel)))
  have hb := sounds_bd ok os
  have hbl : ((sounds t sh).filter fun b => decide (b < 81)).length ≤ 6 := Nat.le_trans (List.length_filter_le _ _) hb.1
  have hbb : ∀ x ∈ (sounds t sh).filter fun b => decide (b < 81), 0 ≤ x ∧ x ≤ 80 := fun x hx => hb.2 x (List.mem_filter.mp hx).1
  generalize ((sounds t sh).filter fun b => decide (b < 81)) = told at hbl hbb ⊢
  refine db_freeze 2 rfl ?_
  -- if _law_taken(_law_row, 4) == 3 or _law_told == []:
  refine db_mid (fun S => ∃ told : List Int, S = [.row, .val (Nk t f c), .val (Li told), .unk, .unk] ∧ 1 ≤ told.length ∧ told.length ≤ 9 ∧ ∀ x ∈ told, 0 ≤ x ∧ x ≤ 80) ?_ ?_
  · refine ds_if (DT.imp (P := fun t' S' => S' = [.row, .val (Nk t f c), .val (Li told), .unk, .unk] ∧ (t' = false → told ≠ [])) (dt_bw (dw_or (dt_eq hr (de_takeP 0 k__law_taken hr ep_int ⟨by decide, by decide⟩ fun r1 a1 b1 => (ep_int.to ⟨sh_int _, sh_int _, ⟨fun h => ⟨rfl, fun z => nomatch z⟩, fun h => (dw_or1 ((tp_eq hr (ep_v 2) (ep_o (op_lst ap_nil)) (sh_lints _) sh_nil).to ⟨rfl, fun h => ?_⟩))⟩⟩))))) fun t' S' ⟨eS, hn⟩ => ?_)
    · rw [eqv_nilL] at h
      intro z; subst z; cases h
    · subst eS
      refine ⟨fun _ => ?_, fun h => db_nil ⟨told, rfl, List.length_pos_iff.mpr (hn h), by omega, hbb⟩⟩
      -- _law_told = _law_told + [..]
      refine db_one (ds_set 2 nd (de_o (do_addL ((ep_v 2).to (de_o (do_lc [("_law_k", 4)] rfl nd (by decide) (fun _ _ _ _ _ => (dg_name 4 nd)) (di_range1 B.range (da_cons (de_add (ep_int.to (de_takeP 0 k__law_taken hr ep_int ⟨by decide, by decide⟩ fun r3 a3 b3 => (i2 (da_nil ⟨_, rfl, ⟨by omega, by omega⟩, lcr 4 (fun d => ∃ v : Int, d = .int v ∧ 0 ≤ v ∧ v ≤ 80) (small1000 (by rw [rgD_length]; omega)) (fun d hd s H C cl fp => (de_takeP 0 k__law_taken hr ep_int ⟨by decide, by decide⟩ fun r2 a2 b2 => ⟨⟨r2, rfl, a2, by omega⟩, rfl⟩)) fun acc hal hac => ⟨_, _, rfl, rfl, ?_, ?_⟩⟩))))))) (blkOk_by rfl)))))))
      · rw [rgD_length] at hal
        rw [List.length_map, hal]
        exact Nat.le_of_lt (small1000 (by omega))
      · rw [rgD_length] at hal
        obtain ⟨ns, rfl, hn⟩ := AI.toInts (lo := 0) (hi := 80) hac
        rw [List.length_map] at hal
        have e : told.map PyData.int ++ ns.map PyData.int = (told ++ ns).map .int := (List.map_append ..).symm
        rw [e]
        exact ⟨_, rfl, by rw [List.length_append]; omega, by rw [List.length_append]; omega, fun x hx => (List.mem_append.mp hx).elim (hbb x) (hn x)⟩
  rintro S ⟨told, rfl, t1, t9, tb⟩
  -- return tuple(sorted(set(_law_told)))[:6]
  refine db_cons (ds_retP (ep_slT (ep_tupOf B (op_sortedSet B rfl (ep_v 2) (by omega))) pp_none (pp_some ep_int)) ⟨rfl, ?_⟩)
  have e : FW.cutD ((sset told).map PyData.int) none (some 6) = ((sset told).take 6).map .int := by
    unfold FW.cutD HT.sIx
    simp only [List.drop_zero, Nat.sub_zero]
    rw [if_neg (by decide), List.map_take, List.length_map]
    show List.take (min 6 (sset told).length) _ = _
    by_cases h : 6 ≤ (sset told).length
    · rw [Nat.min_eq_left h]
    · rw [Nat.min_eq_right (by omega)]
      rw [List.take_of_length_le (by rw [List.length_map]; exact Nat.le_refl _), List.take_of_length_le (by rw [List.length_map]; show _ ≤ 6; omega)]
  rw [e]
  have ht0 : ∃ x, x ∈ told := by
    cases told with
    | nil => exact absurd t1 (by decide)
    | cons a l => exact ⟨a, List.mem_cons_self⟩
  obtain ⟨x0, hx0⟩ := ht0
  have hs1 : 1 ≤ (sset told).length := List.length_pos_of_mem (mem_sset.mpr hx0)
  exact q _ ⟨by rw [List.length_take]; omega, by rw [List.length_take]; omega, fun x hx => tb x (mem_sset.mp (List.mem_of_mem_take hx)), List.Pairwise.sublist (List.take_sublist _ _) (sset_sorted told)⟩

theorem sh_Ts (l : List (List Int)) : Sh (.list (l.map encT)) := sh_of (n := 2) (shD_lst fun d hd => by
  obtain ⟨s, _, rfl⟩ := List.mem_map.mp hd
  exact shD_tup (shD_ints 0 s))
theorem eqvT_iff (a b : List Int) : PyData.eqv (encT a) (encT b) = decide (a = b) := eqv_tints a b
theorem inD_T (s : List Int) : ∀ l : List (List Int), inD (encT s) (l.map encT) = decide (s ∈ l)
  | [] => rfl
  | a :: l => by
    have ih := inD_T s l
    unfold inD at ih ⊢
    rw [List.map_cons, List.any_cons, ih, eqvT_iff]
    by_cases h : a = s
    · simp [h]
    · have : ¬ s = a := fun z => h z.symm
      simp [h, this]
theorem eqvAll_T : ∀ a b : List (List Int), PyData.eqvAll (a.map encT) (b.map encT) = decide (a = b)
  | [], [] => by simp [PyData.eqvAll]
  | [], _ :: _ => by simp [PyData.eqvAll]
  | _ :: _, [] => by simp [PyData.eqvAll]
  | x :: a, y :: b => by
    rw [List.map_cons, List.map_cons, PyData.eqvAll, eqvAll_T a b, eqvT_iff]
    by_cases h1 : x = y <;> by_cases h2 : a = b <;> simp [h1, h2]
theorem eqv_Ts (a b : List (List Int)) : PyData.eqv (.list (a.map encT)) (.list (b.map encT)) = decide (a = b) := eqvAll_T a b
theorem atI_lastD {l : List Int} (h : l ≠ []) : atI (l.map PyData.int) (-1) = some (.int (l.getLastD 0)) := by
  have e : l.map PyData.int = (l.dropLast.map PyData.int) ++ [.int (l.getLastD 0)] := by
    have h2 : l.getLastD 0 = l.getLast h := by
      cases l with
      | nil => exact absurd rfl h
      | cons a l => rw [List.getLastD_cons, List.getLast_eq_getLastD]
    rw [h2, ← List.map_singleton, ← List.map_append, List.dropLast_concat_getLast]
  rw [e]
  exact atI_last _ _
theorem atI_headD {l : List Int} (h : l ≠ []) : atI (l.map PyData.int) 0 = some (.int (l.headD 0)) := by
  cases l with
  | nil => exact absurd rfl h
  | cons a l => exact atI_cons0
theorem strict_ends {l : List Int} (hp : l.Pairwise (· < ·)) : ∀ x ∈ l, l.headD 0 ≤ x ∧ x ≤ l.getLastD 0 := by
  induction l with
  | nil => exact fun _ h => nomatch h
  | cons a l ih =>
    intro x hx
    have h2 := List.pairwise_cons.mp hp
    cases l with
    | nil => rw [List.mem_singleton.mp hx]; exact ⟨Int.le_refl _, Int.le_refl _⟩
    | cons b l =>
      have ih := ih h2.2
      have e : (a :: b :: l).getLastD 0 = (b :: l).getLastD 0 := by rw [List.getLastD_cons, List.getLastD_cons, List.getLastD_cons]
      rw [e]
      rcases List.mem_cons.mp hx with rfl | hx
      · have := h2.1 b List.mem_cons_self
        exact ⟨Int.le_refl _, by have := (ih b List.mem_cons_self).2; omega⟩
      · exact ⟨by have := h2.1 x hx; show a ≤ x; omega, (ih x hx).2⟩
theorem inD_int2 (k : Int) : ∀ l : List Int, inD (.int k) (l.map .int) = decide (k ∈ l)
  | [] => rfl
  | a :: l => by
    have ih := inD_int2 k l
    unfold inD at ih ⊢
    rw [List.map_cons, List.any_cons, ih, eqv_int]
    by_cases h : a = k
    · simp [h]
    · have : ¬ k = a := fun z => h z.symm
      simp [h, this]
theorem len_cast2 {α : Type} {l : List α} {n : Nat} (h : l.length ≤ n) (hn : n < sizeLine := by decide) : l.length < sizeLine := Nat.lt_of_le_of_lt h hn

/-! ### notes and missing ones, plainly -/
def flatN (t : List Int) (f c : Int) : List Int := t.flatMap fun n => (List.range (f + 1 - c).toNat).map fun i : Nat => n + (c + (i : Int))
def notesOf (t : List Int) (f c : Int) : List Int := sset (flatN t f c)
def missOf (l : List Int) : List Int := ((List.range (l.getLastD 0 - l.headD 0).toNat).map fun i : Nat => l.headD 0 + (i : Int)).filter fun k => !decide (k ∈ l)
theorem flatN_len {t : List Int} {f c : Int} (h6 : t.length ≤ 6) (hf : f ≤ 20) (hc : 0 ≤ c) : (flatN t f c).length ≤ 126 := by
  unfold flatN
  refine Nat.le_trans (flat_len _ 21 (fun a => by rw [List.length_map, List.length_range]; omega) t) ?_
  omega
theorem mem_flatN {t : List Int} {f c k : Int} : k ∈ flatN t f c ↔ ∃ n ∈ t, ∃ p, c ≤ p ∧ p ≤ f ∧ n + p = k := by
  unfold flatN
  rw [List.mem_flatMap]
  constructor
  · rintro ⟨n, hn, h⟩
    obtain ⟨i, hi, rfl⟩ := List.mem_map.mp h
    have := List.mem_range.mp hi
    exact ⟨n, hn, c + i, by omega, by omega, rfl⟩
  · rintro ⟨n, hn, p, h1, h2, rfl⟩
    exact ⟨n, hn, List.mem_map.mpr ⟨(p - c).toNat, List.mem_range.mpr (by omega), by omega⟩⟩
theorem notesOf_ne {t : List Int} {f c : Int} (h1 : 1 ≤ t.length) (hcf : c ≤ f) : notesOf t f c ≠ [] := by
  obtain ⟨n, hn⟩ : ∃ n, n ∈ t := by
    cases t with
    | nil => exact absurd h1 (by decide)
    | cons a l => exact ⟨a, List.mem_cons_self⟩
  intro z
  have : n + c ∈ notesOf t f c := mem_sset.mpr (mem_flatN.mpr ⟨n, hn, c, Int.le_refl _, hcf, rfl⟩)
  rw [z] at this; cases this
theorem notesOf_bd {t : List Int} {f c : Int} (ok : OkN t f c) : ∀ k ∈ notesOf t f c, 0 ≤ k ∧ k ≤ 80 := fun k hk => by
  obtain ⟨n, hn, p, h1, h2, rfl⟩ := mem_flatN.mp (mem_sset.mp hk)
  have := ok.n n hn
  have := ok.c0
  have := ok.f2
  omega
theorem notesOf_len {t : List Int} {f c : Int} (ok : OkN t f c) : (notesOf t f c).length ≤ 126 := Nat.le_trans (sset_len _) (flatN_len ok.l2 ok.f2 ok.c0)
theorem notesOf_perm {t t' : List Int} {f c : Int} (h : ∀ n, n ∈ t ↔ n ∈ t') : notesOf t f c = notesOf t' f c := by
  refine strict_ext (sset_sorted _) (sset_sorted _) fun k => ?_
  unfold notesOf
  rw [mem_sset, mem_sset, mem_flatN, mem_flatN]
  constructor <;> rintro ⟨n, hn, r⟩
  · exact ⟨n, (h n).mp hn, r⟩
  · exact ⟨n, (h n).mpr hn, r⟩
theorem notesOf_bare {t : List Int} {f c : Int} : notesOf (t.map (· + c)) (f - c) 0 = notesOf t f c := by
  refine strict_ext (sset_sorted _) (sset_sorted _) fun k => ?_
  unfold notesOf
  rw [mem_sset, mem_sset, mem_flatN, mem_flatN]
  constructor
  · rintro ⟨n, hn, p, h1, h2, rfl⟩
    obtain ⟨m, hm, rfl⟩ := List.mem_map.mp hn
    exact ⟨m, hm, p + c, by omega, by omega, by omega⟩
  · rintro ⟨n, hn, p, h1, h2, rfl⟩
    exact ⟨n + c, List.mem_map_of_mem hn, p - c, by omega, by omega, by omega⟩

theorem sc_notes : FnScope ["neck", "tuning", "frets", "capo", "found", "note", "place"] ["neck"] (defScope s_notes) := ⟨rfl, rfl, rfl, by decide +kernel, rfl, by decide +kernel, by decide +kernel⟩
def z_notes : Zp := fun ds _ ko _ => ∃ t f c, ds = [Nk t f c] ∧ OkN t f c ∧ ko ((notesOf t f c).map .int)
theorem ok_notes {k : Nat} {f : Addr} {fd : FuncData} (Fn : Fun K "notes" "notes" s_notes f fd) (B : BT mg) (k_need_neck : Kn P w K mg base CX0 "need_neck" k (spP z_need_neck)) : FnOk P w K mg base CX0 (k + 1) f fd ["neck"] (spP z_notes) := by
  refine fn_ok Fn sc_notes (by rintro ds kt ko ke ⟨t, f, c, rfl, _⟩; rfl) (by decide) fun cdv A outer s H E Fm ds kt ko ke hr hF hz => ?_
  obtain ⟨t, f, c, rfl, ok, q⟩ := hz
  have nd := sc_notes.nd
  have l6 := ok.l2
  have c0 := ok.c0
  have f2 := ok.f2
  have cf := ok.cf
  -- need_neck(neck)
  refine db_cons (ds_expr (de_call k_need_neck hr wish0 ((ap_cons (ep_v 0) ap_nil).to ⟨t, f, c, rfl, ok, ?_⟩)))
  -- tuning, frets, capo = neck
  refine db_cons (ds_asg (dg_tup rfl (dgs_cons (dg_name 1 nd) (dgs_cons (dg_name 2 nd) (dgs_cons (dg_name 3 nd) dgs_nil)))) ((ep_v 0).to ⟨_, rfl, rfl, _, _, rfl, _, _, rfl, _, _, rfl, rfl, ?_⟩))
  -- found = []
  refine db_cons (ds_setOP 4 nd (op_lst ap_nil) ?_)
  -- for note in tuning:
  refine db_mid (fun S => ∃ s5, S = [.val (Nk t f c), .val (Tu t), .val (.int f), .val (.int c), .own ((flatN t f c).map .int), s5, .unk]) (ds_for PassesOwn.never rfl (dg_name 5 nd) (di_tup ((ep_v 1).to ⟨_, rfl, ⟨fun i S => ∃ s5, S = [.val (Nk t f c), .val (Tu t), .val (.int f), .val (.int c), .own ((flatN (t.take i) f c).map .int), s5, .unk], ⟨_, rfl⟩, fun i d Si hd hI => ?_, fun Sn hI => ?_⟩⟩))) ?_
  · obtain ⟨s5, rfl⟩ := hI
    obtain ⟨n, hn, rfl⟩ := get_int hd
    have hb := flatN_len (t := t.take i) (by rw [List.length_take]; omega) f2 c0
    -- found.extend([..])
    refine db_one (ds_extend 4 ⟨_, rfl⟩ (do_lc [("place", 6)] rfl nd (by decide) (fun _ _ _ _ _ => (dg_name 6 nd)) (di_range2 B.range (da_cons ((ep_v 3).to (da_cons ((ep_add (ep_v 2) ep_int).to (da_nil ⟨_, _, rfl, ⟨by omega, by omega, by omega, by omega⟩, (lcp 6 (fun b => .int (c + (b : Nat))) (List.range (f + 1 - c).toNat) (fun _ => true) (fun b => .int (n + (c + (b : Nat)))) rfl (small1000 (by rw [List.length_range]; omega)) (fun b hb s H C cl fp => ts_nil) (fun b hb hf s H C cl fp => (ep_add (ep_v 5) (ep_v 6))) ⟨_, rfl, ?_, ?_⟩)⟩)))))) (blkOk_by rfl)))
    · rw [filter_true, List.length_map, List.length_map, List.length_range]
      exact Nat.le_of_lt (small1000 (by omega))
    · have e : (flatN (t.take i) f c).map PyData.int ++ ((List.range (f + 1 - c).toNat).filter fun _ => true).map (fun b : Nat => PyData.int (n + (c + (b : Nat)))) = (flatN (t.take (i + 1)) f c).map .int := by
        rw [filter_true, take_succ hn]
        unfold flatN
        rw [List.flatMap_append, List.map_append, List.flatMap_singleton, List.map_map]
        rfl
      exact ⟨_, by rw [← e]; rfl⟩
  · obtain ⟨s5, rfl⟩ := hI
    rw [List.length_map, List.take_length]
    exact ⟨_, rfl⟩
  rintro S ⟨s5, rfl⟩
  -- return sorted(set(found))
  exact db_freeze 4 rfl (db_cons (ds_retOP (op_sortedSetN B rfl hr (ep_v 4) (by have := flatN_len l6 f2 c0; omega)) q))

theorem sc_missing : FnScope ["neck", "some", "note"] ["neck"] (defScope s_missing) := ⟨rfl, rfl, rfl, by decide +kernel, rfl, by decide +kernel, by decide +kernel⟩
def z_missing : Zp := fun ds _ ko _ => ∃ t f c, ds = [Nk t f c] ∧ OkN t f c ∧ ko ((missOf (notesOf t f c)).map .int)
theorem ok_missing {k : Nat} {f : Addr} {fd : FuncData} (Fn : Fun K "missing" "missing" s_missing f fd) (B : BT mg) (k_notes : Kn P w K mg base CX0 "notes" k (spP z_notes)) : FnOk P w K mg base CX0 (k + 1) f fd ["neck"] (spP z_missing) := by
  refine fn_ok Fn sc_missing (by rintro ds kt ko ke ⟨t, f, c, rfl, _⟩; rfl) (by decide) fun cdv A outer s H E Fm ds kt ko ke hr hF hz => ?_
  obtain ⟨t, f, c, rfl, ok, q⟩ := hz
  have nd := sc_missing.nd
  have hne := notesOf_ne (f := f) (c := c) ok.l1 ok.cf
  have hbd := notesOf_bd ok
  -- some = notes(neck)
  refine db_cons (ds_setP (d := Li (notesOf t f c)) 1 nd (ep_call k_notes hr wish0 (ap_cons (ep_v 0) ap_nil) ⟨t, f, c, rfl, ok, rfl, rfl⟩) ?_)
  generalize notesOf t f c = l at q hne hbd ⊢
  have h1 : 0 ≤ l.headD 0 ∧ l.headD 0 ≤ 80 := by
    cases l with
    | nil => exact absurd rfl hne
    | cons a l => exact hbd a List.mem_cons_self
  have h2 : 0 ≤ l.getLastD 0 ∧ l.getLastD 0 ≤ 80 := by
    have : l.getLastD 0 ∈ l := by
      cases l with
      | nil => exact absurd rfl hne
      | cons a l =>
        have e : (a :: l).getLastD 0 = (a :: l).getLast (by simp) := by rw [List.getLastD_cons, List.getLast_eq_getLastD]
        rw [e]; exact List.getLast_mem _
    exact hbd _ this
  -- return [..]
  refine db_cons (ds_retO (do_lc [("note", 2)] rfl nd (by decide) (fun _ _ _ _ _ => (dg_name 2 nd)) (di_range2 B.range (da_cons ((ep_ixL (ep_v 1) ep_int (atI_headD hne)).to (da_cons ((ep_ixL (ep_v 1) (ep_neg ep_int) (atI_lastD hne)).to (da_nil ⟨_, _, rfl, ⟨by omega, by omega, by omega, by omega⟩, (lcp 2 (fun b => .int b) ((List.range (l.getLastD 0 - l.headD 0).toNat).map fun i : Nat => l.headD 0 + (i : Int)) (fun b => !inD (.int b) (l.map .int)) (fun b => .int b) ?_ (small1000 (by rw [List.length_map, List.length_range]; omega)) (fun b hb s H C cl fp => ts_one (tp_nin (ep_v 2) (ep_v 1) (.l _) rfl (List.all_eq_true.mpr fun x hx => by obtain ⟨y, _, rfl⟩ := List.mem_map.mp hx; rfl))) (fun b hb hf s H C cl fp => (ep_v 2)) ?_)⟩)))))) (blkOk_by rfl)))
  · unfold rgD
    rw [List.map_map]; rfl
  · have e : ((List.range (l.getLastD 0 - l.headD 0).toNat).map fun i : Nat => l.headD 0 + (i : Int)).filter (fun b => !inD (.int b) (l.map .int)) = missOf l := by
      unfold missOf
      exact List.filter_congr fun x _ => by rw [inD_int2]
    rw [e]; exact q

theorem sc_places : FnScope ["neck", "note"] ["neck", "note"] (defScope s_places) := ⟨rfl, rfl, rfl, by decide +kernel, rfl, by decide +kernel, by decide +kernel⟩
def z_places : Zp := fun ds _ ko _ => ∃ t f c n, ds = [Nk t f c, .int n] ∧ OkN t f c ∧ ko ((strsOf t f c n).map (encP t n))
theorem ok_places {k : Nat} {f : Addr} {fd : FuncData} (Fn : Fun K "places" "places" s_places f fd) (k_need_neck : Kn P w K mg base CX0 "need_neck" k (spP z_need_neck)) (k_places_of : Kn P w K mg base CX0 "places_of" k (spP z_places_of)) : FnOk P w K mg base CX0 (k + 1) f fd ["neck", "note"] (spP z_places) := by
  refine fn_ok Fn sc_places (by rintro ds kt ko ke ⟨t, f, c, n, rfl, _⟩; rfl) (by decide) fun cdv A outer s H E Fm ds kt ko ke hr hF hz => ?_
  obtain ⟨t, f, c, n, rfl, ok, q⟩ := hz
  refine db_cons (ds_expr (de_call k_need_neck hr wish0 ((ap_cons (ep_v 0) ap_nil).to ⟨t, f, c, rfl, ok, ?_⟩)))
  exact db_cons (ds_retO (do_call k_places_of hr wish0 ((ap_cons (ep_v 0) (ap_cons (ep_v 1) ap_nil)).to ⟨t, f, c, n, rfl, ok.l2, q⟩)))

theorem sc_need_shape : FnScope ["neck", "shape", "tuning", "frets", "capo", "place"] ["neck", "shape"] (defScope s_need_shape) := ⟨rfl, rfl, rfl, by decide +kernel, rfl, by decide +kernel, by decide +kernel⟩
def z_need_shape : Zp := fun ds kt _ _ => ∃ t f c sh, ds = [Nk t f c, Tu sh] ∧ OkN t f c ∧ OkS t f c sh ∧ kt .none
theorem need_shape_places {f c : Int} {t sh : List Int} (h : ∀ x ∈ sh, x = -1 ∨ c ≤ x ∧ x ≤ f) : sh.filter (fun b => (!PyData.eqv (.int b) (.int (-1))) && !(decide (c ≤ b) && decide (b ≤ f))) = [] := by
  rw [List.filter_eq_nil_iff]
  intro x hx
  rw [eqv_int]
  rcases h x hx with e | ⟨h1, h2⟩
  · simp [e]
  · simp [h1, h2]
theorem ok_need_shape {k : Nat} {f : Addr} {fd : FuncData} (Fn : Fun K "need_shape" "need_shape" s_need_shape f fd) (B : BT mg) (C : Cn mg) : FnOk P w K mg base CX0 (k + 1) f fd ["neck", "shape"] (spP z_need_shape) := by
  refine fn_ok Fn sc_need_shape (by rintro ds kt ko ke ⟨t, f, c, sh, rfl, _⟩; rfl) (by decide) fun cdv A outer s H E Fm ds kt ko ke hr hF hz => ?_
  obtain ⟨t, f, c, sh, rfl, ok, os, q⟩ := hz
  have nd := sc_need_shape.nd
  have l2 := ok.l2
  have sl := os.l
  -- tuning, frets, capo = neck
  refine db_cons (ds_asg (dg_tup rfl (dgs_cons (dg_name 2 nd) (dgs_cons (dg_name 3 nd) (dgs_cons (dg_name 4 nd) dgs_nil)))) ((ep_v 0).to ⟨_, rfl, rfl, _, _, rfl, _, _, rfl, _, _, rfl, rfl, ?_⟩))
  -- if len(shape) != len(tuning) or [place for place in shape if place != SILENT and (not capo <= place <= frets)] != []:
  refine db_cons (ds_ifP (tp_w (wp_or (tp_ne hr (ep_lenT B (ep_v 1)) (ep_lenT B (ep_v 2)) (sh_int _) (sh_int _)) fun h => (wp_or1 (tp_ne hr (ep_o (do_lc [("place", 5)] rfl nd (by decide) (fun _ _ _ _ _ => (dg_name 5 nd)) (di_tup ((ep_v 1).to ⟨_, rfl, (lcp 5 (fun b => .int b) sh (fun b => (!PyData.eqv (.int b) (.int (-1))) && !(decide (c ≤ b) && decide (b ≤ f))) (fun b => .int b) rfl (small1000 (by omega)) (fun b hb s H C' cl fp => ts_one (tp_w (wp_and (tp_ne hr (ep_v 5) (ep_gi C.SILENT) (sh_int _) (sh_int _)) fun h => (wp_and1 (tp_not (tp_ch2 .le .le (ep_v 4) (ep_v 5) (ep_v 3))))))) (fun b hb hf s H C' cl fp => (ep_v 5)) ⟨rfl, rfl⟩)⟩)) (blkOk_by rfl))) (ep_o (op_lst ap_nil)) (sh_lints _) sh_nil)))) (fun h => ?_) (fun h => db_nil (db_nil q)))
  exfalso
  rw [need_shape_places (t := t) os.p, List.length_map, List.length_map, sl] at h
  simp [PyData.eqv, PyData.eqvAll] at h

/-! ### a shape slid, plainly -/
def okP (c f far p : Int) : Bool := decide (p < 0) || (!decide (p = c) && (decide (c < p + far) && decide (p + far ≤ f)))
def plP (far p : Int) : Int := if p < 0 then p else p + far
def slidO (f c : Int) (sh : List Int) (far : Int) : Option (List Int) := if sh.all (okP c f far) = true then some (sh.map (plP far)) else none
def encO : Option (List Int) → PyData
  | none => .none
  | some l => Tu l
def apartO (f c : Int) (one other : List Int) : Option Int :=
  let far := (((one.zip other).filter fun p => !decide (p.1 = -1)).map fun p => p.2 - p.1).headD 0
  if slidO f c one far = some other then some far else none
def encI : Option Int → PyData
  | none => .none
  | some l => .int l
theorem sh_tu (ns : List Int) : Sh (Tu ns) := sh_tints ns
theorem sh_encO (o : Option (List Int)) : Sh (encO o) := by
  cases o
  · exact sh_none
  · exact sh_tu _
theorem eqv_encO (o : Option (List Int)) (l : List Int) : PyData.eqv (encO o) (Tu l) = decide (o = some l) := by
  cases o with
  | none => simp [encO, PyData.eqv]
  | some m => rw [show encO (some m) = Tu m from rfl, eqv_tints]; simp
theorem slidO_ok {t : List Int} {f c : Int} {sh l : List Int} {far : Int} (os : OkS t f c sh) (h : slidO f c sh far = some l) (hc : 0 ≤ c) : OkS t f c l := by
  unfold slidO at h
  split at h
  · rename_i ha
    cases h
    refine ⟨by rw [List.length_map]; exact os.l, fun x hx => ?_⟩
    obtain ⟨y, hy, rfl⟩ := List.mem_map.mp hx
    have h1 := List.all_eq_true.mp ha y hy
    have h2 := os.p y hy
    unfold okP at h1
    unfold plP
    simp only [Bool.or_eq_true, Bool.and_eq_true, decide_eq_true_eq] at h1
    split <;> omega
  · cases h
/-- what decides apart: one sounding place -/
theorem apart_find {t : List Int} {f c : Int} {one other : List Int} (hc : 0 ≤ c) (hf : f ≤ 20) (o1 : OkS t f c one) (o2 : OkS t f c other) :
    apartO f c one other = (((0 : Int) :: (List.range 43).map fun i : Nat => (-21 : Int) + i).filter fun far => decide (slidO f c one far = some other)).head? := by
  have key : ∀ (w : List Int), w = ((one.zip other).filter fun p => !decide (p.1 = -1)).map (fun p => p.2 - p.1) →
      (w = [] ∧ ∀ far, slidO f c one far = some one) ∨ ∃ a r, w = a :: r ∧ ∀ far, slidO f c one far = some other → far = a ∧ -21 ≤ a ∧ a ≤ 21 := by
    intro w hw
    cases w with
    | nil =>
      refine .inl ⟨rfl, fun far => ?_⟩
      have hn : ∀ x ∈ one, x = -1 := fun x hx => by
        obtain ⟨i, hi, rfl⟩ := List.mem_iff_getElem.mp hx
        have hl : i < other.length := by rw [o2.l, ← o1.l]; exact hi
        have h0 := List.map_eq_nil_iff.mp hw.symm
        have h1 := List.filter_eq_nil_iff.mp h0 (one[i], other[i]) (List.mem_iff_getElem.mpr ⟨i, by rw [List.length_zip]; omega, by rw [List.getElem_zip]⟩)
        simpa using h1
      unfold slidO
      rw [if_pos (List.all_eq_true.mpr fun x hx => by unfold okP; rw [hn x hx]; rfl)]
      congr 1
      conv => rhs; rw [← List.map_id one]
      exact List.map_congr_left fun x hx => by unfold plP; rw [hn x hx]; rfl
    | cons a r =>
      refine .inr ⟨a, r, rfl, fun far h => ?_⟩
      have ha : a ∈ ((one.zip other).filter fun p => !decide (p.1 = -1)).map (fun p => p.2 - p.1) := by rw [← hw]; exact List.mem_cons_self
      obtain ⟨⟨x, y⟩, hp, rfl⟩ := List.mem_map.mp ha
      obtain ⟨hz, hne⟩ := List.mem_filter.mp hp
      obtain ⟨i, hi, e⟩ := List.mem_iff_getElem.mp hz
      rw [List.getElem_zip] at e
      rw [List.length_zip] at hi
      have hi1 : i < one.length := by omega
      have hi2 : i < other.length := by omega
      have ex : one[i] = x := congrArg Prod.fst e
      have ey : other[i] = y := congrArg Prod.snd e
      have hx : x ∈ one := ex ▸ List.getElem_mem hi1
      have hy : y ∈ other := ey ▸ List.getElem_mem hi2
      have hne : x ≠ -1 := by simpa using hne
      unfold slidO at h
      split at h
      · rename_i hall
        have h3 : one.map (plP far) = other := Option.some.inj h
        have h4 : (one.map (plP far))[i]? = other[i]? := by rw [h3]
        rw [List.getElem?_map, List.getElem?_eq_getElem hi1, List.getElem?_eq_getElem hi2, ex, ey] at h4
        have h5 : plP far x = y := Option.some.inj h4
        have h6 := List.all_eq_true.mp hall x hx
        have h7 := o1.p x hx
        have h8 := o2.p y hy
        unfold plP at h5
        unfold okP at h6
        simp only [Bool.or_eq_true, Bool.and_eq_true, decide_eq_true_eq] at h6
        show far = y - x ∧ -21 ≤ y - x ∧ y - x ≤ 21
        rw [if_neg (by omega)] at h5
        omega
      · cases h
  unfold apartO
  rcases key _ rfl with ⟨hw, h⟩ | ⟨a, r, hw, h⟩
  · rw [hw]
    show (if slidO f c one 0 = some other then some (0 : Int) else none) = _
    rw [h 0]
    by_cases e : one = other
    · subst e
      rw [if_pos rfl, List.filter_cons, if_pos (decide_eq_true (h 0))]; rfl
    · rw [if_neg (fun z => e (Option.some.inj z))]
      have : (((0 : Int) :: (List.range 43).map fun i : Nat => (-21 : Int) + i).filter fun far => decide (slidO f c one far = some other)) = [] := by
        rw [List.filter_eq_nil_iff]
        intro x _ hx
        rw [h x] at hx
        exact e (Option.some.inj (of_decide_eq_true hx))
      rw [this]; rfl
  · rw [hw]
    show (if slidO f c one a = some other then some a else none) = _
    by_cases e : slidO f c one a = some other
    · rw [if_pos e]
      have hb := h a e
      have hall : ∀ x ∈ (((0 : Int) :: (List.range 43).map fun i : Nat => (-21 : Int) + i).filter fun far => decide (slidO f c one far = some other)), x = a := fun x hx => (h x (of_decide_eq_true (List.mem_filter.mp hx).2)).1
      have hin : a ∈ (((0 : Int) :: (List.range 43).map fun i : Nat => (-21 : Int) + i).filter fun far => decide (slidO f c one far = some other)) := by
        refine List.mem_filter.mpr ⟨List.mem_cons_of_mem _ (List.mem_map.mpr ⟨(a + 21).toNat, List.mem_range.mpr (by omega), by omega⟩), decide_eq_true e⟩
      generalize (((0 : Int) :: (List.range 43).map fun i : Nat => (-21 : Int) + i).filter fun far => decide (slidO f c one far = some other)) = l at hall hin
      cases l with
      | nil => cases hin
      | cons x l => rw [hall x List.mem_cons_self]; rfl
    · rw [if_neg e]
      have : (((0 : Int) :: (List.range 43).map fun i : Nat => (-21 : Int) + i).filter fun far => decide (slidO f c one far = some other)) = [] := by
        rw [List.filter_eq_nil_iff]
        intro x _ hx
        have hx := of_decide_eq_true hx
        rw [(h x hx).1] at hx
        exact e hx
      rw [this]; rfl

theorem sc_slid_by : FnScope ["neck", "shape", "far", "tuning", "frets", "capo", "found", "place"] ["neck", "shape", "far"] (defScope s_slid_by) := ⟨rfl, rfl, rfl, by decide +kernel, rfl, by decide +kernel, by decide +kernel⟩
def z_slid_by : Zp := fun ds kt _ _ => ∃ t f c sh far, ds = [Nk t f c, Tu sh, .int far] ∧ OkN t f c ∧ OkS t f c sh ∧ kt (encO (slidO f c sh far))
theorem ok_slid_by {k : Nat} {f : Addr} {fd : FuncData} (Fn : Fun K "slid_by" "slid_by" s_slid_by f fd) (B : BT mg) (C : Cn mg) : FnOk P w K mg base CX0 (k + 1) f fd ["neck", "shape", "far"] (spP z_slid_by) := by
  refine fn_ok Fn sc_slid_by (by rintro ds kt ko ke ⟨t, f, c, sh, far, rfl, _⟩; rfl) (by decide) fun cdv A outer s H E Fm ds kt ko ke hr hF hz => ?_
  obtain ⟨t, f, c, sh, far, rfl, ok, os, q⟩ := hz
  have nd := sc_slid_by.nd
  have l2 := ok.l2
  have sl := os.l
  have c0 := ok.c0
  -- tuning, frets, capo = neck
  refine db_cons (ds_asg (dg_tup rfl (dgs_cons (dg_name 3 nd) (dgs_cons (dg_name 4 nd) (dgs_cons (dg_name 5 nd) dgs_nil)))) ((ep_v 0).to ⟨_, rfl, rfl, _, _, rfl, _, _, rfl, _, _, rfl, rfl, ?_⟩))
  -- found = []
  refine db_cons (ds_setOP 6 nd (op_lst ap_nil) ?_)
  -- for place in shape:
  refine db_mid (fun S => ∃ s7 : Sl, S = [.val (Nk t f c), .val (Tu sh), .val (.int far), .val (Tu t), .val (.int f), .val (.int c), .own ((sh.map (plP far)).map .int), s7] ∧ sh.all (okP c f far) = true)
    (ds_for PassesOwn.never rfl (dg_name 7 nd) (di_tup ((ep_v 1).to ⟨_, rfl, ⟨fun i S => ∃ s7 : Sl, S = [.val (Nk t f c), .val (Tu sh), .val (.int far), .val (Tu t), .val (.int f), .val (.int c), .own (((sh.take i).map (plP far)).map .int), s7] ∧ (sh.take i).all (okP c f far) = true, ⟨_, rfl, rfl⟩, fun i d Si hd hI => ?_, fun Sn hI => ?_⟩⟩))) ?_
  · obtain ⟨s7, rfl, ha⟩ := hI
    obtain ⟨p, hp, rfl⟩ := get_int hd
    have hi := lt_of_get hp
    have hlen : (((sh.take i).map (plP far)).map PyData.int).length < sizeLine := by
      rw [List.length_map, List.length_map, List.length_take]; exact small1000 (by omega)
    have hmem : p ∈ sh := List.mem_of_getElem? hp
    have hps := os.p p hmem
    have nxt : ∀ v, okP c f far p = true → plP far p = v → ∃ s7 : Sl, [.val (Nk t f c), .val (Tu sh), .val (.int far), .val (Tu t), .val (.int f), .val (.int c), .own (((sh.take i).map (plP far)).map .int ++ [.int v]), .val (.int p)] = [Sl.val (Nk t f c), .val (Tu sh), .val (.int far), .val (Tu t), .val (.int f), .val (.int c), .own (((sh.take (i + 1)).map (plP far)).map .int), s7] ∧ (sh.take (i + 1)).all (okP c f far) = true := fun v h1 h2 => by
      refine ⟨.val (.int p), ?_, ?_⟩
      · rw [take_succ hp, List.map_append, List.map_append, ← h2]; rfl
      · rw [take_succ hp, List.all_append, ha, Bool.true_and]
        simp [h1]
    -- if place == SILENT:
    refine db_one (ds_ifP (tp_eq hr (ep_v 7) (ep_gi C.SILENT) (sh_int _) (sh_int _)) (fun h => ?_) (fun h => ?_))
    · -- found.append(place)
      rw [eqv_int, beq_iff_eq] at h
      exact db_one (ds_append 6 ⟨_, rfl⟩ ((ep_v 7).to ⟨_, rfl, hlen, nxt p (by unfold okP; rw [h]; rfl) (by unfold plP; rw [h]; rfl)⟩))
    · rw [eqv_int] at h
      have h : p ≠ -1 := by simpa using h
      -- if place == capo or not capo < place + far <= frets:
      refine db_one (ds_ifP (tp_w (wp_or (tp_eq hr (ep_v 7) (ep_v 5) (sh_int _) (sh_int _)) fun h => (wp_or1 (tp_not (tp_ch2 .lt .le (ep_v 5) (ep_add (ep_v 7) (ep_v 2)) (ep_v 4)))))) (fun h2 => ?_) (fun h2 => ?_))
      · -- return None
        refine db_one (ds_retP ep_non ?_)
        have hn : slidO f c sh far = none := by
          unfold slidO
          rw [if_neg]
          intro z
          have z2 := List.all_eq_true.mp z p hmem
          unfold okP at z2
          rw [eqv_int] at h2
          simp only [Bool.or_eq_true, Bool.and_eq_true, Bool.not_eq_true', Bool.and_eq_false_iff, decide_eq_true_eq, decide_eq_false_iff_not, beq_iff_eq] at z2 h2
          omega
        rw [hn] at q; exact q
      · -- found.append(place + far)
        rw [eqv_int] at h2
        simp only [Bool.or_eq_false_iff, Bool.not_eq_false', Bool.and_eq_true, decide_eq_true_eq, beq_eq_false_iff_ne] at h2
        exact db_one (ds_append 6 ⟨_, rfl⟩ ((ep_add (ep_v 7) (ep_v 2)).to ⟨_, rfl, hlen, nxt (p + far) (by unfold okP; simp [h2.1, h2.2.1, h2.2.2]) (by unfold plP; rw [if_neg (by omega)])⟩))
  · obtain ⟨s7, rfl, ha⟩ := hI
    rw [List.length_map, List.take_length] at ha ⊢
    exact ⟨s7, rfl, ha⟩
  rintro S ⟨s7, rfl, ha⟩
  refine db_freeze 6 rfl (db_cons (ds_retP (ep_tupOfV B (ep_v 6)) ?_))
  unfold slidO at q
  rw [if_pos ha] at q; exact q

theorem sc_slid : FnScope ["neck", "shape", "far"] ["neck", "shape", "far"] (defScope s_slid) := ⟨rfl, rfl, rfl, by decide +kernel, rfl, by decide +kernel, by decide +kernel⟩
theorem ok_slid {k : Nat} {f : Addr} {fd : FuncData} (Fn : Fun K "slid" "slid" s_slid f fd) (k_need_neck : Kn P w K mg base CX0 "need_neck" k (spP z_need_neck)) (k_need_shape : Kn P w K mg base CX0 "need_shape" k (spP z_need_shape)) (k_slid_by : Kn P w K mg base CX0 "slid_by" k (spP z_slid_by)) : FnOk P w K mg base CX0 (k + 1) f fd ["neck", "shape", "far"] (spP z_slid_by) := by
  refine fn_ok Fn sc_slid (by rintro ds kt ko ke ⟨t, f, c, sh, far, rfl, _⟩; rfl) (by decide) fun cdv A outer s H E Fm ds kt ko ke hr hF hz => ?_
  obtain ⟨t, f, c, sh, far, rfl, ok, os, q⟩ := hz
  have nd := sc_slid.nd
  -- need_neck(neck)
  refine db_cons (ds_expr (de_call k_need_neck hr wish0 ((ap_cons (ep_v 0) ap_nil).to ⟨t, f, c, rfl, ok, ?_⟩)))
  -- need_shape(neck, shape)
  refine db_cons (ds_expr (de_call k_need_shape hr wish0 ((ap_cons (ep_v 0) (ap_cons (ep_v 1) ap_nil)).to ⟨t, f, c, sh, rfl, ok, os, ?_⟩)))
  -- return slid_by(neck, shape, far)
  exact db_cons (ds_retP (ep_call k_slid_by hr wish0 (ap_cons (ep_v 0) (ap_cons (ep_v 1) (ap_cons (ep_v 2) ap_nil))) ⟨t, f, c, sh, far, rfl, ok, os, rfl, rfl⟩) q)

theorem sc_sounded : FnScope ["neck", "shape", "note", "place"] ["neck", "shape"] (defScope s_sounded) := ⟨rfl, rfl, rfl, by decide +kernel, rfl, by decide +kernel, by decide +kernel⟩
def z_sounded : Zp := fun ds _ ko _ => ∃ t f c sh, ds = [Nk t f c, Tu sh] ∧ OkN t f c ∧ OkS t f c sh ∧ ko ((sounds t sh).map .int)
theorem zipD_pairs (xs ys : List Int) : zipD (xs.map .int) (ys.map .int) = (xs.zip ys).map fun b => .tuple [.int b.1, .int b.2] := by
  unfold zipD
  rw [List.zip_map, List.map_map]; rfl
theorem ok_sounded {k : Nat} {f : Addr} {fd : FuncData} (Fn : Fun K "sounded" "sounded" s_sounded f fd) (B : BT mg) (C : Cn mg) (k_need_neck : Kn P w K mg base CX0 "need_neck" k (spP z_need_neck)) (k_need_shape : Kn P w K mg base CX0 "need_shape" k (spP z_need_shape)) : FnOk P w K mg base CX0 (k + 1) f fd ["neck", "shape"] (spP z_sounded) := by
  refine fn_ok Fn sc_sounded (by rintro ds kt ko ke ⟨t, f, c, sh, rfl, _⟩; rfl) (by decide) fun cdv A outer s H E Fm ds kt ko ke hr hF hz => ?_
  obtain ⟨t, f, c, sh, rfl, ok, os, q⟩ := hz
  have nd := sc_sounded.nd
  have l6 := ok.l2
  have sl := os.l
  have c0 := ok.c0
  -- need_neck(neck)
  refine db_cons (ds_expr (de_call k_need_neck hr wish0 ((ap_cons (ep_v 0) ap_nil).to ⟨t, f, c, rfl, ok, ?_⟩)))
  -- need_shape(neck, shape)
  refine db_cons (ds_expr (de_call k_need_shape hr wish0 ((ap_cons (ep_v 0) (ap_cons (ep_v 1) ap_nil)).to ⟨t, f, c, sh, rfl, ok, os, ?_⟩)))
  -- return [..]
  refine db_cons (ds_retO (do_lc [("note", 2), ("place", 3)] rfl nd (by decide) (fun _ _ _ _ _ => (dg_tup rfl (dgs_cons (dg_name 2 nd) (dgs_cons (dg_name 3 nd) dgs_nil)))) (di_zip B ((ep_ixT (ep_v 0) ep_int rfl).to ((ep_v 1).to ⟨_, _, .inr ⟨rfl, rfl⟩, (lcp2 2 3 (fun b => .int b.1) (fun b => .int b.2) (t.zip sh) (fun b => !PyData.eqv (.int b.2) (.int (-1))) (fun b => .int (b.1 + b.2)) (zipD_pairs _ _) (small1000 (by rw [List.length_zip]; omega)) (fun b hb s H C' cl fp => ts_one (tp_ne hr (ep_v 3) (ep_gi C.SILENT) (sh_int _) (sh_int _))) (fun b hb hf s H C' cl fp => (ep_add (ep_v 2) (ep_v 3))) ?_)⟩))) (blkOk_by rfl)))
  have e : ((t.zip sh).filter fun b => !PyData.eqv (.int b.2) (.int (-1))).map (fun b => PyData.int (b.1 + b.2)) = (sounds t sh).map .int := by
    unfold sounds
    rw [List.map_map]
    have : (t.zip sh).filter (fun b => !PyData.eqv (.int b.2) (.int (-1))) = (t.zip sh).filter fun p => decide (0 ≤ p.2) := List.filter_congr fun x hx => by
      rw [eqv_int]
      have := os.p x.2 (List.of_mem_zip hx).2
      by_cases h : x.2 = -1
      · simp [h]
      · have h2 : 0 ≤ x.2 := by omega
        simp [h, h2]
    rw [this]; rfl
  rw [e]; exact q

open TL PySem.StrLaws
/-! ### texts, plainly -/
abbrev nS (i : Int) : Str := Str.ofString (toString i)
theorem nS_tl {n : Nat} (h : n < 100) : tl (nS (n : Int)) = if n < 10 then [48 + n] else [48 + n / 10, 48 + n % 10] := by
  rw [show tl (nS (n : Int)) = numL n from tl_num n]
  by_cases h1 : n < 10
  · rw [if_pos h1, numL_lt h1]
  · rw [if_neg h1, numL_step (by omega), numL_lt (by omega)]; rfl
theorem nS_inj {m n : Nat} (h : nS (m : Int) = nS (n : Int)) : m = n := by
  have e : tl (nS (m : Int)) = tl (nS (n : Int)) := by rw [h]
  rw [show tl (nS (m : Int)) = numL m from tl_num m, show tl (nS (n : Int)) = numL n from tl_num n] at e
  exact numL_inj e
theorem tl_x : tl ("x" : Str) = [120] := by decide +kernel
theorem tl_0 : tl ("0" : Str) = [48] := by decide +kernel
theorem nS_ne_x {n : Nat} : nS (n : Int) ≠ ("x" : Str) := fun h => by
  have e : tl (nS (n : Int)) = tl ("x" : Str) := by rw [h]
  rw [show tl (nS (n : Int)) = numL n from tl_num n, tl_x] at e
  have : 120 ∈ numL n := by rw [e]; exact List.mem_cons_self
  exact numL_free (n := n) (s := 120) (.inr (by decide)) this
theorem nS_int {n : Nat} (h : n < 100) : PySem.intText? (nS (n : Int)) = some (n : Int) := by
  refine int_num ?_
  have := numL_len (n := n) (k := 2) (by decide) (by omega)
  omega
theorem nS_len {n : Nat} (h : n < 100) : 1 ≤ (nS (n : Int)).length ∧ (nS (n : Int)).length ≤ 2 := by
  rw [len_tl, nS_tl h]
  split
  · exact ⟨Nat.le_refl 1, Nat.le_succ 1⟩
  · exact ⟨Nat.le_succ 1, Nat.le_refl 2⟩
/-- the places that a word means -/
def spotsO (f c : Int) (w : Str) : List Int := ((List.range (f + 1 - c).toNat).map fun i : Nat => c + (i : Int)).filter fun p => nS p == w
def rdO (f c : Int) (w : Str) : Option Int := (spotsO f c w ++ if w = ("x" : Str) then [-1] else []).head?
theorem spotsO_mem {f c : Int} {w : Str} {p : Int} (h0 : 0 ≤ c) : p ∈ spotsO f c w ↔ c ≤ p ∧ p ≤ f ∧ nS p = w := by
  unfold spotsO
  rw [List.mem_filter, List.mem_map]
  constructor
  · rintro ⟨⟨i, hi, rfl⟩, h⟩
    have := List.mem_range.mp hi
    exact ⟨by omega, by omega, eq_of_beq h⟩
  · rintro ⟨h1, h2, h3⟩
    exact ⟨⟨(p - c).toNat, List.mem_range.mpr (by omega), by omega⟩, by rw [h3]; exact beq_self_eq_true w⟩
theorem rdO_x {f c : Int} (h0 : 0 ≤ c) : rdO f c ("x" : Str) = some (-1) := by
  have e : spotsO f c ("x" : Str) = [] := by
    rw [List.eq_nil_iff_forall_not_mem]
    intro p hp
    obtain ⟨h1, _, h3⟩ := (spotsO_mem h0).mp hp
    obtain ⟨n, rfl⟩ := Int.eq_ofNat_of_zero_le (Int.le_trans h0 h1)
    exact nS_ne_x h3
  unfold rdO
  rw [e, if_pos rfl]; rfl
theorem rdO_some {f c v : Int} {w : Str} (h0 : 0 ≤ c) (hw : w ≠ ("x" : Str)) (h : rdO f c w = some v) : ∃ n : Nat, v = n ∧ c ≤ v ∧ v ≤ f ∧ w = nS (n : Int) := by
  unfold rdO at h
  rw [if_neg hw, List.append_nil] at h
  obtain ⟨h1, h2, h3⟩ := (spotsO_mem h0).mp (List.mem_of_mem_head? h)
  obtain ⟨n, rfl⟩ := Int.eq_ofNat_of_zero_le (Int.le_trans h0 h1)
  exact ⟨n, rfl, h1, h2, h3.symm⟩
theorem rdO_num {f c : Int} {n : Nat} (h0 : 0 ≤ c) (h1 : c ≤ n) (h2 : (n : Int) ≤ f) : rdO f c (nS (n : Int)) = some (n : Int) := by
  cases e : rdO f c (nS (n : Int)) with
  | none =>
    unfold rdO at e
    rw [if_neg nS_ne_x, List.append_nil, List.head?_eq_none_iff] at e
    have : (n : Int) ∈ spotsO f c (nS (n : Int)) := (spotsO_mem h0).mpr ⟨h1, h2, rfl⟩
    rw [e] at this; cases this
  | some v =>
    obtain ⟨m, rfl, _, _, hm⟩ := rdO_some h0 nS_ne_x e
    rw [nS_inj hm]
theorem rdO_bd {f c v : Int} {w : Str} (h0 : 0 ≤ c) (h : rdO f c w = some v) : v = -1 ∨ c ≤ v ∧ v ≤ f := by
  by_cases hw : w = ("x" : Str)
  · subst hw
    rw [rdO_x h0] at h
    exact .inl (Option.some.inj h).symm
  · obtain ⟨n, _, h1, h2, _⟩ := rdO_some h0 hw h
    exact .inr ⟨h1, h2⟩
/-- a word of one or two figures -/
theorem figs_word {w : Str} (h1 : 1 ≤ w.length) (h2 : w.length ≤ 2) (hd : ∀ a ∈ tl w, 48 ≤ a ∧ a ≤ 57) : (∃ b, tl w = [48, b]) ∨ ∃ n : Nat, n < 100 ∧ w = nS (n : Int) := by
  rw [len_tl] at h1 h2
  match hl : tl w, h1, h2 with
  | [a], _, _ =>
    have ha := hd a (by rw [hl]; exact List.mem_cons_self)
    refine .inr ⟨a - 48, by omega, ext_tl ?_⟩
    rw [hl, nS_tl (by omega), if_pos (by omega)]
    congr 1
    omega
  | [a, b], _, _ =>
    have ha := hd a (by rw [hl]; exact List.mem_cons_self)
    have hb := hd b (by rw [hl]; exact List.mem_cons_of_mem _ List.mem_cons_self)
    by_cases z : a = 48
    · exact .inl ⟨b, by rw [z]⟩
    · refine .inr ⟨10 * (a - 48) + (b - 48), by omega, ext_tl ?_⟩
      rw [hl, nS_tl (by omega), if_neg (by omega)]
      congr 1
      · omega
      · congr 1
        omega
theorem tl_figs : tl ("0123456789" : Str) = [48, 49, 50, 51, 52, 53, 54, 55, 56, 57] := by decide +kernel
theorem fig_iff (a : Nat) : a ∈ tl ("0123456789" : Str) ↔ 48 ≤ a ∧ a ≤ 57 := by
  rw [tl_figs]
  simp only [List.mem_cons, List.not_mem_nil, or_false]
  omega
/-! words of a text -/
theorem tl_sp : tl (" " : Str) = [32] := by decide +kernel
theorem sp_cps : (" " : Str).cps.all (· < 256) = true := by decide +kernel
theorem sp_len : ((" " : Str).length == 0) = false := by decide +kernel
theorem joinL_len : ∀ {ps : List (List Nat)}, ps ≠ [] → (joinL [32] ps).length + 1 = (ps.map (·.length)).sum + ps.length
  | [], h => absurd rfl h
  | [p], _ => by show p.length + 1 = _; simp
  | p :: q :: r, _ => by
    have ih := joinL_len (ps := q :: r) (by simp)
    show (p ++ ([32] ++ joinL [32] (q :: r))).length + 1 = _
    rw [List.length_append, List.length_append, List.map_cons, List.sum_cons, List.length_cons (as := q :: r)]
    show p.length + (1 + _) + 1 = _
    omega
theorem joinL_mem : ∀ {ps : List (List Nat)} {p : List Nat} {a : Nat}, p ∈ ps → a ∈ p → a ∈ joinL [32] ps
  | [], _, _, h, _ => nomatch h
  | [q], p, a, h, ha => by rw [← List.mem_singleton.mp h]; exact ha
  | q :: q2 :: r, p, a, h, ha => by
    show a ∈ q ++ ([32] ++ joinL [32] (q2 :: r))
    rcases List.mem_cons.mp h with rfl | h
    · exact List.mem_append_left _ ha
    · exact List.mem_append_right _ (List.mem_append_right _ (joinL_mem h ha))
theorem mem_joinL : ∀ {ps : List (List Nat)} {a : Nat}, a ∈ joinL [32] ps → a = 32 ∨ ∃ p ∈ ps, a ∈ p
  | [], _, h => nomatch h
  | [q], a, h => .inr ⟨q, List.mem_cons_self, h⟩
  | q :: q2 :: r, a, h => by
    have h : a ∈ q ++ ([32] ++ joinL [32] (q2 :: r)) := h
    rcases List.mem_append.mp h with h | h
    · exact .inr ⟨q, List.mem_cons_self, h⟩
    · rcases List.mem_append.mp h with h | h
      · exact .inl (List.mem_singleton.mp h)
      · rcases mem_joinL h with e | ⟨p, hp, ha⟩
        · exact .inl e
        · exact .inr ⟨p, List.mem_cons_of_mem _ hp, ha⟩
abbrev wordsOf (x : Str) : List Str := Txt.split x (" " : Str)
theorem words_join (x : Str) : joinL [32] ((wordsOf x).map tl) = tl x := by
  have h := join_split x (" " : Str)
  rw [← tl_sp, ← tl_join]
  exact congrArg tl h
theorem words_ne (x : Str) : wordsOf x ≠ [] := fun h => by
  have e := split_spl x (" " : Str) (by rw [tl_sp]; simp) (kind_ok sp_cps)
  have e : (wordsOf x).map tl = spl (tl (" " : Str)) 0 [] (tl x) := e
  rw [h, tl_sp] at e
  have ne : ∀ (k : Nat) (l acc : List Nat), spl [32] k acc l ≠ [] := fun k l => by
    induction l generalizing k with
    | nil => intro acc z; rw [spl_nil] at z; cases z
    | cons c r ih =>
      intro acc z
      cases k with
      | zero =>
        cases hp : pre [32] (c :: r) with
        | true => rw [spl_hit hp] at z; cases z
        | false => rw [spl_miss hp] at z; exact ih _ _ z
      | succ k => exact ih k acc z
  exact ne _ _ _ e.symm
theorem words_len (x : Str) : ((wordsOf x).map (·.length)).sum + (wordsOf x).length = x.length + 1 := by
  have h := joinL_len (ps := (wordsOf x).map tl) (by rw [Ne, List.map_eq_nil_iff]; exact words_ne x)
  rw [words_join, List.map_map, List.length_map, ← len_tl] at h
  rw [h]
  congr 2
theorem strOk_iff {x : Str} : PyData.strOk x = true ↔ ∀ a ∈ tl x, a < 1114112 := by
  unfold PyData.strOk
  rw [Array.all_eq_true_iff_forall_mem]
  constructor
  · intro h a ha
    exact of_decide_eq_true (h a (by simpa using ha))
  · intro h a ha
    exact decide_eq_true (h a (by simpa using ha))
theorem words_ok {x w : Str} (h : PyData.strOk x = true) (hw : w ∈ wordsOf x) : PyData.strOk w = true := by
  rw [strOk_iff] at h ⊢
  intro a ha
  refine h a ?_
  rw [← words_join]
  exact joinL_mem (List.mem_map_of_mem hw) ha
theorem le_sum {l : List Nat} {a : Nat} (h : a ∈ l) : a ≤ l.sum := by
  induction l with
  | nil => cases h
  | cons b l ih =>
    rw [List.sum_cons]
    rcases List.mem_cons.mp h with rfl | h
    · omega
    · have := ih h; omega
theorem word_len {x w : Str} (hw : w ∈ wordsOf x) : w.length ≤ x.length := by
  have h := words_len x
  have := le_sum (List.mem_map_of_mem (f := (·.length)) hw)
  have : 1 ≤ (wordsOf x).length := List.length_pos_iff.mpr (words_ne x)
  omega
theorem isEmpty_map' {α β : Type} (f : α → β) (l : List α) : (l.map f).isEmpty = l.isEmpty := by cases l <;> rfl
theorem eqv_str (a b : Str) : PyData.eqv (.str a) (.str b) = (a == b) := by simp [PyData.eqv]
theorem sh_str {a : Str} (h : PyData.strOk a = true) : Sh (.str a) := sh_of (shD_str 0 h)
theorem strOk_sign {w : Str} {a : Nat} (h : PyData.strOk w = true) (ha : a ∈ tl w) : PyData.strOk ⟨#[a]⟩ = true := by
  rw [strOk_iff] at h ⊢
  intro b hb
  have : b = a := by simpa [tl] using hb
  rw [this]; exact h a ha
theorem sh_signs {w : Str} (h : PyData.strOk w = true) (q : Nat → Bool) : Sh (.list (((tl w).filter q).map fun a => .str ⟨#[a]⟩)) := sh_of (n := 1) (shD_lst fun d hd => by
  obtain ⟨a, ha, rfl⟩ := List.mem_map.mp hd
  exact shD_str 0 (strOk_sign h (List.mem_filter.mp ha).1))
/-- a word of figures that begins with a nought that it may not have -/
def leadB (w : Str) : Bool := ((⟨#[(tl w).headD 0]⟩ : Str) == ("0" : Str)) && !(w == ("0" : Str))
theorem sign_0 {a : Nat} : ((⟨#[a]⟩ : Str) == ("0" : Str)) = decide (a = 48) := by
  rw [Bool.eq_iff_iff, beq_iff_eq, decide_eq_true_eq]
  constructor
  · intro h
    have : tl (⟨#[a]⟩ : Str) = tl ("0" : Str) := by rw [h]
    rw [tl_0] at this
    exact List.head_eq_of_cons_eq this
  · intro h
    subst h
    exact ext_tl (by rw [tl_0])
theorem leadB_num {n : Nat} (h : n < 100) : leadB (nS (n : Int)) = false := by
  unfold leadB
  rw [nS_tl h, sign_0]
  by_cases h1 : n < 10
  · rw [if_pos h1]
    by_cases h2 : n = 0
    · have : nS (n : Int) = ("0" : Str) := ext_tl (by rw [nS_tl h, if_pos h1, tl_0, h2])
      rw [this, beq_self_eq_true, Bool.not_true, Bool.and_false]
    · rw [decide_eq_false (by show ¬ 48 + n = 48; omega), Bool.false_and]
  · rw [if_neg h1, decide_eq_false (by show ¬ 48 + n / 10 = 48; omega), Bool.false_and]
/-- what is no word at all -/
def formB (w : Str) : Bool := !(decide ((1 : Int) ≤ (w.length : Int)) && decide ((w.length : Int) ≤ 2)) || !(((tl w).filter fun a => !decide (a ∈ tl ("0123456789" : Str))).map fun a => PyData.str ⟨#[a]⟩).isEmpty
theorem formB_num {n : Nat} (h : n < 100) : formB (nS (n : Int)) = false := by
  obtain ⟨h1, h2⟩ := nS_len h
  unfold formB
  rw [decide_eq_true (by omega), decide_eq_true (by omega), Bool.and_self, Bool.not_true, Bool.false_or, isEmpty_map', Bool.not_eq_false', List.isEmpty_iff, List.filter_eq_nil_iff]
  intro a ha
  have : 48 ≤ a ∧ a ≤ 57 := by
    rw [nS_tl h] at ha
    split at ha
    · rw [List.mem_singleton.mp ha]; omega
    · rcases List.mem_cons.mp ha with rfl | ha
      · omega
      · rw [List.mem_singleton.mp ha]; omega
  rw [decide_eq_true ((fig_iff a).mpr this)]; decide
theorem word_cases {w : Str} (h : formB w = false) : tl w ≠ [] ∧ (leadB w = true ∨ ∃ n : Nat, n < 100 ∧ w = nS (n : Int)) := by
  unfold formB at h
  rw [Bool.or_eq_false_iff, Bool.not_eq_false', Bool.not_eq_false', Bool.and_eq_true, isEmpty_map', List.isEmpty_iff, List.filter_eq_nil_iff, decide_eq_true_eq, decide_eq_true_eq] at h
  obtain ⟨⟨h1, h2⟩, h3⟩ := h
  have hd : ∀ a ∈ tl w, 48 ≤ a ∧ a ≤ 57 := fun a ha => by
    have := h3 a ha
    rw [← fig_iff]
    simpa using this
  refine ⟨fun z => ?_, ?_⟩
  · rw [len_tl, z] at h1
    exact absurd h1 (by decide)
  · rcases figs_word (by omega) (by omega) hd with ⟨b, hb⟩ | r
    · left
      unfold leadB
      rw [hb, sign_0]
      have : ¬ w = ("0" : Str) := fun z => by
        have : tl w = tl ("0" : Str) := by rw [z]
        rw [hb, tl_0] at this
        cases this
      rw [decide_eq_true (by rfl), Bool.true_and, Bool.not_eq_true', beq_eq_false_iff_ne]
      exact this
    · exact .inr r

theorem sc_written : FnScope ["neck", "shape", "place"] ["neck", "shape"] (defScope s_written) := ⟨rfl, rfl, rfl, by decide +kernel, rfl, by decide +kernel, by decide +kernel⟩
/-- a place, written -/
def wS (p : Int) : Str := if p = -1 then ("x" : Str) else nS p
def textO (sh : List Int) : Str := Txt.join (" " : Str) (sh.reverse.map wS)
def z_written : Zp := fun ds kt _ _ => ∃ t f c sh, ds = [Nk t f c, Tu sh] ∧ OkN t f c ∧ OkS t f c sh ∧ kt (.str (textO sh))
theorem small_log {p : Int} (h0 : -1 ≤ p) (h1 : p ≤ 1000) : p.natAbs.log2 < 1920 := by
  have h : p.natAbs ≤ 1000 := by omega
  have : p.natAbs.log2 ≤ p.natAbs := Nat.log2_le_self _
  omega
theorem wS_len {p : Int} (h0 : p = -1 ∨ 0 ≤ p ∧ p ≤ 20) : (wS p).length ≤ 2 := by
  unfold wS
  split
  · decide
  · rename_i h
    obtain ⟨n, rfl⟩ := Int.eq_ofNat_of_zero_le (h0.resolve_left h).1
    exact (nS_len (by omega)).2
theorem sum_le {α : Type} (g : α → Nat) (k : Nat) : ∀ {l : List α}, (∀ x ∈ l, g x ≤ k) → (l.map g).sum ≤ l.length * k
  | [], _ => by simp
  | a :: l, h => by
    have h1 := h a List.mem_cons_self
    have h2 := sum_le g k fun x hx => h x (List.mem_cons_of_mem _ hx)
    rw [List.map_cons, List.sum_cons, List.length_cons, Nat.add_mul, Nat.one_mul]
    omega
theorem ok_written {k : Nat} {f : Addr} {fd : FuncData} (Fn : Fun K "written" "written" s_written f fd) (B : BT mg) (C : Cn mg) (k_need_neck : Kn P w K mg base CX0 "need_neck" k (spP z_need_neck)) (k_need_shape : Kn P w K mg base CX0 "need_shape" k (spP z_need_shape)) : FnOk P w K mg base CX0 (k + 1) f fd ["neck", "shape"] (spP z_written) := by
  refine fn_ok Fn sc_written (by rintro ds kt ko ke ⟨t, f, c, sh, rfl, _⟩; rfl) (by decide) fun cdv A outer s H E Fm ds kt ko ke hr hF hz => ?_
  obtain ⟨t, f, c, sh, rfl, ok, os, q⟩ := hz
  have nd := sc_written.nd
  have l6 := ok.l2
  have sl := os.l
  have c0 := ok.c0
  have f2 := ok.f2
  have sp : ∀ p ∈ sh, p = -1 ∨ 0 ≤ p ∧ p ≤ 20 := fun p hp => (os.p p hp).imp id fun z => by omega
  refine db_cons (ds_expr (de_call k_need_neck hr wish0 ((ap_cons (ep_v 0) ap_nil).to ⟨t, f, c, rfl, ok, ?_⟩)))
  refine db_cons (ds_expr (de_call k_need_shape hr wish0 ((ap_cons (ep_v 0) (ap_cons (ep_v 1) ap_nil)).to ⟨t, f, c, sh, rfl, ok, os, ?_⟩)))
  -- return ' '.join([..])
  refine db_cons (ds_retP (d := .str (textO sh)) (ep_join (ys := sh.reverse.map wS) ep_str ((ep_o (do_lc [("place", 2)] rfl nd (by decide) (fun _ _ _ _ _ => (dg_name 2 nd)) (di_rev B ((ep_v (d := Tu sh) 1).to ⟨_, .t _, (lcp 2 (fun b => .int b) sh.reverse (fun _ => true) (fun b => .str (wS b)) List.map_reverse.symm (small1000 (by rw [List.length_reverse]; omega)) (fun b hb s H C' cl fp => ts_nil) (fun b hb hf s H C' cl fp => ((ep_if (d1 := .str "x") (d2 := .str (nS b)) ((tp_eq hr (ep_v (d := .int b) 2) (ep_gi C.SILENT) (sh_int _) (sh_int _)).cast (eqv_int _ _)) (fun h => ep_str) (fun h => ep_strI B (ep_v (d := .int b) 2) (small_log ?_ ?_))).cast ?_)) ⟨rfl, rfl⟩)⟩)) (blkOk_by rfl))).cast ?_) ?_) q)
  · have := sp b (List.mem_reverse.mp hb); omega
  · have := sp b (List.mem_reverse.mp hb); omega
  · unfold wS
    by_cases e : b = -1
    · rw [if_pos e, if_pos (by rw [e]; rfl)]
    · rw [if_neg e, if_neg (by simpa using e)]
  · rw [filter_true, List.map_map]; rfl
  · have h1 := sum_le (fun x : Str => x.length) 2 (l := sh.reverse.map wS) fun x hx => by
      obtain ⟨p, hp, rfl⟩ := List.mem_map.mp hx
      exact wS_len (sp p (List.mem_reverse.mp hp))
    rw [List.length_map, List.length_reverse] at h1 ⊢
    have : (" " : Str).length = 1 := by decide +kernel
    rw [this]
    omega

open TL PySem.StrLaws
theorem sc_place_of : FnScope ["neck", "word", "sign"] ["neck", "word"] (defScope s_place_of) := ⟨rfl, rfl, rfl, by decide +kernel, rfl, by decide +kernel, by decide +kernel⟩
theorem strOk_x : PyData.strOk ("x" : Str) = true := by decide +kernel
theorem strOk_0 : PyData.strOk ("0" : Str) = true := by decide +kernel
theorem at_head {l : List Nat} (h : l ≠ []) : atI l 0 = some (l.headD 0) := by
  cases l with
  | nil => exact absurd rfl h
  | cons a l => exact atI_cons0
theorem head_mem {l : List Nat} (h : l ≠ []) : l.headD 0 ∈ l := by
  cases l with
  | nil => exact absurd rfl h
  | cons a l => exact List.mem_cons_self
def z_place_of : Zp := fun ds kt _ _ => ∃ t f c wd v, ds = [Nk t f c, .str wd] ∧ 0 ≤ c ∧ f ≤ 20 ∧ PyData.strOk wd = true ∧ wd.length ≤ 100000 ∧ rdO f c wd = some v ∧ kt (.int v)
theorem ok_place_of {k : Nat} {f : Addr} {fd : FuncData} (Fn : Fun K "place_of" "place_of" s_place_of f fd) (B : BT mg) (C : Cn mg) : FnOk P w K mg base CX0 (k + 1) f fd ["neck", "word"] (spP z_place_of) := by
  refine fn_ok Fn sc_place_of (by rintro ds kt ko ke ⟨t, f, c, wd, v, rfl, _⟩; rfl) (by decide) fun cdv A outer s H E Fm ds kt ko ke hr hF hz => ?_
  obtain ⟨t, f, c, wd, v, rfl, c0, f2, wok, wl, hv, q⟩ := hz
  have nd := sc_place_of.nd
  -- if word == 'x':
  refine db_cons (ds_ifP ((tp_eq hr (ep_v (d := .str wd) 1) ep_str (sh_str wok) (sh_str strOk_x)).cast (eqv_str _ _)) (fun h => ?_) (fun h0 => db_nil ?_))
  · have h : wd = ("x" : Str) := eq_of_beq h
    subst h
    rw [rdO_x c0] at hv
    have hv : (-1 : Int) = v := Option.some.inj hv
    subst hv
    exact db_one (ds_retP (ep_gi C.SILENT) q)
  have h0 : wd ≠ ("x" : Str) := beq_eq_false_iff_ne.mp h0
  have wl2 : wd.length ≤ sizeLine := Nat.le_trans wl (by decide)
  -- if not 1 <= len(word) <= 2 or [..] != []:
  refine db_cons (ds_ifP (x := formB wd) ((tp_w (wp_or (tp_not (tp_ch2 .le .le ep_int (ep_lenS B (ep_v (d := .str wd) 1) wl2) ep_int)) fun h => (wp_or1 ((tp_ne hr (ep_o (do_lc [("sign", 2)] rfl nd (by decide) (fun _ _ _ _ _ => (dg_name 2 nd)) (di_str ((ep_v (d := .str wd) 1).to ⟨wd, rfl, (lcp 2 (fun a => .str ⟨#[a]⟩) (tl wd) (fun a => !decide (a ∈ tl ("0123456789" : Str))) (fun a => .str ⟨#[a]⟩) rfl (Nat.lt_of_le_of_lt (by rw [← len_tl]; exact wl) (by decide : 100000 < sizeLine)) (fun b hb s H C' cl fp => ts_one (tp_ninS (ep_v 2) (ep_gs C.FIGURES))) (fun b hb hf s H C' cl fp => (ep_v 2)) ⟨rfl, rfl⟩)⟩)) (blkOk_by rfl))) (ep_o (op_lst ap_nil)) (sh_signs wok _) sh_nil).cast (congrArg Bool.not (eqv_nilL _)))))).cast rfl) (fun h => ?_) (fun h1 => db_nil ?_))
  · obtain ⟨n, rfl, h2, h3, rfl⟩ := rdO_some c0 h0 hv
    rw [formB_num (by omega)] at h; cases h
  obtain ⟨hne, hcs⟩ := word_cases h1
  -- if word[0] == '0' and word != '0' or not neck[2] <= int(word) <= neck[1]:
  obtain ⟨n, rfl, h2, h3, rfl⟩ := rdO_some c0 h0 hv
  have hn : n < 100 := by omega
  refine db_cons (ds_ifP (x := false) ((tp_w (wp_or (x := leadB (nS (n : Int))) (y := false) (tp_w (wp_and (x := (⟨#[(tl (nS (n : Int))).headD 0]⟩ : Str) == ("0" : Str)) (y := !((nS (n : Int)) == ("0" : Str))) ((tp_eq hr (ep_ixS (ep_v (d := .str (nS (n : Int))) 1) ep_int wl2 (at_head hne)) ep_str (sh_str (strOk_sign wok (head_mem hne))) (sh_str strOk_0)).cast (eqv_str _ _)) fun h => (wp_and1 ((tp_ne hr (ep_v (d := .str (nS (n : Int))) 1) ep_str (sh_str wok) (sh_str strOk_0)).cast (congrArg Bool.not (eqv_str _ _)))))) fun h => (wp_or1 ((tp_not (tp_ch2 .le .le (ep_ixT (d := .int c) (ep_v (d := Nk t f c) 0) ep_int rfl) (ep_intS B (ep_v (d := .str (nS (n : Int))) 1) (nS_int hn) (by have := (nS_len hn).2; omega)) (ep_ixT (d := .int f) (ep_v (d := Nk t f c) 0) ep_int rfl))).cast ?_)))).cast ?_) (fun h => nomatch h) (fun h => db_nil ?_))
  · rw [decide_eq_true h2, decide_eq_true h3]; rfl
  · rw [leadB_num hn]; rfl
  -- return int(word)
  exact db_cons (ds_retP (ep_intS B (ep_v (d := .str (nS (n : Int))) 1) (nS_int hn) (by have := (nS_len hn).2; omega)) q)

open TL PySem.StrLaws
theorem sc_read : FnScope ["neck", "text", "words", "word"] ["neck", "text"] (defScope s_read) := ⟨rfl, rfl, rfl, by decide +kernel, rfl, by decide +kernel, by decide +kernel⟩
def readO (t : List Int) (f c : Int) (x : Str) : Option (List Int) := if (wordsOf x).length = t.length ∧ ((wordsOf x).all fun w => (rdO f c w).isSome) = true then some ((wordsOf x).reverse.map fun w => (rdO f c w).getD 0) else none
structure TOk (x : Str) : Prop where
  s : PyData.strOk x = true
  l : x.length ≤ 90000
theorem TOk.wd {x y : Str} (h : TOk x) (hw : y ∈ wordsOf x) : PyData.strOk y = true ∧ y.length ≤ 100000 := ⟨words_ok h.s hw, by have := word_len hw; have := h.l; omega⟩
theorem TOk.n {x : Str} (h : TOk x) : (wordsOf x).length ≤ 90001 := by
  have := words_len x
  have := h.l
  omega
def z_read : Zp := fun ds kt _ _ => ∃ t f c x sh, ds = [Nk t f c, .str x] ∧ OkN t f c ∧ TOk x ∧ readO t f c x = some sh ∧ kt (Tu sh)
theorem ok_read {k : Nat} {f : Addr} {fd : FuncData} (Fn : Fun K "read" "read" s_read f fd) (B : BT mg) (k_need_neck : Kn P w K mg base CX0 "need_neck" k (spP z_need_neck)) (k_place_of : Kn P w K mg base CX0 "place_of" k (spP z_place_of)) : FnOk P w K mg base CX0 (k + 1) f fd ["neck", "text"] (spP z_read) := by
  refine fn_ok Fn sc_read (by rintro ds kt ko ke ⟨t, f, c, x, sh, rfl, _⟩; rfl) (by decide) fun cdv A outer s H E Fm ds kt ko ke hr hF hz => ?_
  obtain ⟨t, f, c, x, sh, rfl, ok, tx, hrd, q⟩ := hz
  have nd := sc_read.nd
  have hn := tx.n
  have xl := tx.l
  have hc : (wordsOf x).length = t.length ∧ ((wordsOf x).all fun w => (rdO f c w).isSome) = true := by
    unfold readO at hrd
    split at hrd
    · assumption
    · cases hrd
  unfold readO at hrd
  rw [if_pos hc] at hrd
  obtain ⟨h1, h2⟩ := hc
  rw [List.all_eq_true] at h2
  cases hrd
  refine db_cons (ds_expr (de_call k_need_neck hr wish0 ((ap_cons (ep_v 0) ap_nil).to ⟨t, f, c, rfl, ok, ?_⟩)))
  -- words = text.split(' ')
  refine db_cons (ds_setP (d := .list ((wordsOf x).map .str)) 2 nd (ep_o (op_split (ep_v (d := .str x) 1) ep_str sp_len (Nat.le_trans (by omega : x.length + 2 ≤ 100000) (by decide)))) ?_)
  -- if len(words) != len(neck[0]):
  refine db_cons (ds_ifP (x := false) ((tp_ne hr (ep_lenL B (ep_v (d := .list ((wordsOf x).map .str)) 2)) (ep_lenT B (ep_ixT (d := Tu t) (ep_v (d := Nk t f c) 0) ep_int rfl)) (sh_int _) (sh_int _)).cast ?_) (fun h => nomatch h) (fun h => db_nil ?_))
  · rw [eqv_int, List.length_map, List.length_map, h1, beq_self_eq_true]; rfl
  -- return tuple([..])
  refine db_cons (ds_retP ((ep_tupOf B (do_lc [("word", 3)] rfl nd (by decide) (fun _ _ _ _ _ => (dg_name 3 nd)) (di_rev B ((ep_v (d := .list ((wordsOf x).map .str)) 2).to ⟨_, .l _, (lcp 3 (fun b => .str b) (wordsOf x).reverse (fun _ => true) (fun b => .int ((rdO f c b).getD 0)) List.map_reverse.symm (Nat.lt_of_le_of_lt (by rw [List.length_reverse]; exact hn) (by decide : 90001 < sizeLine)) (fun b hb s H C' cl fp => ts_nil) (fun b hb hf s H C' cl fp => (ep_call (d := .int ((rdO f c b).getD 0)) k_place_of hr wish0 (ap_cons (ep_v (d := Nk t f c) 0) (ap_cons (ep_v (d := .str b) 3) ap_nil)) ⟨t, f, c, b, _, rfl, ok.c0, ok.f2, (tx.wd (List.mem_reverse.mp hb)).1, (tx.wd (List.mem_reverse.mp hb)).2, ?_, rfl, rfl⟩)) ⟨rfl, rfl⟩)⟩)) (blkOk_by rfl))).cast ?_) q)
  · rw [filter_true]
    show PyData.tuple _ = .tuple _
    rw [List.map_map]; rfl
  · obtain ⟨v, hv⟩ := Option.isSome_iff_exists.mp (h2 b (List.mem_reverse.mp hb))
    rw [hv]; rfl

open TL PySem.StrLaws
theorem strOk_cut {z : Str} {lo hi : Option Int} (h : PyData.strOk z = true) : PyData.strOk (cutS z lo hi) = true := by
  rw [strOk_iff] at h ⊢
  intro a ha
  refine h a ?_
  have ha : a ∈ ((z.cps.toList.drop (HT.sIx z.length 0 lo)).take (HT.sIx z.length z.length hi - HT.sIx z.length 0 lo)) := by simpa [cutS, tl] using ha
  exact List.mem_of_mem_drop (List.mem_of_mem_take ha)
theorem strOk_app {a b : Str} (ha : PyData.strOk a = true) (hb : PyData.strOk b = true) : PyData.strOk (a ++ b) = true := by
  rw [strOk_iff] at ha hb ⊢
  intro c hc
  rw [tl_append] at hc
  rcases List.mem_append.mp hc with h | h
  · exact ha c h
  · exact hb c h
theorem len_app (a b : Str) : (a ++ b).length = a.length + b.length := by
  rw [len_tl, tl_append, List.length_append, ← len_tl, ← len_tl]
theorem strOk_join {ys : List Str} (h : ∀ y ∈ ys, PyData.strOk y = true) : PyData.strOk (Txt.join (" " : Str) ys) = true := by
  rw [join_eq, strOk_iff, tl_join, tl_sp]
  intro a ha
  rcases mem_joinL ha with rfl | ⟨p, hp, hap⟩
  · decide
  · obtain ⟨y, hy, rfl⟩ := List.mem_map.mp hp
    exact strOk_iff.mp (h y hy) a hap
theorem join_len (ys : List Str) : (Txt.join (" " : Str) ys).length ≤ (ys.map (·.length)).sum + ys.length := by
  rw [join_eq, len_tl, tl_join, tl_sp]
  by_cases e : ys = []
  · subst e; exact Nat.zero_le _
  · have := joinL_len (ps := ys.map tl) (by rw [Ne, List.map_eq_nil_iff]; exact e)
    rw [List.map_map, List.length_map] at this
    have e2 : (ys.map (List.length ∘ tl)) = ys.map (·.length) := List.map_congr_left fun y _ => (len_tl y).symm
    rw [e2] at this
    omega
theorem sum_take (g : Str → Nat) (ys : List Str) (k : Nat) : ((ys.take k).map g).sum + ((ys.drop k).map g).sum = (ys.map g).sum := by
  rw [← List.sum_append, ← List.map_append, List.take_append_drop]
theorem sum_drop_le (g : Str → Nat) (ys : List Str) (k : Nat) : ((ys.drop k).map g).sum ≤ (ys.map g).sum := by
  have := sum_take g ys k
  omega
/-- some words put in place of one -/
theorem new_len {x : Str} {some : List Str} {k m : Nat} (h : (some.map (·.length)).sum + some.length ≤ m) : (((wordsOf x).take k ++ some ++ (wordsOf x).drop (k + 1)).map (·.length)).sum + ((wordsOf x).take k ++ some ++ (wordsOf x).drop (k + 1)).length ≤ x.length + 1 + m := by
  have h1 := words_len x
  have h2 := sum_take (·.length) (wordsOf x) k
  have h3 : (((wordsOf x).drop (k + 1)).map (·.length)).sum ≤ (((wordsOf x).drop k).map (·.length)).sum := by
    have := sum_drop_le (·.length) ((wordsOf x).drop k) 1
    rw [List.drop_drop] at this
    rw [show k + 1 = k + 1 from rfl] at this
    exact this
  have h4 : ((wordsOf x).take k).length + ((wordsOf x).drop (k + 1)).length ≤ (wordsOf x).length := by
    rw [List.length_take, List.length_drop]; omega
  rw [List.map_append, List.map_append, List.sum_append, List.sum_append, List.length_append, List.length_append]
  omega

open TL PySem.StrLaws
theorem strOk_nS {n : Nat} (h : n < 100) : PyData.strOk (nS (n : Int)) = true := by
  rw [strOk_iff, nS_tl h]
  intro a ha
  split at ha
  · rw [List.mem_singleton.mp ha]; omega
  · rcases List.mem_cons.mp ha with rfl | ha
    · omega
    · rw [List.mem_singleton.mp ha]; omega
theorem wS_no {p : Int} (h : p = -1 ∨ 0 ≤ p) : 32 ∉ tl (wS p) := by
  unfold wS
  split
  · rw [tl_x]; decide
  · rename_i h2
    obtain ⟨n, rfl⟩ := Int.eq_ofNat_of_zero_le (h.resolve_left h2)
    rw [show tl (nS (n : Int)) = numL n from tl_num n]
    exact numL_free (.inl (by decide))
theorem wS_ok {p : Int} (h : p = -1 ∨ 0 ≤ p ∧ p ≤ 20) : PyData.strOk (wS p) = true := by
  unfold wS
  split
  · exact strOk_x
  · rename_i h2
    obtain ⟨n, rfl⟩ := Int.eq_ofNat_of_zero_le (h.resolve_left h2).1
    exact strOk_nS (by omega)
theorem text_words {t : List Int} {f c : Int} {sh : List Int} (ok : OkN t f c) (os : OkS t f c sh) : wordsOf (textO sh) = sh.reverse.map wS := by
  refine split_join tl_sp sp_cps (fun e => ?_) fun p hp => ?_
  · have e := List.map_eq_nil_iff.mp e
    have := os.l
    have := ok.l1
    have e2 : sh.length = 0 := by rw [← List.length_reverse, e]; rfl
    omega
  · obtain ⟨q, hq, rfl⟩ := List.mem_map.mp hp
    have c0 := ok.c0
    exact wS_no ((os.p q (List.mem_reverse.mp hq)).imp id fun z => by omega)
theorem rd_wS {f c p : Int} (c0 : 0 ≤ c) (h : p = -1 ∨ c ≤ p ∧ p ≤ f) : rdO f c (wS p) = some p := by
  unfold wS
  by_cases e : p = -1
  · rw [if_pos e, rdO_x c0, e]
  · rw [if_neg e]
    obtain ⟨h1, h2⟩ := h.resolve_left e
    obtain ⟨n, rfl⟩ := Int.eq_ofNat_of_zero_le (Int.le_trans c0 h1)
    exact rdO_num c0 h1 h2
theorem read_text {t : List Int} {f c : Int} {sh : List Int} (ok : OkN t f c) (os : OkS t f c sh) : readO t f c (textO sh) = some sh := by
  have hw := text_words ok os
  have hr : ∀ p ∈ sh, rdO f c (wS p) = some p := fun p hp => rd_wS ok.c0 (os.p p hp)
  unfold readO
  rw [hw, if_pos]
  · congr 1
    rw [← List.map_reverse, List.reverse_reverse, List.map_map]
    conv => rhs; rw [← List.map_id sh]
    refine List.map_congr_left fun p hp => ?_
    show (rdO f c (wS p)).getD 0 = p
    rw [hr p hp]; rfl
  · refine ⟨by rw [List.length_map, List.length_reverse]; exact os.l, ?_⟩
    rw [List.all_eq_true]
    intro y hy
    obtain ⟨p, hp, rfl⟩ := List.mem_map.mp hy
    rw [hr p (List.mem_reverse.mp hp)]; rfl
theorem text_ok {t : List Int} {f c : Int} {sh : List Int} (ok : OkN t f c) (os : OkS t f c sh) : PyData.strOk (textO sh) = true ∧ (textO sh).length ≤ 18 := by
  have c0 := ok.c0
  have f2 := ok.f2
  have l6 := ok.l2
  have sl := os.l
  have sp : ∀ p ∈ sh, p = -1 ∨ 0 ≤ p ∧ p ≤ 20 := fun p hp => (os.p p hp).imp id fun z => by omega
  refine ⟨strOk_join fun y hy => ?_, ?_⟩
  · obtain ⟨p, hp, rfl⟩ := List.mem_map.mp hy
    exact wS_ok (sp p (List.mem_reverse.mp hp))
  · have h1 := sum_le (fun x : Str => x.length) 2 (l := sh.reverse.map wS) fun x hx => by
      obtain ⟨p, hp, rfl⟩ := List.mem_map.mp hx
      exact wS_len (sp p (List.mem_reverse.mp hp))
    have h2 := join_len (sh.reverse.map wS)
    rw [List.length_map, List.length_reverse] at h1 h2
    show (Txt.join (" " : Str) (sh.reverse.map wS)).length ≤ 18
    omega

/-! ### tunes, plainly -/
structure OkT (tu : List Int) : Prop where
  l1 : 1 ≤ tu.length
  l30 : tu.length ≤ 30
  n : ∀ x ∈ tu, 0 ≤ x ∧ x ≤ 80
theorem app_inj2 {a b : List Int} {p q : Int} (h : a ++ [p] = b ++ [q]) : a = b ∧ p = q := by
  have := List.append_inj' h rfl
  exact ⟨this.1, List.head_eq_of_cons_eq this.2⟩
def posL (f c : Int) : List Int := (List.range ((if c + 1 > f then c + 1 else f) + 1 - (c + 1)).toNat).map fun i : Nat => c + 1 + (i : Int)
def plS (t : List Int) (f c reach n pos : Int) : Option Nat := (strsOf t f c n).find? fun b => decide (n - t.getD b 0 = c) || (decide (pos ≤ n - t.getD b 0) && decide (n - t.getD b 0 ≤ pos + reach))
def encL (t : List Int) (n : Int) : Option Nat → PyData
  | none => .none
  | some b => encP t n b
def canP (t : List Int) (f c reach n pos : Int) : Bool := (plS t f c reach n pos).isSome
def absI (i : Int) : Int := if i < 0 then -i else i
def behind (f c : Int) (a : List Int) (pos : Int) : List Int := ((a.zip (posL f c)).filter fun p => !decide (p.1 = -1)).map fun p => p.1 + absI (p.2 - pos)
def numF (f c : Int) (a : Option (List Int)) (pos : Int) : Int := match a with
  | none => 0
  | some a => minOf (behind f c a pos)
def rowF (t : List Int) (f c reach n : Int) (ahead : Option (List Int)) : List Int := (posL f c).map fun pos => if canP t f c reach n pos = true then numF f c ahead pos else -1
def encA : Option (List Int) → PyData
  | none => .none
  | some a => Li a
/-- a row that may stand ahead -/
def OkR (f c : Int) : Option (List Int) → Prop
  | none => True
  | some a => a.length = (posL f c).length ∧ ∃ x ∈ a, x ≠ -1
def tabF (t : List Int) (f c reach : Int) : List (List Int) → List Int → Option (List (List Int))
  | acc, [] => some acc
  | acc, n :: rest => if (rowF t f c reach n acc.getLast?).all (fun x => decide (x = -1)) = true then none else tabF t f c reach (acc ++ [rowF t f c reach n acc.getLast?]) rest
theorem posL_len {f c : Int} (hf : f ≤ 20) (hc : 0 ≤ c) (hcf : c ≤ f) : 1 ≤ (posL f c).length ∧ (posL f c).length ≤ 20 := by
  unfold posL
  rw [List.length_map, List.length_range]
  split <;> omega
theorem posL_mem {f c x : Int} (hcf : c ≤ f) : x ∈ posL f c ↔ c + 1 ≤ x ∧ (x ≤ f ∨ x = c + 1) := by
  unfold posL
  rw [List.mem_map]
  constructor
  · rintro ⟨i, hi, rfl⟩
    have := List.mem_range.mp hi
    split at this <;> omega
  · rintro ⟨h1, h2⟩
    refine ⟨(x - c - 1).toNat, List.mem_range.mpr ?_, by omega⟩
    split <;> omega
theorem rowF_len (t : List Int) (f c reach n : Int) (a : Option (List Int)) : (rowF t f c reach n a).length = (posL f c).length := by unfold rowF; rw [List.length_map]
theorem behind_len (f c : Int) (a : List Int) (pos : Int) : (behind f c a pos).length ≤ a.length := by
  unfold behind
  rw [List.length_map]
  refine Nat.le_trans (List.length_filter_le _ _) ?_
  rw [List.length_zip]; exact Nat.min_le_left _ _
theorem behind_ne {f c : Int} {a : List Int} {pos : Int} (hl : a.length = (posL f c).length) (h : ∃ x ∈ a, x ≠ -1) : behind f c a pos ≠ [] := by
  obtain ⟨x, hx, hne⟩ := h
  obtain ⟨i, hi, rfl⟩ := List.mem_iff_getElem.mp hx
  unfold behind
  intro z
  have z := List.filter_eq_nil_iff.mp (List.map_eq_nil_iff.mp z) (a[i], (posL f c)[i]'(by omega)) (List.mem_iff_getElem.mpr ⟨i, by rw [List.length_zip]; omega, by rw [List.getElem_zip]⟩)
  simp [hne] at z

theorem sc_need_tune : FnScope ["tune", "note"] ["tune"] (defScope s_need_tune) := ⟨rfl, rfl, rfl, by decide +kernel, rfl, by decide +kernel, by decide +kernel⟩
def z_need_tune : Zp := fun ds kt _ _ => ∃ tu, ds = [Li tu] ∧ OkT tu ∧ kt .none
theorem ok_need_tune {k : Nat} {f : Addr} {fd : FuncData} (Fn : Fun K "need_tune" "need_tune" s_need_tune f fd) (B : BT mg) (C : Cn mg) : FnOk P w K mg base CX0 (k + 1) f fd ["tune"] (spP z_need_tune) := by
  refine fn_ok Fn sc_need_tune (by rintro ds kt ko ke ⟨tu, rfl, _⟩; rfl) (by decide) fun cdv A outer s H E Fm ds kt ko ke hr hF hz => ?_
  obtain ⟨tu, rfl, ⟨l1, l30, hn⟩, q⟩ := hz
  have nd := sc_need_tune.nd
  refine db_cons (ds_ifP (tp_w (wp_or (tp_not (tp_ch2 .le .le ep_int (ep_lenL B (ep_v 0)) (ep_gi C.MOST_TUNE))) fun h => (wp_or1 (tp_ne hr (ep_o (do_lc [("note", 1)] rfl nd (by decide) (fun _ _ _ _ _ => (dg_name 1 nd)) (di_list ((ep_v 0).to ⟨_, rfl, (lcp 1 (fun b => .int b) tu (fun b => !(decide ((0 : Int) ≤ b) && decide (b ≤ 80))) (fun b => .int b) rfl (small1000 (by omega)) (fun b hb s H C' cl fp => ts_one (tp_not (tp_ch2 .le .le ep_int (ep_v 1) (ep_gi C.MOST_SOUND)))) (fun b hb hf s H C' cl fp => (ep_v 1)) ⟨rfl, rfl⟩)⟩)) (blkOk_by rfl))) (ep_o (op_lst ap_nil)) (sh_lints _) sh_nil)))) (fun h => ?_) (fun h => db_nil (db_nil q)))
  exfalso
  have e : tu.filter (fun b => !(decide ((0 : Int) ≤ b) && decide (b ≤ 80))) = [] := by
    rw [List.filter_eq_nil_iff]
    intro x hx
    have := hn x hx
    simp [this.1, this.2]
  rw [e, List.length_map] at h
  simp [PyData.eqv, PyData.eqvAll] at h
  omega

theorem sc_need_reach : FnScope ["reach"] ["reach"] (defScope s_need_reach) := ⟨rfl, rfl, rfl, by decide +kernel, rfl, by decide +kernel, by decide +kernel⟩
def z_need_reach : Zp := fun ds kt _ _ => ∃ r : Int, ds = [.int r] ∧ 0 ≤ r ∧ r ≤ 6 ∧ kt .none
theorem ok_need_reach {k : Nat} {f : Addr} {fd : FuncData} (Fn : Fun K "need_reach" "need_reach" s_need_reach f fd) (C : Cn mg) : FnOk P w K mg base CX0 (k + 1) f fd ["reach"] (spP z_need_reach) := by
  refine fn_ok Fn sc_need_reach (by rintro ds kt ko ke ⟨r, rfl, _⟩; rfl) (by decide) fun cdv A outer s H E Fm ds kt ko ke hr hF hz => ?_
  obtain ⟨r, rfl, r0, r6, q⟩ := hz
  refine db_cons (ds_ifP (tp_not (tp_ch2 .le .le ep_int (ep_v 0) (ep_gi C.MOST_REACH))) (fun h => ?_) (fun h => db_nil (db_nil q)))
  exfalso
  simp only [Bool.not_eq_true', Bool.and_eq_false_iff, decide_eq_false_iff_not] at h
  omega

theorem sc_positions : FnScope ["neck"] ["neck"] (defScope s_positions) := ⟨rfl, rfl, rfl, by decide +kernel, rfl, by decide +kernel, by decide +kernel⟩
def z_positions : Zp := fun ds _ ko _ => ∃ t f c, ds = [Nk t f c] ∧ OkN t f c ∧ ko ((posL f c).map .int)
theorem rgD_toInts (c : Int) (n : Nat) : rgD c n = ((List.range n).map fun i : Nat => c + (i : Int)).map .int := by
  unfold rgD; rw [List.map_map]; rfl
theorem ok_positions {k : Nat} {f : Addr} {fd : FuncData} (Fn : Fun K "positions" "positions" s_positions f fd) (B : BT mg) : FnOk P w K mg base CX0 (k + 1) f fd ["neck"] (spP z_positions) := by
  refine fn_ok Fn sc_positions (by rintro ds kt ko ke ⟨t, f, c, rfl, _⟩; rfl) (by decide) fun cdv A outer s H E Fm ds kt ko ke hr hF hz => ?_
  obtain ⟨t, f, c, rfl, ok, q⟩ := hz
  have c0 := ok.c0
  have cf := ok.cf
  have f2 := ok.f2
  refine db_cons (ds_retOP (op_listRg2 B rfl (ep_add (ep_ixT (ep_v 0) ep_int rfl) ep_int) (ep_add (ep_max2 B rfl (ap_cons (ep_ixT (ep_v 0) ep_int rfl) (ap_cons (ep_add (ep_ixT (ep_v 0) ep_int rfl) ep_int) ap_nil))) ep_int) ?_) ?_)
  · refine .of_le (by omega) ?_ (by omega) ?_ <;> (split <;> omega)
  · rw [rgD_toInts]; exact q

theorem sc_place_in : FnScope ["neck", "note", "reach", "position", "string", "place"] ["neck", "note", "reach", "position"] (defScope s_place_in) := ⟨rfl, rfl, rfl, by decide +kernel, rfl, by decide +kernel, by decide +kernel⟩
def z_place_in : Zp := fun ds kt _ _ => ∃ t f c n reach pos, ds = [Nk t f c, .int n, .int reach, .int pos] ∧ t.length ≤ 6 ∧ kt (encL t n (plS t f c reach n pos))
theorem find_no {α : Type} {p : α → Bool} : ∀ {l : List α} {i : Nat} {x : α}, (∀ y ∈ l.take i, p y = false) → l[i]? = some x → p x = true → l.find? p = some x
  | [], _, _, _, h, _ => by simp at h
  | a :: l, 0, x, _, h, hp => by
    simp at h; subst h
    rw [List.find?_cons_of_pos hp]
  | a :: l, i + 1, x, hn, h, hp => by
    rw [List.find?_cons_of_neg (by rw [hn a (by rw [List.take_succ_cons]; exact List.mem_cons_self)]; decide)]
    exact find_no (i := i) (fun y hy => hn y (by rw [List.take_succ_cons]; exact List.mem_cons_of_mem _ hy)) (by simpa using h) hp
theorem ok_place_in {k : Nat} {f : Addr} {fd : FuncData} (Fn : Fun K "place_in" "place_in" s_place_in f fd) (B : BT mg) (k_places_of : Kn P w K mg base CX0 "places_of" k (spP z_places_of)) : FnOk P w K mg base CX0 (k + 1) f fd ["neck", "note", "reach", "position"] (spP z_place_in) := by
  refine fn_ok Fn sc_place_in (by rintro ds kt ko ke ⟨t, f, c, n, reach, pos, rfl, _⟩; rfl) (by decide) fun cdv A outer s H E Fm ds kt ko ke hr hF hz => ?_
  obtain ⟨t, f, c, n, reach, pos, rfl, l6, q⟩ := hz
  have nd := sc_place_in.nd
  -- for string, place in places_of(neck, note):
  refine db_mid (fun S => plS t f c reach n pos = none) (ds_for PassesOwn.never rfl (dg_tup rfl (dgs_cons (dg_name 4 nd) (dgs_cons (dg_name 5 nd) dgs_nil))) (di_list ((ep_call (d := .list ((strsOf t f c n).map (encP t n))) k_places_of hr wish0 (ap_cons (ep_v 0) (ap_cons (ep_v 1) ap_nil)) ⟨t, f, c, n, rfl, l6, rfl, rfl⟩).to ⟨_, rfl, ⟨fun i S => (∃ s4 s5, S = [.val (Nk t f c), .val (.int n), .val (.int reach), .val (.int pos), s4, s5]) ∧ ∀ b ∈ (strsOf t f c n).take i, (decide (n - t.getD b 0 = c) || (decide (pos ≤ n - t.getD b 0) && decide (n - t.getD b 0 ≤ pos + reach))) = false, ⟨⟨_, _, rfl⟩, fun _ h => nomatch h⟩, fun i d Si hd hI => ?_, fun Sn hI => ?_⟩⟩))) ?_
  · obtain ⟨⟨s4, s5, rfl⟩, hno⟩ := hI
    rw [List.getElem?_map] at hd
    cases hb : (strsOf t f c n)[i]? with
    | none => rw [hb] at hd; cases hd
    | some b =>
    rw [hb] at hd; cases hd
    refine ⟨_, rfl, rfl, _, _, rfl, _, _, rfl, rfl, ?_⟩
    -- if place == neck[2] or position <= place <= position + reach:
    refine db_one (ds_ifP (x := decide (n - t.getD b 0 = c) || (decide (pos ≤ n - t.getD b 0) && decide (n - t.getD b 0 ≤ pos + reach))) (tp_w (wp_or ((tp_eq hr (ep_v 5) (ep_ixT (ep_v 0) ep_int rfl) (sh_int _) (sh_int _)).cast (eqv_int _ _)) fun h => (wp_or1 (tp_ch2 .le .le (ep_v 3) (ep_v 5) (ep_add (ep_v 3) (ep_v 2)))))) (fun h => ?_) (fun h => db_nil ⟨⟨_, _, rfl⟩, fun y hy => ?_⟩))
    · -- return (string, place)
      refine db_one (ds_retP (ep_tup (ap_cons (ep_v 4) (ap_cons (ep_v 5) ap_nil))) ?_)
      have e : plS t f c reach n pos = some b := find_no hno hb h
      rw [e] at q; exact q
    · rw [take_succ hb] at hy
      rcases List.mem_append.mp hy with hy | hy
      · exact hno y hy
      · rw [List.mem_singleton.mp hy]; exact h
  · obtain ⟨_, hno⟩ := hI
    rw [List.length_map, List.take_length] at hno
    exact List.find?_eq_none.mpr fun b hb => by rw [hno b hb]; decide
  intro S e
  -- return None
  refine db_cons (ds_retP ep_non ?_)
  rw [e] at q; exact q

theorem sc_numbers_behind : FnScope ["neck", "note", "reach", "ahead", "some", "found", "position", "known", "number", "there"] ["neck", "note", "reach", "ahead"] (defScope s_numbers_behind) := ⟨rfl, rfl, rfl, by decide +kernel, rfl, by decide +kernel, by decide +kernel⟩
def z_numbers_behind : Zp := fun ds _ ko _ => ∃ t f c n reach a, ds = [Nk t f c, .int n, .int reach, encA a] ∧ OkN t f c ∧ OkR f c a ∧ ko ((rowF t f c reach n a).map .int)
theorem zipD_pairs2 (xs ys : List Int) : zipD (xs.map .int) (ys.map .int) = (xs.zip ys).map fun b => .tuple [.int b.1, .int b.2] := by
  unfold zipD
  rw [List.zip_map, List.map_map]; rfl
theorem ok_numbers_behind {k : Nat} {f : Addr} {fd : FuncData} (Fn : Fun K "numbers_behind" "numbers_behind" s_numbers_behind f fd) (B : BT mg) (C : Cn mg) (k_positions : Kn P w K mg base CX0 "positions" k (spP z_positions)) (k_place_in : Kn P w K mg base CX0 "place_in" k (spP z_place_in)) : FnOk P w K mg base CX0 (k + 1) f fd ["neck", "note", "reach", "ahead"] (spP z_numbers_behind) := by
  refine fn_ok Fn sc_numbers_behind (by rintro ds kt ko ke ⟨t, f, c, n, reach, a, rfl, _⟩; rfl) (by decide) fun cdv A outer s H E Fm ds kt ko ke hr hF hz => ?_
  obtain ⟨t, f, c, n, reach, a, rfl, ok, oa, q⟩ := hz
  have nd := sc_numbers_behind.nd
  have pl := posL_len ok.f2 ok.c0 ok.cf
  -- some = positions(neck)
  refine db_cons (ds_setP (d := Li (posL f c)) 4 nd (ep_call k_positions hr wish0 (ap_cons (ep_v 0) ap_nil) ⟨t, f, c, rfl, ok, rfl, rfl⟩) ?_)
  -- found = []
  refine db_cons (ds_setOP 5 nd (op_lst ap_nil) ?_)
  -- for position in some:
  refine db_mid (fun S => ∃ s6 s7, S = [.val (Nk t f c), .val (.int n), .val (.int reach), .val (encA a), .val (Li (posL f c)), .own ((rowF t f c reach n a).map .int), s6, s7, .unk, .unk]) (ds_for PassesOwn.never rfl (dg_name 6 nd) (di_list ((ep_v 4).to ⟨_, rfl, ⟨fun i S => ∃ s6 s7, S = [.val (Nk t f c), .val (.int n), .val (.int reach), .val (encA a), .val (Li (posL f c)), .own (((rowF t f c reach n a).take i).map .int), s6, s7, .unk, .unk], ⟨_, _, rfl⟩, fun i d Si hd hI => ?_, fun Sn hI => ?_⟩⟩))) ?_
  · obtain ⟨s6, s7, rfl⟩ := hI
    obtain ⟨pos, hpos, rfl⟩ := get_int hd
    have hlen : (((rowF t f c reach n a).take i).map PyData.int).length < sizeLine := by
      rw [List.length_map, List.length_take, rowF_len]; exact small1000 (by omega)
    have hrow : (rowF t f c reach n a)[i]? = some (if canP t f c reach n pos = true then numF f c a pos else -1) := by
      unfold rowF
      rw [List.getElem?_map, hpos]; rfl
    have nxt : ∀ v s7, (if canP t f c reach n pos = true then numF f c a pos else -1) = v → ∃ s6' s7', [.val (Nk t f c), .val (.int n), .val (.int reach), .val (encA a), .val (Li (posL f c)), .own (((rowF t f c reach n a).take i).map .int ++ [.int v]), .val (.int pos), s7, .unk, .unk] = [Sl.val (Nk t f c), .val (.int n), .val (.int reach), .val (encA a), .val (Li (posL f c)), .own (((rowF t f c reach n a).take (i + 1)).map .int), s6', s7', .unk, .unk] := fun v s7 hv => by
      rw [hv] at hrow
      exact ⟨_, _, by rw [take_succ hrow, List.map_append]; rfl⟩
    -- if place_in(neck, note, reach, position) is None:
    refine db_one (ds_ifP (tp_isN (ep_call (d := encL t n (plS t f c reach n pos)) k_place_in hr wish0 (ap_cons (ep_v 0) (ap_cons (ep_v 1) (ap_cons (ep_v 2) (ap_cons (ep_v 6) ap_nil)))) ⟨t, f, c, n, reach, pos, rfl, ok.l2, rfl, rfl⟩)) (fun h => ?_) (fun h => ?_))
    · have hc : canP t f c reach n pos = false := by
        unfold canP
        cases e : plS t f c reach n pos with
        | none => rfl
        | some b => rw [e] at h; cases h
      exact db_one (ds_append 5 ⟨_, rfl⟩ ((ep_gi C.NEVER).to ⟨_, rfl, hlen, nxt (-1) s7 (by rw [if_neg (by rw [hc]; decide)])⟩))
    · have hc : canP t f c reach n pos = true := by
        unfold canP
        cases e : plS t f c reach n pos with
        | none => rw [e] at h; cases h
        | some b => rfl
      -- if ahead is None:
      refine db_one (ds_ifP (tp_isN (ep_v 3)) (fun h2 => ?_) (fun h2 => ?_))
      · cases a with
        | some a => cases h2
        | none => exact db_one (ds_append 5 ⟨_, rfl⟩ (ep_int.to ⟨_, rfl, hlen, nxt 0 s7 (by rw [if_pos hc]; rfl)⟩))
      · cases a with
        | none => cases h2
        | some a =>
        have ol : a.length = (posL f c).length := oa.1
        -- known = ..
        refine db_cons (ds_setLc 7 [("number", 8), ("there", 9)] rfl nd (by decide) (fun _ _ _ _ _ => (dg_tup rfl (dgs_cons (dg_name 8 nd) (dgs_cons (dg_name 9 nd) dgs_nil)))) (di_zip B ((ep_v (d := Li a) 3).to ((ep_v 4).to ⟨_, _, .inl ⟨rfl, rfl⟩, (lcp2 8 9 (fun b => .int b.1) (fun b => .int b.2) (a.zip (posL f c)) (fun b => !decide (b.1 = -1)) (fun b => .tuple [.int b.1, .int b.2]) (zipD_pairs2 _ _) (small1000 (by rw [List.length_zip]; omega)) (fun b hb s H C' cl fp => ts_one ((tp_ne hr (ep_v 8) (ep_gi C.NEVER) (sh_int _) (sh_int _)).cast (congrArg (!·) (eqv_int _ _)))) (fun b hb hf s H C' cl fp => (ep_tup (ap_cons (ep_v 8) (ap_cons (ep_v 9) ap_nil)))) ?_)⟩))) (blkOk_by rfl) (sw_true rfl rfl rfl (by decide +kernel)))
        -- found.append(min([..]))
        refine db_freeze 7 rfl (db_one (ds_append 5 ⟨_, rfl⟩ ((ep_minL (ns := behind f c a pos) B rfl ((ep_o (do_lc [("number", 8), ("there", 9)] rfl nd (by decide) (fun _ _ _ _ _ => (dg_tup rfl (dgs_cons (dg_name 8 nd) (dgs_cons (dg_name 9 nd) dgs_nil)))) (di_list ((ep_v 7).to ⟨_, rfl, (lcp2 8 9 (fun b => .int b.1) (fun b => .int b.2) ((a.zip (posL f c)).filter fun b => !decide (b.1 = -1)) (fun _ => true) (fun b => .int (b.1 + absI (b.2 - pos))) rfl (small1000 (Nat.le_trans (List.length_filter_le _ _) (by rw [List.length_zip]; omega))) (fun b hb s H C' cl fp => ts_nil) (fun b hb hf s H C' cl fp => (ep_add (ep_v 8) (ep_abs B (ep_sub (ep_v 9) (ep_v 6))))) ⟨rfl, rfl⟩)⟩)) (blkOk_by rfl))).cast ?_) (behind_ne ol oa.2)).to ⟨_, rfl, hlen, nxt _ _ (by rw [if_pos hc]; rfl)⟩)))
        rw [filter_true]
        unfold behind
        rw [List.map_map]; rfl
  · obtain ⟨s6, s7, rfl⟩ := hI
    rw [List.length_map, show (posL f c).length = (rowF t f c reach n a).length from (rowF_len ..).symm, List.take_length]
    exact ⟨_, _, rfl⟩
  rintro S ⟨s6, s7, rfl⟩
  -- return found
  exact db_cons (ds_retW 5 rfl q)

theorem sc_table_of : FnScope ["neck", "tune", "reach", "found", "note", "row", "number"] ["neck", "tune", "reach"] (defScope s_table_of) := ⟨rfl, rfl, rfl, by decide +kernel, rfl, by decide +kernel, by decide +kernel⟩
def z_table_ofN : Zn := fun ds kn => ∃ t f c tu reach, ds = [Nk t f c, Li tu, .int reach] ∧ OkN t f c ∧ tu.length ≤ 1000 ∧ (tabF t f c reach [] tu = none → kn .none) ∧ (∀ rows, tabF t f c reach [] tu = some rows → kn (.list (rows.map Li)))
theorem tabF_cons (t : List Int) (f c reach : Int) (acc : List (List Int)) (n : Int) (rest : List Int) : tabF t f c reach acc (n :: rest) = if (rowF t f c reach n acc.getLast?).all (fun x => decide (x = -1)) = true then none else tabF t f c reach (acc ++ [rowF t f c reach n acc.getLast?]) rest := by rw [tabF]
theorem sh_rows (l : List (List Int)) : Sh (.list (l.map Li)) := sh_of (n := 2) (shD_lst fun d hd => by
  obtain ⟨s, _, rfl⟩ := List.mem_map.mp hd
  exact shD_lst (shD_ints 0 s))
theorem atI_lastRow {l : List (List Int)} {r : List Int} (h : l.getLast? = some r) : atI (l.map Li) (-1) = some (Li r) := by
  obtain ⟨ys, rfl⟩ := List.getLast?_eq_some_iff.mp h
  rw [List.map_append]
  exact atI_last _ _
theorem getLast_none {α : Type} {l : List α} (h : l.getLast? = none) : l = [] := List.getLast?_eq_none_iff.mp h
theorem row_ok {t : List Int} {f c reach n : Int} {a : Option (List Int)} (h : ¬ (rowF t f c reach n a).all (fun x => decide (x = -1)) = true) : OkR f c (some (rowF t f c reach n a)) := by
  refine ⟨rowF_len .., ?_⟩
  have h : (rowF t f c reach n a).all (fun x => decide (x = -1)) = false := by simpa using h
  obtain ⟨x, hx, hn⟩ := List.all_eq_false.mp h
  exact ⟨x, hx, by simpa using hn⟩
theorem ok_table_of {k : Nat} {f : Addr} {fd : FuncData} (Fn : Fun K "table_of" "table_of" s_table_of f fd) (B : BT mg) (C : Cn mg) (k_numbers_behind : Kn P w K mg base CX0 "numbers_behind" k (spP z_numbers_behind)) : FnOk P w K mg base CX0 (k + 1) f fd ["neck", "tune", "reach"] (spN z_table_ofN) := by
  refine fn_okN Fn sc_table_of (by rintro ds kn ⟨t, f, c, tu, reach, rfl, _⟩; rfl) (by decide) fun cdv A outer s H E Fm ds kn hr hF hz => ?_
  obtain ⟨t, f, c, tu, reach, rfl, ok, l1000, q0, q1⟩ := hz
  have nd := sc_table_of.nd
  have pl := posL_len ok.f2 ok.c0 ok.cf
  -- found = []
  refine db_cons (ds_setON 3 nd ((op_lst ap_nil).to ⟨rfl, ?_⟩))
  -- for note in tune:
  refine db_mid (fun S => ∃ s4 s5 rows, S = [.val (Nk t f c), .val (Li tu), .val (.int reach), .ownN (rows.map Li), s4, s5, .unk] ∧ tabF t f c reach [] tu = some rows) (ds_for PassesOwn.never rfl (dg_name 4 nd) (di_list ((ep_v 1).to ⟨_, rfl, ⟨fun i S => ∃ s4 s5 acc, S = [.val (Nk t f c), .val (Li tu), .val (.int reach), .ownN (acc.map Li), s4, s5, .unk] ∧ acc.length = i ∧ tabF t f c reach [] tu = tabF t f c reach acc (tu.drop i) ∧ OkR f c acc.getLast?, ⟨_, _, [], rfl, rfl, rfl, trivial⟩, fun i d Si hd hI => ?_, fun Sn hI => ?_⟩⟩))) ?_
  · obtain ⟨s4, s5, acc, rfl, al, et, oa⟩ := hI
    obtain ⟨n, hn, rfl⟩ := get_int hd
    have hi := lt_of_get hn
    have ed : tu.drop i = n :: tu.drop (i + 1) := by
      rw [List.drop_eq_getElem_cons hi]
      congr 1
      exact (List.getElem?_eq_some_iff.mp hn).2
    rw [ed, tabF_cons] at et
    -- row = numbers_behind(neck, note, reach, found[-1] if found != [] else None)
    refine db_cons (ds_setN 5 nd (dn_o (do_call k_numbers_behind hr wish0 (da_cons ((ep_v 0).to (da_cons ((ep_v 4).to (da_cons ((ep_v 2).to (da_cons (Ep.to (d := encA acc.getLast?) (de_if (dt_neON 3 hr rfl (ep_o (op_lst ap_nil)) (sh_rows acc) sh_nil ⟨fun h => ?_, fun h => ?_⟩)) (da_nil ⟨t, f, c, n, reach, acc.getLast?, rfl, ok, oa, ⟨noLs_ints _, ?_⟩⟩))))))))))))
    · rw [eqv_nilL] at h
      cases e : acc.getLast? with
      | none => rw [getLast_none e] at h; cases h
      | some r => exact (ep_ixON (d := Li r) 3 (ep_neg ep_int) (atI_lastRow e)).to ⟨rfl, rfl⟩
    · rw [eqv_nilL] at h
      cases acc with
      | cons a l => cases h
      | nil => exact ep_non.to ⟨rfl, rfl⟩
    generalize hrow : rowF t f c reach n acc.getLast? = row at et ⊢
    have rl : row.length ≤ 20 := by rw [← hrow, rowF_len]; omega
    -- if [number for number in row if number != NEVER] == []:
    refine db_cons (ds_ifP (x := row.all fun x => decide (x = -1)) ((tp_eq hr (ep_o (do_lc [("number", 6)] rfl nd (by decide) (fun _ _ _ _ _ => (dg_name 6 nd)) (di_list ((ep_nw 5).to ⟨_, rfl, (lcp 6 (fun b => .int b) row (fun b => !decide (b = -1)) (fun b => .int b) rfl (small1000 (by omega)) (fun b hb s H C' cl fp => ts_one ((tp_ne hr (ep_v 6) (ep_gi C.NEVER) (sh_int _) (sh_int _)).cast (congrArg (!·) (eqv_int _ _)))) (fun b hb hf s H C' cl fp => (ep_v 6)) ⟨rfl, rfl⟩)⟩)) (blkOk_by rfl))) (ep_o (op_lst ap_nil)) (sh_lints _) sh_nil).cast ?_) (fun h => ?_) (fun h => db_nil ?_))
    · rw [eqv_nilL, Bool.eq_iff_iff, List.isEmpty_iff, List.map_eq_nil_iff, List.filter_eq_nil_iff, List.all_eq_true]
      constructor <;> intro z x hx <;> have := z x hx <;> simpa using this
    · -- return None
      rw [if_pos h] at et
      exact db_one (ds_retP ep_non ⟨rfl, q0 et⟩)
    · -- found.append(row)
      rw [if_neg (by rw [h]; decide)] at et
      refine db_one (ds_appendN 3 ⟨_, rfl⟩ (dn_nw 5 rfl ⟨_, rfl, by rw [List.length_map]; exact small1000 (by omega), _, _, acc ++ [row], by rw [List.map_append]; rfl, by rw [List.length_append, al]; rfl, et, ?_⟩))
      rw [List.getLast?_append]
      show OkR f c (some row)
      rw [← hrow]
      exact row_ok (by rw [hrow, h]; decide)
  · obtain ⟨s4, s5, acc, rfl, al, et, oa⟩ := hI
    rw [List.length_map, List.drop_length] at et
    exact ⟨_, _, acc, rfl, et⟩
  rintro S ⟨s4, s5, rows, rfl, et⟩
  -- return found
  exact db_freezeN 3 rfl (db_cons (ds_retR (dn_nw 3 rfl (q1 rows et))))

/-! ### playings, plainly -/
/-- s plays the tune tu, ends at p and moves m -/
inductive VS (ps : List Int) (can : Int → Int → Bool) : List Int → List Int → Int → Int → Prop
  | one {n p : Int} : p ∈ ps → can n p = true → VS ps can [n] [p] p 0
  | snoc {tu s : List Int} {q m n p : Int} : VS ps can tu s q m → p ∈ ps → can n p = true → VS ps can (tu ++ [n]) (s ++ [p]) p (m + absI (q - p))
theorem absI_nn (i : Int) : 0 ≤ absI i := by unfold absI; split <;> omega
theorem absI_0 : absI 0 = 0 := rfl
section
variable {ps : List Int} {can : Int → Int → Bool}
theorem VS.mem {tu s : List Int} {p m : Int} (h : VS ps can tu s p m) : p ∈ ps := by cases h <;> assumption
theorem VS.nn {tu s : List Int} {p m : Int} (h : VS ps can tu s p m) : 0 ≤ m := by
  induction h with
  | one => exact Int.le_refl 0
  | snoc _ _ _ ih => exact Int.add_nonneg ih (absI_nn _)
theorem VS.ne {tu s : List Int} {p m : Int} (h : VS ps can tu s p m) : tu ≠ [] := by
  cases h <;> simp
theorem VS.inv {tu s : List Int} {n p m : Int} (h : VS ps can (tu ++ [n]) s p m) : can n p = true ∧ p ∈ ps ∧ ((tu = [] ∧ s = [p] ∧ m = 0) ∨ ∃ s0 q m0, VS ps can tu s0 q m0 ∧ s = s0 ++ [p] ∧ m = m0 + absI (q - p)) := by
  generalize e : tu ++ [n] = tu' at h
  cases h with
  | one h1 h2 =>
    rename_i n'
    have : tu = [] ∧ n = n' := by
      cases tu with
      | nil => exact ⟨rfl, by simpa using e⟩
      | cons a l => simp at e
    obtain ⟨rfl, rfl⟩ := this
    exact ⟨h2, h1, .inl ⟨rfl, rfl, rfl⟩⟩
  | snoc h0 h1 h2 =>
    have := app_inj2 e
    obtain ⟨rfl, rfl⟩ := this
    exact ⟨h2, h1, .inr ⟨_, _, _, h0, rfl, rfl⟩⟩
/-- a row of numbers that is right for a tune -/
structure Right (ps : List Int) (can : Int → Int → Bool) (tu a : List Int) : Prop where
  l : a.length = ps.length
  x : ∀ (j : Nat) (p x : Int), ps[j]? = some p → a[j]? = some x → (x = -1 ∧ ∀ s m, ¬ VS ps can tu s p m) ∨ (0 ≤ x ∧ (∃ s, VS ps can tu s p x) ∧ ∀ s m, VS ps can tu s p m → x ≤ m)
end
section
variable {t : List Int} {f c reach : Int}
theorem row_get {n : Int} {a : Option (List Int)} {j : Nat} {p x : Int} (hp : (posL f c)[j]? = some p) (hx : (rowF t f c reach n a)[j]? = some x) : x = if canP t f c reach n p = true then numF f c a p else -1 := by
  unfold rowF at hx
  rw [List.getElem?_map, hp] at hx
  exact (Option.some.inj hx).symm
theorem right_one (n : Int) : Right (posL f c) (canP t f c reach) [n] (rowF t f c reach n none) := by
  refine ⟨rowF_len .., fun j p x hp hx => ?_⟩
  rw [row_get hp hx]
  have hm : p ∈ posL f c := List.mem_of_getElem? hp
  by_cases hc : canP t f c reach n p = true
  · rw [if_pos hc]
    exact .inr ⟨Int.le_refl 0, ⟨[p], .one hm hc⟩, fun s m h => h.nn⟩
  · rw [if_neg hc]
    exact .inl ⟨rfl, fun s m h => hc (VS.inv (tu := []) h).1⟩
theorem behind_mem {a : List Int} {pos y : Int} : y ∈ behind f c a pos ↔ ∃ (j : Nat) (x p : Int), a[j]? = some x ∧ (posL f c)[j]? = some p ∧ x ≠ -1 ∧ y = x + absI (p - pos) := by
  unfold behind
  constructor
  · intro h
    obtain ⟨⟨x, p⟩, h1, rfl⟩ := List.mem_map.mp h
    obtain ⟨h2, h3⟩ := List.mem_filter.mp h1
    obtain ⟨j, hj, e⟩ := List.mem_iff_getElem.mp h2
    rw [List.getElem_zip] at e
    rw [List.length_zip] at hj
    exact ⟨j, x, p, by rw [List.getElem?_eq_getElem (by omega)]; exact congrArg some (congrArg Prod.fst e), by rw [List.getElem?_eq_getElem (by omega)]; exact congrArg some (congrArg Prod.snd e), by simpa using h3, rfl⟩
  · rintro ⟨j, x, p, h1, h2, h3, rfl⟩
    refine List.mem_map.mpr ⟨(x, p), List.mem_filter.mpr ⟨?_, by simpa using h3⟩, rfl⟩
    exact List.mem_of_getElem? (i := j) (by rw [List.getElem?_zip_eq_some]; exact ⟨h1, h2⟩)
theorem right_step {tu a : List Int} {n : Int} (h : Right (posL f c) (canP t f c reach) tu a) (htu : tu ≠ []) (ha : ∃ x ∈ a, x ≠ -1) : Right (posL f c) (canP t f c reach) (tu ++ [n]) (rowF t f c reach n (some a)) := by
  refine ⟨rowF_len .., fun j p x hp hx => ?_⟩
  rw [row_get hp hx]
  have hm : p ∈ posL f c := List.mem_of_getElem? hp
  by_cases hc : canP t f c reach n p = true
  · rw [if_pos hc]
    show _ ∨ (0 ≤ minOf (behind f c a p) ∧ _ ∧ _)
    obtain ⟨h1, h2⟩ := minOf_mem (behind_ne (pos := p) h.l ha)
    obtain ⟨i, y, q, e1, e2, e3, e4⟩ := behind_mem.mp h1
    rcases h.x i q y e2 e1 with ⟨z, _⟩ | ⟨y0, ⟨s, hs⟩, _⟩
    · exact absurd z e3
    · refine .inr ⟨?_, ⟨s ++ [p], ?_⟩, fun s' m hv => ?_⟩
      · rw [e4]; have := absI_nn (q - p); omega
      · show VS _ _ _ _ _ (minOf (behind f c a p))
        rw [e4]; exact .snoc hs hm hc
      · obtain ⟨_, _, hv⟩ := hv.inv
        rcases hv with ⟨z, _⟩ | ⟨s0, q0, m0, h0, _, rfl⟩
        · exact absurd z htu
        · obtain ⟨i0, hi0, eq0⟩ := List.mem_iff_getElem.mp h0.mem
          have hi1 : i0 < a.length := by rw [h.l]; exact hi0
          have g1 : a[i0]? = some a[i0] := List.getElem?_eq_getElem hi1
          have g2 : (posL f c)[i0]? = some q0 := by rw [List.getElem?_eq_getElem hi0, eq0]
          rcases h.x i0 q0 _ g2 g1 with ⟨_, z⟩ | ⟨y1, _, z⟩
          · exact absurd h0 (z _ _)
          · have h3 := h2 _ (behind_mem.mpr ⟨i0, _, q0, g1, g2, by omega, rfl⟩)
            have h4 := z _ _ h0
            show minOf (behind f c a p) ≤ _
            omega
  · rw [if_neg hc]
    exact .inl ⟨rfl, fun s m hv => hc hv.inv.1⟩
end

/-! ### the whole table, plainly -/
def rowAt (rows : List (List Int)) (k : Nat) : List Int := rows.getD k []
/-- the rows of a tune: each made from the one ahead, each with a number -/
structure Tab (t : List Int) (f c reach : Int) (tu : List Int) (rows : List (List Int)) : Prop where
  l : rows.length = tu.length
  r0 : ∀ n, tu[0]? = some n → rowAt rows 0 = rowF t f c reach n none
  rs : ∀ k n, tu[k + 1]? = some n → rowAt rows (k + 1) = rowF t f c reach n (some (rowAt rows k))
  ne : ∀ k, k < rows.length → ∃ x ∈ rowAt rows k, x ≠ -1
theorem rowAt_app1 {a b : List (List Int)} {k : Nat} (h : k < a.length) : rowAt (a ++ b) k = rowAt a k := by
  unfold rowAt
  rw [List.getD_eq_getElem?_getD, List.getD_eq_getElem?_getD, List.getElem?_append_left h]
theorem rowAt_last {a : List (List Int)} {r : List Int} : rowAt (a ++ [r]) a.length = r := by
  unfold rowAt
  rw [List.getD_eq_getElem?_getD, List.getElem?_append_right (Nat.le_refl _), Nat.sub_self]; rfl
theorem rowAt_getLast {a : List (List Int)} {k : Nat} (h : a.length = k + 1) : a.getLast? = some (rowAt a k) := by
  unfold rowAt
  rw [List.getLast?_eq_getElem?, h, List.getD_eq_getElem?_getD]
  show a[k]? = _
  rw [List.getElem?_eq_getElem (by omega)]; rfl
section
variable {t : List Int} {f c reach : Int}
theorem tab_some : ∀ {rest done : List Int} {acc rows : List (List Int)}, Tab t f c reach done acc → tabF t f c reach acc rest = some rows → Tab t f c reach (done ++ rest) rows
  | [], done, acc, rows, h, e => by
    rw [tabF] at e
    cases e
    rw [List.append_nil]; exact h
  | n :: rest, done, acc, rows, h, e => by
    rw [tabF_cons] at e
    by_cases ha : (rowF t f c reach n acc.getLast?).all (fun x => decide (x = -1)) = true
    · rw [if_pos ha] at e; cases e
    · rw [if_neg ha] at e
      have hrow := row_ok ha
      have e2 : done ++ n :: rest = (done ++ [n]) ++ rest := by simp
      rw [e2]
      refine tab_some (done := done ++ [n]) (acc := acc ++ [rowF t f c reach n acc.getLast?]) ⟨?_, fun m hm => ?_, fun k m hm => ?_, fun k hk => ?_⟩ e
      · rw [List.length_append, List.length_append, h.l]; rfl
      · cases hd : done with
        | nil =>
          subst hd
          have ea : acc = [] := List.eq_nil_of_length_eq_zero h.l
          subst ea
          have : n = m := by simpa using hm
          subst this; rfl
        | cons a l =>
          have hl : 0 < acc.length := by rw [h.l, hd]; exact Nat.succ_pos _
          rw [rowAt_app1 hl]
          refine h.r0 m ?_
          rw [hd] at hm ⊢
          simpa using hm
      · by_cases hk : k + 1 < acc.length
        · rw [rowAt_app1 hk, rowAt_app1 (by omega)]
          refine h.rs k m ?_
          rw [List.getElem?_append_left (by rw [← h.l]; exact hk)] at hm
          exact hm
        · have hlt := lt_of_get hm
          rw [List.length_append, ← h.l] at hlt
          have hk2 : acc.length = k + 1 := by
            have : k + 1 < acc.length + 1 := hlt
            omega
          rw [List.getElem?_append_right (by rw [← h.l]; omega), ← h.l, hk2, Nat.sub_self] at hm
          have : n = m := by simpa using hm
          subst this
          have e1 := rowAt_last (a := acc) (r := rowF t f c reach n acc.getLast?)
          rw [hk2] at e1
          rw [e1, rowAt_app1 (show k < acc.length by omega), rowAt_getLast hk2]
      · rw [List.length_append] at hk
        by_cases hk1 : k < acc.length
        · rw [rowAt_app1 hk1]; exact h.ne k hk1
        · have : k = acc.length := by
            have : k < acc.length + 1 := hk
            omega
          subst this
          rw [rowAt_last]; exact hrow.2
theorem tab_nil : Tab t f c reach [] [] := ⟨rfl, fun _ h => by simp at h, fun _ _ h => by simp at h, fun _ h => absurd h (Nat.not_lt_zero _)⟩
theorem Tab.right {tu : List Int} {rows : List (List Int)} (h : Tab t f c reach tu rows) : ∀ k, k < tu.length → Right (posL f c) (canP t f c reach) (tu.take (k + 1)) (rowAt rows k)
  | 0, hk => by
    have e : tu[0]? = some tu[0] := List.getElem?_eq_getElem hk
    rw [h.r0 _ e, take_succ e, List.take_zero]
    exact right_one _
  | k + 1, hk => by
    have e : tu[k + 1]? = some tu[k + 1] := List.getElem?_eq_getElem hk
    rw [h.rs k _ e, take_succ e]
    refine right_step (h.right k (by omega)) (fun z => ?_) (h.ne k (by rw [h.l]; omega))
    have : (tu.take (k + 1)).length = 0 := by rw [z]; rfl
    rw [List.length_take] at this
    omega
/-- the tune can't be played just where a note has no position -/
theorem tab_none : ∀ {rest done : List Int} {acc : List (List Int)}, Tab t f c reach done acc → tabF t f c reach acc rest = none → ∃ n ∈ rest, ∀ p ∈ posL f c, canP t f c reach n p = false
  | [], done, acc, h, e => by rw [tabF] at e; cases e
  | n :: rest, done, acc, h, e => by
    by_cases ha : (rowF t f c reach n acc.getLast?).all (fun x => decide (x = -1)) = true
    · refine ⟨n, List.mem_cons_self, fun p hp => ?_⟩
      cases hc : canP t f c reach n p with
      | false => rfl
      | true =>
        exfalso
        obtain ⟨j, hj, rfl⟩ := List.mem_iff_getElem.mp hp
        have hx : (rowF t f c reach n acc.getLast?)[j]? = some (numF f c acc.getLast? (posL f c)[j]) := by
          unfold rowF
          rw [List.getElem?_map, List.getElem?_eq_getElem hj]
          show some (if canP t f c reach n (posL f c)[j] = true then _ else _) = _
          rw [if_pos hc]
        have h1 := List.all_eq_true.mp ha _ (List.mem_of_getElem? hx)
        have h2 : 0 ≤ numF f c acc.getLast? (posL f c)[j] := by
          cases ea : acc.getLast? with
          | none => exact Int.le_refl 0
          | some r =>
            obtain ⟨k, hk⟩ : ∃ k, acc.length = k + 1 := by
              cases acc with
              | nil => cases ea
              | cons a l => exact ⟨l.length, rfl⟩
            have er : r = rowAt acc k := Option.some.inj (ea.symm.trans (rowAt_getLast hk))
            subst er
            have hR := h.right k (by rw [← h.l]; omega)
            obtain ⟨m1, _⟩ := minOf_mem (behind_ne (pos := (posL f c)[j]) hR.l (h.ne k (by omega)))
            obtain ⟨i, y, q, e1, e2, e3, e4⟩ := behind_mem.mp m1
            show 0 ≤ minOf _
            rcases hR.x i q y e2 e1 with ⟨z, _⟩ | ⟨y0, _, _⟩
            · exact absurd z e3
            · rw [e4]; have := absI_nn (q - (posL f c)[j]); omega
        have h1 : numF f c acc.getLast? (posL f c)[j] = -1 := of_decide_eq_true h1
        omega
    · rw [tabF_cons, if_neg ha] at e
      have h2 : tabF t f c reach acc [n] = some (acc ++ [rowF t f c reach n acc.getLast?]) := by rw [tabF_cons, if_neg ha, tabF]
      obtain ⟨n', hn', hp⟩ := tab_none (tab_some h h2) e
      exact ⟨n', List.mem_cons_of_mem _ hn', hp⟩
end

/-! ### played, plainly -/
def prs (f c : Int) (row : List Int) : List (Int × Int) := (row.zip (posL f c)).filter fun p => !decide (p.1 = -1)
def ltP (a b : Int × Int) : Bool := decide (a.1 < b.1 ∨ a.1 = b.1 ∧ a.2 < b.2)
def minP : List (Int × Int) → Int × Int
  | [] => (0, 0)
  | x :: xs => xs.foldl (fun a y => if ltP y a = true then y else a) x
def encZ (p : Int × Int) : PyData := .tuple [.int p.1, .int p.2]
def trip (t : List Int) (f c reach n pos : Int) : PyData := match plS t f c reach n pos with
  | none => .none
  | some b => .tuple [.int (0 + (b : Nat)), .int (n - t.getD b 0), .int pos]
def stepB (f c : Int) (row : List Int) (p v : Int) : Int × Int := ((prs f c row).find? fun z => decide (z.1 + absI (z.2 - p) = v)).getD (0, 0)
/-- from the last note on: the playing, its end first -/
def backF (t : List Int) (f c reach : Int) : List (List Int × Int) → Int → Int → List PyData
  | [], _, _ => []
  | (row, n) :: rest, p, v => trip t f c reach n (stepB f c row p v).2 :: backF t f c reach rest (stepB f c row p v).2 (stepB f c row p v).1
def lastRow (rows : List (List Int)) : List Int := rows.getLastD []
def leastF (f c : Int) (rows : List (List Int)) : Int := (minP (prs f c (lastRow rows))).1
def playF (t : List Int) (f c reach : Int) (tu : List Int) (rows : List (List Int)) : PyData :=
  .tuple [.int (leastF f c rows), .list (backF t f c reach (rows.zip tu).reverse (minP (prs f c (lastRow rows))).2 (leastF f c rows)).reverse]
theorem minP_mem : ∀ {l : List (Int × Int)}, l ≠ [] → minP l ∈ l ∧ ∀ z ∈ l, (minP l).1 ≤ z.1
  | [], h => absurd rfl h
  | x :: xs, _ => by
    refine ⟨fold_mem (fun y a => ltP y a) xs x, ?_⟩
    have aux : ∀ (xs : List (Int × Int)) (x : Int × Int), (xs.foldl (fun a y => if ltP y a = true then y else a) x).1 ≤ x.1 ∧ ∀ z ∈ xs, (xs.foldl (fun a y => if ltP y a = true then y else a) x).1 ≤ z.1 := by
      intro xs
      induction xs with
      | nil => intro x; exact ⟨Int.le_refl _, fun _ h => nomatch h⟩
      | cons y xs ih =>
        intro x
        rw [List.foldl_cons]
        obtain ⟨h1, h2⟩ := ih (if ltP y x = true then y else x)
        have h3 : (if ltP y x = true then y else x).1 ≤ x.1 ∧ (if ltP y x = true then y else x).1 ≤ y.1 := by
          unfold ltP
          by_cases h : y.1 < x.1 ∨ y.1 = x.1 ∧ y.2 < x.2
          · rw [if_pos (decide_eq_true h)]; omega
          · rw [if_neg (by simpa using h)]; omega
        refine ⟨by omega, fun z hz => ?_⟩
        rcases List.mem_cons.mp hz with rfl | hz
        · omega
        · exact h2 z hz
    intro z hz
    rcases List.mem_cons.mp hz with rfl | hz
    · exact (aux xs z).1
    · exact (aux xs x).2 z hz
theorem minD_pairs (x : Int × Int) : ∀ xs : List (Int × Int), PySem.W.minD (encZ x) (xs.map encZ) = encZ (xs.foldl (fun a y => if ltP y a = true then y else a) x) := by
  intro xs
  unfold PySem.W.minD
  induction xs generalizing x with
  | nil => rfl
  | cons y xs ih =>
    rw [List.map_cons, List.foldl_cons, List.foldl_cons, ← ih]
    congr 1
    rw [show PySem.W.dataLt (encZ y) (encZ x) = ltP y x from PySem.W.dataLt_ii _ _ _ _]
    split <;> rfl
theorem prs_ne {f c : Int} {row : List Int} (hl : row.length = (posL f c).length) (h : ∃ x ∈ row, x ≠ -1) : prs f c row ≠ [] := fun z => by
  refine behind_ne (pos := 0) hl h ?_
  unfold behind
  unfold prs at z
  rw [z]; rfl
theorem prs_mem {f c : Int} {row : List Int} {z : Int × Int} : z ∈ prs f c row ↔ ∃ j : Nat, row[j]? = some z.1 ∧ (posL f c)[j]? = some z.2 ∧ z.1 ≠ -1 := by
  unfold prs
  rw [List.mem_filter]
  constructor
  · rintro ⟨h2, h3⟩
    obtain ⟨j, hj, e⟩ := List.mem_iff_getElem.mp h2
    rw [List.getElem_zip] at e
    rw [List.length_zip] at hj
    exact ⟨j, by rw [List.getElem?_eq_getElem (by omega)]; exact congrArg some (congrArg Prod.fst e), by rw [List.getElem?_eq_getElem (by omega)]; exact congrArg some (congrArg Prod.snd e), by simpa using h3⟩
  · rintro ⟨j, h1, h2, h3⟩
    exact ⟨List.mem_of_getElem? (i := j) (by rw [List.getElem?_zip_eq_some]; exact ⟨h1, h2⟩), by simpa using h3⟩
theorem stepB_mem {f c : Int} {row : List Int} {p v : Int} (h : ∃ z ∈ prs f c row, z.1 + absI (z.2 - p) = v) : stepB f c row p v ∈ prs f c row ∧ (stepB f c row p v).1 + absI ((stepB f c row p v).2 - p) = v ∧ (prs f c row).find? (fun z => decide (z.1 + absI (z.2 - p) = v)) = some (stepB f c row p v) := by
  unfold stepB
  obtain ⟨z, h1, h2⟩ := h
  cases e : (prs f c row).find? (fun z => decide (z.1 + absI (z.2 - p) = v)) with
  | none => exact absurd (decide_eq_true h2) (List.find?_eq_none.mp e z h1)
  | some y => exact ⟨List.mem_of_find?_eq_some e, by simpa using List.find?_some e, rfl⟩
section
variable {t : List Int} {f c reach : Int} {tu : List Int} {rows : List (List Int)}
/-- what a step back leaves to be found in the row ahead -/
theorem Tab.back (h : Tab t f c reach tu rows) {k : Nat} (hk : k + 1 < tu.length) {z : Int × Int} (hz : z ∈ prs f c (rowAt rows (k + 1))) : ∃ y ∈ prs f c (rowAt rows k), y.1 + absI (y.2 - z.2) = z.1 := by
  obtain ⟨j, h1, h2, h3⟩ := prs_mem.mp hz
  have e : tu[k + 1]? = some tu[k + 1] := List.getElem?_eq_getElem hk
  rw [h.rs k _ e] at h1
  have h4 := row_get h2 h1
  by_cases hc : canP t f c reach tu[k + 1] z.2 = true
  · rw [if_pos hc] at h4
    have h5 : z.1 = minOf (behind f c (rowAt rows k) z.2) := h4
    obtain ⟨m1, _⟩ := minOf_mem (behind_ne (pos := z.2) (h.right k (by omega)).l (h.ne k (by rw [h.l]; omega)))
    obtain ⟨i, x, q, e1, e2, e3, e4⟩ := behind_mem.mp m1
    exact ⟨(x, q), prs_mem.mpr ⟨i, e1, e2, e3⟩, by rw [h5, e4]⟩
  · rw [if_neg hc] at h4; exact absurd h4 h3
theorem Tab.last (h : Tab t f c reach tu rows) {m : Nat} (hm : tu.length = m + 1) : lastRow rows = rowAt rows m := by
  unfold lastRow
  rw [List.getLastD_eq_getLast?, rowAt_getLast (h.l.trans hm)]; rfl
/-- the least number is the least movement of all playings -/
theorem Tab.least (h : Tab t f c reach tu rows) (h1 : 1 ≤ tu.length) : (∃ s p, VS (posL f c) (canP t f c reach) tu s p (leastF f c rows)) ∧ ∀ s p m, VS (posL f c) (canP t f c reach) tu s p m → leastF f c rows ≤ m := by
  obtain ⟨m, hm⟩ : ∃ m, tu.length = m + 1 := ⟨tu.length - 1, by omega⟩
  have hR := h.right m (by omega)
  rw [List.take_of_length_le (by omega)] at hR
  have hne := prs_ne hR.l (h.ne m (by rw [h.l]; omega))
  unfold leastF
  rw [h.last hm]
  obtain ⟨h2, h3⟩ := minP_mem hne
  obtain ⟨j, e1, e2, e3⟩ := prs_mem.mp h2
  rcases hR.x j _ _ e2 e1 with ⟨z, _⟩ | ⟨_, ⟨s, hs⟩, _⟩
  · exact absurd z e3
  · refine ⟨⟨s, _, hs⟩, fun s' p m' hv => ?_⟩
    obtain ⟨i, hi, ei⟩ := List.mem_iff_getElem.mp hv.mem
    have hi2 : i < (rowAt rows m).length := by rw [hR.l]; exact hi
    have g1 : (rowAt rows m)[i]? = some (rowAt rows m)[i] := List.getElem?_eq_getElem hi2
    have g2 : (posL f c)[i]? = some p := by rw [List.getElem?_eq_getElem hi, ei]
    rcases hR.x i p _ g2 g1 with ⟨_, z⟩ | ⟨y0, _, z⟩
    · exact absurd hv (z _ _)
    · have h4 := h3 ((rowAt rows m)[i], p) (prs_mem.mpr ⟨i, g1, g2, by show (rowAt rows m)[i] ≠ -1; omega⟩)
      have h5 := z _ _ hv
      have h4 : (minP (prs f c (rowAt rows m))).1 ≤ (rowAt rows m)[i] := h4
      omega
end

theorem sc_played : FnScope ["neck", "tune", "reach", "known", "some", "least", "position", "number", "there", "found", "left", "at", "rows", "pair"] ["neck", "tune", "reach"] (defScope s_played) := ⟨rfl, rfl, rfl, by decide +kernel, rfl, by decide +kernel, by decide +kernel⟩
def z_playedN : Zn := fun ds kn => ∃ t f c tu reach, ds = [Nk t f c, Li tu, .int reach] ∧ OkN t f c ∧ OkT tu ∧ 0 ≤ reach ∧ reach ≤ 6 ∧ (tabF t f c reach [] tu = none → kn .none) ∧ (∀ rows, tabF t f c reach [] tu = some rows → kn (playF t f c reach tu rows))
theorem atI_rowD {rows : List (List Int)} {k : Nat} (h : k < rows.length) : atI (rows.map Li) ((k : Nat) : Int) = some (Li (rowAt rows k)) :=
  atI_nat (by rw [List.getElem?_map, List.getElem?_eq_getElem h]; unfold rowAt; rw [List.getD_eq_getElem?_getD, List.getElem?_eq_getElem h]; rfl)
theorem alike_Z (l : List (Int × Int)) : PySem.W.AlikeAll (l.map encZ) := ⟨fun x hx y hy => by
  obtain ⟨_, _, rfl⟩ := List.mem_map.mp hx
  obtain ⟨_, _, rfl⟩ := List.mem_map.mp hy
  simp [encZ, PySem.W.alike, PySem.W.alikeAll], fun x hx => by
  obtain ⟨_, _, rfl⟩ := List.mem_map.mp hx
  exact fun z => nomatch z⟩
theorem shD_Z (n : Nat) (l : List (Int × Int)) : ∀ d ∈ l.map encZ, shD (n + 1) d := fun d hd => by
  obtain ⟨_, _, rfl⟩ := List.mem_map.mp hd
  refine shD_tup fun x hx => ?_
  simp only [List.mem_cons, List.not_mem_nil, or_false] at hx
  rcases hx with rfl | rfl <;> exact shD_int n _
theorem bs_get {rows : List (List Int)} {tu : List Int} {i k : Nat} (hl : rows.length = tu.length) (hi : i < tu.length) (hk : k = tu.length - 1 - i) : (rows.zip tu).reverse[i]? = some (rowAt rows k, tu.getD k 0) := by
  have h1 : (rows.zip tu).length = tu.length := by rw [List.length_zip, hl]; exact Nat.min_self _
  rw [List.getElem?_reverse (by rw [h1]; exact hi), h1, ← hk, List.getElem?_zip_eq_some]
  have h2 : k < tu.length := by omega
  unfold rowAt
  exact ⟨by rw [List.getD_eq_getElem?_getD, List.getElem?_eq_getElem (by omega)]; rfl, by rw [getD_lt h2, List.getElem?_eq_getElem h2]⟩
theorem noL_back {t : List Int} {f c reach : Int} : ∀ (bs : List (List Int × Int)) (p v : Int) (d : PyData), d ∈ backF t f c reach bs p v → noL d = true
  | [], _, _, _, h => by rw [backF] at h; cases h
  | (row, n) :: bs, p, v, d, h => by
    rw [backF] at h
    rcases List.mem_cons.mp h with rfl | h
    · unfold trip
      split <;> simp [noL, noLs]
    · exact noL_back bs _ _ d h
theorem ok_played {k : Nat} {f : Addr} {fd : FuncData} (Fn : Fun K "played" "played" s_played f fd) (B : BT mg) (C : Cn mg) (k_need_neck : Kn P w K mg base CX0 "need_neck" k (spP z_need_neck)) (k_need_tune : Kn P w K mg base CX0 "need_tune" k (spP z_need_tune)) (k_need_reach : Kn P w K mg base CX0 "need_reach" k (spP z_need_reach)) (k_table_of : Kn P w K mg base CX0 "table_of" k (spN z_table_ofN)) (k_positions : Kn P w K mg base CX0 "positions" k (spP z_positions)) (k_place_in : Kn P w K mg base CX0 "place_in" k (spP z_place_in)) : FnOk P w K mg base CX0 (k + 1) f fd ["neck", "tune", "reach"] (spN z_playedN) := by
  refine fn_okN Fn sc_played (by rintro ds kn ⟨t, f, c, tu, reach, rfl, _⟩; rfl) (by decide) fun cdv A outer s H E Fm ds kn hr hF hz => ?_
  obtain ⟨t, f, c, tu, reach, rfl, ok, ot, r0, r6, q0, q1⟩ := hz
  have nd := sc_played.nd
  have pl := posL_len ok.f2 ok.c0 ok.cf
  have t1 := ot.l1
  have t30 := ot.l30
  -- need_neck(neck)
  refine db_cons (ds_expr (de_call k_need_neck hr wish0 ((ap_cons (ep_v 0) ap_nil).to ⟨t, f, c, rfl, ok, ?_⟩)))
  -- need_tune(tune)
  refine db_cons (ds_expr (de_call k_need_tune hr wish0 ((ap_cons (ep_v 1) ap_nil).to ⟨tu, rfl, ot, ?_⟩)))
  -- need_reach(reach)
  refine db_cons (ds_expr (de_call k_need_reach hr wish0 ((ap_cons (ep_v 2) ap_nil).to ⟨reach, rfl, r0, r6, ?_⟩)))
  cases e : tabF t f c reach [] tu with
  | none =>
    refine db_cons (ds_setP (d := .none) 3 nd (ep_callN k_table_of hr (ap_cons (ep_v 0) (ap_cons (ep_v 1) (ap_cons (ep_v 2) ap_nil))) ⟨t, f, c, tu, reach, rfl, ok, by omega, fun _ => ⟨rfl, rfl⟩, fun rows h => by rw [e] at h; cases h⟩) ?_)
    exact db_cons (ds_ifP (tp_isN (ep_v 3)) (fun h => db_one (ds_retP ep_non ⟨rfl, q0 e⟩)) (fun h => by cases h))
  | some rows =>
  have q := q1 rows e
  have T := tab_some tab_nil e
  rw [List.nil_append] at T
  have rl := T.l
  obtain ⟨m, hm⟩ : ∃ m, tu.length = m + 1 := ⟨tu.length - 1, by omega⟩
  have hlast : rows.getLast? = some (lastRow rows) := by rw [T.last hm, rowAt_getLast (rl.trans hm)]
  have hpl : ∀ k, k < tu.length → (rowAt rows k).length = (posL f c).length := fun k hk => (T.right k hk).l
  have hlr : (lastRow rows).length = (posL f c).length := by rw [T.last hm]; exact hpl m (by omega)
  have hne := prs_ne hlr (by rw [T.last hm]; exact T.ne m (by omega))
  -- known = table_of(neck, tune, reach)
  refine db_cons (ds_setP (d := .list (rows.map Li)) 3 nd (ep_callN k_table_of hr (ap_cons (ep_v 0) (ap_cons (ep_v 1) (ap_cons (ep_v 2) ap_nil))) ⟨t, f, c, tu, reach, rfl, ok, by omega, fun h => (by rw [e] at h; cases h), fun rows' h => by rw [e] at h; cases h; exact ⟨rfl, rfl⟩⟩) ?_)
  -- if known is None:
  refine db_cons (ds_ifP (tp_isN (ep_v 3)) (fun h => by cases h) (fun h => db_nil ?_))
  -- some = positions(neck)
  refine db_cons (ds_setP (d := Li (posL f c)) 4 nd (ep_call k_positions hr wish0 (ap_cons (ep_v 0) ap_nil) ⟨t, f, c, rfl, ok, rfl, rfl⟩) ?_)
  -- least, position = min([..])
  have hmin : ∃ x xs, prs f c (lastRow rows) = x :: xs := by
    cases h : prs f c (lastRow rows) with
    | nil => exact absurd h hne
    | cons x xs => exact ⟨x, xs, rfl⟩
  obtain ⟨x, xs, hx⟩ := hmin
  refine db_cons (ds_asg (dg_tup rfl (dgs_cons (dg_name 5 nd) (dgs_cons (dg_name 6 nd) dgs_nil))) (((ep_minD (d := encZ x) (ds := xs.map encZ) B rfl hr ((ep_o (do_lc [("number", 7), ("there", 8)] rfl nd (by decide) (fun _ _ _ _ _ => (dg_tup rfl (dgs_cons (dg_name 7 nd) (dgs_cons (dg_name 8 nd) dgs_nil)))) (di_zip B ((ep_ixL (ep_v 3) (ep_neg ep_int) (atI_lastRow hlast)).to ((ep_v 4).to ⟨_, _, .inl ⟨rfl, rfl⟩, (lcp2 7 8 (fun b => .int b.1) (fun b => .int b.2) ((lastRow rows).zip (posL f c)) (fun b => !decide (b.1 = -1)) encZ (zipD_pairs2 _ _) (small1000 (by rw [List.length_zip]; omega)) (fun b hb s H C' cl fp => ts_one ((tp_ne hr (ep_v 7) (ep_gi C.NEVER) (sh_int _) (sh_int _)).cast (congrArg (!·) (eqv_int _ _)))) (fun b hb hf s H C' cl fp => (ep_tup (ap_cons (ep_v 7) (ap_cons (ep_v 8) ap_nil)))) ⟨rfl, rfl⟩)⟩))) (blkOk_by rfl))).cast ?_) ?_ ?_).cast (minD_pairs x xs)).to ⟨_, rfl, rfl, _, _, rfl, _, _, rfl, rfl, ?_⟩))
  · have : prs f c (lastRow rows) = ((lastRow rows).zip (posL f c)).filter fun b => !decide (b.1 = -1) := rfl
    rw [← this, hx]; rfl
  · exact alike_Z (x :: xs)
  · exact Nat.le_trans (shD_all (n := 1) (shD_Z 0 (x :: xs))).2 (by decide)
  have hx2 : xs.foldl (fun a y => if ltP y a = true then y else a) x = minP (prs f c (lastRow rows)) := by rw [hx]; rfl
  rw [hx2]
  have hmm := (minP_mem hne).1
  unfold playF leastF at q
  generalize hmp : minP (prs f c (lastRow rows)) = mp at q hmm ⊢
  -- found = []
  refine db_cons (ds_setOP 9 nd (op_lst ap_nil) ?_)
  -- left = least
  refine db_cons (ds_setP 10 nd (ep_v 5) ?_)
  -- for at in reversed(range(len(tune))):
  refine db_mid (fun S => ∃ s6 s7 s8 s10 s11 s12, S = [.val (Nk t f c), .val (Li tu), .val (.int reach), .val (.list (rows.map Li)), .val (Li (posL f c)), .val (.int mp.1), s6, s7, s8, .own (backF t f c reach (rows.zip tu).reverse mp.2 mp.1), s10, s11, s12, .unk])
    (ds_for PassesOwn.never rfl (dg_name 11 nd) (di_revRg1 B ((ep_lenL B (ep_v 1)).to ⟨_, rfl, by rw [List.length_map]; omega, ⟨fun i S => ∃ s7 s8 s11 s12 fo pos left, S = [.val (Nk t f c), .val (Li tu), .val (.int reach), .val (.list (rows.map Li)), .val (Li (posL f c)), .val (.int mp.1), .val (.int pos), s7, s8, .own fo, .val (.int left), s11, s12, .unk] ∧ fo.length = i ∧ fo ++ backF t f c reach ((rows.zip tu).reverse.drop i) pos left = backF t f c reach (rows.zip tu).reverse mp.2 mp.1 ∧ ∀ k, k + 1 + i = tu.length → ∃ z ∈ prs f c (rowAt rows k), z.1 + absI (z.2 - pos) = left, ?_, fun i d Si hd hI => ?_, fun Sn hI => ?_⟩⟩))) ?_
  · refine ⟨_, _, _, _, [], mp.2, mp.1, rfl, rfl, rfl, fun k hk => ⟨mp, ?_, ?_⟩⟩
    · have : k = m := by omega
      subst this
      rw [← T.last hm]; exact hmm
    · rw [Int.sub_self, absI_0, Int.add_zero]
  · obtain ⟨s7, s8, s11, s12, fo, pos, left, rfl, fl, ef, hz⟩ := hI
    have hi : i < tu.length := by
      have := (List.getElem?_eq_some_iff.mp hd).1
      rwa [List.length_map, List.length_range, List.length_map, Int.toNat_natCast] at this
    obtain ⟨kk, hkk⟩ : ∃ kk, kk + 1 + i = tu.length := ⟨tu.length - 1 - i, by omega⟩
    have hkl : kk < tu.length := by omega
    have ed : d = .int ((kk : Nat) : Int) := by
      rw [List.getElem?_map, List.length_map, Int.toNat_natCast, List.getElem?_range (by omega)] at hd
      have this : PyData.int (((tu.length : Nat) : Int) - 1 - ((i : Nat) : Int)) = d := Option.some.inj hd
      rw [← this]
      congr 1
      omega
    subst ed
    obtain ⟨hs1, hs2, hs3⟩ := stepB_mem (hz kk hkk)
    have hbs : (rows.zip tu).reverse.drop i = (rowAt rows kk, tu.getD kk 0) :: (rows.zip tu).reverse.drop (i + 1) := by
      have h1 := bs_get rl hi (k := kk) (by omega)
      rw [List.drop_eq_getElem_cons (List.getElem?_eq_some_iff.mp h1).1]
      congr 1
      exact (List.getElem?_eq_some_iff.mp h1).2
    rw [hbs, backF] at ef
    -- rows = ..
    refine db_cons (ds_setLc 12 [("number", 7), ("there", 8)] rfl nd (by decide) (fun _ _ _ _ _ => (dg_tup rfl (dgs_cons (dg_name 7 nd) (dgs_cons (dg_name 8 nd) dgs_nil)))) (di_zip B ((ep_ixL (ep_v 3) (ep_v 11) (atI_rowD (by omega))).to ((ep_v 4).to ⟨_, _, .inl ⟨rfl, rfl⟩, (lcp2 7 8 (fun b => .int b.1) (fun b => .int b.2) ((rowAt rows kk).zip (posL f c)) (fun b => !decide (b.1 = -1)) encZ (zipD_pairs2 _ _) (small1000 (by rw [List.length_zip]; omega)) (fun b hb s H C' cl fp => ts_one ((tp_ne hr (ep_v 7) (ep_gi C.NEVER) (sh_int _) (sh_int _)).cast (congrArg (!·) (eqv_int _ _)))) (fun b hb hf s H C' cl fp => (ep_tup (ap_cons (ep_v 7) (ap_cons (ep_v 8) ap_nil)))) ?_)⟩))) (blkOk_by rfl) (sw_true rfl rfl rfl (by decide +kernel)))
    rw [show ((rowAt rows kk).zip (posL f c)).filter (fun b => !decide (b.1 = -1)) = prs f c (rowAt rows kk) from rfl]
    refine db_freeze 12 rfl ?_
    have hpr : (prs f c (rowAt rows kk)).length ≤ 20 := by
      unfold prs
      refine Nat.le_trans (List.length_filter_le _ _) ?_
      rw [List.length_zip]; omega
    generalize hsb : stepB f c (rowAt rows kk) pos left = z at hs1 hs2 hs3 ef
    -- number, position = [..][0]
    refine db_cons (ds_asg (dg_tup rfl (dgs_cons (dg_name 7 nd) (dgs_cons (dg_name 6 nd) dgs_nil))) ((ep_ixL (d := encZ z) (ep_o (do_lc [("pair", 13)] rfl nd (by decide) (fun _ _ _ _ _ => (dg_name 13 nd)) (di_list ((ep_v 12).to ⟨_, rfl, (lcp 13 encZ (prs f c (rowAt rows kk)) (fun y => decide (y.1 + absI (y.2 - pos) = left)) encZ rfl (small1000 (by omega)) (fun b hb s H C' cl fp => ts_one ((tp_eq hr (ep_add (ep_ixT (d := .int b.1) (ep_v 13) ep_int rfl) (ep_abs B (ep_sub (ep_ixT (d := .int b.2) (ep_v 13) ep_int rfl) (ep_v 6)))) (ep_v 10) (sh_int _) (sh_int _)).cast (eqv_int _ _))) (fun b hb hf s H C' cl fp => (ep_v 13)) ⟨rfl, rfl⟩)⟩)) (blkOk_by rfl))) ep_int ?_).to ⟨_, rfl, rfl, _, _, rfl, _, _, rfl, rfl, ?_⟩))
    · have hh : ((prs f c (rowAt rows kk)).filter fun y => decide (y.1 + absI (y.2 - pos) = left)).head? = some z := by rw [List.head?_filter]; exact hs3
      cases hl : (prs f c (rowAt rows kk)).filter fun y => decide (y.1 + absI (y.2 - pos) = left) with
      | nil => rw [hl] at hh; cases hh
      | cons y ys =>
        rw [hl] at hh
        cases hh
        exact atI_cons0
    -- left = number
    refine db_cons (ds_setP 10 nd (ep_v 7) ?_)
    -- found.append(place_in(..) + (position,))
    have hcan : canP t f c reach (tu.getD kk 0) z.2 = true := by
      obtain ⟨j, g1, g2, g3⟩ := prs_mem.mp hs1
      have gn : tu[kk]? = some (tu.getD kk 0) := by rw [getD_lt hkl]; exact List.getElem?_eq_getElem hkl
      cases hc : canP t f c reach (tu.getD kk 0) z.2 with
      | true => rfl
      | false =>
        exfalso
        cases kk with
        | zero =>
          rw [T.r0 _ gn] at g1
          have := row_get g2 g1
          rw [if_neg (by rw [hc]; decide)] at this
          exact g3 this
        | succ kk =>
          rw [T.rs kk _ gn] at g1
          have := row_get g2 g1
          rw [if_neg (by rw [hc]; decide)] at this
          exact g3 this
    obtain ⟨b, hb⟩ := Option.isSome_iff_exists.mp hcan
    refine db_one (ds_append 9 ⟨_, rfl⟩ ((ep_addT (xs := [.int (0 + (b : Nat)), .int (tu.getD kk 0 - t.getD b 0)]) (ep_call k_place_in hr wish0 (ap_cons (ep_v 0) (ap_cons (ep_ixL (d := .int (tu.getD kk 0)) (ep_v 1) (ep_v 11) (atI_ints hkl)) (ap_cons (ep_v 2) (ap_cons (ep_v 6) ap_nil)))) ⟨t, f, c, tu.getD kk 0, reach, z.2, rfl, ok.l2, by rw [hb]; rfl, rfl⟩) (ep_tup (ap_cons (ep_v 6) ap_nil)) (by show 3 ≤ sizeLine; decide)).to ⟨_, rfl, by rw [fl]; exact small1000 (by omega), _, _, _, _, fo ++ [trip t f c reach (tu.getD kk 0) z.2], z.2, z.1, by unfold trip; rw [hb]; rfl, by rw [List.length_append, fl]; rfl, by rw [← ef, List.append_assoc]; rfl, fun k2 hk2 => ?_⟩))
    have e2 : kk = k2 + 1 := by omega
    subst e2
    exact T.back (by omega) hs1
  · obtain ⟨s7, s8, s11, s12, fo, pos, left, rfl, fl, ef, hz⟩ := hI
    rw [List.length_map, List.length_range, List.length_map, Int.toNat_natCast, List.drop_of_length_le (by rw [List.length_reverse, List.length_zip]; omega), backF, List.append_nil] at ef
    exact ⟨_, _, _, _, _, _, by rw [ef]⟩
  rintro S ⟨s6, s7, s8, s10, s11, s12, rfl⟩
  -- return (least, found[::-1])
  exact db_freeze 9 rfl (db_cons (ds_retR (dn_tup (dns_cons (dn_p (ep_v 5) (by simp [noL]) (dns_cons (dn_o ((op_revL (ep_v 9)).to ⟨noLs_of fun d hd => noL_back _ _ _ _ (List.mem_reverse.mp hd), dns_nil ⟨by show 2 ≤ sizeLine; decide, q⟩⟩))))))))

theorem sc_table : FnScope ["neck", "tune", "reach"] ["neck", "tune", "reach"] (defScope s_table) := ⟨rfl, rfl, rfl, by decide +kernel, rfl, by decide +kernel, by decide +kernel⟩
def z_tableN : Zn := fun ds kn => ∃ t f c tu reach, ds = [Nk t f c, Li tu, .int reach] ∧ OkN t f c ∧ OkT tu ∧ 0 ≤ reach ∧ reach ≤ 6 ∧ (tabF t f c reach [] tu = none → kn .none) ∧ (∀ rows, tabF t f c reach [] tu = some rows → kn (.list (rows.map Li)))
theorem ok_table {k : Nat} {f : Addr} {fd : FuncData} (Fn : Fun K "table" "table" s_table f fd) (k_need_neck : Kn P w K mg base CX0 "need_neck" k (spP z_need_neck)) (k_need_tune : Kn P w K mg base CX0 "need_tune" k (spP z_need_tune)) (k_need_reach : Kn P w K mg base CX0 "need_reach" k (spP z_need_reach)) (k_table_of : Kn P w K mg base CX0 "table_of" k (spN z_table_ofN)) : FnOk P w K mg base CX0 (k + 1) f fd ["neck", "tune", "reach"] (spN z_tableN) := by
  refine fn_okN Fn sc_table (by rintro ds kn ⟨t, f, c, tu, reach, rfl, _⟩; rfl) (by decide) fun cdv A outer s H E Fm ds kn hr hF hz => ?_
  obtain ⟨t, f, c, tu, reach, rfl, ok, ot, r0, r6, q0, q1⟩ := hz
  have t30 := ot.l30
  refine db_cons (ds_expr (de_call k_need_neck hr wish0 ((ap_cons (ep_v 0) ap_nil).to ⟨t, f, c, rfl, ok, ?_⟩)))
  refine db_cons (ds_expr (de_call k_need_tune hr wish0 ((ap_cons (ep_v 1) ap_nil).to ⟨tu, rfl, ot, ?_⟩)))
  refine db_cons (ds_expr (de_call k_need_reach hr wish0 ((ap_cons (ep_v 2) ap_nil).to ⟨reach, rfl, r0, r6, ?_⟩)))
  exact db_cons (ds_retR (dn_call k_table_of hr ((ap_cons (ep_v 0) (ap_cons (ep_v 1) (ap_cons (ep_v 2) ap_nil))).to ⟨t, f, c, tu, reach, rfl, ok, by omega, q0, q1⟩)))

theorem sc__law_positions : FnScope ["_law_neck_here"] ["_law_neck_here"] (defScope s__law_positions) := ⟨rfl, rfl, rfl, by decide +kernel, rfl, by decide +kernel, by decide +kernel⟩
theorem ok__law_positions {k : Nat} {f : Addr} {fd : FuncData} (Fn : Fun K "_law_positions" "_law_positions" s__law_positions f fd) (B : BT mg) : FnOk P w K mg base CX0 (k + 1) f fd ["_law_neck_here"] (spP z_positions) := by
  refine fn_ok Fn sc__law_positions (by rintro ds kt ko ke ⟨t, f, c, rfl, _⟩; rfl) (by decide) fun cdv A outer s H E Fm ds kt ko ke hr hF hz => ?_
  obtain ⟨t, f, c, rfl, ok, q⟩ := hz
  have c0 := ok.c0
  have cf := ok.cf
  have f2 := ok.f2
  refine db_cons (ds_retOP (op_listRg2 B rfl (ep_add (ep_ixT (ep_v 0) ep_int rfl) ep_int) (ep_add (ep_max2 B rfl (ap_cons (ep_ixT (ep_v 0) ep_int rfl) (ap_cons (ep_add (ep_ixT (ep_v 0) ep_int rfl) ep_int) ap_nil))) ep_int) ?_) ?_)
  · refine .of_le (by omega) ?_ (by omega) ?_ <;> (split <;> omega)
  · rw [rgD_toInts]; exact q

theorem sc__law_plays : FnScope ["_law_neck_here", "_law_note", "_law_reach", "_law_place", "_law_string", "_law_position"] ["_law_neck_here", "_law_note", "_law_reach", "_law_place", "_law_string", "_law_position"] (defScope s__law_plays) := ⟨rfl, rfl, rfl, by decide +kernel, rfl, by decide +kernel, by decide +kernel⟩
/-- whether a place of a string plays a note in a position -/
def playsB (t : List Int) (f c n reach pl : Int) (b : Nat) (pos : Int) : Bool := ((decide (c ≤ pl) && decide (pl ≤ f)) && decide (t.getD b 0 + pl = n)) && (decide (pl = c) || (decide (pos ≤ pl) && decide (pl ≤ pos + reach)))
def z__law_plays : Zp := fun ds kt _ _ => ∃ t f c n reach pl, ∃ b : Nat, ∃ pos, ds = [Nk t f c, .int n, .int reach, .int pl, .int b, .int pos] ∧ b < t.length ∧ kt (.bool (playsB t f c n reach pl b pos))
theorem ok__law_plays {k : Nat} {f : Addr} {fd : FuncData} (Fn : Fun K "_law_plays" "_law_plays" s__law_plays f fd) : FnOk P w K mg base CX0 (k + 1) f fd ["_law_neck_here", "_law_note", "_law_reach", "_law_place", "_law_string", "_law_position"] (spP z__law_plays) := by
  refine fn_ok Fn sc__law_plays (by rintro ds kt ko ke ⟨t, f, c, n, reach, pl, b, pos, rfl, _⟩; rfl) (by decide) fun cdv A outer s H E Fm ds kt ko ke hr hF hz => ?_
  obtain ⟨t, f, c, n, reach, pl, b, pos, rfl, hb, q⟩ := hz
  unfold playsB at q
  refine db_cons (ds_ifP (x := !((decide (c ≤ pl) && decide (pl ≤ f)) && decide (t.getD b 0 + pl = n))) ((tp_w (wp_or (tp_not (tp_ch2 .le .le (ep_ixT (ep_v 0) ep_int rfl) (ep_v 3) (ep_ixT (ep_v 0) ep_int rfl))) fun h => (wp_or1 ((tp_ne hr (ep_add (ep_ixT (ep_ixT (ep_v 0) ep_int rfl) (ep_v 4) (atI_ints hb)) (ep_v 3)) (ep_v 1) (sh_int _) (sh_int _)).cast (congrArg (!·) (eqv_int _ _)))))).cast ?_) (fun h => ?_) (fun h => db_nil ?_))
  · show (!_ || !decide _) = _
    rw [← Bool.not_and]
  · rw [Bool.not_eq_true'] at h
    rw [h, Bool.false_and] at q
    exact db_one (ds_retP ep_bl q)
  · rw [Bool.not_eq_false'] at h
    rw [h, Bool.true_and] at q
    exact db_cons (ds_retP ((ep_or ((ep_eq hr (ep_v 3) (ep_ixT (ep_v 0) ep_int rfl) (sh_int _) (sh_int _)).cast (congrArg PyData.bool (eqv_int _ _))) fun h => (ep_one (ep_ch2 .le .le (ep_v 5) (ep_v 3) (ep_add (ep_v 5) (ep_v 2)))))) q)

theorem sc__law_can : FnScope ["_law_neck_here", "_law_note", "_law_reach", "_law_position", "_law_string"] ["_law_neck_here", "_law_note", "_law_reach", "_law_position"] (defScope s__law_can) := ⟨rfl, rfl, rfl, by decide +kernel, rfl, by decide +kernel, by decide +kernel⟩
def z__law_can : Zp := fun ds kt _ _ => ∃ t f c n reach pos, ds = [Nk t f c, .int n, .int reach, .int pos] ∧ t.length ≤ 6 ∧ kt (.bool (canP t f c reach n pos))
theorem canP_iff {t : List Int} {f c reach n pos : Int} : canP t f c reach n pos = true ↔ ∃ b, b < t.length ∧ playsB t f c n reach (n - t.getD b 0) b pos = true := by
  unfold canP plS
  rw [List.find?_isSome]
  unfold strsOf playsB
  constructor
  · rintro ⟨b, hb, h⟩
    obtain ⟨h1, h2⟩ := List.mem_filter.mp hb
    refine ⟨b, List.mem_range.mp h1, ?_⟩
    have e : t.getD b 0 + (n - t.getD b 0) = n := by omega
    rw [h2, e, decide_eq_true rfl, Bool.true_and, Bool.true_and]; exact h
  · rintro ⟨b, hb, h⟩
    have h := Bool.and_eq_true_iff.mp h
    have h1 := Bool.and_eq_true_iff.mp h.1
    exact ⟨b, List.mem_filter.mpr ⟨List.mem_range.mpr hb, h1.1⟩, h.2⟩
theorem ok__law_can {k : Nat} {f : Addr} {fd : FuncData} (Fn : Fun K "_law_can" "_law_can" s__law_can f fd) (B : BT mg) (k__law_plays : Kn P w K mg base CX0 "_law_plays" k (spP z__law_plays)) : FnOk P w K mg base CX0 (k + 1) f fd ["_law_neck_here", "_law_note", "_law_reach", "_law_position"] (spP z__law_can) := by
  refine fn_ok Fn sc__law_can (by rintro ds kt ko ke ⟨t, f, c, n, reach, pos, rfl, _⟩; rfl) (by decide) fun cdv A outer s H E Fm ds kt ko ke hr hF hz => ?_
  obtain ⟨t, f, c, n, reach, pos, rfl, l6, q⟩ := hz
  have nd := sc__law_can.nd
  -- for _law_string in range(len(_law_neck_here[0])):
  refine db_mid (fun _ => canP t f c reach n pos = false) (ds_for PassesOwn.never rfl (dg_name 4 nd) (di_range1 B.range (da_cons ((ep_lenT B (ep_ixT (ep_v 0) ep_int rfl)).to (da_nil ⟨_, rfl, by rw [List.length_map]; omega, ⟨fun i S => (∃ s4, S = [.val (Nk t f c), .val (.int n), .val (.int reach), .val (.int pos), s4]) ∧ ∀ b, b < i → playsB t f c n reach (n - t.getD b 0) b pos = false, ⟨⟨_, rfl⟩, fun b h => absurd h (Nat.not_lt_zero _)⟩, fun i d Si hd hI => ?_, fun Sn hI => ?_⟩⟩))))) ?_
  · obtain ⟨⟨s4, rfl⟩, hno⟩ := hI
    have hi := (List.getElem?_eq_some_iff.mp hd).1
    have hg := rgD_get (lo := 0) hi
    rw [rgD_length, List.length_map] at hi
    have ed : d = .int ((i : Nat) : Int) := by
      rw [rgD_length] at hg
      have := hd.symm.trans (rgD_get (lo := 0) (n := (((t.map PyData.int).length : Nat) : Int).toNat) (by rw [List.length_map]; exact hi))
      rw [Option.some.inj this, Int.zero_add]
    subst ed
    have hit : i < t.length := by omega
    -- if _law_plays(..):
    refine db_one (ds_ifP (tp_val (by intro _; rfl) (ep_call (d := .bool (playsB t f c n reach (n - t.getD i 0) i pos)) k__law_plays hr wish0 (ap_cons (ep_v 0) (ap_cons (ep_v 1) (ap_cons (ep_v 2) (ap_cons (ep_sub (ep_v 1) (ep_ixT (ep_ixT (ep_v 0) ep_int rfl) (ep_v 4) (atI_ints hit))) (ap_cons (ep_v 4) (ap_cons (ep_v 3) ap_nil)))))) ⟨t, f, c, n, reach, _, i, pos, rfl, hit, rfl, rfl⟩)) (fun h => ?_) (fun h => db_nil ⟨⟨_, rfl⟩, fun b hb => ?_⟩))
    · refine db_one (ds_retP ep_bl ?_)
      rw [canP_iff.mpr ⟨i, hit, h⟩] at q; exact q
    · by_cases e : b = i
      · subst e; exact h
      · exact hno b (by omega)
  · obtain ⟨_, hno⟩ := hI
    rw [rgD_length, List.length_map, Int.toNat_natCast] at hno
    cases hc : canP t f c reach n pos with
    | false => rfl
    | true =>
      obtain ⟨b, hb, h⟩ := canP_iff.mp hc
      rw [hno b hb] at h; cases h
  intro S hc
  refine db_cons (ds_retP ep_bl ?_)
  rw [hc] at q; exact q

theorem sc__law_tune : FnScope ["_law_row", "_law_neck_here", "_law_most", "_law_found", "_law_k", "_law_string", "_law_place", "_law_note"] ["_law_row", "_law_neck_here", "_law_most"] (defScope s__law_tune) := ⟨rfl, rfl, rfl, by decide +kernel, rfl, by decide +kernel, by decide +kernel⟩
def z__law_tune : Zp := fun ds _ ko _ => ∃ t f c, ∃ most : Int, ds = [Nk t f c, .int most] ∧ OkN t f c ∧ 1 ≤ most ∧ most ≤ 30 ∧ ∀ tu, OkT tu → (tu.length : Int) ≤ most → ko (tu.map .int)
theorem ixN_neg {n k : Nat} (h1 : 1 ≤ k) (h2 : k ≤ n) : ixN n (-(k : Int)) = some (n - k) := by
  unfold ixN
  rw [if_neg (by omega), if_pos (by omega)]
  congr 1
  omega
theorem atI_neg {ns : List Int} {k : Nat} (h1 : 1 ≤ k) (h2 : k ≤ ns.length) : atI (ns.map PyData.int) (-(k : Int)) = some (.int (ns.getD (ns.length - k) 0)) := by
  have hlt : ns.length - k < ns.length := by omega
  unfold atI
  rw [List.length_map, ixN_neg h1 h2]
  show (ns.map PyData.int)[ns.length - k]? = _
  rw [List.getElem?_map, List.getElem?_eq_getElem hlt, getD_lt hlt]; rfl
theorem mem_setI {l : List Int} {i : Nat} {v : Int} (h : ∀ x ∈ l, 0 ≤ x) (hv : 0 ≤ v) : ∀ x ∈ l.set i v, 0 ≤ x := fun x hx => (List.mem_or_eq_of_mem_set hx).elim (h x) fun e => e ▸ hv
theorem set_mapI (l : List Int) (i : Nat) (v : Int) : (l.map PyData.int).set i (.int v) = (l.set i v).map .int := List.map_set.symm
theorem ok__law_tune {k : Nat} {f : Addr} {fd : FuncData} (Fn : Fun K "_law_tune" "_law_tune" s__law_tune f fd) (B : BT mg) (k__law_taken : Kn P w K mg base CX0 "_law_taken" k (spR K z_taken)) : FnOk P w K mg base CX0 (k + 1) f fd ["_law_row", "_law_neck_here", "_law_most"] (spR K z__law_tune) := by
  refine fn_okR Fn sc__law_tune (by rintro ds kt ko ke ⟨t, f, c, m, rfl, _⟩; rfl) (by decide) fun cdv A outer s H E Fm ds kt ko hr hz => ?_
  obtain ⟨t, f, c, most, rfl, ok, m1, m30, q⟩ := hz
  have nd := sc__law_tune.nd
  have l1 := ok.l1
  have l6 := ok.l2
  have c0 := ok.c0
  have cf := ok.cf
  have f2 := ok.f2
  -- _law_found = []
  refine db_cons (ds_setOP 3 nd (op_lst ap_nil) ?_)
  -- for _law_k in range(1 + _law_taken(_law_row, _law_most)):
  refine db_mid (fun S => ∃ (fo : List Int) (s4 s5 s6 : Sl), S = [.row, .val (Nk t f c), .val (.int most), .own (fo.map .int), s4, s5, s6, .unk] ∧ 1 ≤ fo.length ∧ (fo.length : Int) ≤ most ∧ ∀ x ∈ fo, 0 ≤ x) (ds_for PassesOwn.never rfl (dg_name 4 nd) (di_range1 B.range (da_cons (de_add (ep_int.to (de_takeP 0 k__law_taken hr (ep_v 2) ⟨by omega, by omega⟩ fun r1 a1 b1 => (i2 (da_nil ⟨_, rfl, ⟨by omega, by omega⟩, ⟨fun i S => ∃ (fo : List Int) (s4 s5 s6 : Sl), S = [.row, .val (Nk t f c), .val (.int most), .own (fo.map .int), s4, s5, s6, .unk] ∧ fo.length = i ∧ ∀ x ∈ fo, 0 ≤ x, ⟨[], _, _, _, rfl, rfl, fun _ h => nomatch h⟩, fun i d Si hd hI => ?_, fun Sn hI => ?_⟩⟩)))))))) ?_
  · obtain ⟨fo, s4, s5, s6, rfl, fl, fn⟩ := hI
    have hi := (List.getElem?_eq_some_iff.mp hd).1
    rw [rgD_length] at hi
    -- _law_string = _law_taken(_law_row, len(_law_neck_here[0]))
    refine db_cons (ds_set 5 nd (de_takeP 0 k__law_taken hr (ep_lenT B (ep_ixT (ep_v 1) ep_int rfl)) (by rw [List.length_map]; exact ⟨by omega, by omega⟩) fun r2 a2 b2 => ?_))
    rw [List.length_map] at b2
    -- _law_place = ..
    refine db_cons (ds_set 6 nd (de_add ((ep_ixT (ep_v 1) ep_int rfl).to (de_takeP 0 k__law_taken hr (ep_add (ep_sub (ep_ixT (ep_v 1) ep_int rfl) (ep_ixT (ep_v 1) ep_int rfl)) ep_int) ⟨by omega, by omega⟩ fun r3 a3 b3 => (i2 ?_)))))
    -- _law_found.append(..)
    have hr2 : r2 = ((r2.toNat : Nat) : Int) := by omega
    have hat : atI (t.map PyData.int) r2 = some (.int (t.getD r2.toNat 0)) := by
      conv => lhs; rw [hr2]
      exact atI_ints (by omega)
    have hn := ok.n _ (getD_mem (show r2.toNat < t.length by omega))
    refine db_cons (ds_append 3 ⟨_, rfl⟩ ((ep_add (ep_ixT (ep_ixT (ep_v 1) ep_int rfl) (ep_v 5) hat) (ep_v 6)).to ⟨_, rfl, by rw [List.length_map, fl]; exact small1000 (by omega), ?_⟩))
    have e1 : fo.map PyData.int ++ [.int (t.getD r2.toNat 0 + (c + r3))] = (fo ++ [t.getD r2.toNat 0 + (c + r3)]).map .int := by rw [List.map_append]; rfl
    have gn : ∀ x ∈ fo ++ [t.getD r2.toNat 0 + (c + r3)], 0 ≤ x := fun x hx => by
      rcases List.mem_append.mp hx with hx | hx
      · exact fn x hx
      · rw [List.mem_singleton.mp hx]; omega
    have gl : (fo ++ [t.getD r2.toNat 0 + (c + r3)]).length = i + 1 := by rw [List.length_append, fl]; rfl
    rw [e1]
    generalize fo ++ [t.getD r2.toNat 0 + (c + r3)] = go at gn gl ⊢
    -- if _law_found[:-1] != [] and _law_taken(_law_row, 3) == 2:
    have ecut : FW.cutD (go.map PyData.int) none (some (-1)) = (go.take i).map .int := by
      unfold FW.cutD HT.sIx
      simp only [List.drop_zero, Nat.sub_zero]
      rw [if_pos (by decide), List.length_map, gl, List.map_take]
      congr 1
      omega
    refine db_one (ds_if (dt_bw (dw_and (((tp_ne hr (ep_o (op_slO 3 rfl pp_none (pp_some (ep_neg ep_int)))) (ep_o (op_lst ap_nil)) (by rw [ecut]; exact sh_lints _) sh_nil).cast (y := !((go.take i).map PyData.int).isEmpty) (by rw [eqv_nilL, ecut])).to ⟨fun h => ⟨(fun z => nomatch z), fun _ => db_nil ⟨go, _, _, _, rfl, gl, gn⟩⟩, fun h1 => (dw_and1 (dt_eq hr (de_takeP 0 k__law_taken hr ep_int ⟨by decide, by decide⟩ fun r4 a4 b4 => (ep_int.to ⟨sh_int _, sh_int _, ⟨fun h => ?_, fun h => db_nil ⟨go, _, _, _, rfl, gl, gn⟩⟩⟩))))⟩))))
    have hi1 : 1 ≤ i := by
      cases i with
      | zero => rw [List.take_zero] at h1; cases h1
      | succ i => omega
    -- _law_found[-1] = max(0, _law_found[-2] + _law_taken(_law_row, 7) - 3)
    refine db_one (ds_setix 3 ⟨_, rfl⟩ (de_max2 B rfl (da_cons (ep_int.to (da_cons (de_sub (de_add ((ep_ixO (ds := go.map .int) 3 (ep_neg ep_int) (atI_neg (ns := go) (k := 2) (by decide) (by omega))).to (de_takeP 0 k__law_taken hr ep_int ⟨by decide, by decide⟩ fun r5 a5 b5 => (i2 (ep_int.to (i2 (da_nil ⟨_, _, rfl, ⟨⟨_, rfl⟩, ((ep_neg ep_int).to ⟨_, _, _, rfl, rfl, by rw [List.length_map]; exact ixN_neg (k := 1) (by decide) (by omega), go.set (go.length - 1) _, _, _, _, by rw [set_mapI]; rfl, by rw [List.length_set]; exact gl, mem_setI gn (by split <;> omega)⟩)⟩⟩)))))))))))))
  · obtain ⟨fo, s4, s5, s6, rfl, fl, fn⟩ := hI
    rw [rgD_length] at fl
    exact ⟨fo, s4, s5, s6, rfl, by omega, by omega, fn⟩
  rintro S ⟨fo, s4, s5, s6, rfl, f1, fm, fn⟩
  -- if _law_taken(_law_row, 12) == 11:
  refine db_mid (fun S => ∃ (fo : List Int) (s4 s5 s6 : Sl), S = [.row, .val (Nk t f c), .val (.int most), .own (fo.map .int), s4, s5, s6, .unk] ∧ 1 ≤ fo.length ∧ (fo.length : Int) ≤ most ∧ ∀ x ∈ fo, 0 ≤ x) (ds_if (dt_eq hr (de_takeP 0 k__law_taken hr ep_int ⟨by decide, by decide⟩ fun r6 a6 b6 => (ep_int.to ⟨sh_int _, sh_int _, ⟨fun h => ?_, fun h => db_nil ⟨fo, _, _, _, rfl, f1, fm, fn⟩⟩⟩)))) ?_
  · refine db_one (ds_setix 3 ⟨_, rfl⟩ (de_takeP 0 k__law_taken hr ep_int ⟨by decide, by decide⟩ fun r8 a8 b8 => ⟨⟨_, rfl⟩, (de_take 0 k__law_taken hr (de_lenO 3 B rfl ⟨_, rfl, by rw [List.length_map]; omega, rfl, fun r7 a7 b7 => ⟨_, _, r7.toNat, rfl, rfl, ?_, fo.set r7.toNat r8, _, _, _, by rw [set_mapI]; rfl, by rw [List.length_set]; exact f1, by rw [List.length_set]; exact fm, mem_setI fn a8⟩⟩))⟩))
    rw [List.length_map] at b7 ⊢
    unfold ixN
    rw [if_pos a7, if_pos b7]
  rintro S ⟨fo, s4, s5, s6, rfl, f1, fm, fn⟩
  -- return [min(80, _law_note) for _law_note in _law_found]
  refine db_freeze 3 rfl (db_cons (ds_retO (do_lc [("_law_note", 7)] rfl nd (by decide) (fun _ _ _ _ _ => (dg_name 7 nd)) (di_list ((ep_v 3).to ⟨_, rfl, (lcp 7 (fun b => .int b) fo (fun _ => true) (fun b => .int (if b < 80 then b else 80)) rfl (small1000 (by omega)) (fun b hb s H C cl fp => ts_nil) (fun b hb hf s H C cl fp => (ep_min2 B rfl (ap_cons ep_int (ap_cons (ep_v 7) ap_nil)))) ⟨rfl, ?_⟩)⟩)) (blkOk_by rfl))))
  rw [filter_true, show fo.map (fun b => PyData.int (if b < 80 then b else 80)) = (fo.map fun b => if b < 80 then b else 80).map .int from by rw [List.map_map]; rfl]
  refine q _ ⟨by rw [List.length_map]; exact f1, by rw [List.length_map]; omega, fun x hx => ?_⟩ (by rw [List.length_map]; exact fm)
  obtain ⟨y, hy, rfl⟩ := List.mem_map.mp hx
  have := fn y hy
  split <;> omega

/-! ### trying all, plainly -/
theorem flat_len2 {α β : Type} (f : α → List β) (m : Nat) (h : ∀ a, (f a).length ≤ m) : ∀ l : List α, (l.flatMap f).length ≤ l.length * m
  | [] => by simp
  | a :: l => by
    rw [List.flatMap_cons, List.length_append, List.length_cons, Nat.succ_mul]
    have := flat_len2 f m h l
    have := h a
    omega
section
variable {ps : List Int} {can : Int → Int → Bool}
def extS (ps : List Int) (can : Int → Int → Bool) (n : Int) (s : List Int) : List (List Int) := (ps.filter fun p => can n p).map fun p => s ++ [p]
def stepS (ps : List Int) (can : Int → Int → Bool) (sm : List (List Int)) (n : Int) : List (List Int) := sm.flatMap (extS ps can n)
def allS (ps : List Int) (can : Int → Int → Bool) (tu : List Int) : List (List Int) := tu.foldl (stepS ps can) [[]]
/-- how much a row of positions moves -/
def mvI : List Int → Int
  | [] => 0
  | [_] => 0
  | a :: b :: r => absI (b - a) + mvI (b :: r)
theorem absI_sub (a b : Int) : absI (a - b) = absI (b - a) := by unfold absI; split <;> split <;> omega
theorem mvI_snoc : ∀ (s : List Int) (q p : Int), mvI (s ++ [q] ++ [p]) = mvI (s ++ [q]) + absI (q - p)
  | [], q, p => by show absI (p - q) + 0 = 0 + absI (q - p); rw [absI_sub]; omega
  | [a], q, p => by show absI (q - a) + (absI (p - q) + 0) = absI (q - a) + 0 + absI (q - p); rw [absI_sub p q]; omega
  | a :: b :: r, q, p => by
    have ih := mvI_snoc (b :: r) q p
    show absI (b - a) + mvI ((b :: r) ++ [q] ++ [p]) = absI (b - a) + mvI ((b :: r) ++ [q]) + absI (q - p)
    rw [ih]; omega
theorem VS.last {tu s : List Int} {p m : Int} (h : VS ps can tu s p m) : ∃ s0, s = s0 ++ [p] ∧ m = mvI s := by
  induction h with
  | one => exact ⟨[], rfl, rfl⟩
  | snoc _ _ _ ih =>
    obtain ⟨s0, rfl, hm⟩ := ih
    exact ⟨_, rfl, by rw [mvI_snoc, hm]⟩
theorem stepS_mem {tu : List Int} {n : Int} {sm : List (List Int)} (htu : tu ≠ []) (h : ∀ s, s ∈ sm ↔ ∃ p m, VS ps can tu s p m) (s' : List Int) : s' ∈ stepS ps can sm n ↔ ∃ p m, VS ps can (tu ++ [n]) s' p m := by
  unfold stepS extS
  rw [List.mem_flatMap]
  constructor
  · rintro ⟨s, hs, h2⟩
    obtain ⟨p, hp, rfl⟩ := List.mem_map.mp h2
    obtain ⟨q, m, hv⟩ := (h s).mp hs
    obtain ⟨h3, h4⟩ := List.mem_filter.mp hp
    exact ⟨p, _, .snoc hv h3 h4⟩
  · rintro ⟨p, m, hv⟩
    obtain ⟨h1, h2, h3⟩ := hv.inv
    rcases h3 with ⟨z, _⟩ | ⟨s0, q, m0, h0, rfl, _⟩
    · exact absurd z htu
    · exact ⟨s0, (h s0).mpr ⟨q, m0, h0⟩, List.mem_map.mpr ⟨p, List.mem_filter.mpr ⟨h2, h1⟩, rfl⟩⟩
theorem foldS : ∀ (rest tu : List Int) (sm : List (List Int)), tu ≠ [] → (∀ s, s ∈ sm ↔ ∃ p m, VS ps can tu s p m) → ∀ s, s ∈ rest.foldl (stepS ps can) sm ↔ ∃ p m, VS ps can (tu ++ rest) s p m
  | [], tu, sm, _, h, s => by rw [List.append_nil]; exact h s
  | n :: rest, tu, sm, htu, h, s => by
    have e : tu ++ n :: rest = (tu ++ [n]) ++ rest := by simp
    rw [e]
    exact foldS rest (tu ++ [n]) (stepS ps can sm n) (by simp) (stepS_mem htu h) s
theorem allS_mem {tu : List Int} (h : tu ≠ []) (s : List Int) : s ∈ allS ps can tu ↔ ∃ p m, VS ps can tu s p m := by
  cases tu with
  | nil => exact absurd rfl h
  | cons n rest =>
    show s ∈ rest.foldl (stepS ps can) (stepS ps can [[]] n) ↔ _
    refine foldS rest [n] (stepS ps can [[]] n) (by simp) (fun s => ?_) s
    unfold stepS extS
    rw [List.flatMap_singleton]
    constructor
    · intro h2
      obtain ⟨p, hp, rfl⟩ := List.mem_map.mp h2
      obtain ⟨h3, h4⟩ := List.mem_filter.mp hp
      exact ⟨p, 0, .one h3 h4⟩
    · rintro ⟨p, m, hv⟩
      obtain ⟨h1, h2, h3⟩ := VS.inv (tu := []) hv
      rcases h3 with ⟨_, rfl, _⟩ | ⟨s0, q, m0, h0, _, _⟩
      · exact List.mem_map.mpr ⟨p, List.mem_filter.mpr ⟨h2, h1⟩, rfl⟩
      · exact absurd rfl h0.ne
end

theorem mvI_sum (s : List Int) : ((List.range (s.length - 1)).map fun i => absI (s.getD (i + 1) 0 - s.getD i 0)).sum = mvI s := by
  induction s with
  | nil => rfl
  | cons a s ih =>
    cases s with
    | nil => rfl
    | cons b r =>
      show ((List.range (r.length + 1)).map _).sum = absI (b - a) + mvI (b :: r)
      rw [List.range_succ_eq_map, List.map_cons, List.sum_cons, List.map_map, ← ih]
      rfl

/-! ### playings by place, plainly -/
structure Pl (ps : List Int) (can : Int → Int → Bool) (tu s : List Int) : Prop where
  l : s.length = tu.length
  x : ∀ (i : Nat) (n p : Int), tu[i]? = some n → s[i]? = some p → p ∈ ps ∧ can n p = true
section
variable {ps : List Int} {can : Int → Int → Bool}
theorem VS.pl {tu s : List Int} {p m : Int} (h : VS ps can tu s p m) : Pl ps can tu s := by
  induction h with
  | one h1 h2 =>
    refine ⟨rfl, fun i n p hn hp => ?_⟩
    match i, hn, hp with
    | 0, hn, hp => cases hn; cases hp; exact ⟨h1, h2⟩
    | i + 1, hn, hp => simp at hn
  | @snoc tu s q m n0 p0 h0 h1 h2 ih =>
    refine ⟨by rw [List.length_append, List.length_append, ih.l]; rfl, fun i n p hn hp => ?_⟩
    by_cases hi : i < tu.length
    · rw [List.getElem?_append_left hi] at hn
      rw [List.getElem?_append_left (by rw [ih.l]; exact hi)] at hp
      exact ih.x i n p hn hp
    · have hl := lt_of_get hn
      rw [List.length_append] at hl
      have e : i = tu.length := by
        have : i < tu.length + 1 := hl
        omega
      rw [List.getElem?_append_right (by omega), e, Nat.sub_self] at hn
      rw [List.getElem?_append_right (by rw [ih.l]; omega), e, ih.l, Nat.sub_self] at hp
      cases hn; cases hp
      exact ⟨h1, h2⟩
theorem take_last {l : List Int} {k : Nat} (h : l.length = k + 1) : l = l.take k ++ [l.getD k 0] := by
  have e : l[k]? = some (l.getD k 0) := by rw [getD_lt (by omega)]; exact List.getElem?_eq_getElem (by omega)
  rw [← take_succ e, List.take_of_length_le (by omega)]
theorem Pl.vs : ∀ (k : Nat) {tu s : List Int}, tu.length = k + 1 → Pl ps can tu s → VS ps can tu s (s.getD k 0) (mvI s)
  | 0, tu, s, hk, h => by
    obtain ⟨n, rfl⟩ := List.length_eq_one_iff.mp hk
    obtain ⟨p, rfl⟩ := List.length_eq_one_iff.mp (h.l.trans hk)
    obtain ⟨h1, h2⟩ := h.x 0 n p rfl rfl
    exact .one h1 h2
  | k + 1, tu, s, hk, h => by
    have hs := h.l.trans hk
    have e1 := take_last hk
    have e2 := take_last hs
    have i1 : (tu.take (k + 1)).length = k + 1 := by rw [List.length_take]; omega
    have i2 : (s.take (k + 1)).length = k + 1 := by rw [List.length_take]; omega
    have ih := Pl.vs k (tu := tu.take (k + 1)) (s := s.take (k + 1)) i1 ⟨i2.trans i1.symm, fun i n p hn hp => by
      rw [List.getElem?_take] at hn hp
      split at hn
      · rename_i hi
        rw [if_pos hi] at hp
        exact h.x i n p hn hp
      · cases hn⟩
    have g1 : tu[k + 1]? = some (tu.getD (k + 1) 0) := by rw [getD_lt (by omega)]; exact List.getElem?_eq_getElem (by omega)
    have g2 : s[k + 1]? = some (s.getD (k + 1) 0) := by rw [getD_lt (by omega)]; exact List.getElem?_eq_getElem (by omega)
    obtain ⟨h1, h2⟩ := h.x _ _ _ g1 g2
    have v := VS.snoc ih h1 h2
    rw [← e1, ← e2] at v
    have e3 : mvI s = mvI (s.take (k + 1)) + absI ((s.take (k + 1)).getD k 0 - s.getD (k + 1) 0) := by
      have e4 := take_last i2
      conv => lhs; rw [e2, e4]
      rw [mvI_snoc, ← e4]
    rw [← e3] at v
    exact v
end
def mvO (t : List Int) (f c reach : Int) (tu : List Int) : Option Int := (tabF t f c reach [] tu).map (leastF f c)
def encM : Option Int → PyData
  | none => .none
  | some i => .int i
/-- the playings of a tune on a neck -/
abbrev PlN (t : List Int) (f c reach : Int) (tu s : List Int) : Prop := Pl (posL f c) (canP t f c reach) tu s
section
variable {t t' : List Int} {f c reach f' c' reach' : Int} {tu tu' : List Int}
theorem mvO_none (h1 : 1 ≤ tu.length) (e : mvO t f c reach tu = none) (s : List Int) : ¬ PlN t f c reach tu s := fun h => by
  have e : tabF t f c reach [] tu = none := Option.map_eq_none_iff.mp e
  obtain ⟨n, hn, hno⟩ := tab_none tab_nil e
  obtain ⟨i, hi, rfl⟩ := List.mem_iff_getElem.mp hn
  obtain ⟨h2, h3⟩ := h.x i _ _ (List.getElem?_eq_getElem hi) (List.getElem?_eq_getElem (by rw [h.l]; exact hi))
  rw [hno _ h2] at h3; cases h3
theorem mvO_some {m : Int} (h1 : 1 ≤ tu.length) (e : mvO t f c reach tu = some m) : (∃ s, PlN t f c reach tu s ∧ mvI s = m) ∧ ∀ s, PlN t f c reach tu s → m ≤ mvI s := by
  obtain ⟨rows, e1, e2⟩ := Option.map_eq_some_iff.mp e
  have T := tab_some tab_nil e1
  rw [List.nil_append] at T
  obtain ⟨⟨s, p, hv⟩, hmin⟩ := T.least h1
  rw [e2] at hv hmin
  obtain ⟨k, hk⟩ : ∃ k, tu.length = k + 1 := ⟨tu.length - 1, by omega⟩
  obtain ⟨_, _, em⟩ := hv.last
  exact ⟨⟨s, hv.pl, em.symm⟩, fun s' hs' => hmin _ _ _ (Pl.vs k hk hs')⟩
/-- whatever is played here is played there with no more -/
theorem mv_le (h1 : 1 ≤ tu.length) (h1' : 1 ≤ tu'.length) (h : ∀ s, PlN t f c reach tu s → ∃ s', PlN t' f' c' reach' tu' s' ∧ mvI s' ≤ mvI s) {m : Int} (e : mvO t f c reach tu = some m) : ∃ m', mvO t' f' c' reach' tu' = some m' ∧ m' ≤ m := by
  obtain ⟨⟨s, hs, es⟩, _⟩ := mvO_some h1 e
  obtain ⟨s', hs', le⟩ := h s hs
  cases e' : mvO t' f' c' reach' tu' with
  | none => exact absurd hs' (mvO_none h1' e' s')
  | some m' => exact ⟨m', rfl, by have := (mvO_some h1' e').2 s' hs'; omega⟩
theorem mv_eq (h1 : 1 ≤ tu.length) (h1' : 1 ≤ tu'.length) (h : ∀ s, PlN t f c reach tu s → ∃ s', PlN t' f' c' reach' tu' s' ∧ mvI s' ≤ mvI s) (h' : ∀ s, PlN t' f' c' reach' tu' s → ∃ s', PlN t f c reach tu s' ∧ mvI s' ≤ mvI s) : mvO t' f' c' reach' tu' = mvO t f c reach tu := by
  cases e : mvO t f c reach tu with
  | none =>
    cases e' : mvO t' f' c' reach' tu' with
    | none => rfl
    | some m' =>
      obtain ⟨m, em, _⟩ := mv_le h1' h1 h' e'
      rw [e] at em; cases em
  | some m =>
    obtain ⟨m', em', le⟩ := mv_le h1 h1' h e
    obtain ⟨m2, em2, le2⟩ := mv_le h1' h1 h' em'
    rw [e] at em2; cases em2
    rw [em']
    congr 1
    omega
/-! from the end -/
theorem mvI_app1 : ∀ (s : List Int) (q : Int), mvI (s ++ [q]) = mvI s + match s.getLast? with
    | none => 0
    | some r => absI (q - r)
  | [], q => rfl
  | [a], q => by show absI (q - a) + 0 = 0 + absI (q - a); omega
  | a :: b :: r, q => by
    have ih := mvI_app1 (b :: r) q
    show absI (b - a) + mvI ((b :: r) ++ [q]) = absI (b - a) + mvI (b :: r) + _
    rw [ih, Int.add_assoc]
    rfl
theorem mvI_rev : ∀ s : List Int, mvI s.reverse = mvI s
  | [] => rfl
  | [a] => rfl
  | a :: b :: r => by
    have ih := mvI_rev (b :: r)
    rw [List.reverse_cons, mvI_app1, ih]
    have : ((b :: r).reverse).getLast? = some b := by rw [List.getLast?_reverse]; rfl
    rw [this]
    show mvI (b :: r) + absI (a - b) = absI (b - a) + mvI (b :: r)
    rw [absI_sub]; omega
theorem Pl.rev {ps : List Int} {can : Int → Int → Bool} {tu s : List Int} (h : Pl ps can tu s) : Pl ps can tu.reverse s.reverse := by
  refine ⟨by rw [List.length_reverse, List.length_reverse, h.l], fun i n p hn hp => ?_⟩
  have hi := lt_of_get hn
  rw [List.length_reverse] at hi
  rw [List.getElem?_reverse hi] at hn
  rw [List.getElem?_reverse (by rw [h.l]; exact hi), h.l] at hp
  exact h.x _ n p hn hp
theorem mvO_rev (h1 : 1 ≤ tu.length) : mvO t f c reach tu.reverse = mvO t f c reach tu :=
  mv_eq h1 (by rw [List.length_reverse]; exact h1) (fun s h => ⟨s.reverse, h.rev, by rw [mvI_rev]; exact Int.le_refl _⟩) (fun s h => ⟨s.reverse, by have := h.rev; rwa [List.reverse_reverse] at this, by rw [mvI_rev]; exact Int.le_refl _⟩)
/-! another order of the strings, the bare neck, a greater reach -/
theorem canP_mem {n pos : Int} : canP t f c reach n pos = true ↔ ∃ x ∈ t, (c ≤ n - x ∧ n - x ≤ f) ∧ (n - x = c ∨ pos ≤ n - x ∧ n - x ≤ pos + reach) := by
  rw [canP_iff]
  unfold playsB
  constructor
  · rintro ⟨b, hb, h⟩
    refine ⟨t.getD b 0, getD_mem hb, ?_⟩
    simp only [Bool.and_eq_true, Bool.or_eq_true, decide_eq_true_eq] at h
    exact ⟨h.1.1, h.2⟩
  · rintro ⟨x, hx, h1, h2⟩
    obtain ⟨b, hb, rfl⟩ := List.mem_iff_getElem.mp hx
    refine ⟨b, hb, ?_⟩
    rw [getD_lt hb]
    simp only [Bool.and_eq_true, Bool.or_eq_true, decide_eq_true_eq]
    exact ⟨⟨h1, by omega⟩, h2⟩
theorem Pl.imp {ps : List Int} {can can' : Int → Int → Bool} {tu s : List Int} (h : Pl ps can tu s) (hc : ∀ n p, p ∈ ps → can n p = true → can' n p = true) : Pl ps can' tu s := ⟨h.l, fun i n p hn hp => by
  obtain ⟨h1, h2⟩ := h.x i n p hn hp
  exact ⟨h1, hc n p h1 h2⟩⟩
theorem mvO_mem (h1 : 1 ≤ tu.length) (ht : ∀ x, x ∈ t' ↔ x ∈ t) : mvO t' f c reach tu = mvO t f c reach tu := by
  refine mv_eq h1 h1 (fun s h => ⟨s, h.imp fun n p _ hc => ?_, Int.le_refl _⟩) (fun s h => ⟨s, h.imp fun n p _ hc => ?_, Int.le_refl _⟩)
  · obtain ⟨x, hx, h2⟩ := canP_mem.mp hc
    exact canP_mem.mpr ⟨x, (ht x).mpr hx, h2⟩
  · obtain ⟨x, hx, h2⟩ := canP_mem.mp hc
    exact canP_mem.mpr ⟨x, (ht x).mp hx, h2⟩
theorem mvO_wide (h1 : 1 ≤ tu.length) (hr : reach ≤ reach') {m : Int} (e : mvO t f c reach tu = some m) : ∃ m', mvO t f c reach' tu = some m' ∧ m' ≤ m := by
  refine mv_le h1 h1 (fun s h => ⟨s, h.imp fun n p _ hc => ?_, Int.le_refl _⟩) e
  obtain ⟨x, hx, h2, h3⟩ := canP_mem.mp hc
  exact canP_mem.mpr ⟨x, hx, h2, by omega⟩
theorem mvI_shift (k : Int) : ∀ s : List Int, mvI (s.map (· + k)) = mvI s
  | [] => rfl
  | [_] => rfl
  | a :: b :: r => by
    have ih := mvI_shift k (b :: r)
    show absI (b + k - (a + k)) + mvI ((b :: r).map (· + k)) = absI (b - a) + mvI (b :: r)
    rw [ih, show b + k - (a + k) = b - a by omega]
theorem Pl.shift {ps ps' : List Int} {can can' : Int → Int → Bool} {tu s : List Int} (k : Int) (h : Pl ps can tu s) (hc : ∀ n p, p ∈ ps → can n p = true → p + k ∈ ps' ∧ can' n (p + k) = true) : Pl ps' can' tu (s.map (· + k)) := ⟨by rw [List.length_map]; exact h.l, fun i n p hn hp => by
  rw [List.getElem?_map] at hp
  obtain ⟨q, hq, rfl⟩ := Option.map_eq_some_iff.mp hp
  obtain ⟨h1, h2⟩ := h.x i n q hn hq
  exact hc n q h1 h2⟩
theorem mvO_bare (h1 : 1 ≤ tu.length) (hcf : c ≤ f) : mvO (t.map (· + c)) (f - c) 0 reach tu = mvO t f c reach tu := by
  refine mv_eq h1 h1 (fun s h => ⟨s.map (· + -c), h.shift (-c) fun n p hp hc => ?_, by rw [mvI_shift]; exact Int.le_refl _⟩) (fun s h => ⟨s.map (· + c), h.shift c fun n p hp hc => ?_, by rw [mvI_shift]; exact Int.le_refl _⟩)
  · obtain ⟨x, hx, h2, h3⟩ := canP_mem.mp hc
    have := (posL_mem hcf).mp hp
    exact ⟨(posL_mem (by omega)).mpr ⟨by omega, by omega⟩, canP_mem.mpr ⟨x + c, List.mem_map_of_mem hx, by omega, by omega⟩⟩
  · obtain ⟨x, hx, h2, h3⟩ := canP_mem.mp hc
    obtain ⟨y, hy, rfl⟩ := List.mem_map.mp hx
    have := (posL_mem (show (0 : Int) ≤ f - c by omega)).mp hp
    exact ⟨(posL_mem hcf).mpr ⟨by omega, by omega⟩, canP_mem.mpr ⟨y, hy, by omega, by omega⟩⟩
/-! the tune cut -/
theorem mvI_nn : ∀ s : List Int, 0 ≤ mvI s
  | [] => Int.le_refl 0
  | [_] => Int.le_refl 0
  | a :: b :: r => by
    have := mvI_nn (b :: r)
    have h2 := absI_nn (b - a)
    show 0 ≤ absI (b - a) + mvI (b :: r)
    omega
theorem mvI_app : ∀ a b : List Int, mvI a + mvI b ≤ mvI (a ++ b)
  | [], b => by rw [List.nil_append]; show 0 + mvI b ≤ mvI b; omega
  | [x], [] => Int.le_refl 0
  | [x], y :: r => by
    have := absI_nn (y - x)
    show 0 + mvI (y :: r) ≤ absI (y - x) + mvI (y :: r)
    omega
  | x :: y :: r, b => by
    have ih := mvI_app (y :: r) b
    show absI (y - x) + mvI (y :: r) + mvI b ≤ absI (y - x) + mvI ((y :: r) ++ b)
    omega
theorem Pl.take {ps : List Int} {can : Int → Int → Bool} {tu s : List Int} (k : Nat) (h : Pl ps can tu s) : Pl ps can (tu.take k) (s.take k) := ⟨by rw [List.length_take, List.length_take, h.l], fun i n p hn hp => by
  rw [List.getElem?_take] at hn hp
  split at hn
  · rename_i hi
    rw [if_pos hi] at hp
    exact h.x i n p hn hp
  · cases hn⟩
theorem Pl.drop {ps : List Int} {can : Int → Int → Bool} {tu s : List Int} (k : Nat) (h : Pl ps can tu s) : Pl ps can (tu.drop k) (s.drop k) := ⟨by rw [List.length_drop, List.length_drop, h.l], fun i n p hn hp => by
  rw [List.getElem?_drop] at hn hp
  exact h.x _ n p hn hp⟩
theorem mvO_cut {k : Nat} (h0 : 1 ≤ k) (hk : k < tu.length) {m : Int} (e : mvO t f c reach tu = some m) : ∃ a b, mvO t f c reach (tu.take k) = some a ∧ mvO t f c reach (tu.drop k) = some b ∧ a + b ≤ m := by
  obtain ⟨⟨s, hs, es⟩, _⟩ := mvO_some (by omega) e
  have la : 1 ≤ (tu.take k).length := by rw [List.length_take]; omega
  have lb : 1 ≤ (tu.drop k).length := by rw [List.length_drop]; omega
  cases ea : mvO t f c reach (tu.take k) with
  | none => exact absurd (hs.take k) (mvO_none la ea _)
  | some a =>
    cases eb : mvO t f c reach (tu.drop k) with
    | none => exact absurd (hs.drop k) (mvO_none lb eb _)
    | some b =>
      refine ⟨a, b, rfl, rfl, ?_⟩
      have h1 := (mvO_some la ea).2 _ (hs.take k)
      have h2 := (mvO_some lb eb).2 _ (hs.drop k)
      have h3 := mvI_app (s.take k) (s.drop k)
      rw [List.take_append_drop, es] at h3
      omega
end

/-! ### what is played, plainly -/
def GoodP (t : List Int) (f c reach n : Int) (l : List Int) : Prop := ∃ (b : Nat) (pos : Int), l = [0 + (b : Int), n - t.getD b 0, pos] ∧ b < t.length ∧ playsB t f c n reach (n - t.getD b 0) b pos = true ∧ pos ∈ posL f c
structure Plg (t : List Int) (f c reach : Int) (tu : List Int) (L : List (List Int)) : Prop where
  l : L.length = tu.length
  x : ∀ (i : Nat) (n : Int) (l : List Int), tu[i]? = some n → L[i]? = some l → GoodP t f c reach n l
def posA (L : List (List Int)) : List Int := L.map fun l => l.getD 2 0
theorem plS_some {t : List Int} {f c reach n pos : Int} {b : Nat} (h : plS t f c reach n pos = some b) : b < t.length ∧ playsB t f c n reach (n - t.getD b 0) b pos = true := by
  unfold plS at h
  have h1 := List.mem_of_find?_eq_some h
  have h2 := List.find?_some h
  unfold strsOf at h1
  obtain ⟨h3, h4⟩ := List.mem_filter.mp h1
  refine ⟨List.mem_range.mp h3, ?_⟩
  unfold playsB
  have e : t.getD b 0 + (n - t.getD b 0) = n := by omega
  rw [e, h4, decide_eq_true rfl, Bool.true_and, Bool.true_and]; exact h2
section
variable {t : List Int} {f c reach : Int} {tu : List Int} {rows : List (List Int)}
theorem getD_some {k : Nat} (hk : k < tu.length) : tu[k]? = some (tu.getD k 0) := by rw [getD_lt hk]; exact List.getElem?_eq_getElem hk
theorem Tab.can (T : Tab t f c reach tu rows) {k : Nat} (hk : k < tu.length) {z : Int × Int} (hz : z ∈ prs f c (rowAt rows k)) : canP t f c reach (tu.getD k 0) z.2 = true ∧ z.2 ∈ posL f c ∧ (k = 0 → z.1 = 0) := by
  obtain ⟨j, g1, g2, g3⟩ := prs_mem.mp hz
  have gn := getD_some hk
  refine ⟨?_, List.mem_of_getElem? g2, fun k0 => ?_⟩
  · cases hc : canP t f c reach (tu.getD k 0) z.2 with
    | true => rfl
    | false =>
      exfalso
      cases k with
      | zero =>
        rw [T.r0 _ gn] at g1
        have := row_get g2 g1
        rw [if_neg (by rw [hc]; decide)] at this
        exact g3 this
      | succ k =>
        rw [T.rs k _ gn] at g1
        have := row_get g2 g1
        rw [if_neg (by rw [hc]; decide)] at this
        exact g3 this
  · subst k0
    rw [T.r0 _ gn] at g1
    have h := row_get g2 g1
    by_cases hc : canP t f c reach (tu.getD 0 0) z.2 = true
    · rw [if_pos hc] at h; exact h
    · rw [if_neg hc] at h; exact absurd h g3
theorem trip_good {n pos : Int} (hc : canP t f c reach n pos = true) (hp : pos ∈ posL f c) : ∃ l, trip t f c reach n pos = encT l ∧ GoodP t f c reach n l ∧ l.getD 2 0 = pos := by
  obtain ⟨b, hb⟩ := Option.isSome_iff_exists.mp hc
  obtain ⟨h1, h2⟩ := plS_some hb
  exact ⟨[0 + (b : Int), n - t.getD b 0, pos], by unfold trip; rw [hb]; rfl, ⟨b, pos, rfl, h1, h2, hp⟩, rfl⟩
theorem zip_back (hl : rows.length = tu.length) {k : Nat} (hk : k < tu.length) : ((rows.zip tu).take (k + 1)).reverse = (rowAt rows k, tu.getD k 0) :: ((rows.zip tu).take k).reverse := by
  have h1 : (rows.zip tu)[k]? = some (rowAt rows k, tu.getD k 0) := by
    rw [List.getElem?_zip_eq_some]
    unfold rowAt
    exact ⟨by rw [List.getD_eq_getElem?_getD, List.getElem?_eq_getElem (by omega)]; rfl, getD_some hk⟩
  rw [take_succ h1, List.reverse_append]; rfl
theorem Tab.played (T : Tab t f c reach tu rows) : ∀ (k : Nat), k < tu.length → ∀ p v : Int, (∃ z ∈ prs f c (rowAt rows k), z.1 + absI (z.2 - p) = v) →
    ∃ L : List (List Int), backF t f c reach ((rows.zip tu).take (k + 1)).reverse p v = L.map encT ∧ L.length = k + 1 ∧ (∀ (j : Nat) (n : Int) (l : List Int), j ≤ k → tu[k - j]? = some n → L[j]? = some l → GoodP t f c reach n l) ∧ mvI (p :: posA L) = v
  | 0, hk, p, v, hz => by
    obtain ⟨h1, h2, _⟩ := stepB_mem hz
    obtain ⟨g1, g2, g3⟩ := T.can hk h1
    obtain ⟨l, e1, e2, e3⟩ := trip_good g1 g2
    refine ⟨[l], ?_, rfl, fun j n l' hj hn hl => ?_, ?_⟩
    · rw [zip_back T.l hk, backF, e1]
      show _ :: backF t f c reach [] _ _ = _
      rw [backF]; rfl
    · have : j = 0 := by omega
      subst this
      have hn' : tu[0]? = some n := hn
      rw [getD_some hk] at hn'
      cases hn'; cases hl
      exact e2
    · show absI (l.getD 2 0 - p) + 0 = v
      have := g3 rfl
      rw [e3]; omega
  | k + 1, hk, p, v, hz => by
    obtain ⟨h1, h2, _⟩ := stepB_mem hz
    obtain ⟨g1, g2, _⟩ := T.can hk h1
    obtain ⟨l, e1, e2, e3⟩ := trip_good g1 g2
    obtain ⟨L, f1, f2, f3, f4⟩ := T.played k (by omega) (stepB f c (rowAt rows (k + 1)) p v).2 (stepB f c (rowAt rows (k + 1)) p v).1 (T.back hk h1)
    refine ⟨l :: L, ?_, by rw [List.length_cons, f2], fun j n l' hj hn hl => ?_, ?_⟩
    · rw [zip_back T.l hk, backF, e1, f1]; rfl
    · cases j with
      | zero =>
        have hn' : tu[k + 1]? = some n := hn
        rw [getD_some hk] at hn'
        cases hn'; cases hl
        exact e2
      | succ j =>
        refine f3 j n l' (by omega) ?_ (by simpa using hl)
        rw [show k + 1 - (j + 1) = k - j by omega] at hn
        exact hn
    · show absI (l.getD 2 0 - p) + mvI (l.getD 2 0 :: posA L) = v
      rw [e3, f4]; omega
theorem play_ok (h1 : 1 ≤ tu.length) (e : tabF t f c reach [] tu = some rows) : ∃ L : List (List Int), playF t f c reach tu rows = .tuple [.int (leastF f c rows), .list (L.map encT)] ∧ Plg t f c reach tu L ∧ mvI (posA L) = leastF f c rows := by
  have T := tab_some tab_nil e
  rw [List.nil_append] at T
  obtain ⟨m, hm⟩ : ∃ m, tu.length = m + 1 := ⟨tu.length - 1, by omega⟩
  have hR := T.right m (by omega)
  have hne := prs_ne hR.l (T.ne m (by rw [T.l]; omega))
  have hmm := (minP_mem hne).1
  rw [← T.last hm] at hmm
  obtain ⟨L, f1, f2, f3, f4⟩ := T.played m (by omega) (minP (prs f c (lastRow rows))).2 (minP (prs f c (lastRow rows))).1 ⟨_, by rw [← T.last hm]; exact hmm, by rw [Int.sub_self, absI_0, Int.add_zero]⟩
  have htk : (rows.zip tu).take (m + 1) = rows.zip tu := List.take_of_length_le (by rw [List.length_zip, T.l]; omega)
  rw [htk] at f1
  have hg : Plg t f c reach tu L.reverse := by
    refine ⟨by rw [List.length_reverse, f2, hm], fun i n l hn hl => ?_⟩
    have hi := lt_of_get hn
    rw [List.getElem?_reverse (by omega), f2] at hl
    refine f3 (m + 1 - 1 - i) n l (by omega) ?_ hl
    rw [show m - (m + 1 - 1 - i) = i by omega]; exact hn
  have ep : posA L.reverse = (posA L).reverse := by unfold posA; rw [List.map_reverse]
  have hpl : Pl (posL f c) (canP t f c reach) tu (posA L.reverse) := by
    refine ⟨by unfold posA; rw [List.length_map]; exact hg.l, fun i n p hn hp => ?_⟩
    unfold posA at hp
    rw [List.getElem?_map] at hp
    obtain ⟨l, hl, rfl⟩ := Option.map_eq_some_iff.mp hp
    obtain ⟨b, pos, rfl, h2, h3, h4⟩ := hg.x i n l hn hl
    exact ⟨h4, canP_iff.mpr ⟨b, h2, h3⟩⟩
  have hv := (T.least h1).2 _ _ _ (Pl.vs m hm hpl)
  have hle : mvI (posA L) ≤ (minP (prs f c (lastRow rows))).1 := by
    cases L with
    | nil => cases f2
    | cons l L =>
      have : absI (l.getD 2 0 - (minP (prs f c (lastRow rows))).2) + mvI (l.getD 2 0 :: posA L) = (minP (prs f c (lastRow rows))).1 := f4
      have := absI_nn (l.getD 2 0 - (minP (prs f c (lastRow rows))).2)
      show mvI (l.getD 2 0 :: posA L) ≤ _
      omega
  refine ⟨L.reverse, ?_, hg, ?_⟩
  · unfold playF
    show PyData.tuple [_, .list (backF t f c reach (rows.zip tu).reverse _ (minP (prs f c (lastRow rows))).1).reverse] = _
    rw [f1, List.map_reverse]
  · rw [ep, mvI_rev] at hv ⊢
    unfold leastF at hv ⊢
    omega
theorem Plg.len3 {L : List (List Int)} (h : Plg t f c reach tu L) : ∀ l ∈ L, l.length = 3 := fun l hl => by
  obtain ⟨i, hi, rfl⟩ := List.mem_iff_getElem.mp hl
  obtain ⟨b, pos, e, _⟩ := h.x i _ _ (List.getElem?_eq_getElem (by rw [← h.l]; exact hi)) (List.getElem?_eq_getElem hi)
  rw [e]; rfl
end
theorem posA_get {L : List (List Int)} {b : Nat} (h : b < L.length) : (posA L).getD b 0 = (L.getD b []).getD 2 0 := by
  have h2 : b < (posA L).length := by unfold posA; rw [List.length_map]; exact h
  rw [getD_lt h2, getD_lt h]
  exact List.getElem_map _
theorem atI_L {L : List (List Int)} {b : Nat} (h : b < L.length) : atI (L.map encT) ((b : Nat) : Int) = some (encT (L.getD b [])) :=
  atI_nat (by rw [List.getElem?_map, List.getElem?_eq_getElem h, getD_lt h]; rfl)
theorem atI_3 {l : List Int} (h : l.length = 3) : atI (l.map PyData.int) 2 = some (.int (l.getD 2 0)) := atI_ints (b := 2) (by omega)
theorem getD_len3 {L : List (List Int)} (h : ∀ l ∈ L, l.length = 3) {b : Nat} (hb : b < L.length) : (L.getD b []).length = 3 := by
  rw [getD_lt hb]; exact h _ (List.getElem_mem hb)
theorem mvA_sum (L : List (List Int)) : ((List.range (L.length - 1)).map fun i => absI ((posA L).getD (i + 1) 0 - (posA L).getD i 0)).sum = mvI (posA L) := by
  have := mvI_sum (posA L)
  unfold posA at this ⊢
  rwa [List.length_map] at this

/-! ### retunings, plainly -/
def absR (i : Int) : Int := if i < 0 then -i else i
def rOk (n k : Int) : Bool := decide (0 ≤ n + k) && decide (n + k ≤ 60)
def chgs : List Int := [-2, -1, 0, 1, 2]
def extR (n : Int) (s : List Int) : List (List Int) := (chgs.filter (rOk n)).map fun k => s ++ [k]
def stepR (sm : List (List Int)) (n : Int) : List (List Int) := sm.flatMap (extR n)
def sizeR (s : List Int) : Int := (s.map absR).sum
def intD : PyData → Int
  | .int i => i
  | _ => 0
def kdR : PyData → PyData
  | .tuple ds => .tuple [.int (sizeR (ds.map intD)), .tuple ds]
  | d => d
theorem kdR_enc (s : List Int) : kdR (encT s) = .tuple [.int (sizeR s), encT s] := by
  show PyData.tuple [.int (sizeR ((s.map PyData.int).map intD)), .tuple (s.map .int)] = _
  rw [List.map_map, show (intD ∘ PyData.int) = id from rfl, List.map_id]
def allR (t : List Int) : List (List Int) := (t.foldl stepR [[]]).mergeSort fun a b => PySem.W.dataLe false kdR (encT a) (encT b)
theorem allR_enc (t : List Int) : ((t.foldl stepR [[]]).map encT).mergeSort (PySem.W.dataLe false kdR) = (allR t).map encT :=
  (PySem.W.sort_maps encT fun _ _ _ _ => rfl).symm
theorem allR_pairs (t : List Int) : (((t.foldl stepR [[]]).map encT).map kdR).mergeSort (PySem.W.dataLe false id) = (allR t).map fun s => .tuple [.int (sizeR s), encT s] := by
  rw [← PySem.W.sort_maps (r := PySem.W.dataLe false kdR) kdR fun _ _ _ _ => rfl, allR_enc, List.map_map]
  exact List.map_congr_left fun s _ => kdR_enc s
theorem kdR_alike (l : List (List Int)) : PySem.W.AllAlike ((l.map encT).map kdR) := fun x hx y hy => by
  obtain ⟨a, ha, rfl⟩ := List.mem_map.mp hx
  obtain ⟨b, hb, rfl⟩ := List.mem_map.mp hy
  obtain ⟨a, _, rfl⟩ := List.mem_map.mp ha
  obtain ⟨b, _, rfl⟩ := List.mem_map.mp hb
  rw [kdR_enc, kdR_enc]
  have := alike_ints a b
  simp [PySem.W.alike, PySem.W.alikeAll, encT, this]
theorem kdR_sortable (l : List (List Int)) : PySem.W.Sortable ((l.map encT).map kdR) := .inl fun x hx => by
  obtain ⟨a, ha, rfl⟩ := List.mem_map.mp hx
  obtain ⟨a, _, rfl⟩ := List.mem_map.mp ha
  exact ⟨_, _, kdR_enc a⟩
theorem kdR_depth (s : List Int) : (kdR (encT s)).depth ≤ 60 := by
  rw [kdR_enc]
  refine Nat.le_trans (shD_tup (n := 1) fun d hd => ?_).2 (by decide)
  rcases List.mem_cons.mp hd with rfl | hd
  · exact shD_int 1 _
  · rcases List.mem_cons.mp hd with rfl | hd
    · exact shD_tup (shD_ints 0 s)
    · exact nomatch hd
theorem extR_len (n : Int) (s : List Int) : (extR n s).length ≤ 5 := by
  unfold extR
  rw [List.length_map]
  exact List.length_filter_le _ _
theorem foldR_len : ∀ (t : List Int) (sm : List (List Int)), (t.foldl stepR sm).length ≤ sm.length * 5 ^ t.length
  | [], sm => by simp
  | n :: t, sm => by
    rw [List.foldl_cons, List.length_cons, Nat.pow_succ]
    have h1 := foldR_len t (stepR sm n)
    have h2 : (stepR sm n).length ≤ sm.length * 5 := flat_len _ 5 (fun a => extR_len n a) sm
    have h3 : (stepR sm n).length * 5 ^ t.length ≤ (sm.length * 5) * 5 ^ t.length := Nat.mul_le_mul_right _ h2
    calc _ ≤ _ := h1
      _ ≤ _ := h3
      _ = _ := by rw [Nat.mul_assoc, Nat.mul_comm 5]
theorem takeR_len {t : List Int} (h4 : t.length ≤ 4) (i : Nat) : ((t.take i).foldl stepR [[]]).length ≤ 625 := by
  refine Nat.le_trans (foldR_len _ _) ?_
  rw [List.length_singleton, Nat.one_mul]
  have : 5 ^ (t.take i).length ≤ 5 ^ 4 := Nat.pow_le_pow_right (by decide) (by rw [List.length_take]; omega)
  exact Nat.le_trans this (by decide)
/-- a retuning of t -/
structure OkRt (t s : List Int) : Prop where
  l : s.length = t.length
  n : ∀ x ∈ (t.zip s).map (fun p => p.1 + p.2), 0 ≤ x ∧ x ≤ 60
  k : ∀ x ∈ s, -2 ≤ x ∧ x ≤ 2
theorem foldR_ok : ∀ (t : List Int) (pre : List Int) (sm : List (List Int)), (∀ s ∈ sm, OkRt pre s) → ∀ s ∈ t.foldl stepR sm, OkRt (pre ++ t) s
  | [], pre, sm, h, s, hs => by rw [List.append_nil]; exact h s hs
  | n :: t, pre, sm, h, s, hs => by
    have := foldR_ok t (pre ++ [n]) (stepR sm n) (fun s hs => by
      obtain ⟨s0, h0, h1⟩ := List.mem_flatMap.mp hs
      obtain ⟨k, hk, rfl⟩ := List.mem_map.mp h1
      obtain ⟨hk1, hk2⟩ := List.mem_filter.mp hk
      have o := h s0 h0
      unfold rOk at hk2
      simp only [Bool.and_eq_true, decide_eq_true_eq] at hk2
      refine ⟨by rw [List.length_append, List.length_append, o.l]; rfl, fun x hx => ?_, fun x hx => ?_⟩
      · rw [List.zip_append o.l.symm, List.map_append] at hx
        rcases List.mem_append.mp hx with hx | hx
        · exact o.n x hx
        · have e : x = n + k := by simpa using hx
          rw [e]; exact hk2
      · rcases List.mem_append.mp hx with hx | hx
        · exact o.k x hx
        · rw [List.mem_singleton.mp hx]
          unfold chgs at hk1
          simp only [List.mem_cons, List.not_mem_nil, or_false] at hk1
          omega) s hs
    rw [List.append_assoc] at this
    exact this
theorem okRt_nil : OkRt [] [] := ⟨rfl, (fun x hx => nomatch hx), (fun x hx => nomatch hx)⟩
theorem foldR_okRt (t : List Int) : ∀ s ∈ t.foldl stepR [[]], OkRt t s := fun s hs => by
  have := foldR_ok t [] [[]] (fun s hs => by rw [List.mem_singleton.mp hs]; exact okRt_nil) s hs
  rwa [List.nil_append] at this
theorem allR_ok {t s : List Int} (h : s ∈ allR t) : OkRt t s := foldR_okRt t s ((List.mergeSort_perm _ _).mem_iff.mp h)
theorem allR_len {t : List Int} (h4 : t.length ≤ 4) : (allR t).length ≤ 625 := by
  unfold allR
  rw [List.length_mergeSort]
  have := takeR_len h4 t.length
  rwa [List.take_length] at this
def tuneR (t s : List Int) : List Int := (t.zip s).map fun p => p.1 + p.2
theorem tuneR_ok {t s : List Int} {f c : Int} (ok : OkN t f c) (o : OkRt t s) : OkN (tuneR t s) f c := by
  have l : (tuneR t s).length = t.length := by
    unfold tuneR
    rw [List.length_map, List.length_zip, o.l, Nat.min_self]
  exact ⟨by rw [l]; exact ok.l1, by rw [l]; exact ok.l2, o.n, ok.c0, ok.cf, ok.f2⟩
def noW (t : List Int) (f c r g : Int) (ch : List Int) : Bool := (allW t f c r g ch).isEmpty
/-- the number of the first chord without a way -/
def fstW (t : List Int) (f c r g : Int) (chs : List (List Int)) : Option Nat := (List.range chs.length).find? fun k => noW t f c r g (chs.getD k [])
def optD : Option Nat → PyData
  | none => .none
  | some k => .int (0 + (k : Int))
/-- the first that serves, and why each one ahead does not -/
def goR (F : List Int → Option Nat) : List (List Int) → List PyData → PyData
  | [], _ => .none
  | s :: l, acc => match F s with
    | none => .tuple [encT s, .list acc]
    | some k => goR F l (acc ++ [.tuple [encT s, .int (0 + (k : Int))]])
def resR (t : List Int) (f c r g : Int) (chs : List (List Int)) : PyData := goR (fun s => fstW (tuneR t s) f c r g chs) (allR t) []
def AccR (acc : List PyData) : Prop := ∀ d ∈ acc, ∃ (s : List Int) (k : Int), d = .tuple [encT s, .int k] ∧ s.length ≤ 6
theorem AccR.snoc {acc : List PyData} {s : List Int} {k : Int} (h : AccR acc) (hs : s.length ≤ 6) : AccR (acc ++ [.tuple [encT s, .int k]]) := fun d hd => by
  rcases List.mem_append.mp hd with hd | hd
  · exact h d hd
  · exact ⟨s, k, List.mem_singleton.mp hd, hs⟩
theorem AccR.noL {acc : List PyData} (h : AccR acc) : noLs acc = true := noLs_of fun d hd => by
  obtain ⟨s, k, rfl, _⟩ := h d hd
  simp only [FW.noL, noLs, Bool.and_true]
  exact noLs_ints s
/-- what is told -/
inductive ResR : PyData → Prop
  | no : ResR .none
  | yes {s : List Int} {acc : List PyData} : s.length ≤ 6 → AccR acc → acc.length ≤ 625 → ResR (.tuple [encT s, .list acc])
theorem goR_ok (F : List Int → Option Nat) : ∀ (l : List (List Int)) (acc : List PyData), (∀ s ∈ l, s.length ≤ 6) → AccR acc → acc.length + l.length ≤ 625 → ResR (goR F l acc)
  | [], _, _, _, _ => .no
  | s :: l, acc, h, ha, hn => by
    unfold goR
    rw [List.length_cons] at hn
    cases F s with
    | none => exact .yes (h s List.mem_cons_self) ha (by omega)
    | some k => exact goR_ok F l _ (fun x hx => h x (List.mem_cons_of_mem _ hx)) (ha.snoc (h s List.mem_cons_self)) (by rw [List.length_append]; show _ + 1 + _ ≤ _; omega)
theorem resR_ok {t : List Int} {f c r g : Int} {chs : List (List Int)} (h4 : t.length ≤ 4) : ResR (resR t f c r g chs) :=
  goR_ok _ _ _ (fun s hs => by rw [(allR_ok hs).l]; omega) (fun _ h => nomatch h) (by have := allR_len h4; rw [List.length_nil]; omega)
theorem ResR.al {d : PyData} (h : ResR d) : AlD 5 d := by
  cases h with
  | no => exact al_none 4
  | yes hs ha hl =>
    refine al_tup (by show 2 ≤ 1000; decide) fun x hx => ?_
    rcases List.mem_cons.mp hx with rfl | hx
    · exact al_tu 2 (by omega)
    · rw [List.mem_singleton.mp hx]
      refine al_lst (by omega) fun y hy => ?_
      obtain ⟨s, k, rfl, h6⟩ := ha y hy
      refine al_tup (by show 2 ≤ 1000; decide) fun z hz => ?_
      rcases List.mem_cons.mp hz with rfl | hz
      · exact al_tu 0 (by omega)
      · rw [List.mem_singleton.mp hz]; exact al_int 1 k
theorem mergeSort_nil {α : Type} {le : α → α → Bool} {l : List α} : (l.mergeSort le).isEmpty = l.isEmpty := by
  have := List.length_mergeSort (le := le) l
  cases l with
  | nil => simp
  | cons a l =>
    cases h : (a :: l).mergeSort le with
    | nil => rw [h] at this; cases this
    | cons b m => rfl
theorem find_first {α : Type} {p : α → Bool} : ∀ {l : List α} {i : Nat} {x : α}, (∀ y ∈ l.take i, p y = false) → l[i]? = some x → p x = true → l.find? p = some x
  | [], _, _, _, h, _ => by simp at h
  | a :: l, 0, x, _, h, hp => by
    simp at h; subst h
    rw [List.find?_cons_of_pos hp]
  | a :: l, i + 1, x, hn, h, hp => by
    rw [List.find?_cons_of_neg (by rw [hn a (by rw [List.take_succ_cons]; exact List.mem_cons_self)]; decide)]
    exact find_first (i := i) (fun y hy => hn y (by rw [List.take_succ_cons]; exact List.mem_cons_of_mem _ hy)) (by simpa using h) hp
theorem sh_encTs (l : List (List Int)) : Sh (.list (l.map encT)) := sh_of (n := 2) (shD_lst fun d hd => by
  obtain ⟨s, _, rfl⟩ := List.mem_map.mp hd
  exact shD_tup (shD_ints 0 s))
theorem zip_ints (xs ys : List Int) : zipD (xs.map .int) (ys.map .int) = (xs.zip ys).map fun b => .tuple [.int b.1, .int b.2] := by
  unfold zipD
  rw [List.zip_map, List.map_map]; rfl
theorem cutD_pre {ds : List FW.D} {k : Int} (h0 : 0 ≤ k) : FW.cutD ds none (some k) = ds.take k.toNat := by
  unfold FW.cutD HT.sIx
  simp only [List.drop_zero, Nat.sub_zero]
  rw [if_neg (by omega)]
  by_cases h : k.toNat ≤ ds.length
  · rw [Nat.min_eq_left h]
  · rw [Nat.min_eq_right (by omega), List.take_of_length_le (Nat.le_refl _), List.take_of_length_le (by omega)]
theorem chs_of {acc : List PyData} (h : ∀ d ∈ acc, ∃ ch, d = Tu ch ∧ OkC ch) : ∃ chs : List (List Int), acc = chs.map encT ∧ ∀ ch ∈ chs, OkC ch := by
  induction acc with
  | nil => exact ⟨[], rfl, fun _ h => nomatch h⟩
  | cons x acc ih =>
    obtain ⟨l, rfl, hl⟩ := h x List.mem_cons_self
    obtain ⟨L, rfl, hL⟩ := ih fun y hy => h y (List.mem_cons_of_mem _ hy)
    exact ⟨l :: L, rfl, fun y hy => by
      rcases List.mem_cons.mp hy with rfl | hy
      · exact hl
      · exact hL y hy⟩
theorem okC_take {ch : List Int} (oc : OkC ch) {k : Nat} (hk : 1 ≤ k) : OkC (ch.take k) := ⟨by rw [List.length_take]; have := oc.l1; omega, by rw [List.length_take]; have := oc.l6; omega, fun x hx => oc.n x (List.mem_of_mem_take hx), List.Pairwise.sublist (List.take_sublist _ _) oc.s⟩

theorem sc_need_chords : FnScope ["chords", "number"] ["chords"] (defScope s_need_chords) := ⟨rfl, rfl, rfl, by decide +kernel, rfl, by decide +kernel, by decide +kernel⟩
def z_need_chords : Zp := fun ds kt _ _ => ∃ chs : List (List Int), ds = [.list (chs.map encT)] ∧ chs.length ≤ 6 ∧ (∀ ch ∈ chs, OkC ch) ∧ kt .none
theorem rg_num {n i : Nat} {d : PyData} (h : (rgD 0 ((n : Int)).toNat)[i]? = some d) : i < n ∧ d = .int (0 + (i : Int)) := by
  have hi := (List.getElem?_eq_some_iff.mp h).1
  rw [rgD_length] at hi
  rw [rgD_get hi] at h
  rw [Int.toNat_natCast] at hi
  exact ⟨hi, (Option.some.inj h).symm⟩
theorem atI_chs {chs : List (List Int)} {i : Nat} (h : i < chs.length) : atI (chs.map encT) (0 + (i : Int)) = some (encT (chs.getD i [])) := by
  rw [Int.zero_add]
  refine atI_nat (j := i) ?_
  rw [List.getElem?_map, List.getElem?_eq_getElem h, getD_lt h]; rfl
theorem chs_mem {chs : List (List Int)} {i : Nat} (h : i < chs.length) : chs.getD i [] ∈ chs := by
  rw [getD_lt h]; exact List.getElem_mem h
theorem ok_need_chords {k : Nat} {f : Addr} {fd : FuncData} (Fn : Fun K "need_chords" "need_chords" s_need_chords f fd) (B : BT mg) (C : Cn mg) (k_is_chord : Kn P w K mg base CX0 "is_chord" k (spP z_is_chord)) : FnOk P w K mg base CX0 (k + 1) f fd ["chords"] (spP z_need_chords) := by
  refine fn_ok Fn sc_need_chords (by rintro ds kt ko ke ⟨chs, rfl, _⟩; rfl) (by decide) fun cdv A outer s H E Fm ds kt ko ke hr hF hz => ?_
  obtain ⟨chs, rfl, l6, oc, q⟩ := hz
  have nd := sc_need_chords.nd
  -- if len(chords) > MOST_CHORD:
  refine db_cons (ds_ifP (x := false) ((tp_ord .gt (ep_lenL B (ep_v 0)) (ep_gi C.MOST_CHORD)).cast (decide_eq_false (by rw [List.length_map]; omega))) (fun h => nomatch h) (fun h => db_nil ?_))
  -- for number in range(len(chords)):
  refine db_cons (ds_for PassesOwn.never rfl (dg_name 1 nd) (di_range1 B.range (da_cons ((ep_lenL B (ep_v 0)).to (da_nil ⟨_, rfl, by rw [List.length_map]; omega, ⟨fun i S => ∃ s1, S = [.val (.list (chs.map encT)), s1], ⟨_, rfl⟩, fun i d Si hd hI => ?_, fun Sn hI => db_nil q⟩⟩)))))
  obtain ⟨s1, rfl⟩ := hI
  rw [List.length_map] at hd
  obtain ⟨hi, rfl⟩ := rg_num hd
  -- if not is_chord(chords[number]):
  exact db_one (ds_ifP (tp_not (tp_val (by intro _; rfl) (ep_call (d := .bool true) k_is_chord hr wish0 (ap_cons (ep_ixL (ep_v 0) (ep_v 1) (atI_chs hi)) ap_nil) ⟨_, rfl, by have := (oc _ (chs_mem hi)).l6; omega, by rw [isC_ok.mpr (oc _ (chs_mem hi))], rfl⟩))) (fun h => nomatch h) (fun h => db_nil ⟨_, rfl⟩))

theorem sc_size_of : FnScope ["retuning", "number"] ["retuning"] (defScope s_size_of) := ⟨rfl, rfl, rfl, by decide +kernel, rfl, by decide +kernel, by decide +kernel⟩
def z_size_of : Zp := fun ds kt _ _ => ∃ s, ds = [Tu s] ∧ s.length ≤ 1000 ∧ kt (.int (sizeR s))
theorem ok_size_of {k : Nat} {f : Addr} {fd : FuncData} (Fn : Fun K "size_of" "size_of" s_size_of f fd) (B : BT mg) : FnOk P w K mg base CX0 (k + 1) f fd ["retuning"] (spP z_size_of) := by
  refine fn_ok Fn sc_size_of (by rintro ds kt ko ke ⟨s, rfl, _⟩; rfl) (by decide) fun cdv A outer s H E Fm ds kt ko ke hr hF hz => ?_
  obtain ⟨s, rfl, l, q⟩ := hz
  have nd := sc_size_of.nd
  -- return sum([abs(number) for number in retuning])
  refine db_cons (ds_ret (de_sum B rfl ((ep_o (do_lc [("number", 1)] rfl nd (by decide) (fun _ _ _ _ _ => (dg_name 1 nd)) (di_tup ((ep_v 0).to ⟨_, rfl, (lcp 1 (fun b => .int b) s (fun _ => true) (fun b => .int (absR b)) rfl (small1000 l) (fun b hb s H C cl fp => ts_nil) (fun b hb hf s H C cl fp => (ep_abs B (ep_v 1))) ⟨rfl, rfl⟩)⟩)) (blkOk_by rfl))).to ⟨s.map absR, ?_, q⟩)))
  rw [filter_true, List.map_map]; rfl

theorem sc_all_retunings : FnScope ["tuning", "found", "note", "longer", "some", "change"] ["tuning"] (defScope s_all_retunings) := ⟨rfl, rfl, rfl, by decide +kernel, rfl, by decide +kernel, by decide +kernel⟩
def z_all_retunings : Zp := fun ds _ ko _ => ∃ t, ds = [Tu t] ∧ t.length ≤ 4 ∧ ko ((allR t).map encT)
theorem chg_get {i : Nat} {d : PyData} (h : (rgD (-2) 5)[i]? = some d) : ∃ k, chgs[i]? = some k ∧ d = .int k := by
  match i, h with
  | 0, h => exact ⟨-2, rfl, (Option.some.inj h).symm⟩
  | 1, h => exact ⟨-1, rfl, (Option.some.inj h).symm⟩
  | 2, h => exact ⟨0, rfl, (Option.some.inj h).symm⟩
  | 3, h => exact ⟨1, rfl, (Option.some.inj h).symm⟩
  | 4, h => exact ⟨2, rfl, (Option.some.inj h).symm⟩
  | i + 5, h =>
    have hi := (List.getElem?_eq_some_iff.mp h).1
    rw [rgD_length] at hi
    exact absurd hi (by omega)
theorem ok_all_retunings {k : Nat} {f c : Addr} {fd : FuncData} (Fn : FunC K "all_retunings" "all_retunings" s_all_retunings f fd c) (B : BT mg) (C : Cn mg) (M : Mk base mg c ("all_retunings" ++ ".<locals>." ++ "<lambda>")) (k_size_of : Kn P w K mg base CX0 "size_of" k (spP z_size_of)) : FnOk P w K mg base CX0 (k + 3) f fd ["tuning"] (spPT z_all_retunings) := by
  refine fn_okC (k := k + 2) Fn sc_all_retunings (by rintro ds kt ko ke ⟨t, rfl, _⟩; rfl) (by decide) fun A outer s H E Fm ds kt ko ke hr hF hT hz => ?_
  obtain ⟨t, rfl, l4, q⟩ := hz
  have nd := sc_all_retunings.nd
  -- found = [()]
  refine db_cons (ds_setP (d := .list (([[]] : List (List Int)).map encT)) 1 nd (ep_o (op_lst (ap_cons (ep_tup ap_nil) ap_nil))) ?_)
  -- for note in tuning:
  refine db_mid (fun S => ∃ s2 s3 s4 s5, S = [.val (Tu t), .val (.list ((t.foldl stepR [[]]).map encT)), s2, s3, s4, s5]) (ds_for PassesOwn.never rfl (dg_name 2 nd) (di_tup ((ep_v 0).to ⟨_, rfl, ⟨fun i S => ∃ s2 s3 s4 s5, S = [.val (Tu t), .val (.list (((t.take i).foldl stepR [[]]).map encT)), s2, s3, s4, s5], ⟨_, _, _, _, rfl⟩, fun i d Si hd hI => ?_, fun Sn hI => ?_⟩⟩))) ?_
  · obtain ⟨s2, s3, s4, s5, rfl⟩ := hI
    obtain ⟨n, hn, rfl⟩ := get_int hd
    have hi := lt_of_get hn
    have hsmL := takeR_len l4 i
    have hsm0 : ∀ sh ∈ (t.take i).foldl stepR [[]], sh.length ≤ 4 := fun sh h => by
      rw [(foldR_okRt _ sh h).l, List.length_take]; omega
    have eS : (t.take (i + 1)).foldl stepR [[]] = stepR ((t.take i).foldl stepR [[]]) n := by
      rw [take_succ hn, List.foldl_append]; rfl
    generalize (t.take i).foldl stepR [[]] = sm at hsmL hsm0 eS ⊢
    -- longer = []
    refine db_cons (ds_setOP 3 nd (op_lst ap_nil) ?_)
    -- for some in found:
    refine db_mid (fun S => ∃ s4 s5, S = [.val (Tu t), .val (.list (sm.map encT)), .val (.int n), .own ((stepR sm n).map encT), s4, s5]) (ds_for PassesOwn.never rfl (dg_name 4 nd) (di_list ((ep_v 1).to ⟨_, rfl, ⟨fun j S => ∃ s4 s5, S = [.val (Tu t), .val (.list (sm.map encT)), .val (.int n), .own ((stepR (sm.take j) n).map encT), s4, s5], ⟨_, _, rfl⟩, fun j d Sj hd hJ => ?_, fun Sn hJ => ?_⟩⟩))) ?_
    · obtain ⟨s4, s5, rfl⟩ := hJ
      rw [List.getElem?_map] at hd
      cases hsh : sm[j]? with
      | none => rw [hsh] at hd; cases hd
      | some sh =>
      rw [hsh] at hd; cases hd
      have hl := hsm0 sh (List.mem_of_getElem? hsh)
      have hb0 : (stepR (sm.take j) n).length ≤ 3125 := by
        refine Nat.le_trans (flat_len _ 5 (fun a => extR_len n a) _) ?_
        rw [List.length_take]; omega
      -- for change in range(-MOST_CHANGE, MOST_CHANGE + 1):
      refine db_one (ds_for PassesOwn.never rfl (dg_name 5 nd) (di_range2 B.range (da_cons ((ep_neg (ep_gi C.MOST_CHANGE)).to (da_cons ((ep_add (ep_gi C.MOST_CHANGE) ep_int).to (da_nil ⟨_, _, rfl, ⟨by decide, by decide, by decide, by decide⟩, ⟨fun m S => ∃ s5, S = [.val (Tu t), .val (.list (sm.map encT)), .val (.int n), .own ((stepR (sm.take j) n).map encT ++ (((chgs.take m).filter (rOk n)).map fun k => encT (sh ++ [k]))), .val (Tu sh), s5], ⟨s5, by rw [List.take_zero, List.filter_nil, List.map_nil, List.append_nil]; rfl⟩, fun m d Sm hd hM => ?_, fun Sn hM => ?_⟩⟩)))))))
      · obtain ⟨s5, rfl⟩ := hM
        obtain ⟨kk, hk, rfl⟩ := chg_get (show (rgD (-2) 5)[m]? = some d from hd)
        -- if 0 <= note + change <= MOST_NOTE:
        refine db_one (ds_ifP (x := rOk n kk) (tp_ch2 .le .le ep_int (ep_add (ep_v 2) (ep_v 5)) (ep_gi C.MOST_NOTE)) (fun h => ?_) (fun h => db_nil ⟨_, by rw [take_succ hk, List.filter_append, List.map_append, List.filter_cons, if_neg (by rw [h]; decide), List.filter_nil, List.map_nil, List.append_nil]; rfl⟩))
        -- longer.append(some + (change,))
        refine db_one (ds_append 3 ⟨_, rfl⟩ ((ep_addT (ep_v 4) (ep_tup (ap_cons (ep_v 5) ap_nil)) ?_).to ⟨_, rfl, ?_, ?_⟩))
        · rw [List.length_map]
          exact Nat.le_of_lt (small1000 (by show _ + 1 ≤ 1000; omega))
        · rw [List.length_append, List.length_map, List.length_map]
          have : ((chgs.take m).filter (rOk n)).length ≤ 5 := by
            refine Nat.le_trans (List.length_filter_le _ _) ?_
            rw [List.length_take]
            exact Nat.min_le_right _ _
          exact Nat.lt_of_le_of_lt (show _ ≤ 3130 by omega) (by decide)
        · have e1 : PyData.tuple (sh.map .int ++ [.int kk]) = encT (sh ++ [kk]) := by
            show _ = PyData.tuple ((sh ++ [kk]).map .int)
            rw [List.map_append]; rfl
          exact ⟨_, by rw [take_succ hk, List.filter_append, List.map_append, List.filter_cons, if_pos h, List.append_assoc, e1]; rfl⟩
      · obtain ⟨s5, rfl⟩ := hM
        have eX : ((chgs.take 5).filter (rOk n)).map (fun k => encT (sh ++ [k])) = (extR n sh).map encT := by
          unfold extR; rw [List.map_map]; rfl
        exact ⟨_, _, by rw [take_succ hsh, show stepR (sm.take j ++ [sh]) n = stepR (sm.take j) n ++ extR n sh by unfold stepR; rw [List.flatMap_append, List.flatMap_singleton], List.map_append, ← eX]; rfl⟩
    · obtain ⟨s4, s5, rfl⟩ := hJ
      rw [List.length_map, List.take_length]
      exact ⟨_, _, rfl⟩
    rintro S ⟨s4, s5, rfl⟩
    -- found = longer
    exact db_freeze 3 rfl (db_one (ds_setP 1 nd (ep_v 3) ⟨_, _, _, _, by rw [eS]; rfl⟩))
  · obtain ⟨s2, s3, s4, s5, rfl⟩ := hI
    rw [List.length_map, List.take_length]
    exact ⟨_, _, _, _, rfl⟩
  rintro S ⟨s2, s3, s4, s5, rfl⟩
  -- return sorted(found, key=lambda retuning: (size_of(retuning), retuning))
  rw [← allR_enc] at q
  have hL : (t.foldl stepR [[]]).length ≤ 625 := by
    have := takeR_len l4 t.length
    rwa [List.take_length] at this
  refine db_cons (ds_retO (do_sortLam (N := ["retuning"]) (y := "retuning") (kd := kdR) B M rfl hT hr ⟨rfl, rfl, rfl, by decide +kernel, rfl, by decide +kernel, by decide +kernel⟩ (by decide) ((ep_v 1).to ⟨_, rfl, by rw [List.length_map]; exact Nat.le_trans hL (by decide), kdR_alike _, kdR_sortable _, fun d hd => ?_, fun d hd f2 c2 A2 outer2 s' H2 E2 Fm2 hr2 hF2 => ?_, q⟩)))
  · obtain ⟨s, _, rfl⟩ := List.mem_map.mp hd
    exact kdR_depth s
  · obtain ⟨s, hs, rfl⟩ := List.mem_map.mp hd
    have hl := (foldR_okRt t s hs).l
    rw [kdR_enc]
    exact DE.imp (ep_tup (ap_cons (ep_call (d := .int (sizeR s)) k_size_of hr2 wish0 (ap_cons (ep_v 0) ap_nil) ⟨s, rfl, by omega, rfl, rfl⟩) (ap_cons (ep_v 0) ap_nil))) fun r S h => h.1

theorem sc_first_without : FnScope ["neck", "chords", "hand", "number"] ["neck", "chords", "hand"] (defScope s_first_without) := ⟨rfl, rfl, rfl, by decide +kernel, rfl, by decide +kernel, by decide +kernel⟩
def z_first_without : Zp := fun ds kt _ _ => ∃ t f c, ∃ chs : List (List Int), ∃ r g, ds = [Nk t f c, .list (chs.map encT), Tu [r, g]] ∧ OkN t f c ∧ chs.length ≤ 6 ∧ (∀ ch ∈ chs, OkC ch) ∧ OkH r g ∧ kt (optD (fstW t f c r g chs))
theorem ok_first_without {k : Nat} {f : Addr} {fd : FuncData} (Fn : Fun K "first_without" "first_without" s_first_without f fd) (B : BT mg) (k_all_ways : Kn P w K mg base CX0 "all_ways" k (spP z_all_ways)) : FnOk P w K mg base CX0 (k + 1) f fd ["neck", "chords", "hand"] (spP z_first_without) := by
  refine fn_ok Fn sc_first_without (by rintro ds kt ko ke ⟨t, f, c, chs, r, g, rfl, _⟩; rfl) (by decide) fun cdv A outer s H E Fm ds kt ko ke hr hF hz => ?_
  obtain ⟨t, f, c, chs, r, g, rfl, ok, l6, oc, oh, q⟩ := hz
  have nd := sc_first_without.nd
  -- for number in range(len(chords)):
  refine db_mid (fun S => fstW t f c r g chs = none) (ds_for PassesOwn.never rfl (dg_name 3 nd) (di_range1 B.range (da_cons ((ep_lenL B (ep_v 1)).to (da_nil ⟨_, rfl, by rw [List.length_map]; omega, ⟨fun i S => (∃ s3, S = [.val (Nk t f c), .val (.list (chs.map encT)), .val (Tu [r, g]), s3]) ∧ ∀ y ∈ (List.range chs.length).take i, noW t f c r g (chs.getD y []) = false, ⟨⟨_, rfl⟩, fun _ h => nomatch h⟩, fun i d Si hd hI => ?_, fun Sn hI => ?_⟩⟩))))) ?_
  · obtain ⟨⟨s3, rfl⟩, hno⟩ := hI
    rw [List.length_map] at hd
    obtain ⟨hi, rfl⟩ := rg_num hd
    have hri : (List.range chs.length)[i]? = some i := List.getElem?_range hi
    -- if all_ways(neck, chords[number], hand) == []:
    refine db_one (ds_ifP (x := noW t f c r g (chs.getD i [])) ((tp_eq hr (ep_call (d := .list (((allW t f c r g (chs.getD i [])).mergeSort leT).map encT)) k_all_ways hr wish0 (ap_cons (ep_v 0) (ap_cons (ep_ixL (ep_v 1) (ep_v 3) (atI_chs hi)) (ap_cons (ep_v 2) ap_nil))) ⟨t, f, c, _, r, g, rfl, ok, oc _ (chs_mem hi), oh, rfl, rfl⟩) (ep_o (op_lst ap_nil)) (sh_encTs _) sh_nil).cast ?_) (fun h => ?_) (fun h => db_nil ⟨⟨_, rfl⟩, fun y hy => ?_⟩))
    · rw [eqv_nilL, isEmpty_map, mergeSort_nil]; rfl
    · -- return number
      refine db_one (ds_retP (ep_v 3) ?_)
      have e : fstW t f c r g chs = some i := find_first hno hri h
      rw [e] at q; exact q
    · rw [take_succ hri] at hy
      rcases List.mem_append.mp hy with hy | hy
      · exact hno y hy
      · rw [List.mem_singleton.mp hy]; exact h
  · obtain ⟨_, hno⟩ := hI
    rw [rgD_length, List.length_map, Int.toNat_natCast, List.take_of_length_le (by rw [List.length_range]; exact Nat.le_refl _)] at hno
    exact List.find?_eq_none.mpr fun b hb => by rw [hno b hb]; decide
  intro S e
  -- return None
  refine db_cons (ds_retP ep_non ?_)
  rw [e] at q; exact q

theorem sc_retuned : FnScope ["neck", "chords", "hand", "reasons", "retuning", "tuning", "note", "change", "number"] ["neck", "chords", "hand"] (defScope s_retuned) := ⟨rfl, rfl, rfl, by decide +kernel, rfl, by decide +kernel, by decide +kernel⟩
def z_retuned : Zn := fun ds kn => ∃ t f c, ∃ chs : List (List Int), ∃ r g, ds = [Nk t f c, .list (chs.map encT), Tu [r, g]] ∧ OkN t f c ∧ t.length ≤ 4 ∧ chs.length ≤ 6 ∧ (∀ ch ∈ chs, OkC ch) ∧ OkH r g ∧ kn (resR t f c r g chs)
theorem ok_retuned {k : Nat} {f : Addr} {fd : FuncData} (Fn : Fun K "retuned" "retuned" s_retuned f fd) (B : BT mg) (C : Cn mg) (k_need_neck : Kn P w K mg base CX0 "need_neck" k (spP z_need_neck)) (k_need_chords : Kn P w K mg base CX0 "need_chords" k (spP z_need_chords)) (k_need_hand : Kn P w K mg base CX0 "need_hand" k (spP z_need_hand)) (k_all_retunings : Kn P w K mg base CX0 "all_retunings" k (spPT z_all_retunings)) (k_first_without : Kn P w K mg base CX0 "first_without" k (spP z_first_without)) : FnOk P w K mg base CX0 (k + 1) f fd ["neck", "chords", "hand"] (spNT z_retuned) := by
  refine fn_okNT Fn sc_retuned (by rintro ds kn ⟨t, f, c, chs, r, g, rfl, _⟩; rfl) (by decide) fun cdv A outer s H E Fm ds kn hr hF hT hz => ?_
  obtain ⟨t, f, c, chs, r, g, rfl, ok, l4, l6, oc, oh, q⟩ := hz
  have nd := sc_retuned.nd
  -- need_neck(neck)
  refine db_cons (ds_expr (de_call k_need_neck hr wish0 ((ap_cons (ep_v 0) ap_nil).to ⟨t, f, c, rfl, ok, ?_⟩)))
  -- if len(neck[0]) > MOST_STRINGS:
  refine db_cons (ds_ifP (x := false) ((tp_ord .gt (ep_lenT B (ep_ixT (d := Tu t) (ep_v 0) ep_int rfl)) (ep_gi C.MOST_STRINGS_tunings)).cast (decide_eq_false (by rw [List.length_map]; omega))) (fun h => nomatch h) (fun h => db_nil ?_))
  -- need_chords(chords)
  refine db_cons (ds_expr (de_call k_need_chords hr wish0 ((ap_cons (ep_v 1) ap_nil).to ⟨chs, rfl, l6, oc, ?_⟩)))
  -- need_hand(hand)
  refine db_cons (ds_expr (de_call k_need_hand hr wish0 ((ap_cons (ep_v 2) ap_nil).to ⟨r, g, rfl, oh, ?_⟩)))
  -- reasons = []
  refine db_cons (ds_setOP 3 nd (op_lst ap_nil) ?_)
  -- for retuning in all_retunings(neck[0]):
  refine db_mid (fun S => resR t f c r g chs = .none) (ds_for PassesOwn.never rfl (dg_name 4 nd) (di_list ((ep_callT (d := .list ((allR t).map encT)) hT k_all_retunings hr wish0 (ap_cons (ep_ixT (d := Tu t) (ep_v 0) ep_int rfl) ap_nil) ⟨t, rfl, l4, rfl, rfl⟩).to ⟨_, rfl, ⟨fun i S => ∃ acc s4 s5 s8, S = [.val (Nk t f c), .val (.list (chs.map encT)), .val (Tu [r, g]), .own acc, s4, s5, .unk, .unk, s8] ∧ AccR acc ∧ acc.length = i ∧ goR (fun s => fstW (tuneR t s) f c r g chs) ((allR t).drop i) acc = resR t f c r g chs, ⟨[], _, _, _, rfl, (fun _ h => nomatch h), rfl, rfl⟩, fun i d Si hd hI => ?_, fun Sn hI => ?_⟩⟩))) ?_
  · obtain ⟨acc, s4, s5, s8, rfl, ha, hal, hg⟩ := hI
    rw [List.getElem?_map] at hd
    cases hs : (allR t)[i]? with
    | none => rw [hs] at hd; cases hd
    | some sh =>
    rw [hs] at hd; cases hd
    have hm := List.mem_of_getElem? hs
    have o := allR_ok hm
    have hl := o.l
    have hi := (List.getElem?_eq_some_iff.mp hs).1
    have h625 := allR_len l4
    have ok2 := tuneR_ok ok o
    have h6 : sh.length ≤ 6 := by omega
    have ed : (allR t).drop i = sh :: (allR t).drop (i + 1) := by
      rw [List.drop_eq_getElem_cons hi]
      congr 1
      exact (List.getElem?_eq_some_iff.mp hs).2
    rw [ed, goR] at hg
    -- tuning = tuple([note + change for note, change in zip(neck[0], retuning)])
    refine db_cons (ds_setP (d := Tu (tuneR t sh)) 5 nd ((ep_tupOf B (do_lc [("note", 6), ("change", 7)] rfl nd (by decide) (fun _ _ _ _ _ => (dg_tup rfl (dgs_cons (dg_name 6 nd) (dgs_cons (dg_name 7 nd) dgs_nil)))) (di_zip B ((ep_ixT (d := Tu t) (ep_v 0) ep_int rfl).to ((ep_v 4).to ⟨_, _, .inr ⟨rfl, rfl⟩, (lcp2 6 7 (fun b => .int b.1) (fun b => .int b.2) (t.zip sh) (fun _ => true) (fun b => .int (b.1 + b.2)) (zip_ints _ _) (small1000 (by rw [List.length_zip]; omega)) (fun b hb s H C cl fp => ts_nil) (fun b hb hf s H C cl fp => (ep_add (ep_v 6) (ep_v 7))) ⟨rfl, rfl⟩)⟩))) (blkOk_by rfl))).cast ?_) ?_)
    · rw [filter_true]
      show PyData.tuple _ = PyData.tuple ((tuneR t sh).map .int)
      unfold tuneR; rw [List.map_map]; rfl
    -- number = first_without((tuning, neck[1], neck[2]), chords, hand)
    refine db_cons (ds_setP (d := optD (fstW (tuneR t sh) f c r g chs)) 8 nd (ep_call k_first_without hr wish0 (ap_cons (d := Nk (tuneR t sh) f c) (ep_tup (ap_cons (ep_v 5) (ap_cons (ep_ixT (ep_v 0) ep_int rfl) (ap_cons (ep_ixT (ep_v 0) ep_int rfl) ap_nil)))) (ap_cons (ep_v 1) (ap_cons (ep_v 2) ap_nil))) ⟨tuneR t sh, f, c, chs, r, g, rfl, ok2, l6, oc, oh, rfl, rfl⟩) ?_)
    cases hw : fstW (tuneR t sh) f c r g chs with
    | none =>
      rw [hw] at hg
      -- if number is None:
      refine db_cons (ds_ifP (tp_isN (ep_v (d := .none) 8)) (fun h => ?_) (fun h => by cases h))
      -- return (retuning, reasons)
      refine db_freezeO 3 rfl ha.noL (db_one (ds_retR (dn_tup (dns_cons (dn_p (ep_v 4) (noL_tints sh) (dns_cons (dn_nw 3 rfl (dns_nil ⟨by show 2 ≤ sizeLine; decide, ?_⟩))))))))
      rw [← hg] at q; exact q
    | some kk =>
      rw [hw] at hg
      -- if number is None:
      refine db_cons (ds_ifP (tp_isN (ep_v (d := .int (0 + (kk : Int))) 8)) (fun h => by cases h) (fun h => db_nil ?_))
      -- reasons.append((retuning, number))
      exact db_one (ds_append 3 ⟨_, rfl⟩ ((ep_tup (ap_cons (ep_v 4) (ap_cons (ep_v 8) ap_nil))).to ⟨_, rfl, small1000 (by omega), ⟨_, _, _, _, rfl, ha.snoc h6, by rw [List.length_append, hal]; rfl, hg⟩⟩))
  · obtain ⟨acc, s4, s5, s8, rfl, ha, hal, hg⟩ := hI
    rw [List.length_map, List.drop_length, goR] at hg
    exact hg.symm
  intro S e
  -- return None
  refine db_cons (ds_retP ep_non ⟨rfl, ?_⟩)
  rw [e] at q; exact q

/-! ### cases, and what is told of them -/
structure Cs where
  t : List Int
  f : Int
  c : Int
  sh : List Int
  ch : List Int
  r : Int
  g : Int
  tu : List Int
def encCs (x : Cs) : PyData := .tuple [Nk x.t x.f x.c, Tu x.sh, Tu x.ch, Tu [x.r, x.g], Li x.tu]
structure OkCs (x : Cs) : Prop where
  n : OkN x.t x.f x.c
  l4 : x.t.length ≤ 4
  s : OkS x.t x.f x.c x.sh
  c : OkC x.ch
  h : OkH x.r x.g
  t : OkT x.tu
def ask0 (x : Cs) : List PyData := [Li (notesOf x.t x.f x.c), Li (missOf (notesOf x.t x.f x.c)), .list ((strsOf x.t x.f x.c (x.tu.getD 0 0)).map (encP x.t (x.tu.getD 0 0)))]
def ask1 (x : Cs) : List PyData := [.list (((allW x.t x.f x.c x.r x.g x.ch).mergeSort leT).map encT), Li (sounds x.t x.sh), encO (slidO x.f x.c x.sh 1)]
def ask2 (x : Cs) : List PyData := match tabF x.t x.f x.c x.r [] x.tu with
  | none => []
  | some rows => rows.map Li
def ask3 (x : Cs) : List PyData := match tabF x.t x.f x.c x.r [] x.tu with
  | none => [.int 0, .list []]
  | some rows => match playF x.t x.f x.c x.r x.tu rows with
    | .tuple ds => ds
    | _ => []
def ask4 (x : Cs) : List PyData := match resR (x.t.take 2) x.f x.c x.r x.g [x.ch.take 2] with
  | .tuple ds => ds
  | _ => [.tuple [], .list []]
def ask5 (x : Cs) : List PyData := [.str (textO x.sh), Tu x.sh]
def askL (w : Int) (x : Cs) : List PyData := if w = 0 then ask0 x else if w = 1 then ask1 x else if w = 2 then ask2 x else if w = 3 then ask3 x else if w = 4 then ask4 x else ask5 x
theorem missOf_len {t : List Int} {f c : Int} (ok : OkN t f c) : (missOf (notesOf t f c)).length ≤ 80 := by
  have hne := notesOf_ne (f := f) (c := c) ok.l1 ok.cf
  have hbd := notesOf_bd ok
  generalize notesOf t f c = l at hne hbd ⊢
  have h1 : 0 ≤ l.headD 0 ∧ l.headD 0 ≤ 80 := by
    cases l with
    | nil => exact absurd rfl hne
    | cons a l => exact hbd a List.mem_cons_self
  have h2 : 0 ≤ l.getLastD 0 ∧ l.getLastD 0 ≤ 80 := by
    have : l.getLastD 0 ∈ l := by
      cases l with
      | nil => exact absurd rfl hne
      | cons a l =>
        have e : (a :: l).getLastD 0 = (a :: l).getLast (by simp) := by rw [List.getLastD_cons, List.getLast_eq_getLastD]
        rw [e]; exact List.getLast_mem _
    exact hbd _ this
  unfold missOf
  refine Nat.le_trans (List.length_filter_le _ _) ?_
  rw [List.length_map, List.length_range]; omega
theorem tab_rows {t : List Int} {f c reach : Int} : ∀ (rest : List Int) (acc rows : List (List Int)), tabF t f c reach acc rest = some rows → (∀ a ∈ acc, a.length = (posL f c).length) → rows.length = acc.length + rest.length ∧ ∀ a ∈ rows, a.length = (posL f c).length
  | [], acc, rows, e, h => by
    rw [tabF] at e
    cases e
    exact ⟨rfl, h⟩
  | n :: rest, acc, rows, e, h => by
    rw [tabF] at e
    split at e
    · cases e
    · obtain ⟨h1, h2⟩ := tab_rows rest _ rows e fun a ha => by
        rcases List.mem_append.mp ha with ha | ha
        · exact h a ha
        · rw [List.mem_singleton.mp ha]; exact rowF_len ..
      exact ⟨by rw [h1, List.length_append]; simp only [List.length_cons, List.length_nil]; omega, h2⟩
theorem tab_bd {t : List Int} {f c reach : Int} {tu : List Int} {rows : List (List Int)} (ok : OkN t f c) (ot : OkT tu) (e : tabF t f c reach [] tu = some rows) : rows.length ≤ 30 ∧ ∀ a ∈ rows, a.length ≤ 20 := by
  obtain ⟨h1, h2⟩ := tab_rows tu [] rows e (fun a ha => nomatch ha)
  have := posL_len ok.f2 ok.c0 ok.cf
  have := ot.l30
  exact ⟨by rw [h1]; show 0 + _ ≤ _; omega, fun a ha => by rw [h2 a ha]; omega⟩
/-- what is asked of a told list -/
structure OkL (l : List PyData) : Prop where
  n : l.length ≤ 1000
  i : ∀ d ∈ l, InL True 1000000 d
  a : AlD 5 (.list l)
theorem inl_list {es : List PyData} (h : noLs es = true) (hl : es.length ≤ 50000) : InL True 1000000 (.list es) := .inr ⟨es, rfl, h, by omega⟩
theorem inl_no {d : PyData} (h : noL d = true) : InL True 1000000 d := .inl ⟨trivial, h⟩
theorem al_li' (n : Nat) {ns : List Int} (h : ns.length ≤ 50000) : AlD (n + 2) (Li ns) := ⟨by rw [List.length_map]; exact h, fun x hx => by
  obtain ⟨i, _, rfl⟩ := List.mem_map.mp hx
  trivial⟩
theorem noL_encP (t : List Int) (n : Int) (b : Nat) : noL (encP t n b) = true := by simp [encP, FW.noL, noLs]
theorem okL0 {x : Cs} (h : OkCs x) : OkL (ask0 x) := by
  have hn := notesOf_bd h.n
  have hs : (strsOf x.t x.f x.c (x.tu.getD 0 0)).length ≤ 6 := by
    have := strsOf_len x.t x.f x.c (x.tu.getD 0 0)
    have := h.l4
    omega
  have l1 : (notesOf x.t x.f x.c).length ≤ 126 := notesOf_len h.n
  have l2 : (missOf (notesOf x.t x.f x.c)).length ≤ 80 := missOf_len h.n
  have hp : noLs ((strsOf x.t x.f x.c (x.tu.getD 0 0)).map (encP x.t (x.tu.getD 0 0))) = true := noLs_of fun d hd => by
    obtain ⟨b, _, rfl⟩ := List.mem_map.mp hd
    exact noL_encP _ _ _
  refine ⟨by show 3 ≤ 1000; decide, fun d hd => ?_, ⟨by show 3 ≤ 50000; decide, fun d hd => ?_⟩⟩
  · unfold ask0 at hd
    simp only [List.mem_cons, List.not_mem_nil, or_false] at hd
    rcases hd with rfl | rfl | rfl
    · exact inl_list (noLs_ints _) (by rw [List.length_map]; omega)
    · exact inl_list (noLs_ints _) (by rw [List.length_map]; omega)
    · exact inl_list hp (by rw [List.length_map]; omega)
  · unfold ask0 at hd
    simp only [List.mem_cons, List.not_mem_nil, or_false] at hd
    rcases hd with rfl | rfl | rfl
    · exact al_li' 2 (by omega)
    · exact al_li' 2 (by omega)
    · refine ⟨by rw [List.length_map]; omega, fun y hy => ?_⟩
      obtain ⟨b, _, rfl⟩ := List.mem_map.mp hy
      exact al_tup (by show 2 ≤ 1000; decide) fun z hz => by
        simp only [List.mem_cons, List.not_mem_nil, or_false] at hz
        rcases hz with rfl | rfl
        · trivial
        · trivial
theorem okL1 {x : Cs} (h : OkCs x) : OkL (ask1 x) := by
  have hW : ((allW x.t x.f x.c x.r x.g x.ch).mergeSort leT).length ≤ 46656 := by
    rw [List.length_mergeSort]
    have := takeW_len (t := x.t) (f := x.f) (c := x.c) (r := x.r) (g := x.g) h.n.l2 h.c.l6 x.ch.length
    rwa [List.take_length] at this
  have hWs : ∀ s ∈ (allW x.t x.f x.c x.r x.g x.ch).mergeSort leT, s.length ≤ 6 := fun s hs => by
    have h2 := (List.mergeSort_perm _ _).mem_iff.mp hs
    have := ((allW_mem h.n.c0 h.h.g0 h.c.nd s).mp h2).ok.l
    have := h.n.l2
    omega
  have hS : (sounds x.t x.sh).length ≤ 6 := (sounds_bd h.n h.s).1
  have hl := h.s.l
  have hO : noL (encO (slidO x.f x.c x.sh 1)) = true ∧ AlD 4 (encO (slidO x.f x.c x.sh 1)) := by
    unfold slidO
    split
    · exact ⟨noL_tints _, al_tu 2 (by rw [List.length_map]; have := h.l4; omega)⟩
    · exact ⟨rfl, trivial⟩
  have hp : noLs (((allW x.t x.f x.c x.r x.g x.ch).mergeSort leT).map encT) = true := noLs_of fun d hd => by
    obtain ⟨b, _, rfl⟩ := List.mem_map.mp hd
    exact noL_tints b
  refine ⟨by show 3 ≤ 1000; decide, fun d hd => ?_, ⟨by show 3 ≤ 50000; decide, fun d hd => ?_⟩⟩
  · unfold ask1 at hd
    simp only [List.mem_cons, List.not_mem_nil, or_false] at hd
    rcases hd with rfl | rfl | rfl
    · exact inl_list hp (by rw [List.length_map]; omega)
    · exact inl_list (noLs_ints _) (by rw [List.length_map]; omega)
    · exact inl_no hO.1
  · unfold ask1 at hd
    simp only [List.mem_cons, List.not_mem_nil, or_false] at hd
    rcases hd with rfl | rfl | rfl
    · refine ⟨by rw [List.length_map]; omega, fun y hy => ?_⟩
      obtain ⟨b, hb, rfl⟩ := List.mem_map.mp hy
      exact al_tu 1 (by have := hWs b hb; omega)
    · exact al_li' 2 (by omega)
    · exact hO.2
theorem okL2 {x : Cs} (h : OkCs x) : OkL (ask2 x) := by
  unfold ask2
  cases e : tabF x.t x.f x.c x.r [] x.tu with
  | none => exact ⟨by decide, (fun d hd => nomatch hd), ⟨by decide, (fun d hd => nomatch hd)⟩⟩
  | some rows =>
    obtain ⟨h1, h2⟩ := tab_bd h.n h.t e
    refine ⟨by rw [List.length_map]; omega, fun d hd => ?_, ⟨by rw [List.length_map]; omega, fun d hd => ?_⟩⟩
    · obtain ⟨w, hw, rfl⟩ := List.mem_map.mp hd
      exact inl_list (noLs_ints _) (by rw [List.length_map]; have := h2 w hw; omega)
    · obtain ⟨w, hw, rfl⟩ := List.mem_map.mp hd
      exact al_li' 2 (by have := h2 w hw; omega)
theorem ask3_yes {x : Cs} (h : OkCs x) {rows : List (List Int)} (e : tabF x.t x.f x.c x.r [] x.tu = some rows) : ∃ (m : Int) (L : List (List Int)), playF x.t x.f x.c x.r x.tu rows = .tuple [.int m, .list (L.map encT)] ∧ ask3 x = [.int m, .list (L.map encT)] ∧ L.length ≤ 30 ∧ ∀ l ∈ L, l.length = 3 := by
  obtain ⟨L, eL, pg, em⟩ := play_ok h.t.l1 e
  refine ⟨_, L, eL, ?_, by rw [pg.l]; exact h.t.l30, pg.len3⟩
  unfold ask3
  rw [e]
  simp only
  rw [eL]
theorem okL3 {x : Cs} (h : OkCs x) : OkL (ask3 x) := by
  cases e : tabF x.t x.f x.c x.r [] x.tu with
  | none =>
    have e3 : ask3 x = [.int 0, .list []] := by unfold ask3; rw [e]
    rw [e3]
    refine ⟨by show 2 ≤ 1000; decide, fun d hd => ?_, ⟨by show 2 ≤ 50000; decide, fun d hd => ?_⟩⟩
    · simp only [List.mem_cons, List.not_mem_nil, or_false] at hd
      rcases hd with rfl | rfl
      · exact inl_no rfl
      · exact inl_list rfl (by decide)
    · simp only [List.mem_cons, List.not_mem_nil, or_false] at hd
      rcases hd with rfl | rfl
      · trivial
      · exact ⟨by decide, (fun d hd => nomatch hd)⟩
  | some rows =>
    obtain ⟨m, L, _, e3, l30, l3⟩ := ask3_yes h e
    rw [e3]
    refine ⟨by show 2 ≤ 1000; decide, fun d hd => ?_, ⟨by show 2 ≤ 50000; decide, fun d hd => ?_⟩⟩
    · simp only [List.mem_cons, List.not_mem_nil, or_false] at hd
      rcases hd with rfl | rfl
      · exact inl_no rfl
      · exact inl_list (noLs_of fun d hd => by obtain ⟨b, _, rfl⟩ := List.mem_map.mp hd; exact noL_tints b) (by rw [List.length_map]; omega)
    · simp only [List.mem_cons, List.not_mem_nil, or_false] at hd
      rcases hd with rfl | rfl
      · trivial
      · refine ⟨by rw [List.length_map]; omega, fun y hy => ?_⟩
        obtain ⟨b, hb, rfl⟩ := List.mem_map.mp hy
        exact al_tu 1 (by have := l3 b hb; omega)
theorem okL4 {x : Cs} (h : OkCs x) : OkL (ask4 x) := by
  have hr := resR_ok (t := x.t.take 2) (f := x.f) (c := x.c) (r := x.r) (g := x.g) (chs := [x.ch.take 2]) (by rw [List.length_take]; omega)
  unfold ask4
  generalize resR (x.t.take 2) x.f x.c x.r x.g [x.ch.take 2] = d at hr ⊢
  cases hr with
  | no =>
    refine ⟨by show 2 ≤ 1000; decide, fun d hd => ?_, ⟨by show 2 ≤ 50000; decide, fun d hd => ?_⟩⟩
    · simp only [List.mem_cons, List.not_mem_nil, or_false] at hd
      rcases hd with rfl | rfl
      · exact inl_no rfl
      · exact inl_list rfl (by decide)
    · simp only [List.mem_cons, List.not_mem_nil, or_false] at hd
      rcases hd with rfl | rfl
      · exact ⟨by decide, (fun d hd => nomatch hd)⟩
      · exact ⟨by decide, (fun d hd => nomatch hd)⟩
  | @yes s acc hs ha hl =>
    refine ⟨by show 2 ≤ 1000; decide, fun d hd => ?_, ⟨by show 2 ≤ 50000; decide, fun d hd => ?_⟩⟩
    · simp only [List.mem_cons, List.not_mem_nil, or_false] at hd
      rcases hd with rfl | rfl
      · exact inl_no (noL_tints s)
      · exact inl_list ha.noL (by omega)
    · simp only [List.mem_cons, List.not_mem_nil, or_false] at hd
      rcases hd with rfl | rfl
      · exact al_tu 2 (by omega)
      · refine ⟨by omega, fun y hy => ?_⟩
        obtain ⟨s, k, rfl, h6⟩ := ha y hy
        refine al_tup (by show 2 ≤ 1000; decide) fun z hz => ?_
        simp only [List.mem_cons, List.not_mem_nil, or_false] at hz
        rcases hz with rfl | rfl
        · exact al_tu 0 (by omega)
        · trivial
theorem okL5 {x : Cs} (h : OkCs x) : OkL (ask5 x) := by
  have ht := text_ok h.n h.s
  have hl := h.s.l
  have h4 := h.l4
  refine ⟨by show 2 ≤ 1000; decide, fun d hd => ?_, ⟨by show 2 ≤ 50000; decide, fun d hd => ?_⟩⟩
  · unfold ask5 at hd
    simp only [List.mem_cons, List.not_mem_nil, or_false] at hd
    rcases hd with rfl | rfl
    · exact inl_no rfl
    · exact inl_no (noL_tints _)
  · unfold ask5 at hd
    simp only [List.mem_cons, List.not_mem_nil, or_false] at hd
    rcases hd with rfl | rfl
    · exact ht.1
    · exact al_tu 2 (by omega)
theorem okL {w : Int} {x : Cs} (h : OkCs x) : OkL (askL w x) := by
  unfold askL
  split
  · exact okL0 h
  · split
    · exact okL1 h
    · split
      · exact okL2 h
      · split
        · exact okL3 h
        · split
          · exact okL4 h
          · exact okL5 h

theorem sc__law_asked : FnScope ["_law_way", "_law_neck_here", "_law_shape_here", "_law_chord_here", "_law_hand_here", "_law_tune_here"] ["_law_way", "_law_neck_here", "_law_shape_here", "_law_chord_here", "_law_hand_here", "_law_tune_here"] (defScope s__law_asked) := ⟨rfl, rfl, rfl, by decide +kernel, rfl, by decide +kernel, by decide +kernel⟩
def z__law_asked : Zn := fun ds kn => ∃ (way : Int) (x : Cs), ds = [.int way, Nk x.t x.f x.c, Tu x.sh, Tu x.ch, Tu [x.r, x.g], Li x.tu] ∧ OkCs x ∧ kn (.list (askL way x))
theorem ok__law_asked {k : Nat} {f : Addr} {fd : FuncData} (Fn : Fun K "_law_asked" "_law_asked" s__law_asked f fd) (B : BT mg) (k_notes : Kn P w K mg base CX0 "notes" k (spP z_notes)) (k_missing : Kn P w K mg base CX0 "missing" k (spP z_missing)) (k_places : Kn P w K mg base CX0 "places" k (spP z_places)) (k_ways : Kn P w K mg base CX0 "ways" k (spP z_all_ways)) (k_sounded : Kn P w K mg base CX0 "sounded" k (spP z_sounded)) (k_slid : Kn P w K mg base CX0 "slid" k (spP z_slid_by)) (k_table : Kn P w K mg base CX0 "table" k (spN z_tableN)) (k_played : Kn P w K mg base CX0 "played" k (spN z_playedN)) (k_retuned : Kn P w K mg base CX0 "retuned" k (spNT z_retuned)) (k_written : Kn P w K mg base CX0 "written" k (spP z_written)) (k_read : Kn P w K mg base CX0 "read" k (spP z_read)) : FnOk P w K mg base CX0 (k + 1) f fd ["_law_way", "_law_neck_here", "_law_shape_here", "_law_chord_here", "_law_hand_here", "_law_tune_here"] (spNT z__law_asked) := by
  refine fn_okNT Fn sc__law_asked (by rintro ds kn ⟨way, x, rfl, _⟩; rfl) (by decide) fun cdv A outer s H E Fm ds kn hr hF hT hz => ?_
  obtain ⟨way, x, rfl, ok, q⟩ := hz
  have nd := sc__law_asked.nd
  have l1 := ok.n.l1
  have l4 := ok.l4
  have t1 := ok.t.l1
  unfold askL at q
  -- if _law_way == 0:
  refine db_cons (ds_ifP (x := decide (way = 0)) ((tp_eq hr (ep_v 0) ep_int (sh_int _) (sh_int _)).cast (eqv_int _ _)) (fun h => ?_) (fun h => db_nil ?_))
  · rw [if_pos (of_decide_eq_true h)] at q
    exact db_cons (ds_retR (dn_lst (dns_cons (dn_o (do_call k_notes hr wish0 ((ap_cons (ep_v 1) ap_nil).to ⟨x.t, x.f, x.c, rfl, ok.n, ⟨noLs_ints _, dns_cons (dn_o (do_call k_missing hr wish0 ((ap_cons (ep_v 1) ap_nil).to ⟨x.t, x.f, x.c, rfl, ok.n, ⟨noLs_ints _, dns_cons (dn_o (do_call k_places hr wish0 ((ap_cons (ep_v 1) (ap_cons (ep_ixL (d := .int (x.tu.getD 0 0)) (ep_v 5) ep_int (atI_ints (b := 0) (by omega))) ap_nil)).to ⟨x.t, x.f, x.c, x.tu.getD 0 0, rfl, ok.n, ⟨noLs_of fun d hd => (by obtain ⟨b, _, rfl⟩ := List.mem_map.mp hd; exact noL_encP _ _ _), dns_nil ⟨by show 3 ≤ sizeLine; decide, q⟩⟩⟩)))⟩⟩)))⟩⟩))))))
  rw [if_neg (of_decide_eq_false h)] at q
  -- if _law_way == 1:
  refine db_cons (ds_ifP (x := decide (way = 1)) ((tp_eq hr (ep_v 0) ep_int (sh_int _) (sh_int _)).cast (eqv_int _ _)) (fun h => ?_) (fun h => db_nil ?_))
  · rw [if_pos (of_decide_eq_true h)] at q
    have hO : noL (encO (slidO x.f x.c x.sh 1)) = true := by
      unfold slidO
      split
      · exact noL_tints _
      · rfl
    exact db_cons (ds_retR (dn_lst (dns_cons (dn_o (do_call k_ways hr wish0 ((ap_cons (ep_v 1) (ap_cons (ep_v 3) (ap_cons (ep_v 4) ap_nil))).to ⟨x.t, x.f, x.c, x.ch, x.r, x.g, rfl, ok.n, ok.c, ok.h, ⟨noLs_of fun d hd => (by obtain ⟨b, _, rfl⟩ := List.mem_map.mp hd; exact noL_tints b), dns_cons (dn_o (do_call k_sounded hr wish0 ((ap_cons (ep_v 1) (ap_cons (ep_v 2) ap_nil)).to ⟨x.t, x.f, x.c, x.sh, rfl, ok.n, ok.s, ⟨noLs_ints _, dns_cons (dn_of (de_call k_slid hr wish0 ((ap_cons (ep_v 1) (ap_cons (ep_v 2) (ap_cons ep_int ap_nil))).to ⟨x.t, x.f, x.c, x.sh, 1, rfl, ok.n, ok.s, ⟨hO, dns_nil ⟨by show 3 ≤ sizeLine; decide, q⟩⟩⟩)))⟩⟩)))⟩⟩))))))
  rw [if_neg (of_decide_eq_false h)] at q
  -- if _law_way == 2:
  refine db_cons (ds_ifP (x := decide (way = 2)) ((tp_eq hr (ep_v 0) ep_int (sh_int _) (sh_int _)).cast (eqv_int _ _)) (fun h => ?_) (fun h => db_nil ?_))
  · rw [if_pos (of_decide_eq_true h)] at q
    refine db_cons (ds_retR (dn_orT (dn_call k_table hr ((ap_cons (ep_v 1) (ap_cons (ep_v 5) (ap_cons (ep_ixT (d := .int x.r) (ep_v 4) ep_int rfl) ap_nil))).to ⟨x.t, x.f, x.c, x.tu, x.r, rfl, ok.n, ok.t, ok.h.r0, ok.h.r6, fun e => ⟨(fun y z => nomatch z), (fun z => nomatch z), fun _ => dn_o ((op_lst ap_nil).to ⟨rfl, ?_⟩)⟩, fun rows e => ⟨(fun y z => nomatch z), fun _ => ?_, fun z => dn_o ((op_lst ap_nil).to ⟨rfl, ?_⟩)⟩⟩))))
    · unfold ask2 at q; rw [e] at q; exact q
    · unfold ask2 at q; rw [e] at q; exact q
    · unfold ask2 at q; rw [e] at q
      cases rows with
      | nil => exact q
      | cons a l => cases z
  rw [if_neg (of_decide_eq_false h)] at q
  -- if _law_way == 3:
  refine db_cons (ds_ifP (x := decide (way = 3)) ((tp_eq hr (ep_v 0) ep_int (sh_int _) (sh_int _)).cast (eqv_int _ _)) (fun h => ?_) (fun h => db_nil ?_))
  · rw [if_pos (of_decide_eq_true h)] at q
    refine db_cons (ds_retR (dn_listOf B (dn_orT (dn_call k_played hr ((ap_cons (ep_v 1) (ap_cons (ep_v 5) (ap_cons (ep_ixT (d := .int x.r) (ep_v 4) ep_int rfl) ap_nil))).to ⟨x.t, x.f, x.c, x.tu, x.r, rfl, ok.n, ok.t, ok.h.r0, ok.h.r6, fun e => ⟨(fun y z => nomatch z), (fun z => nomatch z), fun _ => dn_tup (dns_cons (dn_p ep_int rfl (dns_cons (dn_o ((op_lst ap_nil).to ⟨rfl, dns_nil ⟨by show 2 ≤ sizeLine; decide, ⟨_, .t _, ?_⟩⟩⟩)))))⟩, fun rows e => ?_⟩)))))
    · unfold ask3 at q; rw [e] at q; exact q
    · obtain ⟨m, L, eP, e3, _, _⟩ := ask3_yes ok e
      rw [e3] at q
      rw [eP]
      exact ⟨(fun y z => nomatch z), fun _ => ⟨_, .t _, q⟩, (fun z => nomatch z)⟩
  rw [if_neg (of_decide_eq_false h)] at q
  -- if _law_way == 4:
  refine db_cons (ds_ifP (x := decide (way = 4)) ((tp_eq hr (ep_v 0) ep_int (sh_int _) (sh_int _)).cast (eqv_int _ _)) (fun h => ?_) (fun h => db_nil ?_))
  · rw [if_pos (of_decide_eq_true h)] at q
    have ok2 : OkN (x.t.take 2) x.f x.c := ⟨by rw [List.length_take]; omega, by rw [List.length_take]; omega, fun y hy => ok.n.n y (List.mem_of_mem_take hy), ok.n.c0, ok.n.cf, ok.n.f2⟩
    have hres := resR_ok (t := x.t.take 2) (f := x.f) (c := x.c) (r := x.r) (g := x.g) (chs := [x.ch.take 2]) (by rw [List.length_take]; omega)
    unfold ask4 at q
    refine db_cons (ds_retR (dn_listOf B (dn_orT (dn_callT hT k_retuned hr ((ap_cons (d := Nk (x.t.take 2) x.f x.c) (ep_tup (ap_cons ((ep_slT (ep_ixT (d := Tu x.t) (ep_v 1) ep_int rfl) pp_none (pp_some ep_int)).cast (d1 := Tu (x.t.take 2)) (by rw [cutD_pre (by decide), ← List.map_take]; rfl)) (ap_cons (ep_ixT (ep_v 1) ep_int rfl) (ap_cons (ep_ixT (ep_v 1) ep_int rfl) ap_nil)))) (ap_cons (d := .list ([x.ch.take 2].map encT)) (ep_o (op_lst (ap_cons ((ep_slT (ep_v (d := Tu x.ch) 3) pp_none (pp_some ep_int)).cast (d1 := encT (x.ch.take 2)) (by rw [cutD_pre (by decide), ← List.map_take]; rfl)) ap_nil))) (ap_cons (ep_v 4) ap_nil))).to ⟨x.t.take 2, x.f, x.c, [x.ch.take 2], x.r, x.g, rfl, ok2, by rw [List.length_take]; omega, by show 1 ≤ 6; decide, fun ch hch => (by rw [List.mem_singleton.mp hch]; exact okC_take ok.c (by decide)), ok.h, ?_⟩)))))
    generalize resR (x.t.take 2) x.f x.c x.r x.g [x.ch.take 2] = d at hres q ⊢
    cases hres with
    | no => exact ⟨(fun y z => nomatch z), (fun z => nomatch z), fun _ => dn_tup (dns_cons (dn_p (ep_tup ap_nil) rfl (dns_cons (dn_o ((op_lst ap_nil).to ⟨rfl, dns_nil ⟨by show 2 ≤ sizeLine; decide, ⟨_, .t _, q⟩⟩⟩)))))⟩
    | yes hs ha hl => exact ⟨(fun y z => nomatch z), fun _ => ⟨_, .t _, q⟩, (fun z => nomatch z)⟩
  rw [if_neg (of_decide_eq_false h)] at q
  -- return [written(..), read(.., written(..))]
  have tok := text_ok ok.n ok.s
  exact db_cons (ds_retR (dn_lst (dns_cons (dn_p (ep_call (d := .str (textO x.sh)) k_written hr wish0 (ap_cons (ep_v 1) (ap_cons (ep_v 2) ap_nil)) ⟨x.t, x.f, x.c, x.sh, rfl, ok.n, ok.s, rfl, rfl⟩) rfl (dns_cons (dn_p (ep_call (d := Tu x.sh) k_read hr wish0 (ap_cons (ep_v 1) (ap_cons (ep_call (d := .str (textO x.sh)) k_written hr wish0 (ap_cons (ep_v 1) (ap_cons (ep_v 2) ap_nil)) ⟨x.t, x.f, x.c, x.sh, rfl, ok.n, ok.s, rfl, rfl⟩) ap_nil)) ⟨x.t, x.f, x.c, textO x.sh, x.sh, rfl, ok.n, ⟨tok.1, by omega⟩, read_text ok.n ok.s, rfl, rfl⟩) (noL_tints _) (dns_nil ⟨by show 2 ≤ sizeLine; decide, q⟩)))))))

theorem sc__law_copied : FnScope ["_law_told", "_law_one"] ["_law_told"] (defScope s__law_copied) := ⟨rfl, rfl, rfl, by decide +kernel, rfl, by decide +kernel, by decide +kernel⟩
def z__law_copied : Zp := fun ds _ ko _ => ∃ l, ds = [.list l] ∧ l.length ≤ 1000 ∧ ko l
theorem ok__law_copied {k : Nat} {f : Addr} {fd : FuncData} (Fn : Fun K "_law_copied" "_law_copied" s__law_copied f fd) (B : BT mg) : FnOk P w K mg base CX0 (k + 1) f fd ["_law_told"] (spP z__law_copied) := by
  refine fn_ok Fn sc__law_copied (by rintro ds kt ko ke ⟨l, rfl, _⟩; rfl) (by decide) fun cdv A outer s H E Fm ds kt ko ke hr hF hz => ?_
  obtain ⟨l, rfl, hl, q⟩ := hz
  have nd := sc__law_copied.nd
  -- return [list(_law_one) if isinstance(_law_one, list) else _law_one for _law_one in _law_told]
  refine db_cons (ds_retOP (do_lc [("_law_one", 1)] rfl nd (by decide) (fun _ _ _ _ _ => (dg_name 1 nd)) (di_list ((ep_v 0).to ⟨_, rfl, (lcp 1 (fun b => b) l (fun _ => true) (fun b => b) (List.map_id _).symm (small1000 hl) (fun b hb s H C cl fp => ts_nil) (fun b hb hf s H C cl fp => (ep_if (d1 := b) (d2 := b) (tp_val (by intro _; rfl) (ep_isL B (ep_v (d := b) 1))) (fun h => ?_) (fun h => (ep_v (d := b) 1))).cast (by split <;> rfl)) ⟨rfl, rfl⟩)⟩)) (blkOk_by rfl)) ?_)
  · cases b with
    | list ds => exact ep_o (op_listOf B (.l ds) (ep_v (d := .list ds) 1))
    | none => cases h
    | bool _ => cases h
    | int _ => cases h
    | str _ => cases h
    | tuple _ => cases h
    | dict _ => cases h
  · show ko _
    rw [filter_true, List.map_id']
    exact q

theorem sc_law : FnScope ["_law_script", "_law_row", "_law_some", "_law_k", "_law_neck_here", "_law_kept", "_law_shape_here", "_law_chord_here", "_law_hand_here", "_law_tune_here", "_law_way", "_law_turn", "_law_handed", "_law_told", "_law_one"] ["_law_script"] (defScope s_law) := ⟨rfl, rfl, rfl, by decide +kernel, rfl, by decide +kernel, by decide +kernel⟩
def keptD (x : Cs) : PyData := .list ((List.range 6).map fun w : Nat => .list (askL (0 + (w : Int)) x))
theorem ok_law {k : Nat} {f : Addr} {fd : FuncData} (Fn : Fun K "law" "law" s_law f fd) (B : BT mg) (k__law_taken : Kn P w K mg base CX0 "_law_taken" k (spR K z_taken)) (k__law_neck : Kn P w K mg base CX0 "_law_neck" k (spR K z__law_neck)) (k__law_shape : Kn P w K mg base CX0 "_law_shape" k (spR K z__law_shape)) (k__law_chord : Kn P w K mg base CX0 "_law_chord" k (spR K z__law_chord)) (k__law_hand : Kn P w K mg base CX0 "_law_hand" k (spR K z__law_hand)) (k__law_tune : Kn P w K mg base CX0 "_law_tune" k (spR K z__law_tune)) (k__law_asked : Kn P w K mg base CX0 "_law_asked" k (spNT z__law_asked)) (k__law_copied : Kn P w K mg base CX0 "_law_copied" k (spP z__law_copied)) (k__law_alike : Kn P w K mg base CX0 "_law_alike" k (spP (z__law_alike 5))) : FnOk P w K mg base CX0 (k + 1) f fd ["_law_script"] (spLawT K) := by
  have nd := sc_law.nd
  refine fn_lawT (n := 13) Fn sc_law rfl rfl (fun cdv A outer s H E => ps_asg (pe_lst (pa_cons (pv 0) (pa_cons pe_int (pa_cons pe_int (pa_cons pe_int pa_nil))))) (pg_name nd rfl (.inl rfl))) fun cdv A outer s H E Fm hT hr => ?_
  -- _law_some = []
  refine db_cons (ds_setOP 2 nd (op_lst ap_nil) ?_)
  -- for _law_k in range(2):
  refine db_mid (fun S => ∃ (cs : List Cs) (s3 s4 : Sl), S = [.unk, .row, .own (cs.map encCs), s3, s4, .unk, .unk, .unk, .unk, .unk, .unk, .unk, .unk, .unk, .unk] ∧ cs.length = 2 ∧ ∀ x ∈ cs, OkCs x) (ds_for PassesOwn.never rfl (dg_name 3 nd) (di_range1 B.range (da_cons (ep_int.to (da_nil ⟨_, rfl, ⟨by decide, by decide⟩, ⟨fun i S => ∃ (cs : List Cs) (s3 s4 : Sl), S = [.unk, .row, .own (cs.map encCs), s3, s4, .unk, .unk, .unk, .unk, .unk, .unk, .unk, .unk, .unk, .unk] ∧ cs.length = i ∧ ∀ x ∈ cs, OkCs x, ⟨[], _, _, rfl, rfl, (fun _ h => nomatch h)⟩, fun i d Si hd hI => ?_, fun Sn hI => hI⟩⟩))))) ?_
  · obtain ⟨cs, s3, s4, rfl, hl, hk⟩ := hI
    have hi := (List.getElem?_eq_some_iff.mp hd).1
    rw [rgD_length] at hi
    have hi : i < 2 := hi
    -- _law_neck_here = _law_neck(_law_row, 4)
    refine db_cons (ds_set 4 nd (de_callR 1 k__law_neck hr wish0 (da_cons (ep_int.to (da_nil ⟨rfl, 4, rfl, by decide, by decide, fun t f c ok l4 => ?_⟩)))))
    -- _law_some.append(..)
    refine db_one (ds_append 2 ⟨_, rfl⟩ (de_tup (da_cons ((ep_v (d := Nk t f c) 4).to (da_cons (de_callR 1 k__law_shape hr wish0 (da_cons ((ep_v (d := Nk t f c) 4).to (da_nil ⟨rfl, t, f, c, rfl, ok, fun sh os => (da_cons (de_callR 1 k__law_chord hr wish0 (da_cons ((ep_v (d := Nk t f c) 4).to (da_nil ⟨rfl, t, f, c, rfl, ok, fun ch oc => (da_cons (de_callR 1 k__law_hand hr wish0 (da_nil ⟨rfl, rfl, fun r g r0 r6 g0 g6 => (da_cons (de_callR 1 k__law_tune hr wish0 (da_cons ((ep_v (d := Nk t f c) 4).to (da_cons (ep_int.to (da_nil ⟨rfl, t, f, c, 9, rfl, ok, by decide, by decide, fun tu ot t9 => (da_nil ⟨by show 5 ≤ sizeLine; decide, ⟨_, rfl, ?_, ?_⟩⟩)⟩)))))))⟩)))⟩)))))⟩)))))))))
    · rw [List.length_map]; exact small1000 (by omega)
    · refine ⟨cs ++ [⟨t, f, c, sh, ch, r, g, tu⟩], _, _, by rw [List.map_append]; rfl, by rw [List.length_append, hl]; rfl, fun x hx => ?_⟩
      rcases List.mem_append.mp hx with hx | hx
      · exact hk x hx
      · rw [List.mem_singleton.mp hx]
        exact ⟨ok, by show t.length ≤ 4; omega, os, oc, ⟨r0, r6, g0, g6⟩, ot⟩
  rintro S ⟨cs, s3, s4, rfl, hl, hk⟩
  -- _law_kept = []
  refine db_freeze 2 rfl (db_cons (ds_setOP 5 nd (op_lst ap_nil) ?_))
  -- for .. in _law_some:
  refine db_mid (fun S => ∃ s4 s6 s7 s8 s9, S = [.unk, .row, .val (.list (cs.map encCs)), s3, s4, .own (cs.map keptD), s6, s7, s8, s9, .unk, .unk, .unk, .unk, .unk]) (ds_for PassesOwn.never rfl (dg_tup rfl (dgs_cons (dg_name 4 nd) (dgs_cons (dg_name 6 nd) (dgs_cons (dg_name 7 nd) (dgs_cons (dg_name 8 nd) (dgs_cons (dg_name 9 nd) dgs_nil)))))) (di_list ((ep_v (d := .list (cs.map encCs)) 2).to ⟨_, rfl, ⟨fun i S => ∃ s4 s6 s7 s8 s9, S = [.unk, .row, .val (.list (cs.map encCs)), s3, s4, .own ((cs.take i).map keptD), s6, s7, s8, s9, .unk, .unk, .unk, .unk, .unk], ⟨_, _, _, _, _, rfl⟩, fun i d Si hd hI => ?_, fun Sn hI => ?_⟩⟩))) ?_
  · obtain ⟨s4, s6, s7, s8, s9, rfl⟩ := hI
    rw [List.getElem?_map] at hd
    cases hx : cs[i]? with
    | none => rw [hx] at hd; cases hd
    | some x =>
    rw [hx] at hd; cases hd
    have ok := hk x (List.mem_of_getElem? hx)
    refine ⟨_, rfl, rfl, _, _, rfl, _, _, rfl, _, _, rfl, _, _, rfl, _, _, rfl, rfl, ?_⟩
    -- _law_kept.append([..])
    refine db_one (ds_append 5 ⟨_, rfl⟩ (de_o (do_lc [("_law_way", 10)] rfl nd (by decide) (fun _ _ _ _ _ => (dg_name 10 nd)) (di_range1 B.range (da_cons (ep_int.to (da_nil ⟨_, rfl, ⟨by decide, by decide⟩, (lcp 10 (fun b : Nat => .int (0 + (b : Int))) (List.range 6) (fun _ => true) (fun b => .list (askL (0 + (b : Int)) x)) rfl (small1000 (by decide)) (fun b hb s H C cl fp => ts_nil) (fun b hb hf s H C cl fp => (ep_call (d := .list (askL (0 + (b : Int)) x)) k__law_copied hr wish0 (ap_cons (ep_callNT (d := .list (askL (0 + (b : Int)) x)) hT k__law_asked hr (ap_cons (ep_v 10) (ap_cons (ep_v 4) (ap_cons (ep_v 6) (ap_cons (ep_v 7) (ap_cons (ep_v 8) (ap_cons (ep_v 9) ap_nil)))))) ⟨_, x, rfl, ok, rfl, rfl⟩) ap_nil) ⟨_, rfl, (okL ok).n, rfl, rfl⟩)) ⟨_, rfl, ?_, ?_⟩)⟩)))) (blkOk_by rfl))))
    · rw [List.length_map, List.length_take]; exact small1000 (by omega)
    · exact ⟨_, _, _, _, _, by rw [filter_true, take_succ hx, List.map_append]; rfl⟩
  · obtain ⟨s4, s6, s7, s8, s9, rfl⟩ := hI
    rw [List.length_map, List.take_length]
    exact ⟨_, _, _, _, _, rfl⟩
  rintro S ⟨s4, s6, s7, s8, s9, rfl⟩
  refine db_freeze 5 rfl ?_
  -- for _law_turn in range(1 + _law_taken(_law_row, 14)):
  refine db_mid (fun S => True) (ds_for PassesOwn.never rfl (dg_name 11 nd) (di_range1 B.range (da_cons (de_add (ep_int.to (de_takeP 1 k__law_taken hr ep_int ⟨by decide, by decide⟩ fun r1 a1 b1 => (i2 (da_nil ⟨_, rfl, ⟨by omega, by omega⟩, ⟨fun _ S => ∃ s3 s4 s6 s7 s8 s9 s10 s11 s12, S = [.unk, .row, .val (.list (cs.map encCs)), s3, s4, .val (.list (cs.map keptD)), s6, s7, s8, s9, s10, s11, s12, .unk, .unk], ⟨_, _, _, _, _, _, _, _, _, rfl⟩, fun i d Si hd hI => ?_, fun Sn hI => trivial⟩⟩)))))))) ?_
  · obtain ⟨s3, s4, s6, s7, s8, s9, s10, s11, s12, rfl⟩ := hI
    -- _law_k = _law_taken(_law_row, 2)
    refine db_cons (ds_set 3 nd (de_takeP 1 k__law_taken hr ep_int ⟨by decide, by decide⟩ fun r2 a2 b2 => ?_))
    -- _law_way = _law_taken(_law_row, 6)
    refine db_cons (ds_set 10 nd (de_takeP 1 k__law_taken hr ep_int ⟨by decide, by decide⟩ fun r3 a3 b3 => ?_))
    obtain ⟨kk, rfl⟩ : ∃ kk : Nat, r2 = (kk : Int) := ⟨r2.toNat, by omega⟩
    obtain ⟨ww, rfl⟩ : ∃ ww : Nat, r3 = (ww : Int) := ⟨r3.toNat, by omega⟩
    obtain ⟨x, hx⟩ : ∃ x, cs[kk]? = some x := ⟨_, List.getElem?_eq_getElem (by omega)⟩
    have ok := hk x (List.mem_of_getElem? hx)
    -- .. = _law_some[_law_k]
    refine db_cons (ds_asg (dg_tup rfl (dgs_cons (dg_name 4 nd) (dgs_cons (dg_name 6 nd) (dgs_cons (dg_name 7 nd) (dgs_cons (dg_name 8 nd) (dgs_cons (dg_name 9 nd) dgs_nil)))))) ((ep_ixL (d := encCs x) (ep_v (d := .list (cs.map encCs)) 2) (ep_v (d := .int (kk : Int)) 3) (atI_nat (j := kk) (by rw [List.getElem?_map, hx]; rfl))).to ⟨_, rfl, rfl, _, _, rfl, _, _, rfl, _, _, rfl, _, _, rfl, _, _, rfl, rfl, ?_⟩))
    -- _law_handed = list(_law_tune_here)
    refine db_cons (ds_setP (d := Li x.tu) 12 nd (ep_o (op_listOf B (.l _) (ep_v 9))) ?_)
    refine db_scopeT hT fun F' S0 hF hS hT' => ?_
    obtain ⟨_, rfl, v1, _, rfl, v2, _, rfl, q2, v3, _, rfl, q3, v4, _, rfl, q4, v5, _, rfl, q5, v6, _, rfl, q6, v7, _, rfl, q7, v8, _, rfl, q8, v9, _, rfl, q9, v10, _, rfl, q10, v11, _, rfl, q11, v12, _, rfl, q12, _, rfl, _, rfl, rfl⟩ := hS
    -- _law_told = _law_asked(..)
    refine db0_c (ds_setN 13 nd (dn_callT hT' k__law_asked hr ((ap_cons (ep_fx 10 q10) (ap_cons (ep_fx 4 q4) (ap_cons (ep_fx 6 q6) (ap_cons (ep_fx 7 q7) (ap_cons (ep_fx 8 q8) (ap_cons (ep_fx 12 q12) ap_nil)))))).to ⟨_, x, rfl, ok, ?_⟩)))
    have hA := okL (w := (ww : Int)) ok
    have eK : atI (cs.map keptD) (kk : Int) = some (keptD x) := atI_nat (j := kk) (by rw [List.getElem?_map, hx]; rfl)
    have eW : atI ((List.range 6).map fun w : Nat => PyData.list (askL (0 + (w : Int)) x)) (ww : Int) = some (.list (askL (ww : Int) x)) := atI_nat (j := ww) (by rw [List.getElem?_map, List.getElem?_range (by omega)]; show some (PyData.list (askL (0 + (ww : Int)) x)) = _; rw [Int.zero_add])
    generalize askL (ww : Int) x = told at hA eW ⊢
    -- if not _law_alike(..) or _law_handed != _law_tune_here:
    refine db0_c (ds_ifP (x := false) ((tp_w (wp_or (x := false) (y := false) ((tp_not (tp_alikeP (d := .list told) k__law_alike hr (ep_nw (d := .list told) 13) (ep_ixL (d := .list told) (ep_ixL (d := keptD x) (ep_fx 5 q5) (ep_fx 3 q3) eK) (ep_fx 10 q10) eW) hA.a)).cast rfl) fun h => (wp_or1 ((tp_ne hr (ep_fx 12 q12) (ep_fx 9 q9) (sh_lints _) (sh_lints _)).cast (by rw [eqv_lints, decide_eq_true rfl]; rfl))))).cast rfl) (fun h => nomatch h) (fun h => db_nil ?_))
    -- for _law_one in _law_told:
    refine db0_cons (ds0_wildIf 13 14 (ds := told) B PassesOwn.never rfl nd hF (by decide) hA.i hA.n ?_)
    -- _law_told.append(7)
    refine db0_cons (ds0_apWild 13 (n := 1000) (by decide) ?_)
    -- _law_told.reverse()
    exact db0_one (ds0_revWild 13 ⟨_, (.drop (.keep (.keep (.keep (.keep (.keep (.keep (.keep (.keep (.keep (.keep (.keep (.keep (.drop (.drop .nil))))))))))))))), _, _, _, _, _, _, _, _, _, rfl⟩)
  · intro S _
    exact db_cons (ds_retP ep_bl rfl)
end
end Q
namespace Q
open PySem PySem.Spec PyProof.Rows L2 FW
theorem all_mk [Tb] {l : PySem.W.OpenLaw} {w : World} {K : PySem.W.Frag} {h : Heap} {mg : Str → Option Value} {fa : Addr} (X : K.In h) (G : h.Ns mainGlobals mg) (hfa : mg "law" = some (.ref fa))
    {f0 : Addr} {od0 an0 : Option Addr} {sl0 : Array (Option Value)} {oc0 kV0 dc0 pm0 ct0 : Value} {cd0 : Value}
    (a0 : PySem.W.nsIn K mainGlobals "_law_taken" = some (some (.ref f0))) (l0 : K.lookup f0 = some ⟨oc0, od0, .func (PySem.W.fnOf "_law_taken" "_law_taken" (defArgs s__law_taken) (defBody s__law_taken) (defScope s__law_taken) .none kV0 dc0 pm0 an0 cd0 ct0), sl0⟩) (c0c : PySem.W.codeIn K cd0 "_law_taken" = true) (k0 : PySem.W.keepIn K (.ref f0) = true)
    {f1 : Addr} {od1 an1 : Option Addr} {sl1 : Array (Option Value)} {oc1 kV1 dc1 pm1 ct1 : Value} {cd1 : Value}
    (a1 : PySem.W.nsIn K mainGlobals "_law_neck" = some (some (.ref f1))) (l1 : K.lookup f1 = some ⟨oc1, od1, .func (PySem.W.fnOf "_law_neck" "_law_neck" (defArgs s__law_neck) (defBody s__law_neck) (defScope s__law_neck) .none kV1 dc1 pm1 an1 cd1 ct1), sl1⟩) (c1c : PySem.W.codeIn K cd1 "_law_neck" = true) (k1 : PySem.W.keepIn K (.ref f1) = true)
    {f2 : Addr} {od2 an2 : Option Addr} {sl2 : Array (Option Value)} {oc2 kV2 dc2 pm2 ct2 : Value} {cd2 : Value}
    (a2 : PySem.W.nsIn K mainGlobals "_law_shape" = some (some (.ref f2))) (l2 : K.lookup f2 = some ⟨oc2, od2, .func (PySem.W.fnOf "_law_shape" "_law_shape" (defArgs s__law_shape) (defBody s__law_shape) (defScope s__law_shape) .none kV2 dc2 pm2 an2 cd2 ct2), sl2⟩) (c2c : PySem.W.codeIn K cd2 "_law_shape" = true) (k2 : PySem.W.keepIn K (.ref f2) = true)
    {f3 : Addr} {od3 an3 : Option Addr} {sl3 : Array (Option Value)} {oc3 kV3 dc3 pm3 ct3 : Value} {cd3 : Value}
    (a3 : PySem.W.nsIn K mainGlobals "_law_sounds" = some (some (.ref f3))) (l3 : K.lookup f3 = some ⟨oc3, od3, .func (PySem.W.fnOf "_law_sounds" "_law_sounds" (defArgs s__law_sounds) (defBody s__law_sounds) (defScope s__law_sounds) .none kV3 dc3 pm3 an3 cd3 ct3), sl3⟩) (c3c : PySem.W.codeIn K cd3 "_law_sounds" = true) (k3 : PySem.W.keepIn K (.ref f3) = true)
    {f4 : Addr} {od4 an4 : Option Addr} {sl4 : Array (Option Value)} {oc4 kV4 dc4 pm4 ct4 : Value} {cd4 : Value}
    (a4 : PySem.W.nsIn K mainGlobals "_law_chord" = some (some (.ref f4))) (l4 : K.lookup f4 = some ⟨oc4, od4, .func (PySem.W.fnOf "_law_chord" "_law_chord" (defArgs s__law_chord) (defBody s__law_chord) (defScope s__law_chord) .none kV4 dc4 pm4 an4 cd4 ct4), sl4⟩) (c4c : PySem.W.codeIn K cd4 "_law_chord" = true) (k4 : PySem.W.keepIn K (.ref f4) = true)
    {f5 : Addr} {od5 an5 : Option Addr} {sl5 : Array (Option Value)} {oc5 kV5 dc5 pm5 ct5 : Value} {cd5 : Value}
    (a5 : PySem.W.nsIn K mainGlobals "_law_hand" = some (some (.ref f5))) (l5 : K.lookup f5 = some ⟨oc5, od5, .func (PySem.W.fnOf "_law_hand" "_law_hand" (defArgs s__law_hand) (defBody s__law_hand) (defScope s__law_hand) .none kV5 dc5 pm5 an5 cd5 ct5), sl5⟩) (c5c : PySem.W.codeIn K cd5 "_law_hand" = true) (k5 : PySem.W.keepIn K (.ref f5) = true)
    {f6 : Addr} {od6 an6 : Option Addr} {sl6 : Array (Option Value)} {oc6 kV6 dc6 pm6 ct6 : Value} {cd6 : Value}
    (a6 : PySem.W.nsIn K mainGlobals "_law_tune" = some (some (.ref f6))) (l6 : K.lookup f6 = some ⟨oc6, od6, .func (PySem.W.fnOf "_law_tune" "_law_tune" (defArgs s__law_tune) (defBody s__law_tune) (defScope s__law_tune) .none kV6 dc6 pm6 an6 cd6 ct6), sl6⟩) (c6c : PySem.W.codeIn K cd6 "_law_tune" = true) (k6 : PySem.W.keepIn K (.ref f6) = true)
    {f7 : Addr} {od7 an7 : Option Addr} {sl7 : Array (Option Value)} {oc7 kV7 dc7 pm7 ct7 : Value} {cd7 : Value}
    (a7 : PySem.W.nsIn K mainGlobals "need_neck" = some (some (.ref f7))) (l7 : K.lookup f7 = some ⟨oc7, od7, .func (PySem.W.fnOf "need_neck" "need_neck" (defArgs s_need_neck) (defBody s_need_neck) (defScope s_need_neck) .none kV7 dc7 pm7 an7 cd7 ct7), sl7⟩) (c7c : PySem.W.codeIn K cd7 "need_neck" = true) (k7 : PySem.W.keepIn K (.ref f7) = true)
    {f8 : Addr} {od8 an8 : Option Addr} {sl8 : Array (Option Value)} {oc8 kV8 dc8 pm8 ct8 : Value} {cd8 : Value}
    (a8 : PySem.W.nsIn K mainGlobals "notes" = some (some (.ref f8))) (l8 : K.lookup f8 = some ⟨oc8, od8, .func (PySem.W.fnOf "notes" "notes" (defArgs s_notes) (defBody s_notes) (defScope s_notes) .none kV8 dc8 pm8 an8 cd8 ct8), sl8⟩) (c8c : PySem.W.codeIn K cd8 "notes" = true) (k8 : PySem.W.keepIn K (.ref f8) = true)
    {f9 : Addr} {od9 an9 : Option Addr} {sl9 : Array (Option Value)} {oc9 kV9 dc9 pm9 ct9 : Value} {cd9 : Value}
    (a9 : PySem.W.nsIn K mainGlobals "missing" = some (some (.ref f9))) (l9 : K.lookup f9 = some ⟨oc9, od9, .func (PySem.W.fnOf "missing" "missing" (defArgs s_missing) (defBody s_missing) (defScope s_missing) .none kV9 dc9 pm9 an9 cd9 ct9), sl9⟩) (c9c : PySem.W.codeIn K cd9 "missing" = true) (k9 : PySem.W.keepIn K (.ref f9) = true)
    {f10 : Addr} {od10 an10 : Option Addr} {sl10 : Array (Option Value)} {oc10 kV10 dc10 pm10 ct10 : Value} {cd10 : Value}
    (a10 : PySem.W.nsIn K mainGlobals "places_of" = some (some (.ref f10))) (l10 : K.lookup f10 = some ⟨oc10, od10, .func (PySem.W.fnOf "places_of" "places_of" (defArgs s_places_of) (defBody s_places_of) (defScope s_places_of) .none kV10 dc10 pm10 an10 cd10 ct10), sl10⟩) (c10c : PySem.W.codeIn K cd10 "places_of" = true) (k10 : PySem.W.keepIn K (.ref f10) = true)
    {f11 : Addr} {od11 an11 : Option Addr} {sl11 : Array (Option Value)} {oc11 kV11 dc11 pm11 ct11 : Value} {cd11 : Value}
    (a11 : PySem.W.nsIn K mainGlobals "places" = some (some (.ref f11))) (l11 : K.lookup f11 = some ⟨oc11, od11, .func (PySem.W.fnOf "places" "places" (defArgs s_places) (defBody s_places) (defScope s_places) .none kV11 dc11 pm11 an11 cd11 ct11), sl11⟩) (c11c : PySem.W.codeIn K cd11 "places" = true) (k11 : PySem.W.keepIn K (.ref f11) = true)
    {f12 : Addr} {od12 an12 : Option Addr} {sl12 : Array (Option Value)} {oc12 kV12 dc12 pm12 ct12 : Value} {cd12 : Value}
    (a12 : PySem.W.nsIn K mainGlobals "is_chord" = some (some (.ref f12))) (l12 : K.lookup f12 = some ⟨oc12, od12, .func (PySem.W.fnOf "is_chord" "is_chord" (defArgs s_is_chord) (defBody s_is_chord) (defScope s_is_chord) .none kV12 dc12 pm12 an12 cd12 ct12), sl12⟩) (c12c : PySem.W.codeIn K cd12 "is_chord" = true) (k12 : PySem.W.keepIn K (.ref f12) = true)
    {f13 : Addr} {od13 an13 : Option Addr} {sl13 : Array (Option Value)} {oc13 kV13 dc13 pm13 ct13 : Value} {cd13 : Value}
    (a13 : PySem.W.nsIn K mainGlobals "need_chord" = some (some (.ref f13))) (l13 : K.lookup f13 = some ⟨oc13, od13, .func (PySem.W.fnOf "need_chord" "need_chord" (defArgs s_need_chord) (defBody s_need_chord) (defScope s_need_chord) .none kV13 dc13 pm13 an13 cd13 ct13), sl13⟩) (c13c : PySem.W.codeIn K cd13 "need_chord" = true) (k13 : PySem.W.keepIn K (.ref f13) = true)
    {f14 : Addr} {od14 an14 : Option Addr} {sl14 : Array (Option Value)} {oc14 kV14 dc14 pm14 ct14 : Value} {cd14 : Value}
    (a14 : PySem.W.nsIn K mainGlobals "need_hand" = some (some (.ref f14))) (l14 : K.lookup f14 = some ⟨oc14, od14, .func (PySem.W.fnOf "need_hand" "need_hand" (defArgs s_need_hand) (defBody s_need_hand) (defScope s_need_hand) .none kV14 dc14 pm14 an14 cd14 ct14), sl14⟩) (c14c : PySem.W.codeIn K cd14 "need_hand" = true) (k14 : PySem.W.keepIn K (.ref f14) = true)
    {f15 : Addr} {od15 an15 : Option Addr} {sl15 : Array (Option Value)} {oc15 kV15 dc15 pm15 ct15 : Value} {cd15 : Value}
    (a15 : PySem.W.nsIn K mainGlobals "is_laid" = some (some (.ref f15))) (l15 : K.lookup f15 = some ⟨oc15, od15, .func (PySem.W.fnOf "is_laid" "is_laid" (defArgs s_is_laid) (defBody s_is_laid) (defScope s_is_laid) .none kV15 dc15 pm15 an15 cd15 ct15), sl15⟩) (c15c : PySem.W.codeIn K cd15 "is_laid" = true) (k15 : PySem.W.keepIn K (.ref f15) = true)
    {f16 : Addr} {od16 an16 : Option Addr} {sl16 : Array (Option Value)} {oc16 kV16 dc16 pm16 ct16 : Value} {cd16 : Value}
    (a16 : PySem.W.nsIn K mainGlobals "all_ways" = some (some (.ref f16))) (l16 : K.lookup f16 = some ⟨oc16, od16, .func (PySem.W.fnOf "all_ways" "all_ways" (defArgs s_all_ways) (defBody s_all_ways) (defScope s_all_ways) .none kV16 dc16 pm16 an16 cd16 ct16), sl16⟩) (c16c : PySem.W.codeIn K cd16 "all_ways" = true) (k16 : PySem.W.keepIn K (.ref f16) = true)
    {f17 : Addr} {od17 an17 : Option Addr} {sl17 : Array (Option Value)} {oc17 kV17 dc17 pm17 ct17 : Value} {cd17 : Value}
    (a17 : PySem.W.nsIn K mainGlobals "ways" = some (some (.ref f17))) (l17 : K.lookup f17 = some ⟨oc17, od17, .func (PySem.W.fnOf "ways" "ways" (defArgs s_ways) (defBody s_ways) (defScope s_ways) .none kV17 dc17 pm17 an17 cd17 ct17), sl17⟩) (c17c : PySem.W.codeIn K cd17 "ways" = true) (k17 : PySem.W.keepIn K (.ref f17) = true)
    {f18 : Addr} {od18 an18 : Option Addr} {sl18 : Array (Option Value)} {oc18 kV18 dc18 pm18 ct18 : Value} {cd18 : Value}
    (a18 : PySem.W.nsIn K mainGlobals "need_shape" = some (some (.ref f18))) (l18 : K.lookup f18 = some ⟨oc18, od18, .func (PySem.W.fnOf "need_shape" "need_shape" (defArgs s_need_shape) (defBody s_need_shape) (defScope s_need_shape) .none kV18 dc18 pm18 an18 cd18 ct18), sl18⟩) (c18c : PySem.W.codeIn K cd18 "need_shape" = true) (k18 : PySem.W.keepIn K (.ref f18) = true)
    {f19 : Addr} {od19 an19 : Option Addr} {sl19 : Array (Option Value)} {oc19 kV19 dc19 pm19 ct19 : Value} {cd19 : Value}
    (a19 : PySem.W.nsIn K mainGlobals "sounded" = some (some (.ref f19))) (l19 : K.lookup f19 = some ⟨oc19, od19, .func (PySem.W.fnOf "sounded" "sounded" (defArgs s_sounded) (defBody s_sounded) (defScope s_sounded) .none kV19 dc19 pm19 an19 cd19 ct19), sl19⟩) (c19c : PySem.W.codeIn K cd19 "sounded" = true) (k19 : PySem.W.keepIn K (.ref f19) = true)
    {f20 : Addr} {od20 an20 : Option Addr} {sl20 : Array (Option Value)} {oc20 kV20 dc20 pm20 ct20 : Value} {cd20 : Value}
    (a20 : PySem.W.nsIn K mainGlobals "slid_by" = some (some (.ref f20))) (l20 : K.lookup f20 = some ⟨oc20, od20, .func (PySem.W.fnOf "slid_by" "slid_by" (defArgs s_slid_by) (defBody s_slid_by) (defScope s_slid_by) .none kV20 dc20 pm20 an20 cd20 ct20), sl20⟩) (c20c : PySem.W.codeIn K cd20 "slid_by" = true) (k20 : PySem.W.keepIn K (.ref f20) = true)
    {f21 : Addr} {od21 an21 : Option Addr} {sl21 : Array (Option Value)} {oc21 kV21 dc21 pm21 ct21 : Value} {cd21 : Value}
    (a21 : PySem.W.nsIn K mainGlobals "slid" = some (some (.ref f21))) (l21 : K.lookup f21 = some ⟨oc21, od21, .func (PySem.W.fnOf "slid" "slid" (defArgs s_slid) (defBody s_slid) (defScope s_slid) .none kV21 dc21 pm21 an21 cd21 ct21), sl21⟩) (c21c : PySem.W.codeIn K cd21 "slid" = true) (k21 : PySem.W.keepIn K (.ref f21) = true)
    {f22 : Addr} {od22 an22 : Option Addr} {sl22 : Array (Option Value)} {oc22 kV22 dc22 pm22 ct22 : Value} {cd22 : Value}
    (a22 : PySem.W.nsIn K mainGlobals "need_tune" = some (some (.ref f22))) (l22 : K.lookup f22 = some ⟨oc22, od22, .func (PySem.W.fnOf "need_tune" "need_tune" (defArgs s_need_tune) (defBody s_need_tune) (defScope s_need_tune) .none kV22 dc22 pm22 an22 cd22 ct22), sl22⟩) (c22c : PySem.W.codeIn K cd22 "need_tune" = true) (k22 : PySem.W.keepIn K (.ref f22) = true)
    {f23 : Addr} {od23 an23 : Option Addr} {sl23 : Array (Option Value)} {oc23 kV23 dc23 pm23 ct23 : Value} {cd23 : Value}
    (a23 : PySem.W.nsIn K mainGlobals "need_reach" = some (some (.ref f23))) (l23 : K.lookup f23 = some ⟨oc23, od23, .func (PySem.W.fnOf "need_reach" "need_reach" (defArgs s_need_reach) (defBody s_need_reach) (defScope s_need_reach) .none kV23 dc23 pm23 an23 cd23 ct23), sl23⟩) (c23c : PySem.W.codeIn K cd23 "need_reach" = true) (k23 : PySem.W.keepIn K (.ref f23) = true)
    {f24 : Addr} {od24 an24 : Option Addr} {sl24 : Array (Option Value)} {oc24 kV24 dc24 pm24 ct24 : Value} {cd24 : Value}
    (a24 : PySem.W.nsIn K mainGlobals "positions" = some (some (.ref f24))) (l24 : K.lookup f24 = some ⟨oc24, od24, .func (PySem.W.fnOf "positions" "positions" (defArgs s_positions) (defBody s_positions) (defScope s_positions) .none kV24 dc24 pm24 an24 cd24 ct24), sl24⟩) (c24c : PySem.W.codeIn K cd24 "positions" = true) (k24 : PySem.W.keepIn K (.ref f24) = true)
    {f25 : Addr} {od25 an25 : Option Addr} {sl25 : Array (Option Value)} {oc25 kV25 dc25 pm25 ct25 : Value} {cd25 : Value}
    (a25 : PySem.W.nsIn K mainGlobals "place_in" = some (some (.ref f25))) (l25 : K.lookup f25 = some ⟨oc25, od25, .func (PySem.W.fnOf "place_in" "place_in" (defArgs s_place_in) (defBody s_place_in) (defScope s_place_in) .none kV25 dc25 pm25 an25 cd25 ct25), sl25⟩) (c25c : PySem.W.codeIn K cd25 "place_in" = true) (k25 : PySem.W.keepIn K (.ref f25) = true)
    {f26 : Addr} {od26 an26 : Option Addr} {sl26 : Array (Option Value)} {oc26 kV26 dc26 pm26 ct26 : Value} {cd26 : Value}
    (a26 : PySem.W.nsIn K mainGlobals "numbers_behind" = some (some (.ref f26))) (l26 : K.lookup f26 = some ⟨oc26, od26, .func (PySem.W.fnOf "numbers_behind" "numbers_behind" (defArgs s_numbers_behind) (defBody s_numbers_behind) (defScope s_numbers_behind) .none kV26 dc26 pm26 an26 cd26 ct26), sl26⟩) (c26c : PySem.W.codeIn K cd26 "numbers_behind" = true) (k26 : PySem.W.keepIn K (.ref f26) = true)
    {f27 : Addr} {od27 an27 : Option Addr} {sl27 : Array (Option Value)} {oc27 kV27 dc27 pm27 ct27 : Value} {cd27 : Value}
    (a27 : PySem.W.nsIn K mainGlobals "table_of" = some (some (.ref f27))) (l27 : K.lookup f27 = some ⟨oc27, od27, .func (PySem.W.fnOf "table_of" "table_of" (defArgs s_table_of) (defBody s_table_of) (defScope s_table_of) .none kV27 dc27 pm27 an27 cd27 ct27), sl27⟩) (c27c : PySem.W.codeIn K cd27 "table_of" = true) (k27 : PySem.W.keepIn K (.ref f27) = true)
    {f28 : Addr} {od28 an28 : Option Addr} {sl28 : Array (Option Value)} {oc28 kV28 dc28 pm28 ct28 : Value} {cd28 : Value}
    (a28 : PySem.W.nsIn K mainGlobals "table" = some (some (.ref f28))) (l28 : K.lookup f28 = some ⟨oc28, od28, .func (PySem.W.fnOf "table" "table" (defArgs s_table) (defBody s_table) (defScope s_table) .none kV28 dc28 pm28 an28 cd28 ct28), sl28⟩) (c28c : PySem.W.codeIn K cd28 "table" = true) (k28 : PySem.W.keepIn K (.ref f28) = true)
    {f29 : Addr} {od29 an29 : Option Addr} {sl29 : Array (Option Value)} {oc29 kV29 dc29 pm29 ct29 : Value} {cd29 : Value}
    (a29 : PySem.W.nsIn K mainGlobals "played" = some (some (.ref f29))) (l29 : K.lookup f29 = some ⟨oc29, od29, .func (PySem.W.fnOf "played" "played" (defArgs s_played) (defBody s_played) (defScope s_played) .none kV29 dc29 pm29 an29 cd29 ct29), sl29⟩) (c29c : PySem.W.codeIn K cd29 "played" = true) (k29 : PySem.W.keepIn K (.ref f29) = true)
    {f30 : Addr} {od30 an30 : Option Addr} {sl30 : Array (Option Value)} {oc30 kV30 dc30 pm30 ct30 : Value} {cd30 : Value}
    (a30 : PySem.W.nsIn K mainGlobals "need_chords" = some (some (.ref f30))) (l30 : K.lookup f30 = some ⟨oc30, od30, .func (PySem.W.fnOf "need_chords" "need_chords" (defArgs s_need_chords) (defBody s_need_chords) (defScope s_need_chords) .none kV30 dc30 pm30 an30 cd30 ct30), sl30⟩) (c30c : PySem.W.codeIn K cd30 "need_chords" = true) (k30 : PySem.W.keepIn K (.ref f30) = true)
    {f31 : Addr} {od31 an31 : Option Addr} {sl31 : Array (Option Value)} {oc31 kV31 dc31 pm31 ct31 : Value} {cd31 : Value}
    (a31 : PySem.W.nsIn K mainGlobals "size_of" = some (some (.ref f31))) (l31 : K.lookup f31 = some ⟨oc31, od31, .func (PySem.W.fnOf "size_of" "size_of" (defArgs s_size_of) (defBody s_size_of) (defScope s_size_of) .none kV31 dc31 pm31 an31 cd31 ct31), sl31⟩) (c31c : PySem.W.codeIn K cd31 "size_of" = true) (k31 : PySem.W.keepIn K (.ref f31) = true)
    {f32 : Addr} {od32 an32 : Option Addr} {sl32 : Array (Option Value)} {oc32 kV32 dc32 pm32 ct32 : Value} {cc32 PP32 : Addr} {co32 : Value} {cp32 : Option Addr} {vs32 : Array Value} {cs32 : Array (Option Value)}
    (a32 : PySem.W.nsIn K mainGlobals "all_retunings" = some (some (.ref f32))) (l32 : K.lookup f32 = some ⟨oc32, od32, .func (PySem.W.fnOf "all_retunings" "all_retunings" (defArgs s_all_retunings) (defBody s_all_retunings) (defScope s_all_retunings) .none kV32 dc32 pm32 an32 (.ref cc32) ct32), sl32⟩) (c32c : PySem.W.codeIn K (.ref cc32) "all_retunings" = true) (k32 : PySem.W.keepIn K (.ref f32) = true)
    (lc32 : K.lookup cc32 = some ⟨co32, cp32, .fields vs32, cs32⟩) (lp32 : vs32[11]? = some (.ref PP32)) (lh32 : PySem.W.codeHdIn K cc32 PP32 = true) (ln32 : K.lookup PP32 = none) (lt32 : h.get? PP32 = some { cls := .none, data := .fields #[] })
    {f33 : Addr} {od33 an33 : Option Addr} {sl33 : Array (Option Value)} {oc33 kV33 dc33 pm33 ct33 : Value} {cd33 : Value}
    (a33 : PySem.W.nsIn K mainGlobals "first_without" = some (some (.ref f33))) (l33 : K.lookup f33 = some ⟨oc33, od33, .func (PySem.W.fnOf "first_without" "first_without" (defArgs s_first_without) (defBody s_first_without) (defScope s_first_without) .none kV33 dc33 pm33 an33 cd33 ct33), sl33⟩) (c33c : PySem.W.codeIn K cd33 "first_without" = true) (k33 : PySem.W.keepIn K (.ref f33) = true)
    {f34 : Addr} {od34 an34 : Option Addr} {sl34 : Array (Option Value)} {oc34 kV34 dc34 pm34 ct34 : Value} {cd34 : Value}
    (a34 : PySem.W.nsIn K mainGlobals "retuned" = some (some (.ref f34))) (l34 : K.lookup f34 = some ⟨oc34, od34, .func (PySem.W.fnOf "retuned" "retuned" (defArgs s_retuned) (defBody s_retuned) (defScope s_retuned) .none kV34 dc34 pm34 an34 cd34 ct34), sl34⟩) (c34c : PySem.W.codeIn K cd34 "retuned" = true) (k34 : PySem.W.keepIn K (.ref f34) = true)
    {f35 : Addr} {od35 an35 : Option Addr} {sl35 : Array (Option Value)} {oc35 kV35 dc35 pm35 ct35 : Value} {cd35 : Value}
    (a35 : PySem.W.nsIn K mainGlobals "written" = some (some (.ref f35))) (l35 : K.lookup f35 = some ⟨oc35, od35, .func (PySem.W.fnOf "written" "written" (defArgs s_written) (defBody s_written) (defScope s_written) .none kV35 dc35 pm35 an35 cd35 ct35), sl35⟩) (c35c : PySem.W.codeIn K cd35 "written" = true) (k35 : PySem.W.keepIn K (.ref f35) = true)
    {f36 : Addr} {od36 an36 : Option Addr} {sl36 : Array (Option Value)} {oc36 kV36 dc36 pm36 ct36 : Value} {cd36 : Value}
    (a36 : PySem.W.nsIn K mainGlobals "place_of" = some (some (.ref f36))) (l36 : K.lookup f36 = some ⟨oc36, od36, .func (PySem.W.fnOf "place_of" "place_of" (defArgs s_place_of) (defBody s_place_of) (defScope s_place_of) .none kV36 dc36 pm36 an36 cd36 ct36), sl36⟩) (c36c : PySem.W.codeIn K cd36 "place_of" = true) (k36 : PySem.W.keepIn K (.ref f36) = true)
    {f37 : Addr} {od37 an37 : Option Addr} {sl37 : Array (Option Value)} {oc37 kV37 dc37 pm37 ct37 : Value} {cd37 : Value}
    (a37 : PySem.W.nsIn K mainGlobals "read" = some (some (.ref f37))) (l37 : K.lookup f37 = some ⟨oc37, od37, .func (PySem.W.fnOf "read" "read" (defArgs s_read) (defBody s_read) (defScope s_read) .none kV37 dc37 pm37 an37 cd37 ct37), sl37⟩) (c37c : PySem.W.codeIn K cd37 "read" = true) (k37 : PySem.W.keepIn K (.ref f37) = true)
    {f38 : Addr} {od38 an38 : Option Addr} {sl38 : Array (Option Value)} {oc38 kV38 dc38 pm38 ct38 : Value} {cd38 : Value}
    (a38 : PySem.W.nsIn K mainGlobals "_law_asked" = some (some (.ref f38))) (l38 : K.lookup f38 = some ⟨oc38, od38, .func (PySem.W.fnOf "_law_asked" "_law_asked" (defArgs s__law_asked) (defBody s__law_asked) (defScope s__law_asked) .none kV38 dc38 pm38 an38 cd38 ct38), sl38⟩) (c38c : PySem.W.codeIn K cd38 "_law_asked" = true) (k38 : PySem.W.keepIn K (.ref f38) = true)
    {f39 : Addr} {od39 an39 : Option Addr} {sl39 : Array (Option Value)} {oc39 kV39 dc39 pm39 ct39 : Value} {cd39 : Value}
    (a39 : PySem.W.nsIn K mainGlobals "_law_copied" = some (some (.ref f39))) (l39 : K.lookup f39 = some ⟨oc39, od39, .func (PySem.W.fnOf "_law_copied" "_law_copied" (defArgs s__law_copied) (defBody s__law_copied) (defScope s__law_copied) .none kV39 dc39 pm39 an39 cd39 ct39), sl39⟩) (c39c : PySem.W.codeIn K cd39 "_law_copied" = true) (k39 : PySem.W.keepIn K (.ref f39) = true)
    {f40 : Addr} {od40 an40 : Option Addr} {sl40 : Array (Option Value)} {oc40 kV40 dc40 pm40 ct40 : Value} {cd40 : Value}
    (a40 : PySem.W.nsIn K mainGlobals "_law_alike" = some (some (.ref f40))) (l40 : K.lookup f40 = some ⟨oc40, od40, .func (PySem.W.fnOf "_law_alike" "_law_alike" (defArgs s__law_alike) (defBody s__law_alike) (defScope s__law_alike) .none kV40 dc40 pm40 an40 cd40 ct40), sl40⟩) (c40c : PySem.W.codeIn K cd40 "_law_alike" = true) (k40 : PySem.W.keepIn K (.ref f40) = true)
    {f41 : Addr} {od41 an41 : Option Addr} {sl41 : Array (Option Value)} {oc41 kV41 dc41 pm41 ct41 : Value} {cd41 : Value}
    (a41 : PySem.W.nsIn K mainGlobals "law" = some (some (.ref f41))) (l41 : K.lookup f41 = some ⟨oc41, od41, .func (PySem.W.fnOf "law" "law" (defArgs s_law) (defBody s_law) (defScope s_law) .none kV41 dc41 pm41 an41 cd41 ct41), sl41⟩) (c41c : PySem.W.codeIn K cd41 "law" = true) (k41 : PySem.W.keepIn K (.ref f41) = true)
    (z_len : PySem.W.nsIn K mainGlobals "len" = some none)
    (z_range : PySem.W.nsIn K mainGlobals "range" = some none)
    (z_sorted : PySem.W.nsIn K mainGlobals "sorted" = some none)
    (z_set : PySem.W.nsIn K mainGlobals "set" = some none)
    (z_tuple : PySem.W.nsIn K mainGlobals "tuple" = some none)
    (z_list : PySem.W.nsIn K mainGlobals "list" = some none)
    (z_min : PySem.W.nsIn K mainGlobals "min" = some none)
    (z_max : PySem.W.nsIn K mainGlobals "max" = some none)
    (z_abs : PySem.W.nsIn K mainGlobals "abs" = some none)
    (z_sum : PySem.W.nsIn K mainGlobals "sum" = some none)
    (z_int : PySem.W.nsIn K mainGlobals "int" = some none)
    (z_str : PySem.W.nsIn K mainGlobals "str" = some none)
    (z_bool : PySem.W.nsIn K mainGlobals "bool" = some none)
    (z_zip : PySem.W.nsIn K mainGlobals "zip" = some none)
    (z_reversed : PySem.W.nsIn K mainGlobals "reversed" = some none)
    (z_isinstance : PySem.W.nsIn K mainGlobals "isinstance" = some none)
    {t0 : _} (y_MOST_STRINGS_necks : PySem.W.nsIn K mainGlobals "MOST_STRINGS_necks" = some (some (.int 6 t0)))
    {t1 : _} (y_MOST_NOTE : PySem.W.nsIn K mainGlobals "MOST_NOTE" = some (some (.int 60 t1)))
    {t2 : _} (y_MOST_FRETS : PySem.W.nsIn K mainGlobals "MOST_FRETS" = some (some (.int 20 t2)))
    {t3 : _} (y_SILENT : PySem.W.nsIn K mainGlobals "SILENT" = some (some (.int (-1) t3)))
    {t4 : _} (y_MOST_REACH : PySem.W.nsIn K mainGlobals "MOST_REACH" = some (some (.int 6 t4)))
    {t5 : _} (y_MOST_CHORD : PySem.W.nsIn K mainGlobals "MOST_CHORD" = some (some (.int 6 t5)))
    {t6 : _} (y_MOST_SOUND : PySem.W.nsIn K mainGlobals "MOST_SOUND" = some (some (.int 80 t6)))
    {t7 : _} (y_FIGURES : PySem.W.nsIn K mainGlobals "FIGURES" = some (some (.str "0123456789" t7)))
    {t8 : _} (y_MOST_TUNE : PySem.W.nsIn K mainGlobals "MOST_TUNE" = some (some (.int 30 t8)))
    {t9 : _} (y_NEVER : PySem.W.nsIn K mainGlobals "NEVER" = some (some (.int (-1) t9)))
    {t10 : _} (y_MOST_STRINGS_tunings : PySem.W.nsIn K mainGlobals "MOST_STRINGS_tunings" = some (some (.int 4 t10)))
    {t11 : _} (y_MOST_CHANGE : PySem.W.nsIn K mainGlobals "MOST_CHANGE" = some (some (.int 2 t11)))
    (tm32 : (PP32, ("all_retunings" ++ ".<locals>." ++ "<lambda>" : Str)) ∈ Tb.T) (tu32 : ∀ p ∈ Tb.T, p.1 = PP32 → p.2 = ("all_retunings" ++ ".<locals>." ++ "<lambda>" : Str))
    : ∃ fd : FuncData, (∀ (s : Shared) (v : Value), BindsTo s fd ⟨[v], []⟩ [("_law_script", v)]) ∧ ∀ base : Heap, K.In base → base.Ns mainGlobals mg → LamX.TabB base mg cc32 PP32 → FnOk l.prog w K mg base CX0 9 fa fd ["_law_script"] (spLawT K) := by
  have e := hfa.symm.trans (PySem.W.mg_of X G a41)
  cases e
  have B : BT mg := ⟨PySem.W.mg_none_of X G z_len, PySem.W.mg_none_of X G z_range, PySem.W.mg_none_of X G z_sorted, PySem.W.mg_none_of X G z_set, PySem.W.mg_none_of X G z_tuple, PySem.W.mg_none_of X G z_list, PySem.W.mg_none_of X G z_min, PySem.W.mg_none_of X G z_max, PySem.W.mg_none_of X G z_abs, PySem.W.mg_none_of X G z_sum, PySem.W.mg_none_of X G z_int, PySem.W.mg_none_of X G z_str, PySem.W.mg_none_of X G z_bool, PySem.W.mg_none_of X G z_zip, PySem.W.mg_none_of X G z_reversed, PySem.W.mg_none_of X G z_isinstance⟩
  have C : Cn mg := ⟨⟨_, PySem.W.mg_of X G y_MOST_STRINGS_necks⟩, ⟨_, PySem.W.mg_of X G y_MOST_NOTE⟩, ⟨_, PySem.W.mg_of X G y_MOST_FRETS⟩, ⟨_, PySem.W.mg_of X G y_SILENT⟩, ⟨_, PySem.W.mg_of X G y_MOST_REACH⟩, ⟨_, PySem.W.mg_of X G y_MOST_CHORD⟩, ⟨_, PySem.W.mg_of X G y_MOST_SOUND⟩, ⟨_, PySem.W.mg_of X G y_FIGURES⟩, ⟨_, PySem.W.mg_of X G y_MOST_TUNE⟩, ⟨_, PySem.W.mg_of X G y_NEVER⟩, ⟨_, PySem.W.mg_of X G y_MOST_STRINGS_tunings⟩, ⟨_, PySem.W.mg_of X G y_MOST_CHANGE⟩⟩
  have F0 := fun_mk (st := s__law_taken) l0 c0c k0
  have b0 := F0.binds (ps := ["_law_row", "_law_many"]) fun _ _ _ _ _ _ us hl => match us, hl with | [_, _], _ => rfl
  have F1 := fun_mk (st := s__law_neck) l1 c1c k1
  have b1 := F1.binds (ps := ["_law_row", "_law_most"]) fun _ _ _ _ _ _ us hl => match us, hl with | [_, _], _ => rfl
  have F2 := fun_mk (st := s__law_shape) l2 c2c k2
  have b2 := F2.binds (ps := ["_law_row", "_law_neck_here"]) fun _ _ _ _ _ _ us hl => match us, hl with | [_, _], _ => rfl
  have F3 := fun_mk (st := s__law_sounds) l3 c3c k3
  have b3 := F3.binds (ps := ["_law_neck_here", "_law_shape_here"]) fun _ _ _ _ _ _ us hl => match us, hl with | [_, _], _ => rfl
  have F4 := fun_mk (st := s__law_chord) l4 c4c k4
  have b4 := F4.binds (ps := ["_law_row", "_law_neck_here"]) fun _ _ _ _ _ _ us hl => match us, hl with | [_, _], _ => rfl
  have F5 := fun_mk (st := s__law_hand) l5 c5c k5
  have b5 := F5.binds (ps := ["_law_row"]) fun _ _ _ _ _ _ us hl => match us, hl with | [_], _ => rfl
  have F6 := fun_mk (st := s__law_tune) l6 c6c k6
  have b6 := F6.binds (ps := ["_law_row", "_law_neck_here", "_law_most"]) fun _ _ _ _ _ _ us hl => match us, hl with | [_, _, _], _ => rfl
  have F7 := fun_mk (st := s_need_neck) l7 c7c k7
  have b7 := F7.binds (ps := ["neck"]) fun _ _ _ _ _ _ us hl => match us, hl with | [_], _ => rfl
  have F8 := fun_mk (st := s_notes) l8 c8c k8
  have b8 := F8.binds (ps := ["neck"]) fun _ _ _ _ _ _ us hl => match us, hl with | [_], _ => rfl
  have F9 := fun_mk (st := s_missing) l9 c9c k9
  have b9 := F9.binds (ps := ["neck"]) fun _ _ _ _ _ _ us hl => match us, hl with | [_], _ => rfl
  have F10 := fun_mk (st := s_places_of) l10 c10c k10
  have b10 := F10.binds (ps := ["neck", "note"]) fun _ _ _ _ _ _ us hl => match us, hl with | [_, _], _ => rfl
  have F11 := fun_mk (st := s_places) l11 c11c k11
  have b11 := F11.binds (ps := ["neck", "note"]) fun _ _ _ _ _ _ us hl => match us, hl with | [_, _], _ => rfl
  have F12 := fun_mk (st := s_is_chord) l12 c12c k12
  have b12 := F12.binds (ps := ["chord"]) fun _ _ _ _ _ _ us hl => match us, hl with | [_], _ => rfl
  have F13 := fun_mk (st := s_need_chord) l13 c13c k13
  have b13 := F13.binds (ps := ["chord"]) fun _ _ _ _ _ _ us hl => match us, hl with | [_], _ => rfl
  have F14 := fun_mk (st := s_need_hand) l14 c14c k14
  have b14 := F14.binds (ps := ["hand"]) fun _ _ _ _ _ _ us hl => match us, hl with | [_], _ => rfl
  have F15 := fun_mk (st := s_is_laid) l15 c15c k15
  have b15 := F15.binds (ps := ["capo", "shape", "hand"]) fun _ _ _ _ _ _ us hl => match us, hl with | [_, _, _], _ => rfl
  have F16 := fun_mk (st := s_all_ways) l16 c16c k16
  have b16 := F16.binds (ps := ["neck", "chord", "hand"]) fun _ _ _ _ _ _ us hl => match us, hl with | [_, _, _], _ => rfl
  have F17 := fun_mk (st := s_ways) l17 c17c k17
  have b17 := F17.binds (ps := ["neck", "chord", "hand"]) fun _ _ _ _ _ _ us hl => match us, hl with | [_, _, _], _ => rfl
  have F18 := fun_mk (st := s_need_shape) l18 c18c k18
  have b18 := F18.binds (ps := ["neck", "shape"]) fun _ _ _ _ _ _ us hl => match us, hl with | [_, _], _ => rfl
  have F19 := fun_mk (st := s_sounded) l19 c19c k19
  have b19 := F19.binds (ps := ["neck", "shape"]) fun _ _ _ _ _ _ us hl => match us, hl with | [_, _], _ => rfl
  have F20 := fun_mk (st := s_slid_by) l20 c20c k20
  have b20 := F20.binds (ps := ["neck", "shape", "far"]) fun _ _ _ _ _ _ us hl => match us, hl with | [_, _, _], _ => rfl
  have F21 := fun_mk (st := s_slid) l21 c21c k21
  have b21 := F21.binds (ps := ["neck", "shape", "far"]) fun _ _ _ _ _ _ us hl => match us, hl with | [_, _, _], _ => rfl
  have F22 := fun_mk (st := s_need_tune) l22 c22c k22
  have b22 := F22.binds (ps := ["tune"]) fun _ _ _ _ _ _ us hl => match us, hl with | [_], _ => rfl
  have F23 := fun_mk (st := s_need_reach) l23 c23c k23
  have b23 := F23.binds (ps := ["reach"]) fun _ _ _ _ _ _ us hl => match us, hl with | [_], _ => rfl
  have F24 := fun_mk (st := s_positions) l24 c24c k24
  have b24 := F24.binds (ps := ["neck"]) fun _ _ _ _ _ _ us hl => match us, hl with | [_], _ => rfl
  have F25 := fun_mk (st := s_place_in) l25 c25c k25
  have b25 := F25.binds (ps := ["neck", "note", "reach", "position"]) fun _ _ _ _ _ _ us hl => match us, hl with | [_, _, _, _], _ => rfl
  have F26 := fun_mk (st := s_numbers_behind) l26 c26c k26
  have b26 := F26.binds (ps := ["neck", "note", "reach", "ahead"]) fun _ _ _ _ _ _ us hl => match us, hl with | [_, _, _, _], _ => rfl
  have F27 := fun_mk (st := s_table_of) l27 c27c k27
  have b27 := F27.binds (ps := ["neck", "tune", "reach"]) fun _ _ _ _ _ _ us hl => match us, hl with | [_, _, _], _ => rfl
  have F28 := fun_mk (st := s_table) l28 c28c k28
  have b28 := F28.binds (ps := ["neck", "tune", "reach"]) fun _ _ _ _ _ _ us hl => match us, hl with | [_, _, _], _ => rfl
  have F29 := fun_mk (st := s_played) l29 c29c k29
  have b29 := F29.binds (ps := ["neck", "tune", "reach"]) fun _ _ _ _ _ _ us hl => match us, hl with | [_, _, _], _ => rfl
  have F30 := fun_mk (st := s_need_chords) l30 c30c k30
  have b30 := F30.binds (ps := ["chords"]) fun _ _ _ _ _ _ us hl => match us, hl with | [_], _ => rfl
  have F31 := fun_mk (st := s_size_of) l31 c31c k31
  have b31 := F31.binds (ps := ["retuning"]) fun _ _ _ _ _ _ us hl => match us, hl with | [_], _ => rfl
  have F32 := fun_mk (st := s_all_retunings) l32 c32c k32
  have D32 := funC_mk (st := s_all_retunings) l32 c32c
  have b32 := F32.binds (ps := ["tuning"]) fun _ _ _ _ _ _ us hl => match us, hl with | [_], _ => rfl
  have F33 := fun_mk (st := s_first_without) l33 c33c k33
  have b33 := F33.binds (ps := ["neck", "chords", "hand"]) fun _ _ _ _ _ _ us hl => match us, hl with | [_, _, _], _ => rfl
  have F34 := fun_mk (st := s_retuned) l34 c34c k34
  have b34 := F34.binds (ps := ["neck", "chords", "hand"]) fun _ _ _ _ _ _ us hl => match us, hl with | [_, _, _], _ => rfl
  have F35 := fun_mk (st := s_written) l35 c35c k35
  have b35 := F35.binds (ps := ["neck", "shape"]) fun _ _ _ _ _ _ us hl => match us, hl with | [_, _], _ => rfl
  have F36 := fun_mk (st := s_place_of) l36 c36c k36
  have b36 := F36.binds (ps := ["neck", "word"]) fun _ _ _ _ _ _ us hl => match us, hl with | [_, _], _ => rfl
  have F37 := fun_mk (st := s_read) l37 c37c k37
  have b37 := F37.binds (ps := ["neck", "text"]) fun _ _ _ _ _ _ us hl => match us, hl with | [_, _], _ => rfl
  have F38 := fun_mk (st := s__law_asked) l38 c38c k38
  have b38 := F38.binds (ps := ["_law_way", "_law_neck_here", "_law_shape_here", "_law_chord_here", "_law_hand_here", "_law_tune_here"]) fun _ _ _ _ _ _ us hl => match us, hl with | [_, _, _, _, _, _], _ => rfl
  have F39 := fun_mk (st := s__law_copied) l39 c39c k39
  have b39 := F39.binds (ps := ["_law_told"]) fun _ _ _ _ _ _ us hl => match us, hl with | [_], _ => rfl
  have F40 := fun_mk (st := s__law_alike) l40 c40c k40
  have b40 := F40.binds (ps := ["_law_found", "_law_due"]) fun _ _ _ _ _ _ us hl => match us, hl with | [_, _], _ => rfl
  have F41 := fun_mk (st := s_law) l41 c41c k41
  have b41 := F41.binds (ps := ["_law_script"]) fun _ _ _ _ _ _ us hl => match us, hl with | [_], _ => rfl
  refine ⟨PySem.W.fnOf "law" "law" (defArgs s_law) (defBody s_law) (defScope s_law) .none kV41 dc41 pm41 an41 cd41 ct41, fun s v => .of_eq rfl, fun base _ _ tb32 => ?_⟩
  have q__law_taken : Kn l.prog w K mg base CX0 "_law_taken" 1 (spR K z_taken) := kn_mk X G a0 k0 b0 (ok__law_taken F0 B)
  have q__law_neck : Kn l.prog w K mg base CX0 "_law_neck" 2 (spR K z__law_neck) := kn_mk X G a1 k1 b1 (ok__law_neck (k := 1) F1 B q__law_taken.up)
  have q__law_shape : Kn l.prog w K mg base CX0 "_law_shape" 2 (spR K z__law_shape) := kn_mk X G a2 k2 b2 (ok__law_shape (k := 1) F2 B q__law_taken.up)
  have q__law_sounds : Kn l.prog w K mg base CX0 "_law_sounds" 1 (spP z__law_sounds) := kn_mk X G a3 k3 b3 (ok__law_sounds (k := 0) F3 B)
  have q__law_chord : Kn l.prog w K mg base CX0 "_law_chord" 3 (spR K z__law_chord) := kn_mk X G a4 k4 b4 (ok__law_chord (k := 2) F4 B q__law_taken.up q__law_shape.up q__law_sounds.up)
  have q__law_hand : Kn l.prog w K mg base CX0 "_law_hand" 2 (spR K z__law_hand) := kn_mk X G a5 k5 b5 (ok__law_hand (k := 1) F5 B q__law_taken.up)
  have q__law_tune : Kn l.prog w K mg base CX0 "_law_tune" 2 (spR K z__law_tune) := kn_mk X G a6 k6 b6 (ok__law_tune (k := 1) F6 B q__law_taken.up)
  have q_need_neck : Kn l.prog w K mg base CX0 "need_neck" 1 (spP z_need_neck) := kn_mk X G a7 k7 b7 (ok_need_neck (k := 0) F7 B C)
  have q_notes : Kn l.prog w K mg base CX0 "notes" 2 (spP z_notes) := kn_mk X G a8 k8 b8 (ok_notes (k := 1) F8 B q_need_neck.up)
  have q_missing : Kn l.prog w K mg base CX0 "missing" 3 (spP z_missing) := kn_mk X G a9 k9 b9 (ok_missing (k := 2) F9 B q_notes.up)
  have q_places_of : Kn l.prog w K mg base CX0 "places_of" 1 (spP z_places_of) := kn_mk X G a10 k10 b10 (ok_places_of (k := 0) F10 B)
  have q_places : Kn l.prog w K mg base CX0 "places" 2 (spP z_places) := kn_mk X G a11 k11 b11 (ok_places (k := 1) F11 q_need_neck.up q_places_of.up)
  have q_is_chord : Kn l.prog w K mg base CX0 "is_chord" 1 (spP z_is_chord) := kn_mk X G a12 k12 b12 (ok_is_chord (k := 0) F12 B C)
  have q_need_chord : Kn l.prog w K mg base CX0 "need_chord" 2 (spP z_need_chord) := kn_mk X G a13 k13 b13 (ok_need_chord (k := 1) F13 q_is_chord.up)
  have q_need_hand : Kn l.prog w K mg base CX0 "need_hand" 1 (spP z_need_hand) := kn_mk X G a14 k14 b14 (ok_need_hand (k := 0) F14 B C)
  have q_is_laid : Kn l.prog w K mg base CX0 "is_laid" 1 (spP z_is_laid) := kn_mk X G a15 k15 b15 (ok_is_laid (k := 0) F15 B)
  have q_all_ways : Kn l.prog w K mg base CX0 "all_ways" 2 (spP z_all_ways) := kn_mk X G a16 k16 b16 (ok_all_ways (k := 1) F16 B C q_places_of.up q_is_laid.up)
  have q_ways : Kn l.prog w K mg base CX0 "ways" 3 (spP z_all_ways) := kn_mk X G a17 k17 b17 (ok_ways (k := 2) F17 q_need_neck.up q_need_chord.up q_need_hand.up q_all_ways.up)
  have q_need_shape : Kn l.prog w K mg base CX0 "need_shape" 1 (spP z_need_shape) := kn_mk X G a18 k18 b18 (ok_need_shape (k := 0) F18 B C)
  have q_sounded : Kn l.prog w K mg base CX0 "sounded" 2 (spP z_sounded) := kn_mk X G a19 k19 b19 (ok_sounded (k := 1) F19 B C q_need_neck.up q_need_shape.up)
  have q_slid_by : Kn l.prog w K mg base CX0 "slid_by" 1 (spP z_slid_by) := kn_mk X G a20 k20 b20 (ok_slid_by (k := 0) F20 B C)
  have q_slid : Kn l.prog w K mg base CX0 "slid" 2 (spP z_slid_by) := kn_mk X G a21 k21 b21 (ok_slid (k := 1) F21 q_need_neck.up q_need_shape.up q_slid_by.up)
  have q_need_tune : Kn l.prog w K mg base CX0 "need_tune" 1 (spP z_need_tune) := kn_mk X G a22 k22 b22 (ok_need_tune (k := 0) F22 B C)
  have q_need_reach : Kn l.prog w K mg base CX0 "need_reach" 1 (spP z_need_reach) := kn_mk X G a23 k23 b23 (ok_need_reach (k := 0) F23 C)
  have q_positions : Kn l.prog w K mg base CX0 "positions" 1 (spP z_positions) := kn_mk X G a24 k24 b24 (ok_positions (k := 0) F24 B)
  have q_place_in : Kn l.prog w K mg base CX0 "place_in" 2 (spP z_place_in) := kn_mk X G a25 k25 b25 (ok_place_in (k := 1) F25 B q_places_of.up)
  have q_numbers_behind : Kn l.prog w K mg base CX0 "numbers_behind" 3 (spP z_numbers_behind) := kn_mk X G a26 k26 b26 (ok_numbers_behind (k := 2) F26 B C q_positions.up q_place_in.up)
  have q_table_of : Kn l.prog w K mg base CX0 "table_of" 4 (spN z_table_ofN) := kn_mk X G a27 k27 b27 (ok_table_of (k := 3) F27 B C q_numbers_behind.up)
  have q_table : Kn l.prog w K mg base CX0 "table" 5 (spN z_tableN) := kn_mk X G a28 k28 b28 (ok_table (k := 4) F28 q_need_neck.up q_need_tune.up q_need_reach.up q_table_of.up)
  have q_played : Kn l.prog w K mg base CX0 "played" 5 (spN z_playedN) := kn_mk X G a29 k29 b29 (ok_played (k := 4) F29 B C q_need_neck.up q_need_tune.up q_need_reach.up q_table_of.up q_positions.up q_place_in.up)
  have q_need_chords : Kn l.prog w K mg base CX0 "need_chords" 2 (spP z_need_chords) := kn_mk X G a30 k30 b30 (ok_need_chords (k := 1) F30 B C q_is_chord.up)
  have q_size_of : Kn l.prog w K mg base CX0 "size_of" 1 (spP z_size_of) := kn_mk X G a31 k31 b31 (ok_size_of (k := 0) F31 B)
  have q_all_retunings : Kn l.prog w K mg base CX0 "all_retunings" 4 (spPT z_all_retunings) := kn_mk X G a32 k32 b32 (ok_all_retunings (k := 1) D32 B C ⟨_, tb32, tm32, tu32⟩ q_size_of.up)
  have q_first_without : Kn l.prog w K mg base CX0 "first_without" 3 (spP z_first_without) := kn_mk X G a33 k33 b33 (ok_first_without (k := 2) F33 B q_all_ways.up)
  have q_retuned : Kn l.prog w K mg base CX0 "retuned" 5 (spNT z_retuned) := kn_mk X G a34 k34 b34 (ok_retuned (k := 4) F34 B C q_need_neck.up q_need_chords.up q_need_hand.up q_all_retunings.up q_first_without.up)
  have q_written : Kn l.prog w K mg base CX0 "written" 2 (spP z_written) := kn_mk X G a35 k35 b35 (ok_written (k := 1) F35 B C q_need_neck.up q_need_shape.up)
  have q_place_of : Kn l.prog w K mg base CX0 "place_of" 1 (spP z_place_of) := kn_mk X G a36 k36 b36 (ok_place_of (k := 0) F36 B C)
  have q_read : Kn l.prog w K mg base CX0 "read" 2 (spP z_read) := kn_mk X G a37 k37 b37 (ok_read (k := 1) F37 B q_need_neck.up q_place_of.up)
  have q__law_asked : Kn l.prog w K mg base CX0 "_law_asked" 6 (spNT z__law_asked) := kn_mk X G a38 k38 b38 (ok__law_asked (k := 5) F38 B q_notes.up q_missing.up q_places.up q_ways.up q_sounded.up q_slid.up q_table.up q_played.up q_retuned.up q_written.up q_read.up)
  have q__law_copied : Kn l.prog w K mg base CX0 "_law_copied" 1 (spP z__law_copied) := kn_mk X G a39 k39 b39 (ok__law_copied (k := 0) F39 B)
  have q__law_alike : ∀ n, Kn l.prog w K mg base CX0 "_law_alike" n (spP (z__law_alike n)) := kn__law_alike F40 B (PySem.W.mg_of X G a40) k40 b40
  exact ok_law (k := 8) F41 B q__law_taken.up q__law_neck.up q__law_shape.up q__law_chord.up q__law_hand.up q__law_tune.up q__law_asked.up q__law_copied.up (q__law_alike 5).up
theorem law_at {l : PySem.W.OpenLaw} {w : World} {K : PySem.W.Frag} {h : Heap} {mg : Str → Option Value} {fa : Addr} (X : K.In h) (G : h.Ns mainGlobals mg) (hfa : mg "law" = some (.ref fa))
    {f0 : Addr} {od0 an0 : Option Addr} {sl0 : Array (Option Value)} {oc0 kV0 dc0 pm0 ct0 : Value} {cd0 : Value}
    (a0 : PySem.W.nsIn K mainGlobals "_law_taken" = some (some (.ref f0))) (l0 : K.lookup f0 = some ⟨oc0, od0, .func (PySem.W.fnOf "_law_taken" "_law_taken" (defArgs s__law_taken) (defBody s__law_taken) (defScope s__law_taken) .none kV0 dc0 pm0 an0 cd0 ct0), sl0⟩) (c0c : PySem.W.codeIn K cd0 "_law_taken" = true) (k0 : PySem.W.keepIn K (.ref f0) = true)
    {f1 : Addr} {od1 an1 : Option Addr} {sl1 : Array (Option Value)} {oc1 kV1 dc1 pm1 ct1 : Value} {cd1 : Value}
    (a1 : PySem.W.nsIn K mainGlobals "_law_neck" = some (some (.ref f1))) (l1 : K.lookup f1 = some ⟨oc1, od1, .func (PySem.W.fnOf "_law_neck" "_law_neck" (defArgs s__law_neck) (defBody s__law_neck) (defScope s__law_neck) .none kV1 dc1 pm1 an1 cd1 ct1), sl1⟩) (c1c : PySem.W.codeIn K cd1 "_law_neck" = true) (k1 : PySem.W.keepIn K (.ref f1) = true)
    {f2 : Addr} {od2 an2 : Option Addr} {sl2 : Array (Option Value)} {oc2 kV2 dc2 pm2 ct2 : Value} {cd2 : Value}
    (a2 : PySem.W.nsIn K mainGlobals "_law_shape" = some (some (.ref f2))) (l2 : K.lookup f2 = some ⟨oc2, od2, .func (PySem.W.fnOf "_law_shape" "_law_shape" (defArgs s__law_shape) (defBody s__law_shape) (defScope s__law_shape) .none kV2 dc2 pm2 an2 cd2 ct2), sl2⟩) (c2c : PySem.W.codeIn K cd2 "_law_shape" = true) (k2 : PySem.W.keepIn K (.ref f2) = true)
    {f3 : Addr} {od3 an3 : Option Addr} {sl3 : Array (Option Value)} {oc3 kV3 dc3 pm3 ct3 : Value} {cd3 : Value}
    (a3 : PySem.W.nsIn K mainGlobals "_law_sounds" = some (some (.ref f3))) (l3 : K.lookup f3 = some ⟨oc3, od3, .func (PySem.W.fnOf "_law_sounds" "_law_sounds" (defArgs s__law_sounds) (defBody s__law_sounds) (defScope s__law_sounds) .none kV3 dc3 pm3 an3 cd3 ct3), sl3⟩) (c3c : PySem.W.codeIn K cd3 "_law_sounds" = true) (k3 : PySem.W.keepIn K (.ref f3) = true)
    {f4 : Addr} {od4 an4 : Option Addr} {sl4 : Array (Option Value)} {oc4 kV4 dc4 pm4 ct4 : Value} {cd4 : Value}
    (a4 : PySem.W.nsIn K mainGlobals "_law_chord" = some (some (.ref f4))) (l4 : K.lookup f4 = some ⟨oc4, od4, .func (PySem.W.fnOf "_law_chord" "_law_chord" (defArgs s__law_chord) (defBody s__law_chord) (defScope s__law_chord) .none kV4 dc4 pm4 an4 cd4 ct4), sl4⟩) (c4c : PySem.W.codeIn K cd4 "_law_chord" = true) (k4 : PySem.W.keepIn K (.ref f4) = true)
    {f5 : Addr} {od5 an5 : Option Addr} {sl5 : Array (Option Value)} {oc5 kV5 dc5 pm5 ct5 : Value} {cd5 : Value}
    (a5 : PySem.W.nsIn K mainGlobals "_law_hand" = some (some (.ref f5))) (l5 : K.lookup f5 = some ⟨oc5, od5, .func (PySem.W.fnOf "_law_hand" "_law_hand" (defArgs s__law_hand) (defBody s__law_hand) (defScope s__law_hand) .none kV5 dc5 pm5 an5 cd5 ct5), sl5⟩) (c5c : PySem.W.codeIn K cd5 "_law_hand" = true) (k5 : PySem.W.keepIn K (.ref f5) = true)
    {f6 : Addr} {od6 an6 : Option Addr} {sl6 : Array (Option Value)} {oc6 kV6 dc6 pm6 ct6 : Value} {cd6 : Value}
    (a6 : PySem.W.nsIn K mainGlobals "_law_tune" = some (some (.ref f6))) (l6 : K.lookup f6 = some ⟨oc6, od6, .func (PySem.W.fnOf "_law_tune" "_law_tune" (defArgs s__law_tune) (defBody s__law_tune) (defScope s__law_tune) .none kV6 dc6 pm6 an6 cd6 ct6), sl6⟩) (c6c : PySem.W.codeIn K cd6 "_law_tune" = true) (k6 : PySem.W.keepIn K (.ref f6) = true)
    {f7 : Addr} {od7 an7 : Option Addr} {sl7 : Array (Option Value)} {oc7 kV7 dc7 pm7 ct7 : Value} {cd7 : Value}
    (a7 : PySem.W.nsIn K mainGlobals "need_neck" = some (some (.ref f7))) (l7 : K.lookup f7 = some ⟨oc7, od7, .func (PySem.W.fnOf "need_neck" "need_neck" (defArgs s_need_neck) (defBody s_need_neck) (defScope s_need_neck) .none kV7 dc7 pm7 an7 cd7 ct7), sl7⟩) (c7c : PySem.W.codeIn K cd7 "need_neck" = true) (k7 : PySem.W.keepIn K (.ref f7) = true)
    {f8 : Addr} {od8 an8 : Option Addr} {sl8 : Array (Option Value)} {oc8 kV8 dc8 pm8 ct8 : Value} {cd8 : Value}
    (a8 : PySem.W.nsIn K mainGlobals "notes" = some (some (.ref f8))) (l8 : K.lookup f8 = some ⟨oc8, od8, .func (PySem.W.fnOf "notes" "notes" (defArgs s_notes) (defBody s_notes) (defScope s_notes) .none kV8 dc8 pm8 an8 cd8 ct8), sl8⟩) (c8c : PySem.W.codeIn K cd8 "notes" = true) (k8 : PySem.W.keepIn K (.ref f8) = true)
    {f9 : Addr} {od9 an9 : Option Addr} {sl9 : Array (Option Value)} {oc9 kV9 dc9 pm9 ct9 : Value} {cd9 : Value}
    (a9 : PySem.W.nsIn K mainGlobals "missing" = some (some (.ref f9))) (l9 : K.lookup f9 = some ⟨oc9, od9, .func (PySem.W.fnOf "missing" "missing" (defArgs s_missing) (defBody s_missing) (defScope s_missing) .none kV9 dc9 pm9 an9 cd9 ct9), sl9⟩) (c9c : PySem.W.codeIn K cd9 "missing" = true) (k9 : PySem.W.keepIn K (.ref f9) = true)
    {f10 : Addr} {od10 an10 : Option Addr} {sl10 : Array (Option Value)} {oc10 kV10 dc10 pm10 ct10 : Value} {cd10 : Value}
    (a10 : PySem.W.nsIn K mainGlobals "places_of" = some (some (.ref f10))) (l10 : K.lookup f10 = some ⟨oc10, od10, .func (PySem.W.fnOf "places_of" "places_of" (defArgs s_places_of) (defBody s_places_of) (defScope s_places_of) .none kV10 dc10 pm10 an10 cd10 ct10), sl10⟩) (c10c : PySem.W.codeIn K cd10 "places_of" = true) (k10 : PySem.W.keepIn K (.ref f10) = true)
    {f11 : Addr} {od11 an11 : Option Addr} {sl11 : Array (Option Value)} {oc11 kV11 dc11 pm11 ct11 : Value} {cd11 : Value}
    (a11 : PySem.W.nsIn K mainGlobals "places" = some (some (.ref f11))) (l11 : K.lookup f11 = some ⟨oc11, od11, .func (PySem.W.fnOf "places" "places" (defArgs s_places) (defBody s_places) (defScope s_places) .none kV11 dc11 pm11 an11 cd11 ct11), sl11⟩) (c11c : PySem.W.codeIn K cd11 "places" = true) (k11 : PySem.W.keepIn K (.ref f11) = true)
    {f12 : Addr} {od12 an12 : Option Addr} {sl12 : Array (Option Value)} {oc12 kV12 dc12 pm12 ct12 : Value} {cd12 : Value}
    (a12 : PySem.W.nsIn K mainGlobals "is_chord" = some (some (.ref f12))) (l12 : K.lookup f12 = some ⟨oc12, od12, .func (PySem.W.fnOf "is_chord" "is_chord" (defArgs s_is_chord) (defBody s_is_chord) (defScope s_is_chord) .none kV12 dc12 pm12 an12 cd12 ct12), sl12⟩) (c12c : PySem.W.codeIn K cd12 "is_chord" = true) (k12 : PySem.W.keepIn K (.ref f12) = true)
    {f13 : Addr} {od13 an13 : Option Addr} {sl13 : Array (Option Value)} {oc13 kV13 dc13 pm13 ct13 : Value} {cd13 : Value}
    (a13 : PySem.W.nsIn K mainGlobals "need_chord" = some (some (.ref f13))) (l13 : K.lookup f13 = some ⟨oc13, od13, .func (PySem.W.fnOf "need_chord" "need_chord" (defArgs s_need_chord) (defBody s_need_chord) (defScope s_need_chord) .none kV13 dc13 pm13 an13 cd13 ct13), sl13⟩) (c13c : PySem.W.codeIn K cd13 "need_chord" = true) (k13 : PySem.W.keepIn K (.ref f13) = true)
    {f14 : Addr} {od14 an14 : Option Addr} {sl14 : Array (Option Value)} {oc14 kV14 dc14 pm14 ct14 : Value} {cd14 : Value}
    (a14 : PySem.W.nsIn K mainGlobals "need_hand" = some (some (.ref f14))) (l14 : K.lookup f14 = some ⟨oc14, od14, .func (PySem.W.fnOf "need_hand" "need_hand" (defArgs s_need_hand) (defBody s_need_hand) (defScope s_need_hand) .none kV14 dc14 pm14 an14 cd14 ct14), sl14⟩) (c14c : PySem.W.codeIn K cd14 "need_hand" = true) (k14 : PySem.W.keepIn K (.ref f14) = true)
    {f15 : Addr} {od15 an15 : Option Addr} {sl15 : Array (Option Value)} {oc15 kV15 dc15 pm15 ct15 : Value} {cd15 : Value}
    (a15 : PySem.W.nsIn K mainGlobals "is_laid" = some (some (.ref f15))) (l15 : K.lookup f15 = some ⟨oc15, od15, .func (PySem.W.fnOf "is_laid" "is_laid" (defArgs s_is_laid) (defBody s_is_laid) (defScope s_is_laid) .none kV15 dc15 pm15 an15 cd15 ct15), sl15⟩) (c15c : PySem.W.codeIn K cd15 "is_laid" = true) (k15 : PySem.W.keepIn K (.ref f15) = true)
    {f16 : Addr} {od16 an16 : Option Addr} {sl16 : Array (Option Value)} {oc16 kV16 dc16 pm16 ct16 : Value} {cd16 : Value}
    (a16 : PySem.W.nsIn K mainGlobals "all_ways" = some (some (.ref f16))) (l16 : K.lookup f16 = some ⟨oc16, od16, .func (PySem.W.fnOf "all_ways" "all_ways" (defArgs s_all_ways) (defBody s_all_ways) (defScope s_all_ways) .none kV16 dc16 pm16 an16 cd16 ct16), sl16⟩) (c16c : PySem.W.codeIn K cd16 "all_ways" = true) (k16 : PySem.W.keepIn K (.ref f16) = true)
    {f17 : Addr} {od17 an17 : Option Addr} {sl17 : Array (Option Value)} {oc17 kV17 dc17 pm17 ct17 : Value} {cd17 : Value}
    (a17 : PySem.W.nsIn K mainGlobals "ways" = some (some (.ref f17))) (l17 : K.lookup f17 = some ⟨oc17, od17, .func (PySem.W.fnOf "ways" "ways" (defArgs s_ways) (defBody s_ways) (defScope s_ways) .none kV17 dc17 pm17 an17 cd17 ct17), sl17⟩) (c17c : PySem.W.codeIn K cd17 "ways" = true) (k17 : PySem.W.keepIn K (.ref f17) = true)
    {f18 : Addr} {od18 an18 : Option Addr} {sl18 : Array (Option Value)} {oc18 kV18 dc18 pm18 ct18 : Value} {cd18 : Value}
    (a18 : PySem.W.nsIn K mainGlobals "need_shape" = some (some (.ref f18))) (l18 : K.lookup f18 = some ⟨oc18, od18, .func (PySem.W.fnOf "need_shape" "need_shape" (defArgs s_need_shape) (defBody s_need_shape) (defScope s_need_shape) .none kV18 dc18 pm18 an18 cd18 ct18), sl18⟩) (c18c : PySem.W.codeIn K cd18 "need_shape" = true) (k18 : PySem.W.keepIn K (.ref f18) = true)
    {f19 : Addr} {od19 an19 : Option Addr} {sl19 : Array (Option Value)} {oc19 kV19 dc19 pm19 ct19 : Value} {cd19 : Value}
    (a19 : PySem.W.nsIn K mainGlobals "sounded" = some (some (.ref f19))) (l19 : K.lookup f19 = some ⟨oc19, od19, .func (PySem.W.fnOf "sounded" "sounded" (defArgs s_sounded) (defBody s_sounded) (defScope s_sounded) .none kV19 dc19 pm19 an19 cd19 ct19), sl19⟩) (c19c : PySem.W.codeIn K cd19 "sounded" = true) (k19 : PySem.W.keepIn K (.ref f19) = true)
    {f20 : Addr} {od20 an20 : Option Addr} {sl20 : Array (Option Value)} {oc20 kV20 dc20 pm20 ct20 : Value} {cd20 : Value}
    (a20 : PySem.W.nsIn K mainGlobals "slid_by" = some (some (.ref f20))) (l20 : K.lookup f20 = some ⟨oc20, od20, .func (PySem.W.fnOf "slid_by" "slid_by" (defArgs s_slid_by) (defBody s_slid_by) (defScope s_slid_by) .none kV20 dc20 pm20 an20 cd20 ct20), sl20⟩) (c20c : PySem.W.codeIn K cd20 "slid_by" = true) (k20 : PySem.W.keepIn K (.ref f20) = true)
    {f21 : Addr} {od21 an21 : Option Addr} {sl21 : Array (Option Value)} {oc21 kV21 dc21 pm21 ct21 : Value} {cd21 : Value}
    (a21 : PySem.W.nsIn K mainGlobals "slid" = some (some (.ref f21))) (l21 : K.lookup f21 = some ⟨oc21, od21, .func (PySem.W.fnOf "slid" "slid" (defArgs s_slid) (defBody s_slid) (defScope s_slid) .none kV21 dc21 pm21 an21 cd21 ct21), sl21⟩) (c21c : PySem.W.codeIn K cd21 "slid" = true) (k21 : PySem.W.keepIn K (.ref f21) = true)
    {f22 : Addr} {od22 an22 : Option Addr} {sl22 : Array (Option Value)} {oc22 kV22 dc22 pm22 ct22 : Value} {cd22 : Value}
    (a22 : PySem.W.nsIn K mainGlobals "need_tune" = some (some (.ref f22))) (l22 : K.lookup f22 = some ⟨oc22, od22, .func (PySem.W.fnOf "need_tune" "need_tune" (defArgs s_need_tune) (defBody s_need_tune) (defScope s_need_tune) .none kV22 dc22 pm22 an22 cd22 ct22), sl22⟩) (c22c : PySem.W.codeIn K cd22 "need_tune" = true) (k22 : PySem.W.keepIn K (.ref f22) = true)
    {f23 : Addr} {od23 an23 : Option Addr} {sl23 : Array (Option Value)} {oc23 kV23 dc23 pm23 ct23 : Value} {cd23 : Value}
    (a23 : PySem.W.nsIn K mainGlobals "need_reach" = some (some (.ref f23))) (l23 : K.lookup f23 = some ⟨oc23, od23, .func (PySem.W.fnOf "need_reach" "need_reach" (defArgs s_need_reach) (defBody s_need_reach) (defScope s_need_reach) .none kV23 dc23 pm23 an23 cd23 ct23), sl23⟩) (c23c : PySem.W.codeIn K cd23 "need_reach" = true) (k23 : PySem.W.keepIn K (.ref f23) = true)
    {f24 : Addr} {od24 an24 : Option Addr} {sl24 : Array (Option Value)} {oc24 kV24 dc24 pm24 ct24 : Value} {cd24 : Value}
    (a24 : PySem.W.nsIn K mainGlobals "positions" = some (some (.ref f24))) (l24 : K.lookup f24 = some ⟨oc24, od24, .func (PySem.W.fnOf "positions" "positions" (defArgs s_positions) (defBody s_positions) (defScope s_positions) .none kV24 dc24 pm24 an24 cd24 ct24), sl24⟩) (c24c : PySem.W.codeIn K cd24 "positions" = true) (k24 : PySem.W.keepIn K (.ref f24) = true)
    {f25 : Addr} {od25 an25 : Option Addr} {sl25 : Array (Option Value)} {oc25 kV25 dc25 pm25 ct25 : Value} {cd25 : Value}
    (a25 : PySem.W.nsIn K mainGlobals "place_in" = some (some (.ref f25))) (l25 : K.lookup f25 = some ⟨oc25, od25, .func (PySem.W.fnOf "place_in" "place_in" (defArgs s_place_in) (defBody s_place_in) (defScope s_place_in) .none kV25 dc25 pm25 an25 cd25 ct25), sl25⟩) (c25c : PySem.W.codeIn K cd25 "place_in" = true) (k25 : PySem.W.keepIn K (.ref f25) = true)
    {f26 : Addr} {od26 an26 : Option Addr} {sl26 : Array (Option Value)} {oc26 kV26 dc26 pm26 ct26 : Value} {cd26 : Value}
    (a26 : PySem.W.nsIn K mainGlobals "numbers_behind" = some (some (.ref f26))) (l26 : K.lookup f26 = some ⟨oc26, od26, .func (PySem.W.fnOf "numbers_behind" "numbers_behind" (defArgs s_numbers_behind) (defBody s_numbers_behind) (defScope s_numbers_behind) .none kV26 dc26 pm26 an26 cd26 ct26), sl26⟩) (c26c : PySem.W.codeIn K cd26 "numbers_behind" = true) (k26 : PySem.W.keepIn K (.ref f26) = true)
    {f27 : Addr} {od27 an27 : Option Addr} {sl27 : Array (Option Value)} {oc27 kV27 dc27 pm27 ct27 : Value} {cd27 : Value}
    (a27 : PySem.W.nsIn K mainGlobals "table_of" = some (some (.ref f27))) (l27 : K.lookup f27 = some ⟨oc27, od27, .func (PySem.W.fnOf "table_of" "table_of" (defArgs s_table_of) (defBody s_table_of) (defScope s_table_of) .none kV27 dc27 pm27 an27 cd27 ct27), sl27⟩) (c27c : PySem.W.codeIn K cd27 "table_of" = true) (k27 : PySem.W.keepIn K (.ref f27) = true)
    {f28 : Addr} {od28 an28 : Option Addr} {sl28 : Array (Option Value)} {oc28 kV28 dc28 pm28 ct28 : Value} {cd28 : Value}
    (a28 : PySem.W.nsIn K mainGlobals "table" = some (some (.ref f28))) (l28 : K.lookup f28 = some ⟨oc28, od28, .func (PySem.W.fnOf "table" "table" (defArgs s_table) (defBody s_table) (defScope s_table) .none kV28 dc28 pm28 an28 cd28 ct28), sl28⟩) (c28c : PySem.W.codeIn K cd28 "table" = true) (k28 : PySem.W.keepIn K (.ref f28) = true)
    {f29 : Addr} {od29 an29 : Option Addr} {sl29 : Array (Option Value)} {oc29 kV29 dc29 pm29 ct29 : Value} {cd29 : Value}
    (a29 : PySem.W.nsIn K mainGlobals "played" = some (some (.ref f29))) (l29 : K.lookup f29 = some ⟨oc29, od29, .func (PySem.W.fnOf "played" "played" (defArgs s_played) (defBody s_played) (defScope s_played) .none kV29 dc29 pm29 an29 cd29 ct29), sl29⟩) (c29c : PySem.W.codeIn K cd29 "played" = true) (k29 : PySem.W.keepIn K (.ref f29) = true)
    {f30 : Addr} {od30 an30 : Option Addr} {sl30 : Array (Option Value)} {oc30 kV30 dc30 pm30 ct30 : Value} {cd30 : Value}
    (a30 : PySem.W.nsIn K mainGlobals "need_chords" = some (some (.ref f30))) (l30 : K.lookup f30 = some ⟨oc30, od30, .func (PySem.W.fnOf "need_chords" "need_chords" (defArgs s_need_chords) (defBody s_need_chords) (defScope s_need_chords) .none kV30 dc30 pm30 an30 cd30 ct30), sl30⟩) (c30c : PySem.W.codeIn K cd30 "need_chords" = true) (k30 : PySem.W.keepIn K (.ref f30) = true)
    {f31 : Addr} {od31 an31 : Option Addr} {sl31 : Array (Option Value)} {oc31 kV31 dc31 pm31 ct31 : Value} {cd31 : Value}
    (a31 : PySem.W.nsIn K mainGlobals "size_of" = some (some (.ref f31))) (l31 : K.lookup f31 = some ⟨oc31, od31, .func (PySem.W.fnOf "size_of" "size_of" (defArgs s_size_of) (defBody s_size_of) (defScope s_size_of) .none kV31 dc31 pm31 an31 cd31 ct31), sl31⟩) (c31c : PySem.W.codeIn K cd31 "size_of" = true) (k31 : PySem.W.keepIn K (.ref f31) = true)
    {f32 : Addr} {od32 an32 : Option Addr} {sl32 : Array (Option Value)} {oc32 kV32 dc32 pm32 ct32 : Value} {cc32 PP32 : Addr} {co32 : Value} {cp32 : Option Addr} {vs32 : Array Value} {cs32 : Array (Option Value)}
    (a32 : PySem.W.nsIn K mainGlobals "all_retunings" = some (some (.ref f32))) (l32 : K.lookup f32 = some ⟨oc32, od32, .func (PySem.W.fnOf "all_retunings" "all_retunings" (defArgs s_all_retunings) (defBody s_all_retunings) (defScope s_all_retunings) .none kV32 dc32 pm32 an32 (.ref cc32) ct32), sl32⟩) (c32c : PySem.W.codeIn K (.ref cc32) "all_retunings" = true) (k32 : PySem.W.keepIn K (.ref f32) = true)
    (lc32 : K.lookup cc32 = some ⟨co32, cp32, .fields vs32, cs32⟩) (lp32 : vs32[11]? = some (.ref PP32)) (lh32 : PySem.W.codeHdIn K cc32 PP32 = true) (ln32 : K.lookup PP32 = none) (lt32 : h.get? PP32 = some { cls := .none, data := .fields #[] })
    {f33 : Addr} {od33 an33 : Option Addr} {sl33 : Array (Option Value)} {oc33 kV33 dc33 pm33 ct33 : Value} {cd33 : Value}
    (a33 : PySem.W.nsIn K mainGlobals "first_without" = some (some (.ref f33))) (l33 : K.lookup f33 = some ⟨oc33, od33, .func (PySem.W.fnOf "first_without" "first_without" (defArgs s_first_without) (defBody s_first_without) (defScope s_first_without) .none kV33 dc33 pm33 an33 cd33 ct33), sl33⟩) (c33c : PySem.W.codeIn K cd33 "first_without" = true) (k33 : PySem.W.keepIn K (.ref f33) = true)
    {f34 : Addr} {od34 an34 : Option Addr} {sl34 : Array (Option Value)} {oc34 kV34 dc34 pm34 ct34 : Value} {cd34 : Value}
    (a34 : PySem.W.nsIn K mainGlobals "retuned" = some (some (.ref f34))) (l34 : K.lookup f34 = some ⟨oc34, od34, .func (PySem.W.fnOf "retuned" "retuned" (defArgs s_retuned) (defBody s_retuned) (defScope s_retuned) .none kV34 dc34 pm34 an34 cd34 ct34), sl34⟩) (c34c : PySem.W.codeIn K cd34 "retuned" = true) (k34 : PySem.W.keepIn K (.ref f34) = true)
    {f35 : Addr} {od35 an35 : Option Addr} {sl35 : Array (Option Value)} {oc35 kV35 dc35 pm35 ct35 : Value} {cd35 : Value}
    (a35 : PySem.W.nsIn K mainGlobals "written" = some (some (.ref f35))) (l35 : K.lookup f35 = some ⟨oc35, od35, .func (PySem.W.fnOf "written" "written" (defArgs s_written) (defBody s_written) (defScope s_written) .none kV35 dc35 pm35 an35 cd35 ct35), sl35⟩) (c35c : PySem.W.codeIn K cd35 "written" = true) (k35 : PySem.W.keepIn K (.ref f35) = true)
    {f36 : Addr} {od36 an36 : Option Addr} {sl36 : Array (Option Value)} {oc36 kV36 dc36 pm36 ct36 : Value} {cd36 : Value}
    (a36 : PySem.W.nsIn K mainGlobals "place_of" = some (some (.ref f36))) (l36 : K.lookup f36 = some ⟨oc36, od36, .func (PySem.W.fnOf "place_of" "place_of" (defArgs s_place_of) (defBody s_place_of) (defScope s_place_of) .none kV36 dc36 pm36 an36 cd36 ct36), sl36⟩) (c36c : PySem.W.codeIn K cd36 "place_of" = true) (k36 : PySem.W.keepIn K (.ref f36) = true)
    {f37 : Addr} {od37 an37 : Option Addr} {sl37 : Array (Option Value)} {oc37 kV37 dc37 pm37 ct37 : Value} {cd37 : Value}
    (a37 : PySem.W.nsIn K mainGlobals "read" = some (some (.ref f37))) (l37 : K.lookup f37 = some ⟨oc37, od37, .func (PySem.W.fnOf "read" "read" (defArgs s_read) (defBody s_read) (defScope s_read) .none kV37 dc37 pm37 an37 cd37 ct37), sl37⟩) (c37c : PySem.W.codeIn K cd37 "read" = true) (k37 : PySem.W.keepIn K (.ref f37) = true)
    {f38 : Addr} {od38 an38 : Option Addr} {sl38 : Array (Option Value)} {oc38 kV38 dc38 pm38 ct38 : Value} {cd38 : Value}
    (a38 : PySem.W.nsIn K mainGlobals "_law_asked" = some (some (.ref f38))) (l38 : K.lookup f38 = some ⟨oc38, od38, .func (PySem.W.fnOf "_law_asked" "_law_asked" (defArgs s__law_asked) (defBody s__law_asked) (defScope s__law_asked) .none kV38 dc38 pm38 an38 cd38 ct38), sl38⟩) (c38c : PySem.W.codeIn K cd38 "_law_asked" = true) (k38 : PySem.W.keepIn K (.ref f38) = true)
    {f39 : Addr} {od39 an39 : Option Addr} {sl39 : Array (Option Value)} {oc39 kV39 dc39 pm39 ct39 : Value} {cd39 : Value}
    (a39 : PySem.W.nsIn K mainGlobals "_law_copied" = some (some (.ref f39))) (l39 : K.lookup f39 = some ⟨oc39, od39, .func (PySem.W.fnOf "_law_copied" "_law_copied" (defArgs s__law_copied) (defBody s__law_copied) (defScope s__law_copied) .none kV39 dc39 pm39 an39 cd39 ct39), sl39⟩) (c39c : PySem.W.codeIn K cd39 "_law_copied" = true) (k39 : PySem.W.keepIn K (.ref f39) = true)
    {f40 : Addr} {od40 an40 : Option Addr} {sl40 : Array (Option Value)} {oc40 kV40 dc40 pm40 ct40 : Value} {cd40 : Value}
    (a40 : PySem.W.nsIn K mainGlobals "_law_alike" = some (some (.ref f40))) (l40 : K.lookup f40 = some ⟨oc40, od40, .func (PySem.W.fnOf "_law_alike" "_law_alike" (defArgs s__law_alike) (defBody s__law_alike) (defScope s__law_alike) .none kV40 dc40 pm40 an40 cd40 ct40), sl40⟩) (c40c : PySem.W.codeIn K cd40 "_law_alike" = true) (k40 : PySem.W.keepIn K (.ref f40) = true)
    {f41 : Addr} {od41 an41 : Option Addr} {sl41 : Array (Option Value)} {oc41 kV41 dc41 pm41 ct41 : Value} {cd41 : Value}
    (a41 : PySem.W.nsIn K mainGlobals "law" = some (some (.ref f41))) (l41 : K.lookup f41 = some ⟨oc41, od41, .func (PySem.W.fnOf "law" "law" (defArgs s_law) (defBody s_law) (defScope s_law) .none kV41 dc41 pm41 an41 cd41 ct41), sl41⟩) (c41c : PySem.W.codeIn K cd41 "law" = true) (k41 : PySem.W.keepIn K (.ref f41) = true)
    (z_len : PySem.W.nsIn K mainGlobals "len" = some none)
    (z_range : PySem.W.nsIn K mainGlobals "range" = some none)
    (z_sorted : PySem.W.nsIn K mainGlobals "sorted" = some none)
    (z_set : PySem.W.nsIn K mainGlobals "set" = some none)
    (z_tuple : PySem.W.nsIn K mainGlobals "tuple" = some none)
    (z_list : PySem.W.nsIn K mainGlobals "list" = some none)
    (z_min : PySem.W.nsIn K mainGlobals "min" = some none)
    (z_max : PySem.W.nsIn K mainGlobals "max" = some none)
    (z_abs : PySem.W.nsIn K mainGlobals "abs" = some none)
    (z_sum : PySem.W.nsIn K mainGlobals "sum" = some none)
    (z_int : PySem.W.nsIn K mainGlobals "int" = some none)
    (z_str : PySem.W.nsIn K mainGlobals "str" = some none)
    (z_bool : PySem.W.nsIn K mainGlobals "bool" = some none)
    (z_zip : PySem.W.nsIn K mainGlobals "zip" = some none)
    (z_reversed : PySem.W.nsIn K mainGlobals "reversed" = some none)
    (z_isinstance : PySem.W.nsIn K mainGlobals "isinstance" = some none)
    {t0 : _} (y_MOST_STRINGS_necks : PySem.W.nsIn K mainGlobals "MOST_STRINGS_necks" = some (some (.int 6 t0)))
    {t1 : _} (y_MOST_NOTE : PySem.W.nsIn K mainGlobals "MOST_NOTE" = some (some (.int 60 t1)))
    {t2 : _} (y_MOST_FRETS : PySem.W.nsIn K mainGlobals "MOST_FRETS" = some (some (.int 20 t2)))
    {t3 : _} (y_SILENT : PySem.W.nsIn K mainGlobals "SILENT" = some (some (.int (-1) t3)))
    {t4 : _} (y_MOST_REACH : PySem.W.nsIn K mainGlobals "MOST_REACH" = some (some (.int 6 t4)))
    {t5 : _} (y_MOST_CHORD : PySem.W.nsIn K mainGlobals "MOST_CHORD" = some (some (.int 6 t5)))
    {t6 : _} (y_MOST_SOUND : PySem.W.nsIn K mainGlobals "MOST_SOUND" = some (some (.int 80 t6)))
    {t7 : _} (y_FIGURES : PySem.W.nsIn K mainGlobals "FIGURES" = some (some (.str "0123456789" t7)))
    {t8 : _} (y_MOST_TUNE : PySem.W.nsIn K mainGlobals "MOST_TUNE" = some (some (.int 30 t8)))
    {t9 : _} (y_NEVER : PySem.W.nsIn K mainGlobals "NEVER" = some (some (.int (-1) t9)))
    {t10 : _} (y_MOST_STRINGS_tunings : PySem.W.nsIn K mainGlobals "MOST_STRINGS_tunings" = some (some (.int 4 t10)))
    {t11 : _} (y_MOST_CHANGE : PySem.W.nsIn K mainGlobals "MOST_CHANGE" = some (some (.int 2 t11)))
    : LamX.LawAtS l w K CX0 9 63 "_law_script" mg fa h := by
  have ch : ∀ {P : Addr × Addr → Prop}, P (cc32, PP32) → ∀ p ∈ [(cc32, PP32)], P p := fun {P} p32 p hp => by
    simp only [List.mem_cons, List.not_mem_nil, or_false] at hp
    subst hp; exact p32
  letI tb : Tb := ⟨([(PP32, ("all_retunings" ++ ".<locals>." ++ "<lambda>" : Str))] : List (Addr × Str))⟩
  have tm32 : (PP32, ("all_retunings" ++ ".<locals>." ++ "<lambda>" : Str)) ∈ ([(PP32, ("all_retunings" ++ ".<locals>." ++ "<lambda>" : Str))] : List (Addr × Str)) := by simp
  have tu32 : ∀ p ∈ ([(PP32, ("all_retunings" ++ ".<locals>." ++ "<lambda>" : Str))] : List (Addr × Str)), p.1 = PP32 → p.2 = ("all_retunings" ++ ".<locals>." ++ "<lambda>" : Str) := fun p hp e => by
    simp only [List.mem_cons, List.not_mem_nil, or_false] at hp
    subst hp; rfl
  obtain ⟨fd, hb, hF⟩ := all_mk (l := l) (w := w) X G hfa a0 l0 c0c k0 a1 l1 c1c k1 a2 l2 c2c k2 a3 l3 c3c k3 a4 l4 c4c k4 a5 l5 c5c k5 a6 l6 c6c k6 a7 l7 c7c k7 a8 l8 c8c k8 a9 l9 c9c k9 a10 l10 c10c k10 a11 l11 c11c k11 a12 l12 c12c k12 a13 l13 c13c k13 a14 l14 c14c k14 a15 l15 c15c k15 a16 l16 c16c k16 a17 l17 c17c k17 a18 l18 c18c k18 a19 l19 c19c k19 a20 l20 c20c k20 a21 l21 c21c k21 a22 l22 c22c k22 a23 l23 c23c k23 a24 l24 c24c k24 a25 l25 c25c k25 a26 l26 c26c k26 a27 l27 c27c k27 a28 l28 c28c k28 a29 l29 c29c k29 a30 l30 c30c k30 a31 l31 c31c k31 a32 l32 c32c k32 lc32 lp32 lh32 ln32 lt32 a33 l33 c33c k33 a34 l34 c34c k34 a35 l35 c35c k35 a36 l36 c36c k36 a37 l37 c37c k37 a38 l38 c38c k38 a39 l39 c39c k39 a40 l40 c40c k40 a41 l41 c41c k41 z_len z_range z_sorted z_set z_tuple z_list z_min z_max z_abs z_sum z_int z_str z_bool z_zip z_reversed z_isinstance y_MOST_STRINGS_necks y_MOST_NOTE y_MOST_FRETS y_SILENT y_MOST_REACH y_MOST_CHORD y_MOST_SOUND y_FIGURES y_MOST_TUNE y_NEVER y_MOST_STRINGS_tunings y_MOST_CHANGE tm32 tu32
  refine ⟨fd, [(cc32, PP32)], spLawT K, ch lt32, ch ln32, ch (PySem.W.codeHd_of_K X lh32), hb, fun H a ns hl _ hT hS => ⟨fun p hp => ?_, a, ns, rfl, hS, hl, fun _ => rfl⟩, fun base kb gb ht => hF base kb gb (ht (cc32, PP32) (by simp))⟩
  have hp : p ∈ ([(PP32, ("all_retunings" ++ ".<locals>." ++ "<lambda>" : Str))] : List (Addr × Str)) := hp
  simp only [List.mem_cons, List.not_mem_nil, or_false] at hp
  subst hp; exact LamX.TabS.nil (hT (cc32, PP32) (by simp))
end Q
open PySem PySem.W PyProof.Rows
set_option maxHeartbeats 0 in
theorem PySem.Challenge.cw_fretways_k14_asked_again_holds : PySem.Challenge.rw_fretways_k14_asked_again.Holds := by
  w_on; o_law; km_head; (case hw => w_witness2)
  k_fill
  refine LamX.walk_ofTs (l := PySem.Challenge.rw_fretways_k14_asked_again) (n := 63) (k := 9) (x := "_law_script") (CX := fun _ => L2.CX0) rfl (by decide) rfl ⟨rfl, by decide, by decide⟩ (fun w h Y => PySem.W.km_in_of Y) ?F (fun _ _ _ _ _ h => h)
  case F =>
    intro w mg fa h Y KX G hmg
    have hT := PySem.W.km_tabs_of Y
    refine' Q.law_at KX G hmg ?a0 ?l0 ?c0c ?k0 ?a1 ?l1 ?c1c ?k1 ?a2 ?l2 ?c2c ?k2 ?a3 ?l3 ?c3c ?k3 ?a4 ?l4 ?c4c ?k4 ?a5 ?l5 ?c5c ?k5 ?a6 ?l6 ?c6c ?k6 ?a7 ?l7 ?c7c ?k7 ?a8 ?l8 ?c8c ?k8 ?a9 ?l9 ?c9c ?k9 ?a10 ?l10 ?c10c ?k10 ?a11 ?l11 ?c11c ?k11 ?a12 ?l12 ?c12c ?k12 ?a13 ?l13 ?c13c ?k13 ?a14 ?l14 ?c14c ?k14 ?a15 ?l15 ?c15c ?k15 ?a16 ?l16 ?c16c ?k16 ?a17 ?l17 ?c17c ?k17 ?a18 ?l18 ?c18c ?k18 ?a19 ?l19 ?c19c ?k19 ?a20 ?l20 ?c20c ?k20 ?a21 ?l21 ?c21c ?k21 ?a22 ?l22 ?c22c ?k22 ?a23 ?l23 ?c23c ?k23 ?a24 ?l24 ?c24c ?k24 ?a25 ?l25 ?c25c ?k25 ?a26 ?l26 ?c26c ?k26 ?a27 ?l27 ?c27c ?k27 ?a28 ?l28 ?c28c ?k28 ?a29 ?l29 ?c29c ?k29 ?a30 ?l30 ?c30c ?k30 ?a31 ?l31 ?c31c ?k31 ?a32 ?l32 ?c32c ?k32 ?lc32 ?lp32 ?lh32 ?ln32 ?lt32 ?a33 ?l33 ?c33c ?k33 ?a34 ?l34 ?c34c ?k34 ?a35 ?l35 ?c35c ?k35 ?a36 ?l36 ?c36c ?k36 ?a37 ?l37 ?c37c ?k37 ?a38 ?l38 ?c38c ?k38 ?a39 ?l39 ?c39c ?k39 ?a40 ?l40 ?c40c ?k40 ?a41 ?l41 ?c41c ?k41 ?z_len ?z_range ?z_sorted ?z_set ?z_tuple ?z_list ?z_min ?z_max ?z_abs ?z_sum ?z_int ?z_str ?z_bool ?z_zip ?z_reversed ?z_isinstance ?y_MOST_STRINGS_necks ?y_MOST_NOTE ?y_MOST_FRETS ?y_SILENT ?y_MOST_REACH ?y_MOST_CHORD ?y_MOST_SOUND ?y_FIGURES ?y_MOST_TUNE ?y_NEVER ?y_MOST_STRINGS_tunings ?y_MOST_CHANGE
    (case a0 => k_is)
    (case l0 => k_is)
    (case c0c => k_is)
    (case k0 => k_is)
    (case a1 => k_is)
    (case l1 => k_is)
    (case c1c => k_is)
    (case k1 => k_is)
    (case a2 => k_is)
    (case l2 => k_is)
    (case c2c => k_is)
    (case k2 => k_is)
    (case a3 => k_is)
    (case l3 => k_is)
    (case c3c => k_is)
    (case k3 => k_is)
    (case a4 => k_is)
    (case l4 => k_is)
    (case c4c => k_is)
    (case k4 => k_is)
    (case a5 => k_is)
    (case l5 => k_is)
    (case c5c => k_is)
    (case k5 => k_is)
    (case a6 => k_is)
    (case l6 => k_is)
    (case c6c => k_is)
    (case k6 => k_is)
    (case a7 => k_is)
    (case l7 => k_is)
    (case c7c => k_is)
    (case k7 => k_is)
    (case a8 => k_is)
    (case l8 => k_is)
    (case c8c => k_is)
    (case k8 => k_is)
    (case a9 => k_is)
    (case l9 => k_is)
    (case c9c => k_is)
    (case k9 => k_is)
    (case a10 => k_is)
    (case l10 => k_is)
    (case c10c => k_is)
    (case k10 => k_is)
    (case a11 => k_is)
    (case l11 => k_is)
    (case c11c => k_is)
    (case k11 => k_is)
    (case a12 => k_is)
    (case l12 => k_is)
    (case c12c => k_is)
    (case k12 => k_is)
    (case a13 => k_is)
    (case l13 => k_is)
    (case c13c => k_is)
    (case k13 => k_is)
    (case a14 => k_is)
    (case l14 => k_is)
    (case c14c => k_is)
    (case k14 => k_is)
    (case a15 => k_is)
    (case l15 => k_is)
    (case c15c => k_is)
    (case k15 => k_is)
    (case a16 => k_is)
    (case l16 => k_is)
    (case c16c => k_is)
    (case k16 => k_is)
    (case a17 => k_is)
    (case l17 => k_is)
    (case c17c => k_is)
    (case k17 => k_is)
    (case a18 => k_is)
    (case l18 => k_is)
    (case c18c => k_is)
    (case k18 => k_is)
    (case a19 => k_is)
    (case l19 => k_is)
    (case c19c => k_is)
    (case k19 => k_is)
    (case a20 => k_is)
    (case l20 => k_is)
    (case c20c => k_is)
    (case k20 => k_is)
    (case a21 => k_is)
    (case l21 => k_is)
    (case c21c => k_is)
    (case k21 => k_is)
    (case a22 => k_is)
    (case l22 => k_is)
    (case c22c => k_is)
    (case k22 => k_is)
    (case a23 => k_is)
    (case l23 => k_is)
    (case c23c => k_is)
    (case k23 => k_is)
    (case a24 => k_is)
    (case l24 => k_is)
    (case c24c => k_is)
    (case k24 => k_is)
    (case a25 => k_is)
    (case l25 => k_is)
    (case c25c => k_is)
    (case k25 => k_is)
    (case a26 => k_is)
    (case l26 => k_is)
    (case c26c => k_is)
    (case k26 => k_is)
    (case a27 => k_is)
    (case l27 => k_is)
    (case c27c => k_is)
    (case k27 => k_is)
    (case a28 => k_is)
    (case l28 => k_is)
    (case c28c => k_is)
    (case k28 => k_is)
    (case a29 => k_is)
    (case l29 => k_is)
    (case c29c => k_is)
    (case k29 => k_is)
    (case a30 => k_is)
    (case l30 => k_is)
    (case c30c => k_is)
    (case k30 => k_is)
    (case a31 => k_is)
    (case l31 => k_is)
    (case c31c => k_is)
    (case k31 => k_is)
    (case a32 => k_is)
    (case l32 => k_is)
    (case c32c => k_is)
    (case k32 => k_is)
    (case lc32 => k_is)
    (case lp32 => rfl)
    (case lh32 => kernel_rfl)
    (case ln32 => kernel_rfl)
    (case lt32 => exact hT _ (by simp))
    (case a33 => k_is)
    (case l33 => k_is)
    (case c33c => k_is)
    (case k33 => k_is)
    (case a34 => k_is)
    (case l34 => k_is)
    (case c34c => k_is)
    (case k34 => k_is)
    (case a35 => k_is)
    (case l35 => k_is)
    (case c35c => k_is)
    (case k35 => k_is)
    (case a36 => k_is)
    (case l36 => k_is)
    (case c36c => k_is)
    (case k36 => k_is)
    (case a37 => k_is)
    (case l37 => k_is)
    (case c37c => k_is)
    (case k37 => k_is)
    (case a38 => k_is)
    (case l38 => k_is)
    (case c38c => k_is)
    (case k38 => k_is)
    (case a39 => k_is)
    (case l39 => k_is)
    (case c39c => k_is)
    (case k39 => k_is)
    (case a40 => k_is)
    (case l40 => k_is)
    (case c40c => k_is)
    (case k40 => k_is)
    (case a41 => k_is)
    (case l41 => k_is)
    (case c41c => k_is)
    (case k41 => k_is)
    (case z_len => k_is)
    (case z_range => k_is)
    (case z_sorted => k_is)
    (case z_set => k_is)
    (case z_tuple => k_is)
    (case z_list => k_is)
    (case z_min => k_is)
    (case z_max => k_is)
    (case z_abs => k_is)
    (case z_sum => k_is)
    (case z_int => k_is)
    (case z_str => k_is)
    (case z_bool => k_is)
    (case z_zip => k_is)
    (case z_reversed => k_is)
    (case z_isinstance => k_is)
    (case y_MOST_STRINGS_necks => k_is)
    (case y_MOST_NOTE => k_is)
    (case y_MOST_FRETS => k_is)
    (case y_SILENT => k_is)
    (case y_MOST_REACH => k_is)
    (case y_MOST_CHORD => k_is)
    (case y_MOST_SOUND => k_is)
    (case y_FIGURES => k_is)
    (case y_MOST_TUNE => k_is)
    (case y_NEVER => k_is)
    (case y_MOST_STRINGS_tunings => k_is)
    (case y_MOST_CHANGE => k_is)

