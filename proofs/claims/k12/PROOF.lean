import PyProof.Rows.All
import Wide.All
import OpenK.AllK
import Wide.FinOn
import HandS.ForMost
import HandS.ForExc
import HandS.Lambda
import HandS.TupAny
import HandS.Zip
import HandS.Rev
import HandS.RevRange
import KE.SortData
import HandS.Conv
import HandS.IsInst
import HandS.TupMul
import HandS.Style
import HandS.Deep
import HandS.Set
import KE.DataMinMax
import KE.KRevSl
import HandS.ExcIs
import HandS.ExcOwn
import KE.SortKeyHeap
import KE.KNestM
import HandS.EndTab
import HandS.Nested
import HandS.ExcInit
import HandS.ExcField
import HandS.ClsMeth
import KE.KExcIs
import PySem.Challenge.RW_fretways_k12_refused_in_order
set_option Elab.async false
set_option linter.all false
set_option maxRecDepth 100000
set_option maxHeartbeats 2000000
set_option autoImplicit false
/-! FW: values as trees (PyData), a def's state as a list of slots, one rule for each construct over these. -/
namespace FW
open PySem PySem.Spec PyProof.Rows L2

abbrev D := PyData
abbrev Ex (H H' : Hp) : Prop := ∀ a o, H a = some o → H' a = some o
theorem Ex.refl (H : Hp) : Ex H H := fun _ _ h => h
theorem Ex.trans {H H1 H2 : Hp} (a : Ex H H1) (b : Ex H1 H2) : Ex H H2 := fun x o h => b x o (a x o h)
theorem Ex.upd {H : Hp} {p : Addr} {o : HO} (h : H p = none) : Ex H (upd H p o) := fun a u e => by
  rw [upd_ne (ne_of_none e h)]; exact e
theorem Ex.none {H H' : Hp} {p : Addr} (e : Ex H H') (h : H' p = none) : H p = none := by
  cases q : H p with
  | none => rfl
  | some o => rw [e p o q] at h; cases h
theorem Ex.upd2 {H H' : Hp} {p : Addr} {o : HO} (e : Ex H H') : Ex (L2.upd H p o) (L2.upd H' p o) := fun a u h => by
  by_cases q : a = p
  · subst q; rw [upd_same] at h ⊢; exact h
  · rw [upd_ne q] at h ⊢; exact e a u h
theorem Ex.mut {H H' : Hp} {p : Addr} {o : HO} (e : Ex H H') (h : H p = Option.none) : Ex H (L2.upd H' p o) := fun a u ha => by
  rw [upd_ne (ne_of_none ha h)]; exact e a u ha

/-- the words of a lambda without parameters, the names that it captures -/
structure LF where
  q : Str
  params : Arguments
  body : Expr
  scope : Scope
  fr : List Str
/-- the tables of code objects that a law's lambdas write, each with the one name of what is made there; the lambdas that are handed on -/
class Tb where
  T : List (Addr × Str)
  L : Nat → LF
variable [Tb]
/-- the object at a is such a lambda: what it captured, its code object -/
def LamO (a : Addr) (l : LF) (cl : List (Str × Addr)) (c : Addr) : HO := .ext fun h => ∃ pm ctv : Value, h.get? a = some (PySem.W.kla_obj "<lambda>" l.q l.params l.body l.scope cl pm c ctv)
/-- the cell at c holds v -/
def CelO (c : Addr) (v : V) : HO := .ext fun h => ∃ u, RelV v u ∧ h.IsCell c (some u)
/-- what a lambda captured -/
structure Clo (H : Hp) (l : LF) (cl : List (Str × Addr)) (ws : List V) : Prop where
  len : ws.length = l.fr.length
  inj : ∀ x y c, cl.lookup x = some c → cl.lookup y = some c → x = y
  dom : ∀ y c, cl.lookup y = some c → y ∈ l.fr
  has : ∀ (i : Nat) (y : Str), l.fr[i]? = some y → ∃ c w, cl.lookup y = some c ∧ ws[i]? = some w ∧ H c = some (CelO c w)
theorem Clo.mono {H H' : Hp} {l : LF} {cl : List (Str × Addr)} {ws : List V} (e : Ex H H') (k : Clo H l cl ws) : Clo H' l cl ws := ⟨k.len, k.inj, k.dom, fun i y h => by
  obtain ⟨c, w, h1, h2, h3⟩ := k.has i y h
  exact ⟨c, w, h1, h2, e _ _ h3⟩⟩
/-- the tree that stands for the lambda j with what it captured -/
def thD (j : Nat) (ds : List D) : D := .dict [(.int (j : Nat), .tuple ds)]
/-! ### trees and what stands for them -/
mutual
inductive Rp (H : Hp) : V → D → Prop
  | non : Rp H .non .none
  | bl (b : Bool) : Rp H (.bl b) (.bool b)
  | int (i : Int) : Rp H (.int i) (.int i)
  | str (x : Str) : Rp H (.str x) (.str x)
  | lst {a : Addr} {xs : List V} {ds : List D} : H a = some (.lst xs) → Rps H xs ds → Rp H (.ref a) (.list ds)
  | tup {a : Addr} {xs : List V} {ds : List D} : H a = some (.tup xs) → Rps H xs ds → Rp H (.ref a) (.tuple ds)
  | thk {a c : Addr} {j : Nat} {cl : List (Str × Addr)} {ws : List V} {ds : List D} : H a = some (LamO a (Tb.L j) cl c) → H c = some (LamX.CodeO c (Tb.L j).q) → Clo H (Tb.L j) cl ws → Rps H ws ds → Rp H (.ref a) (.dict [(.int (j : Nat), .tuple ds)])
inductive Rps (H : Hp) : List V → List D → Prop
  | nil : Rps H [] []
  | cons {v : V} {vs : List V} {d : D} {ds : List D} : Rp H v d → Rps H vs ds → Rps H (v :: vs) (d :: ds)
end
mutual
theorem Rp.mono {H H' : Hp} (e : Ex H H') : ∀ {v : V} {d : D}, Rp H v d → Rp H' v d
  | _, _, .non => .non
  | _, _, .bl b => .bl b
  | _, _, .int i => .int i
  | _, _, .str x => .str x
  | _, _, .lst h r => .lst (e _ _ h) (Rps.mono e r)
  | _, _, .tup h r => .tup (e _ _ h) (Rps.mono e r)
  | _, _, .thk h c k r => .thk (e _ _ h) (e _ _ c) (k.mono e) (Rps.mono e r)
theorem Rps.mono {H H' : Hp} (e : Ex H H') : ∀ {vs : List V} {ds : List D}, Rps H vs ds → Rps H' vs ds
  | _, _, .nil => .nil
  | _, _, .cons a b => .cons (Rp.mono e a) (Rps.mono e b)
end
mutual
theorem Rp.dp {K : PySem.W.Frag} {H : Hp} : ∀ {v : V} {d : D}, Rp H v d → d.canLay0 = true → Dp K H v d
  | _, _, .non, _ => .non
  | _, _, .bl b, _ => .bl b
  | _, _, .int i, _ => .int i
  | _, _, .str x, _ => .str x
  | _, _, .lst h r, z => .lst (SqL.of h) (Rps.dp r (by simpa only [PyData.canLay0] using z))
  | _, _, .tup h r, z => .tup (SqT.of h) (Rps.dp r (by simpa only [PyData.canLay0] using z))
  | _, _, .thk _ _ _ _, z => by simp [PyData.canLay0] at z
theorem Rps.dp {K : PySem.W.Frag} {H : Hp} : ∀ {vs : List V} {ds : List D}, Rps H vs ds → PyData.canLayAll0 ds = true → DpAll K H vs ds
  | _, _, .nil, _ => .nil
  | _, _, .cons a b, z => .cons (Rp.dp a (by simp only [PyData.canLayAll0, Bool.and_eq_true] at z; exact z.1)) (Rps.dp b (by simp only [PyData.canLayAll0, Bool.and_eq_true] at z; exact z.2))
end
mutual
/-- lists and tuples alone are wanted of the heap where there is no lambda -/
theorem Rp.sub {H H' : Hp} (e : ∀ a o, H a = some o → (∀ φ, o ≠ .ext φ) → H' a = some o) : ∀ {v : V} {d : D}, Rp H v d → d.canLay0 = true → Rp H' v d
  | _, _, .non, _ => .non
  | _, _, .bl b, _ => .bl b
  | _, _, .int i, _ => .int i
  | _, _, .str x, _ => .str x
  | _, _, .lst h r, z => .lst (e _ _ h (fun _ z => by cases z)) (Rps.sub e r (by simpa only [PyData.canLay0] using z))
  | _, _, .tup h r, z => .tup (e _ _ h (fun _ z => by cases z)) (Rps.sub e r (by simpa only [PyData.canLay0] using z))
  | _, _, .thk _ _ _ _, z => by simp [PyData.canLay0] at z
theorem Rps.sub {H H' : Hp} (e : ∀ a o, H a = some o → (∀ φ, o ≠ .ext φ) → H' a = some o) : ∀ {vs : List V} {ds : List D}, Rps H vs ds → PyData.canLayAll0 ds = true → Rps H' vs ds
  | _, _, .nil, _ => .nil
  | _, _, .cons a b, z => .cons (Rp.sub e a (by simp only [PyData.canLayAll0, Bool.and_eq_true] at z; exact z.1)) (Rps.sub e b (by simp only [PyData.canLayAll0, Bool.and_eq_true] at z; exact z.2))
end
theorem Rps.length {H : Hp} : ∀ {vs : List V} {ds : List D}, Rps H vs ds → vs.length = ds.length
  | _, _, .nil => rfl
  | _, _, .cons _ r => by rw [List.length_cons, List.length_cons, Rps.length r]
theorem Rps.get {H : Hp} : ∀ {vs : List V} {ds : List D} {i : Nat} {d : D}, Rps H vs ds → ds[i]? = some d → ∃ v, vs[i]? = some v ∧ Rp H v d
  | _, _, _, _, .nil, e => by simp at e
  | _, _, 0, _, .cons r _, e => by simp at e; subst e; exact ⟨_, rfl, r⟩
  | _, _, i + 1, d, .cons _ t, e => by
    obtain ⟨v, h1, h2⟩ := Rps.get (i := i) (d := d) t (by simpa using e)
    exact ⟨v, by simpa using h1, h2⟩
theorem Rps.get' {H : Hp} : ∀ {vs : List V} {ds : List D} {i : Nat} {v : V}, Rps H vs ds → vs[i]? = some v → ∃ d, ds[i]? = some d ∧ Rp H v d
  | _, _, _, _, .nil, e => by simp at e
  | _, _, 0, _, .cons r _, e => by simp at e; subst e; exact ⟨_, rfl, r⟩
  | _, _, i + 1, v, .cons _ t, e => by
    obtain ⟨d, h1, h2⟩ := Rps.get' (i := i) (v := v) t (by simpa using e)
    exact ⟨d, by simpa using h1, h2⟩
theorem Rps.append {H : Hp} : ∀ {vs ws : List V} {ds es : List D}, Rps H vs ds → Rps H ws es → Rps H (vs ++ ws) (ds ++ es)
  | _, _, _, _, .nil, s => s
  | _, _, _, _, .cons r t, s => .cons r (Rps.append t s)
theorem Rps.take {H : Hp} : ∀ {vs : List V} {ds : List D} (n : Nat), Rps H vs ds → Rps H (vs.take n) (ds.take n)
  | _, _, 0, _ => .nil
  | _, _, _ + 1, .nil => .nil
  | _, _, n + 1, .cons r t => .cons r (Rps.take n t)
theorem Rps.drop {H : Hp} : ∀ {vs : List V} {ds : List D} (n : Nat), Rps H vs ds → Rps H (vs.drop n) (ds.drop n)
  | _, _, 0, r => r
  | _, _, _ + 1, .nil => .nil
  | _, _, n + 1, .cons _ t => Rps.drop n t
theorem Rps.set {H : Hp} {v : V} {d : D} (r : Rp H v d) : ∀ {vs : List V} {ds : List D} (i : Nat), Rps H vs ds → Rps H (vs.set i v) (ds.set i d)
  | _, _, _, .nil => .nil
  | _, _, 0, .cons _ t => .cons r t
  | _, _, i + 1, .cons q t => .cons q (Rps.set r i t)
theorem Rps.erase {H : Hp} : ∀ {vs : List V} {ds : List D} (i : Nat), Rps H vs ds → Rps H (vs.eraseIdx i) (ds.eraseIdx i)
  | _, _, _, .nil => .nil
  | _, _, 0, .cons _ t => t
  | _, _, i + 1, .cons q t => .cons q (Rps.erase i t)
theorem Rps.reverse {H : Hp} : ∀ {vs : List V} {ds : List D}, Rps H vs ds → Rps H vs.reverse ds.reverse
  | _, _, .nil => .nil
  | _, _, .cons r t => by
    rw [List.reverse_cons, List.reverse_cons]
    exact Rps.append (Rps.reverse t) (.cons r .nil)
theorem Rps.rep {H : Hp} {vs : List V} {ds : List D} (h : Rps H vs ds) : ∀ k : Nat, Rps H (List.replicate k vs).flatten (List.replicate k ds).flatten
  | 0 => .nil
  | k + 1 => by
    rw [List.replicate_succ, List.replicate_succ, List.flatten_cons, List.flatten_cons]
    exact Rps.append h (Rps.rep h k)
theorem Rps.ints {H : Hp} : ∀ {ns : List Int} {vs : List V}, Rps H vs (ns.map PyData.int) → vs = ns.map V.int
  | [], _, h => by cases h; rfl
  | n :: ns, _, h => by
    cases h with
    | cons a b => cases a; rw [Rps.ints b, List.map_cons]
theorem Rps.ofInts {H : Hp} : ∀ {ns : List Int}, Rps H (ns.map V.int) (ns.map PyData.int)
  | [] => .nil
  | n :: ns => .cons (.int n) Rps.ofInts
theorem Rps.filter {H : Hp} {f : V → Bool} {g : D → Bool} (hf : ∀ v d, Rp H v d → f v = g d) : ∀ {vs : List V} {ds : List D}, Rps H vs ds → Rps H (vs.filter f) (ds.filter g)
  | _, _, .nil => .nil
  | v :: vs, d :: ds, .cons r t => by
    rw [List.filter_cons, List.filter_cons, hf v d r]
    split
    · exact .cons r (Rps.filter hf t)
    · exact Rps.filter hf t

/-! ### .. whose lists all stand at places of a kind -/
mutual
inductive Rn (N : Addr → Prop) (H : Hp) : V → D → Prop
  | non : Rn N H .non .none
  | bl (b : Bool) : Rn N H (.bl b) (.bool b)
  | int (i : Int) : Rn N H (.int i) (.int i)
  | str (x : Str) : Rn N H (.str x) (.str x)
  | lst {a : Addr} {xs : List V} {ds : List D} : N a → H a = some (.lst xs) → Rns N H xs ds → Rn N H (.ref a) (.list ds)
  | tup {a : Addr} {xs : List V} {ds : List D} : H a = some (.tup xs) → Rns N H xs ds → Rn N H (.ref a) (.tuple ds)
inductive Rns (N : Addr → Prop) (H : Hp) : List V → List D → Prop
  | nil : Rns N H [] []
  | cons {v : V} {vs : List V} {d : D} {ds : List D} : Rn N H v d → Rns N H vs ds → Rns N H (v :: vs) (d :: ds)
end
mutual
theorem Rn.mono {N N' : Addr → Prop} {H H' : Hp} (e : Ex H H') (n : ∀ a, N a → N' a) : ∀ {v : V} {d : D}, Rn N H v d → Rn N' H' v d
  | _, _, .non => .non
  | _, _, .bl b => .bl b
  | _, _, .int i => .int i
  | _, _, .str x => .str x
  | _, _, .lst z h r => .lst (n _ z) (e _ _ h) (Rns.mono e n r)
  | _, _, .tup h r => .tup (e _ _ h) (Rns.mono e n r)
theorem Rns.mono {N N' : Addr → Prop} {H H' : Hp} (e : Ex H H') (n : ∀ a, N a → N' a) : ∀ {vs : List V} {ds : List D}, Rns N H vs ds → Rns N' H' vs ds
  | _, _, .nil => .nil
  | _, _, .cons a b => .cons (Rn.mono e n a) (Rns.mono e n b)
end
mutual
theorem Rn.rp {N : Addr → Prop} {H : Hp} : ∀ {v : V} {d : D}, Rn N H v d → Rp H v d
  | _, _, .non => .non
  | _, _, .bl b => .bl b
  | _, _, .int i => .int i
  | _, _, .str x => .str x
  | _, _, .lst _ h r => .lst h (Rns.rps r)
  | _, _, .tup h r => .tup h (Rns.rps r)
theorem Rns.rps {N : Addr → Prop} {H : Hp} : ∀ {vs : List V} {ds : List D}, Rns N H vs ds → Rps H vs ds
  | _, _, .nil => .nil
  | _, _, .cons a b => .cons (Rn.rp a) (Rns.rps b)
end
mutual
/-- no list in it -/
def noL : D → Bool
  | .list _ => false
  | .tuple ds => noLs ds
  | .dict _ => false
  | _ => true
def noLs : List D → Bool
  | [] => true
  | d :: ds => noL d && noLs ds
end
mutual
theorem Rp.rn {N : Addr → Prop} {H : Hp} : ∀ {v : V} {d : D}, Rp H v d → noL d = true → Rn N H v d
  | _, _, .non, _ => .non
  | _, _, .bl b, _ => .bl b
  | _, _, .int i, _ => .int i
  | _, _, .str x, _ => .str x
  | _, _, .lst _ _, z => by simp [noL] at z
  | _, _, .tup h r, z => .tup h (Rps.rns r (by simpa [noL] using z))
  | _, _, .thk _ _ _ _, z => by simp [noL] at z
theorem Rps.rns {N : Addr → Prop} {H : Hp} : ∀ {vs : List V} {ds : List D}, Rps H vs ds → noLs ds = true → Rns N H vs ds
  | _, _, .nil, _ => .nil
  | _, _, .cons a b, z => .cons (Rp.rn a (by simp [noLs] at z; exact z.1)) (Rps.rns b (by simp [noLs] at z; exact z.2))
end
theorem noLs_of : ∀ {ds : List D}, (∀ d ∈ ds, noL d = true) → noLs ds = true
  | [], _ => by simp [noLs]
  | d :: ds, h => by
    simp only [noLs, Bool.and_eq_true]
    exact ⟨h d List.mem_cons_self, noLs_of fun x hx => h x (List.mem_cons_of_mem _ hx)⟩
theorem noLs_ints (ns : List Int) : noLs (ns.map PyData.int) = true := noLs_of fun d h => by
  obtain ⟨i, _, rfl⟩ := List.mem_map.mp h
  simp [noL]
theorem noL_tints (ns : List Int) : noL (.tuple (ns.map PyData.int)) = true := by simp only [noL]; exact noLs_ints ns
theorem Rns.append {N : Addr → Prop} {H : Hp} : ∀ {vs ws : List V} {ds es : List D}, Rns N H vs ds → Rns N H ws es → Rns N H (vs ++ ws) (ds ++ es)
  | _, _, _, _, .nil, s => s
  | _, _, _, _, .cons r t, s => .cons r (Rns.append t s)

/-! ### slots -/
inductive Sl where
  | unk
  | val (d : D)
  | own (ds : List D)
  | row
  | fix (v : V)
  | new (d : D)
  | ownN (ds : List D)
  | wild (n : Nat)
  | hld (v : V) (a : Addr) (o : HO)
def Sl.mut : Sl → Bool
  | .own _ => true
  | .row => true
  | .ownN _ => true
  | .wild _ => true
  | _ => false

/-- a def's frame: B what its data lean on at the entry, H0 the heap there, r the row -/
structure Fr where
  B : Hp
  H0 : Hp
  r : Option Addr

/-- the row that a law draws from: the script, how far it is read, what is mixed, what is left of a great cell -/
structure RowIn (sc : List Int) (a b c : Int) : Prop where
  l : sc.length ≤ 63
  a0 : 0 ≤ a
  b0 : 0 ≤ b
  b1 : b < 2147483647
  c0 : 0 ≤ c
def RowAt (K : PySem.W.Frag) (G H : Hp) (p : Addr) : Prop := ∃ q sc a b c, H p = some (.lst [.ref q, .int a, .int b, .int c]) ∧ SqL K G q (sc.map V.int) ∧ RowIn sc a b c
def SlOk (K : PySem.W.Frag) (F : Fr) (G H : Hp) (o : Option (Option V)) : Sl → Prop
  | .unk => True
  | .val d => ∃ v, o = some (some v) ∧ Rp G v d
  | .own ds => ∃ p vs, o = some (some (.ref p)) ∧ G p = none ∧ H p = some (.lst vs) ∧ Rps G vs ds
  | .row => ∃ p, F.r = some p ∧ o = some (some (.ref p)) ∧ G p = none ∧ RowAt K G H p
  | .fix v => o = some (some v)
  | .new d => ∃ v, o = some (some v) ∧ Rn (fun a => F.H0 a = none) G v d
  | .ownN ds => ∃ p vs, o = some (some (.ref p)) ∧ G p = none ∧ H p = some (.lst vs) ∧ F.H0 p = none ∧ Rns (fun a => F.H0 a = none) G vs ds
  | .wild n => ∃ p us, o = some (some (.ref p)) ∧ G p = none ∧ H p = some (.lst us) ∧ F.H0 p = none ∧ us.length ≤ n
  | .hld v a u => o = some (some v) ∧ G a = some u

def MutAt (S : List Sl) (σ : L2.St) (p : Addr) (j : Nat) : Prop := (∃ sl : Sl, S[j]? = some sl ∧ sl.mut = true) ∧ σ[j]? = some (some (.ref p))
def NotMut (S : List Sl) (σ : L2.St) (p : Addr) : Prop := ∀ j, ¬ MutAt S σ p j
def Less (S' S : List Sl) : Prop := ∀ (j : Nat) (sl : Sl), S'[j]? = some sl → sl.mut = true → ∃ sl' : Sl, S[j]? = some sl' ∧ sl'.mut = true

/-- no table of code objects -/
def NT (o : HO) : Prop := ∀ ps, o ≠ .tbl ps
theorem nt_lst {xs : List V} : NT (.lst xs) := fun _ z => by cases z
/-- no object told by what is true of it -/
def NC (o : HO) : Prop := ∀ φ, o ≠ .ext φ
theorem nc_lst {xs : List V} : NC (.lst xs) := fun _ z => by cases z
theorem nc_tbl {xs : Array Value} : NC (.tbl xs) := fun _ z => by cases z
theorem nt_tup {xs : List V} : NT (.tup xs) := fun _ z => by cases z
/-- tables that were good are good -/
def TabG (H H' : Hp) : Prop := LamX.Tabs Tb.T H → LamX.Tabs Tb.T H'
theorem TabG.refl (H : Hp) : TabG H H := fun h => h
theorem TabG.trans {H H1 H2 : Hp} (a : TabG H H1) (b : TabG H1 H2) : TabG H H2 := fun h => b (a h)
theorem TabG.of {H H' : Hp} (h : ∀ a o, H a = some o → (∀ xs, o ≠ .lst xs) → H' a = some o) : TabG H H' := fun t p hp => by
  obtain ⟨ps, h1, h2, h3⟩ := t p hp
  refine ⟨ps, h p.1 _ h1 (fun xs z => by cases z), h2, fun pos cv hc => ?_⟩
  obtain ⟨c, e1, e2⟩ := h3 pos cv hc
  exact ⟨c, e1, h c _ e2 fun xs z => by unfold LamX.CodeO at z; cases z⟩
structure SV (K : PySem.W.Frag) (F : Fr) (S : List Sl) (G : Hp) (σ : L2.St) (H : Hp) : Prop where
  base : Ex F.B G
  gh : Ex G H
  keep : ∀ a o, some a ≠ F.r → F.H0 a = some o → NT o → H a = some o
  live : (∀ r, F.r = some r → ∃ o, H r = some o) ∧ (∀ a o, F.H0 a = some o → ∃ o', H a = some o') ∧ TabG F.H0 H
  new : ∀ a o, NC o → G a = some o → F.B a = some o ∨ F.H0 a = none
  slot : ∀ (i : Nat) (sl : Sl), S[i]? = some sl → SlOk K F G H σ[i]? sl
  sep : ∀ i j p, i ≠ j → MutAt S σ p i → MutAt S σ p j → False
  own0 : ∀ (i : Nat) (ds : List D) (p : Addr), S[i]? = some (.own ds) → σ[i]? = some (some (.ref p)) → F.H0 p = none
  len : S.length = σ.length
  bh : Ex F.B F.H0

theorem sqL_mono {K : PySem.W.Frag} {H H' : Hp} {a : Addr} {xs : List V} (e : Ex H H') (h : SqL K H a xs) : SqL K H' a xs := by
  rcases h with (h | ⟨o, h⟩) | h
  · exact .inl (.inl (e _ _ h))
  · exact .inl (.inr ⟨o, e _ _ h⟩)
  · exact .inr h

section
variable {K : PySem.W.Frag} {F : Fr} {S S' S1 S2 : List Sl} {G G' G1 G2 H H' H1 H2 : Hp} {σ : L2.St} {p : Addr} {o : HO}
theorem SV.mutH (sv : SV K F S G σ H) {j : Nat} (m : MutAt S σ p j) : ∃ vs, H p = some (.lst vs) ∧ G p = none := by
  obtain ⟨⟨sl, hs, hm⟩, e⟩ := m
  have k := sv.slot j sl hs
  cases sl with
  | unk => cases hm
  | val d => cases hm
  | own ds =>
    obtain ⟨q, vs, e', g, h, _⟩ := k
    rw [e] at e'; cases e'
    exact ⟨vs, h, g⟩
  | row =>
    obtain ⟨q, _, e', g, _, _, _, _, _, h, _⟩ := k
    rw [e] at e'; cases e'
    exact ⟨_, h, g⟩
  | fix v => cases hm
  | new d => cases hm
  | ownN ds =>
    obtain ⟨q, vs, e', g, h, _⟩ := k
    rw [e] at e'; cases e'
    exact ⟨vs, h, g⟩
  | wild n =>
    obtain ⟨q, vs, e', g, h, _⟩ := k
    rw [e] at e'; cases e'
    exact ⟨vs, h, g⟩
  | hld v a u => cases hm
theorem SV.rown (sv : SV K F S G σ H) {j : Nat} (m : MutAt S σ p j) : some p = F.r ∨ F.H0 p = none := by
  obtain ⟨⟨sl, hs, hm⟩, e⟩ := m
  have k := sv.slot j sl hs
  cases sl with
  | unk => cases hm
  | val d => cases hm
  | own ds => exact .inr (sv.own0 j ds p hs e)
  | row =>
    obtain ⟨q, f, e', _⟩ := k
    rw [e] at e'; cases e'
    exact .inl f.symm
  | fix v => cases hm
  | new d => cases hm
  | ownN ds =>
    obtain ⟨q, vs, e', g, h, h0, _⟩ := k
    rw [e] at e'; cases e'
    exact .inr h0
  | wild n =>
    obtain ⟨q, vs, e', g, h, h0, _⟩ := k
    rw [e] at e'; cases e'
    exact .inr h0
  | hld v a u => cases hm
theorem SV.fresh (sv : SV K F S G σ H) (hp : H p = none) : NotMut S σ p := fun j m => by
  obtain ⟨vs, h, _⟩ := sv.mutH m
  rw [h] at hp; cases hp
theorem SV.inG (sv : SV K F S G σ H) (hp : G p = some o) : NotMut S σ p := fun j m => by
  obtain ⟨vs, _, h⟩ := sv.mutH m
  rw [h] at hp; cases hp
theorem SV.h0 (sv : SV K F S G σ H) (hp : H p = none) : F.H0 p = none := by
  cases q : F.H0 p with
  | none => rfl
  | some o =>
    obtain ⟨o', h⟩ := sv.live.2.1 p o q
    rw [h] at hp; cases hp
theorem SlOk.mono {sl : Sl} {ov : Option (Option V)} (e : Ex G G') (h : SlOk K F G H ov sl) (hm : ∀ p, ov = some (some (.ref p)) → sl.mut = true → G' p = none ∧ H' p = H p) : SlOk K F G' H' ov sl := by
  cases sl with
  | unk => trivial
  | val d => obtain ⟨v, a, b⟩ := h; exact ⟨v, a, b.mono e⟩
  | own ds =>
    obtain ⟨q, vs, e', g, h, r⟩ := h
    obtain ⟨m1, m2⟩ := hm q e' rfl
    exact ⟨q, vs, e', m1, m2.trans h, r.mono e⟩
  | row =>
    obtain ⟨q, f, e', g, s, sc, a, b, c, h, r, i⟩ := h
    obtain ⟨m1, m2⟩ := hm q e' rfl
    exact ⟨q, f, e', m1, s, sc, a, b, c, m2.trans h, sqL_mono e r, i⟩
  | fix v => exact h
  | new d => obtain ⟨v, a, b⟩ := h; exact ⟨v, a, b.mono e fun _ z => z⟩
  | ownN ds =>
    obtain ⟨q, vs, e', g, h, h0, r⟩ := h
    obtain ⟨m1, m2⟩ := hm q e' rfl
    exact ⟨q, vs, e', m1, m2.trans h, h0, r.mono e fun _ z => z⟩
  | wild n =>
    obtain ⟨q, vs, e', g, h, h0, r⟩ := h
    obtain ⟨m1, m2⟩ := hm q e' rfl
    exact ⟨q, vs, e', m1, m2.trans h, h0, r⟩
  | hld v a u => exact ⟨h.1, e _ _ h.2⟩
/-- more in the ground and in the heap, at places that no slot changes; tables may be written -/
theorem SV.growT (sv : SV K F S G σ H) (e : Ex G G') (gh : Ex G' H') (eh : ∀ a o, NotMut S σ a → H a = some o → NT o → H' a = some o) (el : ∀ a o, H a = some o → ∃ o', H' a = some o') (et : TabG H H') (hm : ∀ j p, MutAt S σ p j → G' p = none ∧ H' p = H p)
    (hn : ∀ a o, NC o → G' a = some o → G a = some o ∨ F.H0 a = none) : SV K F S G' σ H' where
  base := sv.base.trans e
  gh := gh
  keep := fun a o ha h0 nt => by
    by_cases q : ∃ j, MutAt S σ a j
    · obtain ⟨j, m⟩ := q
      rw [(hm j a m).2]; exact sv.keep a o ha h0 nt
    · exact eh a o (fun j m => q ⟨j, m⟩) (sv.keep a o ha h0 nt) nt
  live := ⟨fun r hr => by
    obtain ⟨o, h⟩ := sv.live.1 r hr
    exact el r o h, fun a o h => by
    obtain ⟨o', h'⟩ := sv.live.2.1 a o h
    exact el a o' h', sv.live.2.2.trans et⟩
  new := fun a o nc h => (hn a o nc h).elim (sv.new a o nc) .inr
  slot := fun i sl h => (sv.slot i sl h).mono e fun p ho hmt => hm i p ⟨⟨sl, h, hmt⟩, ho⟩
  sep := sv.sep
  own0 := sv.own0
  len := sv.len
  bh := sv.bh
/-- more in the ground and in the heap, at places that no slot changes -/
theorem SV.grow (sv : SV K F S G σ H) (e : Ex G G') (gh : Ex G' H') (eh : ∀ a o, NotMut S σ a → H a = some o → H' a = some o) (hm : ∀ j p, MutAt S σ p j → G' p = none ∧ H' p = H p)
    (hn : ∀ a o, NC o → G' a = some o → G a = some o ∨ F.H0 a = none) : SV K F S G' σ H' :=
  sv.growT e gh (fun a o n h _ => eh a o n h) (fun a o h => by
    by_cases q : ∃ j, MutAt S σ a j
    · obtain ⟨j, m⟩ := q
      exact ⟨o, by rw [(hm j a m).2]; exact h⟩
    · exact ⟨o, eh a o (fun j m => q ⟨j, m⟩) h⟩) (TabG.of fun a o h nl => eh a o (fun j m => by
      obtain ⟨vs, h1, _⟩ := sv.mutH m
      rw [h1] at h; cases h
      exact nl _ rfl) h) hm hn
/-- a new thing, on the ground -/
theorem SV.alloc (sv : SV K F S G σ H) (hp : H p = none) : SV K F S (upd G p o) σ (upd H p o) := by
  have gp : G p = none := sv.gh.none hp
  refine sv.grow (Ex.upd gp) sv.gh.upd2 (fun a o _ h => Ex.upd hp a o h) (fun j q m => ?_) (fun a o' _ h => ?_)
  · have ne : q ≠ p := fun z => sv.fresh hp j (z ▸ m)
    obtain ⟨vs, h1, h2⟩ := sv.mutH m
    rw [upd_ne ne, upd_ne ne]; exact ⟨h2, rfl⟩
  · by_cases z : a = p
    · subst z; exact .inr (sv.h0 hp)
    · rw [upd_ne z] at h; exact .inl h
/-- a new thing, beside the ground -/
theorem SV.allocO (sv : SV K F S G σ H) (hp : H p = none) : SV K F S G σ (upd H p o) := by
  have gp : G p = none := sv.gh.none hp
  refine sv.grow (Ex.refl G) (sv.gh.mut gp) (fun a o _ h => Ex.upd hp a o h) (fun j q m => ?_) (fun a o' _ h => .inl h)
  have ne : q ≠ p := fun z => sv.fresh hp j (z ▸ m)
  obtain ⟨vs, h1, h2⟩ := sv.mutH m
  rw [upd_ne ne]; exact ⟨h2, rfl⟩
/-- a list is written: all that stood is something, tables stay good -/
theorem SV.live_upd (sv : SV K F S G σ H) {ws us : List V} (hh : H p = some (.lst ws)) : (∀ r, F.r = some r → ∃ o, upd H p (.lst us) r = some o) ∧ (∀ a o, F.H0 a = some o → ∃ o', upd H p (.lst us) a = some o') ∧ TabG F.H0 (upd H p (.lst us)) := by
  have l : ∀ a o, H a = some o → ∃ o', upd H p (.lst us) a = some o' := fun a o h => by
    by_cases z : a = p
    · subst z; exact ⟨_, upd_same⟩
    · exact ⟨o, by rw [upd_ne z]; exact h⟩
  refine ⟨fun r hr => ?_, fun a o q => ?_, sv.live.2.2.trans (TabG.of fun a o' q nl => ?_)⟩
  · obtain ⟨o', h⟩ := sv.live.1 r hr
    exact l r o' h
  · obtain ⟨o', h⟩ := sv.live.2.1 a o q
    exact l a o' h
  · rw [upd_ne (fun z => by subst z; rw [hh] at q; cases q; exact nl _ rfl)]; exact q
/-- a thing beside the ground that no slot holds is written -/
theorem SV.write (sv : SV K F S G σ H) (gp : G p = none) (hp : NotMut S σ p) (h0 : F.H0 p = none) {ws : List V} (hh : H p = some (.lst ws)) : SV K F S G σ (upd H p o) := by
  refine ⟨sv.base, sv.gh.mut gp, fun a o' ha q nt => ?_, ⟨fun r hr => ?_, fun a o' q => ?_, sv.live.2.2.trans (TabG.of fun a o' q nl => ?_)⟩, sv.new, fun i sl h => (sv.slot i sl h).mono (Ex.refl G) fun q ho hmt => ?_, sv.sep, sv.own0, sv.len, sv.bh⟩
  · rw [upd_ne (ne_of_none q h0)]; exact sv.keep a o' ha q nt
  · obtain ⟨o', h⟩ := sv.live.1 r hr
    by_cases z : r = p
    · subst z; exact ⟨o, upd_same⟩
    · exact ⟨o', by rw [upd_ne z]; exact h⟩
  · rw [upd_ne (ne_of_none q h0)]; exact sv.live.2.1 a o' q
  · rw [upd_ne (fun z => by subst z; rw [hh] at q; cases q; exact nl _ rfl)]; exact q
  · have m : MutAt S σ q i := ⟨⟨sl, h, hmt⟩, ho⟩
    have ne : q ≠ p := fun z => hp i (z ▸ m)
    rw [upd_ne ne]
    obtain ⟨vs, _, g⟩ := sv.mutH m
    exact ⟨g, rfl⟩
/-- the ground takes in what stands beside it -/
theorem SV.ground (sv : SV K F S G σ H) (gp : G p = none) (hp : NotMut S σ p) (h0 : F.H0 p = none) (hh : H p = some o) : SV K F S (upd G p o) σ H := by
  refine sv.grow (Ex.upd gp) (fun a o' h => ?_) (fun a o _ h => h) (fun j q m => ?_) (fun a o' _ h => ?_)
  · by_cases z : a = p
    · subst z; rw [upd_same] at h; cases h; exact hh
    · rw [upd_ne z] at h; exact sv.gh a o' h
  · have ne : q ≠ p := fun z => hp j (z ▸ m)
    obtain ⟨vs, _, g⟩ := sv.mutH m
    rw [upd_ne ne]; exact ⟨g, rfl⟩
  · by_cases z : a = p
    · subst z; exact .inr h0
    · rw [upd_ne z] at h; exact .inl h

/-- a step: from S, G, H to S', G', H' -/
structure Stp (K : PySem.W.Frag) (F : Fr) (σ : L2.St) (S : List Sl) (G H : Hp) (S' : List Sl) (G' H' : Hp) : Prop where
  g : Ex G G'
  kp : ∀ a o, H a = some o → NotMut S σ a → NT o → H' a = some o
  less : Less S' S
  sv : SV K F S' G' σ H'
  lv : ∀ a o, H a = some o → ∃ o', H' a = some o'
  nw : ∀ a o, NC o → G' a = some o → G a = some o ∨ H a = none
theorem Less.refl (S : List Sl) : Less S S := fun j sl h m => ⟨sl, h, m⟩
theorem Less.trans (a : Less S1 S) (b : Less S2 S1) : Less S2 S := fun j sl h m => by
  obtain ⟨s1, h1, m1⟩ := b j sl h m
  exact a j s1 h1 m1
theorem Less.not (l : Less S' S) (h : NotMut S σ p) : NotMut S' σ p := fun j m => by
  obtain ⟨⟨sl, h1, h2⟩, e⟩ := m
  obtain ⟨sl', h3, h4⟩ := l j sl h1 h2
  exact h j ⟨⟨sl', h3, h4⟩, e⟩
theorem Stp.refl (sv : SV K F S G σ H) : Stp K F σ S G H S G H := ⟨Ex.refl G, fun _ _ h _ _ => h, Less.refl S, sv, fun _ o h => ⟨o, h⟩, fun _ _ _ h => .inl h⟩
theorem Stp.trans (a : Stp K F σ S G H S1 G1 H1) (b : Stp K F σ S1 G1 H1 S2 G2 H2) : Stp K F σ S G H S2 G2 H2 :=
  ⟨a.g.trans b.g, fun x o h n nt => b.kp x o (a.kp x o h n nt) (a.less.not n) nt, a.less.trans b.less, b.sv, fun x o h => by
    obtain ⟨o', h'⟩ := a.lv x o h
    exact b.lv x o' h', fun x o nc h => by
    rcases b.nw x o nc h with h | h
    · exact a.nw x o nc h
    · right
      cases q : H x with
      | none => rfl
      | some u =>
        obtain ⟨o', h'⟩ := a.lv x u q
        rw [h'] at h; cases h⟩
theorem Stp.alloc (sv : SV K F S G σ H) (hp : H p = none) : Stp K F σ S G H S (upd G p o) (upd H p o) :=
  ⟨Ex.upd (sv.gh.none hp), fun a o' h _ _ => Ex.upd hp a o' h, Less.refl S, sv.alloc hp, fun a o' h => ⟨o', Ex.upd hp a o' h⟩, fun a o' _ h => by
    by_cases z : a = p
    · subst z; exact .inr hp
    · rw [upd_ne z] at h; exact .inl h⟩
theorem Stp.allocO (sv : SV K F S G σ H) (hp : H p = none) : Stp K F σ S G H S G (upd H p o) :=
  ⟨Ex.refl G, fun a o' h _ _ => Ex.upd hp a o' h, Less.refl S, sv.allocO hp, fun a o' h => ⟨o', Ex.upd hp a o' h⟩, fun a o' _ h => .inl h⟩
end
end FW

namespace FW
open PySem PySem.Spec PyProof.Rows L2
variable [Tb]

/-! ### judgements: what is shown of an expression in a state of slots -/
abbrev PD := D → List Sl → Prop
def rd (K : PySem.W.Frag) (F : Fr) (S : List Sl) (P : PD) : TE := fun σ H Q => ∃ G, SV K F S G σ H ∧
  ∀ d S' G' v H', P d S' → Stp K F σ S G H S' G' H' → Rp G' v d → Q v H'
/-- a new list -/
def rdO (K : PySem.W.Frag) (F : Fr) (S : List Sl) (P : List D → List Sl → Prop) : TE := fun σ H Q => ∃ G, SV K F S G σ H ∧
  ∀ ds S' G' p vs H', P ds S' → Stp K F σ S G H S' G' H' → G' p = none → H p = none → NotMut S' σ p → H' p = some (.lst vs) → Rps G' vs ds → Q (.ref p) H'
def rdT (K : PySem.W.Frag) (F : Fr) (S : List Sl) (P : Bool → List Sl → Prop) : TT := fun σ H Q => ∃ G, SV K F S G σ H ∧
  ∀ b S' G' H', P b S' → Stp K F σ S G H S' G' H' → Q b H'
def rdA (K : PySem.W.Frag) (F : Fr) (S : List Sl) (P : List D → List Sl → Prop) : TA := fun σ H Q => ∃ G, SV K F S G σ H ∧
  ∀ ds S' G' vs H', P ds S' → Stp K F σ S G H S' G' H' → Rps G' vs ds → Q vs H'
def DE (X : Cx) (F : Fr) (S : List Sl) (e : Expr) (P : PD) : Prop := PE X e (rd X.K F S P)
def DO (X : Cx) (F : Fr) (S : List Sl) (e : Expr) (P : List D → List Sl → Prop) : Prop := PE X e (rdO X.K F S P)
def DT (X : Cx) (F : Fr) (S : List Sl) (e : Expr) (P : Bool → List Sl → Prop) : Prop := PT X e (rdT X.K F S P)
def DW (X : Cx) (F : Fr) (S : List Sl) (e : Expr) (P : Bool → List Sl → Prop) : Prop := PW X e (rdT X.K F S P)
def DA (X : Cx) (F : Fr) (S : List Sl) (es : List Expr) (P : List D → List Sl → Prop) : Prop := PA X es (rdA X.K F S P)

/-- the reading that takes whatever has been shown -/
def tE (X : Cx) (F : Fr) (e : Expr) : TE := fun σ H Q => ∃ S P, DE X F S e P ∧ rd X.K F S P σ H Q
def tT (X : Cx) (F : Fr) (e : Expr) : TT := fun σ H Q => ∃ S P, DT X F S e P ∧ rdT X.K F S P σ H Q
def tW (X : Cx) (F : Fr) (e : Expr) : TT := fun σ H Q => ∃ S P, DW X F S e P ∧ rdT X.K F S P σ H Q
def tA (X : Cx) (F : Fr) (es : List Expr) : TA := fun σ H Q => ∃ S P, DA X F S es P ∧ rdA X.K F S P σ H Q
section
variable {X : Cx} {F : Fr} {S : List Sl} {e a b c : Expr} {es rest : List Expr} {P P' : PD} {pos : Pos}
theorem pe_any : PE X e (tE X F e) := ⟨fun pins s σ H Q I ⟨_, _, h, r⟩ => PE.run h pins s σ H Q I r⟩
theorem pt_any : PT X e (tT X F e) := ⟨fun pins s σ H Q I ⟨_, _, h, r⟩ => PT.run h pins s σ H Q I r⟩
theorem pw_any : PW X e (tW X F e) := ⟨fun wh pins s σ H Q I ⟨_, _, h, r⟩ => PW.run h wh pins s σ H Q I r⟩
theorem pa_any : PA X es (tA X F es) := ⟨fun p pins s σ H Q I ⟨_, _, h, r⟩ => PA.run h p pins s σ H Q I r⟩
theorem de_mk {t : TE} (h : PE X e t) (k : ∀ σ H Q, rd X.K F S P σ H Q → t σ H Q) : DE X F S e P := ⟨fun pins s σ H Q I r => h.run pins s σ H Q I (k σ H Q r)⟩
theorem do_mk {P : List D → List Sl → Prop} {t : TE} (h : PE X e t) (k : ∀ σ H Q, rdO X.K F S P σ H Q → t σ H Q) : DO X F S e P := ⟨fun pins s σ H Q I r => h.run pins s σ H Q I (k σ H Q r)⟩
theorem dt_mk {P : Bool → List Sl → Prop} {t : TT} (h : PT X e t) (k : ∀ σ H Q, rdT X.K F S P σ H Q → t σ H Q) : DT X F S e P := ⟨fun pins s σ H Q I r => h.run pins s σ H Q I (k σ H Q r)⟩
theorem dw_mk {P : Bool → List Sl → Prop} {t : TT} (h : PW X e t) (k : ∀ σ H Q, rdT X.K F S P σ H Q → t σ H Q) : DW X F S e P := ⟨fun wh pins s σ H Q I r => h.run wh pins s σ H Q I (k σ H Q r)⟩
theorem da_mk {P : List D → List Sl → Prop} {t : TA} (h : PA X es t) (k : ∀ σ H Q, rdA X.K F S P σ H Q → t σ H Q) : DA X F S es P := ⟨fun p pins s σ H Q I r => h.run p pins s σ H Q I (k σ H Q r)⟩
theorem DE.imp (h : DE X F S e P) (k : ∀ d S', P d S' → P' d S') : DE X F S e P' := de_mk h fun _ _ _ ⟨G, sv, q⟩ => ⟨G, sv, fun d S' G' v H' hp => q d S' G' v H' (k d S' hp)⟩
theorem DT.imp {P P' : Bool → List Sl → Prop} (h : DT X F S e P) (k : ∀ d S', P d S' → P' d S') : DT X F S e P' := dt_mk h fun _ _ _ ⟨G, sv, q⟩ => ⟨G, sv, fun d S' G' H' hp => q d S' G' H' (k d S' hp)⟩
theorem DO.imp {P P' : List D → List Sl → Prop} (h : DO X F S e P) (k : ∀ d S', P d S' → P' d S') : DO X F S e P' := do_mk h fun _ _ _ ⟨G, sv, q⟩ => ⟨G, sv, fun d S' G' p vs H' hp => q d S' G' p vs H' (k d S' hp)⟩

/-- a new list as a value -/
theorem de_o (h : DO X F S e (fun ds S' => P (.list ds) S')) : DE X F S e P := de_mk h fun σ H Q ⟨G, sv, q⟩ => ⟨G, sv, fun ds S' G' p vs H' hp st gp hpn nm hh r => by
  have e0 : F.H0 p = none := sv.h0 hpn
  have sv2 := st.sv.ground gp nm e0 hh
  refine q _ S' (upd G' p (.lst vs)) _ H' hp ⟨st.g.trans (Ex.upd gp), st.kp, st.less, sv2, st.lv, fun x o nc h => ?_⟩ (.lst upd_same (r.mono (Ex.upd gp)))
  by_cases z : x = p
  · subst z; exact .inr hpn
  · rw [upd_ne z] at h; exact st.nw x o nc h⟩

/-! ### names, constants -/
theorem de_v (i : Nat) {x : Str} {d : D} (hS : S[i]? = some (.val d)) (h : P d S) (hN : X.N[i]? = some x := by rfl) (hv : Vis X.env.scope x := by first | exact Or.inl rfl | exact Or.inr (Or.inl rfl) | exact Or.inr (Or.inr rfl))
    (hd : (x == ("__debug__" : Str)) = false := by decide) (hcd : (x == ("__classdict__" : Str)) = false := by decide) : DE X F S (.Name x pos) P :=
  de_mk (pe_var hN hv hd hcd) fun σ H Q ⟨G, sv, q⟩ => by
    obtain ⟨v, e, r⟩ := sv.slot i _ hS
    exact ⟨v, e, q d S G v H h (.refl sv) r⟩
theorem de_const {d : D} {v : V} (he : PE X e (tC v)) (r : ∀ G, Rp G v d) (h : P d S) : DE X F S e P := de_mk he fun σ H Q ⟨G, sv, q⟩ => q d S G v H h (.refl sv) (r G)
theorem de_int {i j} (h : P (.int i) S) : DE X F S (.Constant (.int i) j pos) P := de_const pe_int (fun _ => .int i) h
theorem de_bl {i j} (h : P (.bool i) S) : DE X F S (.Constant (.bool i) j pos) P := de_const pe_bl (fun _ => .bl i) h
theorem de_non {j} (h : P .none S) : DE X F S (.Constant .none j pos) P := de_const pe_non (fun _ => .non) h
theorem de_str {i j} (h : P (.str i) S) : DE X F S (.Constant (.str i) j pos) P := de_const pe_str (fun _ => .str i) h
theorem de_gi {x : Str} {i : Int} (hm : ∃ t, X.mg x = some (.int i t)) (h : P (.int i) S) (hg : Gl X x := by rfl) (hd : (x == ("__debug__" : Str)) = false := by decide) : DE X F S (.Name x pos) P := by
  obtain ⟨t, hm⟩ := hm
  exact de_const (pe_glob (v := .int i) hg hm ⟨t, rfl⟩ hd) (fun _ => .int i) h
theorem de_gs {x : Str} {i : Str} (hm : ∃ t, X.mg x = some (.str i t)) (h : P (.str i) S) (hg : Gl X x := by rfl) (hd : (x == ("__debug__" : Str)) = false := by decide) : DE X F S (.Name x pos) P := by
  obtain ⟨t, hm⟩ := hm
  exact de_const (pe_glob (v := .str i) hg hm ⟨t, rfl⟩ hd) (fun _ => .str i) h

/-! ### operators by values -/
def OpD (K : PySem.W.Frag) (F : Fr) (r : R2) (d1 d2 : D) (S : List Sl) (P : PD) : Prop :=
  ∀ x y G σ H Q, SV K F S G σ H → Rp G x d1 → Rp G y d2 → (∀ d S' G' v H', P d S' → Stp K F σ S G H S' G' H' → Rp G' v d → Q v H') → r x y H Q
theorem de_op {op : Operator} {r : R2} (ho : OpR X (binaryOp op) r) (h : DE X F S a (fun d1 S1 => DE X F S1 b (fun d2 S2 => OpD X.K F r d1 d2 S2 P))) : DE X F S (.BinOp a op b pos) P :=
  de_mk (pe_op ho h pe_any) fun σ H Q ⟨G, sv, k⟩ => ⟨G, sv, fun d1 S1 G1 x H1 h1 st1 r1 => ⟨S1, _, h1, G1, st1.sv, fun d2 S2 G2 y H2 h2 st2 r2 =>
    h2 x y G2 σ H2 Q st2.sv (r1.mono st2.g) r2 fun d S' G' v H' hp st r => k d S' G' v H' hp ((st1.trans st2).trans st) r⟩⟩
theorem opd_int {K : PySem.W.Frag} {g : Int → Int → Int} {i j : Int} (h : P (.int (g i j)) S) : OpD K F (rI0 fun i j => .int (g i j)) (.int i) (.int j) S P := fun x y G σ H Q sv rx ry k => by
  cases rx; cases ry
  exact ⟨i, j, rfl, rfl, k _ S G _ H h (.refl sv) (.int _)⟩
theorem opd_intC {K : PySem.W.Frag} {C : Int → Int → Prop} {g : Int → Int → Int} {i j : Int} (hc : C i j) (h : P (.int (g i j)) S) : OpD K F (rI C fun i j => .int (g i j)) (.int i) (.int j) S P := fun x y G σ H Q sv rx ry k => by
  cases rx; cases ry
  exact ⟨i, j, rfl, rfl, hc, k _ S G _ H h (.refl sv) (.int _)⟩
theorem opd_bl {K : PySem.W.Frag} {g : Int → Int → Bool} {i j : Int} (h : P (.bool (g i j)) S) : OpD K F (rI0 fun i j => .bl (g i j)) (.int i) (.int j) S P := fun x y G σ H Q sv rx ry k => by
  cases rx; cases ry
  exact ⟨i, j, rfl, rfl, k _ S G _ H h (.refl sv) (.bl _)⟩
/-- two ints -/
def I2 (d1 d2 : D) (k : Int → Int → Prop) : Prop := ∃ i j, d1 = .int i ∧ d2 = .int j ∧ k i j
theorem i2 {i j : Int} {k : Int → Int → Prop} (h : k i j) : I2 (.int i) (.int j) k := ⟨i, j, rfl, rfl, h⟩
theorem de_add (h : DE X F S a (fun d1 S1 => DE X F S1 b (fun d2 S2 => I2 d1 d2 fun i j => P (.int (i + j)) S2))) : DE X F S (.BinOp a .Add b pos) P :=
  de_op op_add (h.imp fun d1 S1 h1 => h1.imp fun d2 S2 ⟨i, j, e1, e2, h2⟩ => by subst e1; subst e2; exact opd_int h2)
theorem de_sub (h : DE X F S a (fun d1 S1 => DE X F S1 b (fun d2 S2 => I2 d1 d2 fun i j => P (.int (i - j)) S2))) : DE X F S (.BinOp a .Sub b pos) P :=
  de_op op_sub (h.imp fun d1 S1 h1 => h1.imp fun d2 S2 ⟨i, j, e1, e2, h2⟩ => by subst e1; subst e2; exact opd_int h2)
theorem de_mul (h : DE X F S a (fun d1 S1 => DE X F S1 b (fun d2 S2 => I2 d1 d2 fun i j => CMul i j ∧ P (.int (i * j)) S2))) : DE X F S (.BinOp a .Mult b pos) P :=
  de_op op_mul (h.imp fun d1 S1 h1 => h1.imp fun d2 S2 ⟨i, j, e1, e2, hc, h2⟩ => by subst e1; subst e2; exact opd_intC hc h2)
theorem de_mod (h : DE X F S a (fun d1 S1 => DE X F S1 b (fun d2 S2 => I2 d1 d2 fun i j => 0 < j ∧ P (.int (i % j)) S2))) : DE X F S (.BinOp a .Mod b pos) P :=
  de_op op_mod (h.imp fun d1 S1 h1 => h1.imp fun d2 S2 ⟨i, j, e1, e2, hc, h2⟩ => by subst e1; subst e2; exact opd_intC hc h2)
theorem de_fdiv (h : DE X F S a (fun d1 S1 => DE X F S1 b (fun d2 S2 => I2 d1 d2 fun i j => CDiv i j ∧ P (.int (i / j)) S2))) : DE X F S (.BinOp a .FloorDiv b pos) P :=
  de_op op_fdiv (h.imp fun d1 S1 h1 => h1.imp fun d2 S2 ⟨i, j, e1, e2, hc, h2⟩ => by subst e1; subst e2; exact opd_intC hc h2)
theorem de_pow (h : DE X F S a (fun d1 S1 => DE X F S1 b (fun d2 S2 => I2 d1 d2 fun i j => CPow i j ∧ P (.int (i ^ j.toNat)) S2))) : DE X F S (.BinOp a .Pow b pos) P :=
  de_op op_pow (h.imp fun d1 S1 h1 => h1.imp fun d2 S2 ⟨i, j, e1, e2, hc, h2⟩ => by subst e1; subst e2; exact opd_intC hc h2)
theorem de_neg (h : DE X F S a (fun d1 S1 => ∃ i, d1 = .int i ∧ P (.int (-i)) S1)) : DE X F S (.UnaryOp .USub a pos) P :=
  de_mk (pe_un un_neg h) fun σ H Q ⟨G, sv, k⟩ => ⟨G, sv, fun d1 S1 G1 x H1 ⟨i, e, h1⟩ st1 r1 => by
    subst e; cases r1
    exact ⟨i, rfl, k _ S1 G1 _ H1 h1 st1 (.int _)⟩⟩

/-! ### comparisons -/
theorem de_cmp {op : CmpOp} {r : R2} (ho : OpR X (compareOp op) r) (hm : behindInMarks op b = false) (h : DE X F S a (fun d1 S1 => DE X F S1 b (fun d2 S2 => OpD X.K F r d1 d2 S2 P))) : DE X F S (.Compare a [op] [b] pos) P :=
  de_mk (pe_cmpR ho h pe_any hm) fun σ H Q ⟨G, sv, k⟩ => ⟨G, sv, fun d1 S1 G1 x H1 h1 st1 r1 => ⟨S1, _, h1, G1, st1.sv, fun d2 S2 G2 y H2 h2 st2 r2 =>
    h2 x y G2 σ H2 Q st2.sv (r1.mono st2.g) r2 fun d S' G' v H' hp st r => k d S' G' v H' hp ((st1.trans st2).trans st) r⟩⟩
/-- what is True or False, as a test -/
def B1 (d : D) (k : Bool → Prop) : Prop := ∃ b, d = .bool b ∧ k b
theorem b1 {b : Bool} {k : Bool → Prop} (h : k b) : B1 (.bool b) k := ⟨b, rfl, h⟩
theorem dt_val (he : ∀ whole, isTrue e X.env whole = (do let v ← whole; standAt e.pos; holding [v] (truthy v))) {P : Bool → List Sl → Prop} (h : DE X F S e (fun d S' => B1 d fun b => P b S')) : DT X F S e P :=
  dt_mk (pt_val h he) fun σ H Q ⟨G, sv, k⟩ => ⟨G, sv, fun d S1 G1 x H1 ⟨b, e, h1⟩ st r => by
    subst e; cases r
    exact ⟨b, rfl, k b S1 G1 H1 h1 st⟩⟩
theorem dt_cmp {op : CmpOp} {r : R2} {P : Bool → List Sl → Prop} (ho : OpR X (compareOp op) r) (hm : behindInMarks op b = false) (h : DE X F S a (fun d1 S1 => DE X F S1 b (fun d2 S2 => OpD X.K F r d1 d2 S2 (fun d S3 => B1 d fun b => P b S3)))) : DT X F S (.Compare a [op] [b] pos) P :=
  dt_mk (pt_cmpR ho h pe_any hm) fun σ H Q ⟨G, sv, k⟩ => ⟨G, sv, fun d1 S1 G1 x H1 h1 st1 r1 => ⟨S1, _, h1, G1, st1.sv, fun d2 S2 G2 y H2 h2 st2 r2 =>
    h2 x y G2 σ H2 _ st2.sv (r1.mono st2.g) r2 fun d S' G' v H' ⟨b, eb, hp⟩ st r => by
      subst eb; cases r
      exact ⟨b, rfl, k b S' G' H' hp ((st1.trans st2).trans st)⟩⟩⟩
/-- the four orders of ints, by the operator -/
inductive OrdOp : CmpOp → (Int → Int → Bool) → Prop
  | lt : OrdOp .Lt fun i j => decide (i < j)
  | le : OrdOp .LtE fun i j => decide (i ≤ j)
  | gt : OrdOp .Gt fun i j => decide (j < i)
  | ge : OrdOp .GtE fun i j => decide (j ≤ i)
theorem OrdOp.op {op : CmpOp} {g : Int → Int → Bool} (o : OrdOp op g) : OpR X (compareOp op) (rI0 fun i j => .bl (g i j)) := by
  cases o
  · exact op_lt
  · exact op_le
  · exact op_gt
  · exact op_ge
theorem OrdOp.mark {op : CmpOp} {g : Int → Int → Bool} (o : OrdOp op g) (b : Expr) : behindInMarks op b = false := by
  cases o <;> exact nomark b (by decide) (by decide)
theorem de_ord {op : CmpOp} {g : Int → Int → Bool} (o : OrdOp op g) (h : DE X F S a (fun d1 S1 => DE X F S1 b (fun d2 S2 => I2 d1 d2 fun i j => P (.bool (g i j)) S2))) : DE X F S (.Compare a [op] [b] pos) P :=
  de_cmp o.op (o.mark b) (h.imp fun d1 S1 h1 => h1.imp fun d2 S2 ⟨i, j, e1, e2, h2⟩ => by subst e1; subst e2; exact opd_bl h2)
theorem dt_ord {op : CmpOp} {g : Int → Int → Bool} {P : Bool → List Sl → Prop} (o : OrdOp op g) (h : DE X F S a (fun d1 S1 => DE X F S1 b (fun d2 S2 => I2 d1 d2 fun i j => P (g i j) S2))) : DT X F S (.Compare a [op] [b] pos) P :=
  dt_cmp o.op (o.mark b) (h.imp fun d1 S1 h1 => h1.imp fun d2 S2 ⟨i, j, e1, e2, h2⟩ => by subst e1; subst e2; exact opd_bl (b1 h2))

/-- == and != of data -/
abbrev Sh (d : D) : Prop := SeqAt.shaped d = true
def E2 (d1 d2 : D) (k : Bool → Prop) : Prop := Sh d1 ∧ Sh d2 ∧ k (PyData.eqv d1 d2)
theorem opd_eq {K : PySem.W.Frag} {d1 d2 : D} (h : E2 d1 d2 fun b => P (.bool b) S) : OpD K F (rEqD K) d1 d2 S P := fun x y G σ H Q sv rx ry k =>
  ⟨d1, d2, (rx.mono sv.gh).dp (SeqAt.canLay_of_shaped h.1), (ry.mono sv.gh).dp (SeqAt.canLay_of_shaped h.2.1), h.1, h.2.1, k _ S G _ H h.2.2 (.refl sv) (.bl _)⟩
theorem opd_ne {K : PySem.W.Frag} {d1 d2 : D} (h : E2 d1 d2 fun b => P (.bool (!b)) S) : OpD K F (rNeD K) d1 d2 S P := fun x y G σ H Q sv rx ry k =>
  ⟨d1, d2, (rx.mono sv.gh).dp (SeqAt.canLay_of_shaped h.1), (ry.mono sv.gh).dp (SeqAt.canLay_of_shaped h.2.1), h.1, h.2.1, k _ S G _ H h.2.2 (.refl sv) (.bl _)⟩
theorem de_eq {k : Nat} (hr : Room k X.A) (h : DE X F S a (fun d1 S1 => DE X F S1 b (fun d2 S2 => E2 d1 d2 fun b => P (.bool b) S2))) : DE X F S (.Compare a [.Eq] [b] pos) P :=
  de_cmp (op_eqD hr.units) (nomark b) (h.imp fun d1 S1 h => h.imp fun d2 S2 h => opd_eq h)
theorem de_ne {k : Nat} (hr : Room k X.A) (h : DE X F S a (fun d1 S1 => DE X F S1 b (fun d2 S2 => E2 d1 d2 fun b => P (.bool (!b)) S2))) : DE X F S (.Compare a [.NotEq] [b] pos) P :=
  de_cmp (op_neD hr.units) (nomark b) (h.imp fun d1 S1 h => h.imp fun d2 S2 h => opd_ne h)
theorem dt_eq {k : Nat} {P : Bool → List Sl → Prop} (hr : Room k X.A) (h : DE X F S a (fun d1 S1 => DE X F S1 b (fun d2 S2 => E2 d1 d2 fun b => P b S2))) : DT X F S (.Compare a [.Eq] [b] pos) P :=
  dt_cmp (op_eqD hr.units) (nomark b) (h.imp fun d1 S1 h => h.imp fun d2 S2 h => opd_eq ⟨h.1, h.2.1, b1 h.2.2⟩)
theorem dt_ne {k : Nat} {P : Bool → List Sl → Prop} (hr : Room k X.A) (h : DE X F S a (fun d1 S1 => DE X F S1 b (fun d2 S2 => E2 d1 d2 fun b => P (!b) S2))) : DT X F S (.Compare a [.NotEq] [b] pos) P :=
  dt_cmp (op_neD hr.units) (nomark b) (h.imp fun d1 S1 h => h.imp fun d2 S2 h => opd_ne ⟨h.1, h.2.1, b1 h.2.2⟩)
/-- == and != of flat things: ints, truth values, texts (no room asked) -/
def isNone : D → Bool
  | .none => true
  | _ => false
theorem rp_non_iff {G : Hp} {x : V} {d : D} (r : Rp G x d) : decide (x = .non) = isNone d := by
  cases r <;> simp [isNone]
theorem opd_isN {K : PySem.W.Frag} {d1 : D} (h : P (.bool (isNone d1)) S) : OpD K F (fun x y H Q => y = .non ∧ Q (.bl (decide (x = .non))) H) d1 .none S P := fun x y G σ H Q sv rx ry k => by
  cases ry
  refine ⟨rfl, ?_⟩
  rw [rp_non_iff rx]
  exact k _ S G _ H h (.refl sv) (.bl _)
theorem opd_notN {K : PySem.W.Frag} {d1 : D} (h : P (.bool (!isNone d1)) S) : OpD K F (fun x y H Q => y = .non ∧ Q (.bl (!decide (x = .non))) H) d1 .none S P := fun x y G σ H Q sv rx ry k => by
  cases ry
  refine ⟨rfl, ?_⟩
  rw [rp_non_iff rx]
  exact k _ S G _ H h (.refl sv) (.bl _)
theorem de_isN {j pos'} (h : DE X F S a (fun d1 S1 => P (.bool (isNone d1)) S1)) : DE X F S (.Compare a [.Is] [.Constant .none j pos'] pos) P :=
  de_cmp op_isN (nomark _) (h.imp fun d1 S1 h => de_non (opd_isN h))
theorem dt_isN {j pos'} {P : Bool → List Sl → Prop} (h : DE X F S a (fun d1 S1 => P (isNone d1) S1)) : DT X F S (.Compare a [.Is] [.Constant .none j pos'] pos) P :=
  dt_cmp op_isN (nomark _) (h.imp fun d1 S1 h => de_non (opd_isN (b1 h)))
theorem de_notN {j pos'} (h : DE X F S a (fun d1 S1 => P (.bool (!isNone d1)) S1)) : DE X F S (.Compare a [.IsNot] [.Constant .none j pos'] pos) P :=
  de_cmp op_notN (nomark _) (h.imp fun d1 S1 h => de_non (opd_notN h))
theorem dt_notN {j pos'} {P : Bool → List Sl → Prop} (h : DE X F S a (fun d1 S1 => P (!isNone d1) S1)) : DT X F S (.Compare a [.IsNot] [.Constant .none j pos'] pos) P :=
  dt_cmp op_notN (nomark _) (h.imp fun d1 S1 h => de_non (opd_notN (b1 h)))
end
end FW

namespace FW
open PySem PySem.Spec PyProof.Rows L2
variable [Tb]

section
variable {X : Cx} {F : Fr} {S : List Sl} {e a b c d : Expr} {es rest : List Expr} {P : PD} {PT : Bool → List Sl → Prop} {pos : Pos}
/-! ### chains of comparisons of ints -/
theorem dt_ch2 {op op' : CmpOp} {g g' : Int → Int → Bool} (o : OrdOp op g) (o' : OrdOp op' g')
    (h : DE X F S a (fun d1 S1 => DE X F S1 b (fun d2 S2 => I2 d1 d2 fun i j => (g i j = false → PT false S2) ∧ (g i j = true → DE X F S2 c (fun d3 S3 => ∃ k, d3 = .int k ∧ PT (g' j k) S3)))))
    (hm : lastMarks [op, op'] [b, c] = false := by with_unfolding_all rfl) : DT X F S (.Compare a [op, op'] [b, c] pos) PT :=
  dt_mk (pt_chain o.op o'.op h pe_any pe_any hm) fun σ H Q ⟨G, sv, k⟩ => ⟨G, sv, fun d1 S1 G1 x H1 h1 st1 r1 => ⟨S1, _, h1, G1, st1.sv, fun d2 S2 G2 y H2 ⟨i, j, e1, e2, hf, ht⟩ st2 r2 => by
    subst e1; subst e2; cases r1; cases r2
    refine ⟨i, j, rfl, rfl, g i j, rfl, ?_⟩
    by_cases hg : g i j = true
    · rw [if_pos hg]
      refine ⟨S2, _, ht hg, G2, st2.sv, fun d3 S3 G3 z H3 ⟨n, e3, hp⟩ st3 r3 => ?_⟩
      subst e3; cases r3
      exact ⟨j, n, rfl, rfl, g' j n, rfl, k _ S3 G3 H3 hp ((st1.trans st2).trans st3)⟩
    · rw [if_neg hg]
      exact ⟨false, rfl, k false S2 G2 H2 (hf (by simpa using hg)) (st1.trans st2)⟩⟩⟩
theorem de_ch2 {op op' : CmpOp} {g g' : Int → Int → Bool} (o : OrdOp op g) (o' : OrdOp op' g')
    (h : DE X F S a (fun d1 S1 => DE X F S1 b (fun d2 S2 => I2 d1 d2 fun i j => (g i j = false → P (.bool false) S2) ∧ (g i j = true → DE X F S2 c (fun d3 S3 => ∃ k, d3 = .int k ∧ P (.bool (g' j k)) S3)))))
    (hm : lastMarks [op, op'] [b, c] = false := by with_unfolding_all rfl) : DE X F S (.Compare a [op, op'] [b, c] pos) P :=
  de_mk (pe_chain o.op o'.op h pe_any pe_any hm) fun σ H Q ⟨G, sv, k⟩ => ⟨G, sv, fun d1 S1 G1 x H1 h1 st1 r1 => ⟨S1, _, h1, G1, st1.sv, fun d2 S2 G2 y H2 ⟨i, j, e1, e2, hf, ht⟩ st2 r2 => by
    subst e1; subst e2; cases r1; cases r2
    refine ⟨i, j, rfl, rfl, g i j, rfl, ?_⟩
    by_cases hg : g i j = true
    · rw [if_pos hg]
      refine ⟨S2, _, ht hg, G2, st2.sv, fun d3 S3 G3 z H3 ⟨n, e3, hp⟩ st3 r3 => ?_⟩
      subst e3; cases r3
      exact ⟨j, n, rfl, rfl, k _ S3 G3 _ H3 hp ((st1.trans st2).trans st3) (.bl _)⟩
    · rw [if_neg hg]
      exact k _ S2 G2 _ H2 (hf (by simpa using hg)) (st1.trans st2) (.bl _)⟩⟩
def tChain3 (r r' r'' : R2) (ta tb tc td : TE) : TE := fun σ H Q => ta σ H fun x H1 => tb σ H1 fun y H2 => r x y H2 fun z H3 => ∃ k, z = .bl k ∧
  (if k = true then tc σ H3 fun w' H4 => r' y w' H4 fun z' H5 => ∃ k', z' = .bl k' ∧ (if k' = true then td σ H5 fun u H6 => r'' w' u H6 Q else Q (.bl false) H5) else Q (.bl false) H3)
theorem pt_chain3 {op op' op'' : CmpOp} {r r' r'' : R2} {ta tb tc td : TE} (ho : OpR X (compareOp op) r) (ho' : OpR X (compareOp op') r') (ho'' : OpR X (compareOp op'') r'') (ha : PE X a ta) (hb : PE X b tb) (hc : PE X c tc) (hd : PE X d td)
    (hm : lastMarks [op, op', op''] [b, c, d] = false := by with_unfolding_all rfl) : L2.PT X (.Compare a [op, op', op''] [b, c, d] pos) (tTest (tChain3 r r' r'' ta tb tc td)) := by
  refine ⟨fun pins s σ H Q I h => ?_⟩
  refine isTrue_chain (thn (ha.run pins s σ H _ I h) fun v s1 ⟨x, H1, I1, r1, q1⟩ => test_link (thn (hb.run pins s1 σ H1 _ I1 q1) fun u s2 ⟨y, H2, I2, r2, q2⟩ =>
    thn (ho pins s2 σ H2 x y v u _ I2 r1 r2 q2) fun d s3 ⟨z, H3, I3, r3, k, e, q3⟩ => ?_)) hm
  subst e
  cases r3
  refine wpAny_truthy_bool ?_
  cases k with
  | false =>
    obtain ⟨k', e', q'⟩ := q3
    cases e'
    exact ite_ff ⟨H3, I3, q'⟩
  | true =>
    refine ite_tt (test_link (thn (hc.run pins s3 σ H3 _ I3 q3) fun w' s4 ⟨z', H4, I4, r4, q4⟩ => thn (ho' pins s4 σ H4 y z' u w' _ I4 r2 r4 q4) fun d' s5 ⟨z2, H5, I5, r5, k2, e2, q5⟩ => ?_))
    subst e2
    cases r5
    refine wpAny_truthy_bool ?_
    cases k2 with
    | false =>
      obtain ⟨k', e', q'⟩ := q5
      cases e'
      exact ite_ff ⟨H5, I5, q'⟩
    | true =>
      refine ite_tt (test_last (thn (hd.run pins s5 σ H5 _ I5 q5) fun w6 s6 ⟨z6, H6, I6, r6, q6⟩ => thn (ho'' pins s6 σ H6 z' z6 w' w6 _ I6 r4 r6 q6) fun d7 s7 ⟨z7, H7, I7, r7, k7, e7, q7⟩ => ?_))
      subst e7
      cases r7
      exact wpAny_truthy_bool ⟨H7, I7, q7⟩
theorem dt_ch3 {op op' op'' : CmpOp} {g g' g'' : Int → Int → Bool} (o : OrdOp op g) (o' : OrdOp op' g') (o'' : OrdOp op'' g'')
    (h : DE X F S a (fun d1 S1 => DE X F S1 b (fun d2 S2 => I2 d1 d2 fun i j => (g i j = false → PT false S2) ∧ (g i j = true → DE X F S2 c (fun d3 S3 => ∃ k, d3 = .int k ∧ (g' j k = false → PT false S3) ∧ (g' j k = true → DE X F S3 d (fun d4 S4 => ∃ l, d4 = .int l ∧ PT (g'' k l) S4)))))))
    (hm : lastMarks [op, op', op''] [b, c, d] = false := by with_unfolding_all rfl) : DT X F S (.Compare a [op, op', op''] [b, c, d] pos) PT :=
  dt_mk (pt_chain3 o.op o'.op o''.op h pe_any pe_any pe_any hm) fun σ H Q ⟨G, sv, k⟩ => ⟨G, sv, fun d1 S1 G1 x H1 h1 st1 r1 => ⟨S1, _, h1, G1, st1.sv, fun d2 S2 G2 y H2 ⟨i, j, e1, e2, hf, ht⟩ st2 r2 => by
    subst e1; subst e2; cases r1; cases r2
    refine ⟨i, j, rfl, rfl, g i j, rfl, ?_⟩
    by_cases hg : g i j = true
    · rw [if_pos hg]
      refine ⟨S2, _, ht hg, G2, st2.sv, fun d3 S3 G3 z H3 ⟨n, e3, hf2, ht2⟩ st3 r3 => ?_⟩
      subst e3; cases r3
      refine ⟨j, n, rfl, rfl, g' j n, rfl, ?_⟩
      by_cases hg2 : g' j n = true
      · rw [if_pos hg2]
        refine ⟨S3, _, ht2 hg2, G3, st3.sv, fun d4 S4 G4 z4 H4 ⟨l, e4, hp⟩ st4 r4 => ?_⟩
        subst e4; cases r4
        exact ⟨n, l, rfl, rfl, g'' n l, rfl, k _ S4 G4 H4 hp (((st1.trans st2).trans st3).trans st4)⟩
      · rw [if_neg hg2]
        exact ⟨false, rfl, k false S3 G3 H3 (hf2 (by simpa using hg2)) ((st1.trans st2).trans st3)⟩
    · rw [if_neg hg]
      exact ⟨false, rfl, k false S2 G2 H2 (hf (by simpa using hg)) (st1.trans st2)⟩⟩⟩

/-! ### not, and, or -/
theorem dt_not (h : DT X F S a (fun k S' => PT (!k) S')) : DT X F S (.UnaryOp .Not a pos) PT :=
  dt_mk (pt_not h) fun σ H Q ⟨G, sv, k⟩ => ⟨G, sv, fun b S' G' H' hp st => k (!b) S' G' H' hp st⟩
theorem dt_bw (h : DW X F S e PT) : DT X F S e PT := dt_mk (PW.pt h) fun _ _ _ r => r
theorem dw_or1 (h : DT X F S a PT) : DW X F S (.BoolOp .Or [a] pos) PT := dw_mk (pw_or1 h) fun _ _ _ r => r
theorem dw_and1 (h : DT X F S a PT) : DW X F S (.BoolOp .And [a] pos) PT := dw_mk (pw_and1 h) fun _ _ _ r => r
theorem dw_or (h : DT X F S a (fun k S' => (k = true → PT true S') ∧ (k = false → DW X F S' (.BoolOp .Or (b :: rest) pos) PT))) : DW X F S (.BoolOp .Or (a :: b :: rest) pos) PT :=
  dw_mk (pw_or h pw_any) fun σ H Q ⟨G, sv, k⟩ => ⟨G, sv, fun b S' G' H' hp st => by
    cases b with
    | true => exact iteT (k true S' G' H' (hp.1 rfl) st)
    | false => exact iteF ⟨S', _, hp.2 rfl, G', st.sv, fun b2 S2 G2 H2 hp2 st2 => k b2 S2 G2 H2 hp2 (st.trans st2)⟩⟩
theorem dw_and (h : DT X F S a (fun k S' => (k = false → PT false S') ∧ (k = true → DW X F S' (.BoolOp .And (b :: rest) pos) PT))) : DW X F S (.BoolOp .And (a :: b :: rest) pos) PT :=
  dw_mk (pw_and h pw_any) fun σ H Q ⟨G, sv, k⟩ => ⟨G, sv, fun b S' G' H' hp st => by
    cases b with
    | false => exact iteF (k false S' G' H' (hp.1 rfl) st)
    | true => exact iteT ⟨S', _, hp.2 rfl, G', st.sv, fun b2 S2 G2 H2 hp2 st2 => k b2 S2 G2 H2 hp2 (st.trans st2)⟩⟩
theorem de_one {op} (h : DE X F S a P) : DE X F S (.BoolOp op [a] pos) P := de_mk (pe_one h) fun _ _ _ r => r
theorem de_or (h : DE X F S a (fun d S' => B1 d fun k => (k = true → P (.bool true) S') ∧ (k = false → DE X F S' (.BoolOp .Or (b :: rest) pos) P))) : DE X F S (.BoolOp .Or (a :: b :: rest) pos) P :=
  de_mk (pe_or h pe_any) fun σ H Q ⟨G, sv, k⟩ => ⟨G, sv, fun d S' G' v H' ⟨b, e, h1, h2⟩ st r => by
    subst e; cases r
    refine ⟨b, rfl, ?_⟩
    cases b with
    | true => exact iteT (k _ S' G' _ H' (h1 rfl) st (.bl _))
    | false => exact iteF ⟨S', _, h2 rfl, G', st.sv, fun d2 S2 G2 v2 H2 hp2 st2 r2 => k d2 S2 G2 v2 H2 hp2 (st.trans st2) r2⟩⟩
theorem de_and (h : DE X F S a (fun d S' => B1 d fun k => (k = false → P (.bool false) S') ∧ (k = true → DE X F S' (.BoolOp .And (b :: rest) pos) P))) : DE X F S (.BoolOp .And (a :: b :: rest) pos) P :=
  de_mk (pe_and h pe_any) fun σ H Q ⟨G, sv, k⟩ => ⟨G, sv, fun d S' G' v H' ⟨b, e, h1, h2⟩ st r => by
    subst e; cases r
    refine ⟨b, rfl, ?_⟩
    cases b with
    | false => exact iteF (k _ S' G' _ H' (h1 rfl) st (.bl _))
    | true => exact iteT ⟨S', _, h2 rfl, G', st.sv, fun d2 S2 G2 v2 H2 hp2 st2 r2 => k d2 S2 G2 v2 H2 hp2 (st.trans st2) r2⟩⟩
theorem de_not (h : DE X F S a (fun d S' => B1 d fun k => P (.bool (!k)) S')) : DE X F S (.UnaryOp .Not a pos) P :=
  de_mk (pe_not h) fun σ H Q ⟨G, sv, k⟩ => ⟨G, sv, fun d S' G' v H' ⟨b, e, h1⟩ st r => by
    subst e; cases r
    exact ⟨b, rfl, k _ S' G' _ H' h1 st (.bl _)⟩⟩
theorem de_if (h : DT X F S c (fun k S' => (k = true → DE X F S' a P) ∧ (k = false → DE X F S' b P))) : DE X F S (.IfExp c a b pos) P :=
  de_mk (pe_ifExp h pe_any pe_any) fun σ H Q ⟨G, sv, k⟩ => ⟨G, sv, fun t S' G' H' hp st => by
    cases t with
    | true => exact iteT ⟨S', _, hp.1 rfl, G', st.sv, fun d2 S2 G2 v2 H2 hp2 st2 r2 => k d2 S2 G2 v2 H2 hp2 (st.trans st2) r2⟩
    | false => exact iteF ⟨S', _, hp.2 rfl, G', st.sv, fun d2 S2 G2 v2 H2 hp2 st2 r2 => k d2 S2 G2 v2 H2 hp2 (st.trans st2) r2⟩⟩

/-! ### arguments, displays -/
theorem da_nil {P : List D → List Sl → Prop} (h : P [] S) : DA X F S [] P := da_mk pa_nil fun σ H Q ⟨G, sv, k⟩ => k [] S G [] H h (.refl sv) .nil
theorem da_cons {P : List D → List Sl → Prop} (h : DE X F S e (fun d S' => DA X F S' es (fun ds S2 => P (d :: ds) S2))) (hs : starEach (e :: es) X.env = (false, eval e X.env) :: starEach es X.env := by rfl) : DA X F S (e :: es) P :=
  da_mk (pa_cons h pa_any hs) fun σ H Q ⟨G, sv, k⟩ => ⟨G, sv, fun d S' G' v H' hp st r => ⟨S', _, hp, G', st.sv, fun ds S2 G2 vs H2 hp2 st2 r2 =>
    k (d :: ds) S2 G2 (v :: vs) H2 hp2 (st.trans st2) (.cons (r.mono st2.g) r2)⟩⟩
theorem de_tup {x1} (h : DA X F S es (fun ds S' => ds.length ≤ sizeLine ∧ P (.tuple ds) S')) : DE X F S (.Tuple es x1 pos) P :=
  de_mk (pe_tup h) fun σ H Q ⟨G, sv, k⟩ => ⟨G, sv, fun ds S' G' vs H' hp st r => ⟨by rw [r.length]; exact hp.1, fun p hn =>
    k _ S' _ _ _ hp.2 (st.trans (.alloc st.sv hn)) (.tup upd_same (r.mono (Ex.upd (st.sv.gh.none hn))))⟩⟩
theorem do_lst {P : List D → List Sl → Prop} (h : DA X F S es (fun ds S' => ds.length ≤ sizeLine ∧ P ds S')) : DO X F S (.List es pos) P :=
  do_mk (pe_lst h) fun σ H Q ⟨G, sv, k⟩ => ⟨G, sv, fun ds S' G' vs H' hp st r => ⟨by rw [r.length]; exact hp.1, fun p hn =>
    k _ S' _ p vs _ hp.2 (st.trans (.allocO st.sv hn)) (st.sv.gh.none hn) (by
      cases q : H p with
      | none => rfl
      | some o => obtain ⟨o', h'⟩ := st.lv p o q; rw [h'] at hn; cases hn) (st.sv.fresh hn) upd_same r⟩⟩

/-! ### items -/
theorem Rps.atI {G : Hp} {xs : List V} {ds : List D} {i : Int} {d : D} (r : Rps G xs ds) (h : atI ds i = some d) : ∃ v, L2.atI xs i = some v ∧ Rp G v d := by
  unfold L2.atI at h ⊢
  rw [r.length]
  cases q : ixN ds.length i with
  | none => rw [q] at h; cases h
  | some j =>
    rw [q] at h
    exact r.get (i := j) (d := d) h
/-- a list's or a tuple's items -/
inductive Sq : D → List D → Prop
  | l (ds : List D) : Sq (.list ds) ds
  | t (ds : List D) : Sq (.tuple ds) ds
theorem rp_sq {K : PySem.W.Frag} {G H : Hp} {v : V} {d : D} {ds : List D} (e : Ex G H) (s : Sq d ds) (r : Rp G v d) : ∃ p xs, v = .ref p ∧ (SqL K H p xs ∨ SqT K H p xs) ∧ Rps G xs ds := by
  cases s with
  | l => cases r with | lst h r => exact ⟨_, _, rfl, .inl (SqL.of (e _ _ h)), r⟩
  | t => cases r with | tup h r => exact ⟨_, _, rfl, .inr (SqT.of (e _ _ h)), r⟩
def Ix (d1 d2 : D) (k : D → Prop) : Prop := ∃ ds i d, Sq d1 ds ∧ d2 = .int i ∧ atI ds i = some d ∧ k d
theorem de_ix (h : DE X F S a (fun d1 S1 => DE X F S1 b (fun d2 S2 => Ix d1 d2 fun d => P d S2))) (hs : PlainIx b := by exact fun _ _ => rfl) : DE X F S (.Subscript a b pos) P :=
  de_mk (pe_ix ix_seq h pe_any hs) fun σ H Q ⟨G, sv, k⟩ => ⟨G, sv, fun d1 S1 G1 x H1 h1 st1 r1 => ⟨S1, _, h1, G1, st1.sv, fun d2 S2 G2 y H2 ⟨ds, i, d, sq, e2, ea, hp⟩ st2 r2 => by
    subst e2; cases r2
    obtain ⟨p, xs, rfl, hq, rs⟩ := rp_sq (K := X.K) st2.sv.gh sq (r1.mono st2.g)
    obtain ⟨v, hv, rv⟩ := rs.atI ea
    have fin := k d S2 G2 v H2 hp (st1.trans st2) rv
    rcases hq with hq | hq
    · exact .inl ⟨p, xs, i, v, rfl, rfl, hq, hv, fin⟩
    · exact .inr (.inl ⟨p, xs, i, v, rfl, rfl, hq, hv, fin⟩)⟩⟩
/-- an item of a list of one's own -/
theorem de_ixO (i : Nat) {x : Str} {p0 : Pos} (h : DE X F S b (fun d2 S2 => ∃ ds j d, S2[i]? = some (.own ds) ∧ d2 = .int j ∧ atI ds j = some d ∧ P d S2)) (hO : ∃ ds, S[i]? = some (.own ds)) (hN : X.N[i]? = some x := by rfl)
    (hv : Vis X.env.scope x := by first | exact Or.inl rfl | exact Or.inr (Or.inl rfl) | exact Or.inr (Or.inr rfl)) (hs : PlainIx b := by exact fun _ _ => rfl)
    (hd : (x == ("__debug__" : Str)) = false := by decide) (hcd : (x == ("__classdict__" : Str)) = false := by decide) : DE X F S (.Subscript (.Name x p0) b pos) P :=
  de_mk (pe_ix ix_list (pe_var hN hv hd hcd) h hs) fun σ H Q ⟨G, sv, k⟩ => by
    obtain ⟨ds0, h0⟩ := hO
    obtain ⟨p, vs, ep, gp, hp, rs⟩ := sv.slot i _ h0
    refine ⟨.ref p, ep, G, sv, fun d2 S2 G2 y H2 ⟨ds, j, d, h2, e2, ea, hP⟩ st2 r2 => ?_⟩
    subst e2; cases r2
    obtain ⟨p', vs', ep', gp', hp', rs'⟩ := st2.sv.slot i _ h2
    rw [ep] at ep'; cases ep'
    obtain ⟨v, hv, rv⟩ := rs'.atI ea
    exact ⟨p, vs', j, v, rfl, rfl, SqL.of hp', hv, k d S2 G2 v H2 hP st2 rv⟩

/-! ### slices -/
def cutD (ds : List D) (lo hi : Option Int) : List D := (ds.drop (HT.sIx ds.length 0 lo)).take (HT.sIx ds.length ds.length hi - HT.sIx ds.length 0 lo)
theorem Rps.cut {G : Hp} {xs : List V} {ds : List D} (r : Rps G xs ds) (lo hi : Option Int) : Rps G (cutV xs lo hi) (cutD ds lo hi) := by
  unfold cutV cutD
  rw [r.length]
  exact (r.drop _).take _
theorem cutD_whole {ds : List D} {lo hi : Option Int} (h : HT.sIx ds.length 0 lo = 0 ∧ HT.sIx ds.length ds.length hi = ds.length) : cutD ds lo hi = ds := by
  unfold cutD
  rw [h.1, h.2]
  exact List.take_length
def rdP (K : PySem.W.Frag) (F : Fr) (S : List Sl) (P : Option Int → List Sl → Prop) : TO := fun σ H Q => ∃ G, SV K F S G σ H ∧
  ∀ o S' G' H', P o S' → Stp K F σ S G H S' G' H' → Q o H'
def DP (X : Cx) (F : Fr) (S : List Sl) (o : Option Expr) (P : Option Int → List Sl → Prop) : Prop := PO X o (rdP X.K F S P)
def tP (X : Cx) (F : Fr) (o : Option Expr) : TO := fun σ H Q => ∃ S P, DP X F S o P ∧ rdP X.K F S P σ H Q
theorem po_any {o : Option Expr} : PO X o (tP X F o) := ⟨fun pins s σ H Q I ⟨_, _, h, r⟩ => PO.run h pins s σ H Q I r⟩
theorem dp_none {P : Option Int → List Sl → Prop} (h : P none S) : DP X F S none P := ⟨fun pins s σ H Q I ⟨G, sv, k⟩ => po_none.run pins s σ H Q I (k none S G H h (.refl sv))⟩
theorem dp_some {P : Option Int → List Sl → Prop} (h : DE X F S e (fun d S' => ∃ i, d = .int i ∧ P (some i) S')) : DP X F S (some e) P := ⟨fun pins s σ H Q I ⟨G, sv, k⟩ =>
  (po_some h).run pins s σ H Q I ⟨G, sv, fun d S' G' v H' ⟨i, e, hp⟩ st r => by subst e; cases r; exact ⟨i, rfl, k (some i) S' G' H' hp st⟩⟩⟩
theorem de_slT {lo hi : Option Expr} {p2 : Pos} (h : DE X F S a (fun d S1 => ∃ ds, d = .tuple ds ∧ DP X F S1 lo (fun l S2 => DP X F S2 hi (fun u S3 => P (.tuple (cutD ds l u)) S3)))) : DE X F S (.Subscript a (.Slice lo hi none p2) pos) P :=
  de_mk (pe_slice sl_tupA h po_any po_any) fun σ H Q ⟨G, sv, k⟩ => ⟨G, sv, fun d S1 G1 x H1 ⟨ds, e, h1⟩ st1 r1 => ⟨S1, _, h1, G1, st1.sv, fun l S2 G2 H2 h2 st2 => ⟨S2, _, h2, G2, st2.sv, fun u S3 G3 H3 h3 st3 => by
    subst e
    cases r1 with
    | tup ht rs =>
      have ht3 := st3.sv.gh _ _ (st3.g _ _ (st2.g _ _ ht))
      refine ⟨_, _, rfl, SqT.of ht3, fun hw => ?_, fun hw p hn => ?_⟩
      · rw [rs.length] at hw
        have h3' : P (.tuple (cutD ds l u)) S3 := h3
        rw [cutD_whole hw] at h3'
        exact k _ S3 G3 _ H3 h3' ((st1.trans st2).trans st3) (.tup (st3.g _ _ (st2.g _ _ ht)) ((rs.mono st2.g).mono st3.g))
      · exact k _ S3 _ _ _ h3 (((st1.trans st2).trans st3).trans (.alloc st3.sv hn)) (.tup upd_same ((((rs.mono st2.g).mono st3.g).cut l u).mono (Ex.upd (st3.sv.gh.none hn))))⟩⟩⟩
theorem do_slL {P : List D → List Sl → Prop} {lo hi : Option Expr} {p2 : Pos} (h : DE X F S a (fun d S1 => ∃ ds, d = .list ds ∧ DP X F S1 lo (fun l S2 => DP X F S2 hi (fun u S3 => P (cutD ds l u) S3)))) : DO X F S (.Subscript a (.Slice lo hi none p2) pos) P :=
  do_mk (pe_slice sl_list h po_any po_any) fun σ H Q ⟨G, sv, k⟩ => ⟨G, sv, fun d S1 G1 x H1 ⟨ds, e, h1⟩ st1 r1 => ⟨S1, _, h1, G1, st1.sv, fun l S2 G2 H2 h2 st2 => ⟨S2, _, h2, G2, st2.sv, fun u S3 G3 H3 h3 st3 => by
    subst e
    cases r1 with
    | lst ht rs =>
      have ht3 := st3.sv.gh _ _ (st3.g _ _ (st2.g _ _ ht))
      refine ⟨_, _, rfl, SqL.of ht3, fun p hn => ?_⟩
      have st := (st1.trans st2).trans st3
      exact k _ S3 _ p _ _ h3 (st.trans (.allocO st3.sv hn)) (st3.sv.gh.none hn) (by
        cases q : H p with
        | none => rfl
        | some o => obtain ⟨o', h'⟩ := st.lv p o q; rw [h'] at hn; cases hn) (st3.sv.fresh hn) upd_same (((rs.mono st2.g).mono st3.g).cut l u)⟩⟩⟩

/-! ### built-in functions and types -/
def CallD (K : PySem.W.Frag) (F : Fr) (r : List V → Hp → VK → Prop) (ds : List D) (S : List Sl) (P : PD) : Prop :=
  ∀ vs G σ H Q, SV K F S G σ H → Rps G vs ds → (∀ d S' G' v H', P d S' → Stp K F σ S G H S' G' H' → Rp G' v d → Q v H') → r vs H Q
def CallO (K : PySem.W.Frag) (F : Fr) (r : List V → Hp → VK → Prop) (ds : List D) (S : List Sl) (P : List D → List Sl → Prop) : Prop :=
  ∀ vs G σ H Q, SV K F S G σ H → Rps G vs ds → (∀ ds' S' G' p vs' H', P ds' S' → Stp K F σ S G H S' G' H' → G' p = none → H p = none → NotMut S' σ p → H' p = some (.lst vs') → Rps G' vs' ds' → Q (.ref p) H') → r vs H Q
variable {x : Str} {p : Pos} {id T : String} {r : List V → Hp → VK → Prop}
theorem Stp.fresh {K : PySem.W.Frag} {F : Fr} {σ : L2.St} {S S' : List Sl} {G H G' H' : Hp} {p : Addr} (st : Stp K F σ S G H S' G' H') (h : H' p = none) : H p = none := by
  cases q : H p with
  | none => rfl
  | some o => obtain ⟨o', h'⟩ := st.lv p o q; rw [h'] at h; cases h
theorem de_callB (hc : CallR X (.builtin id) r) (hm : X.mg x = none) (hv : bootBuiltins x = some (.builtin id)) (h : DA X F S (e :: es) (fun ds S' => CallD X.K F r ds S' P)) (hg : Gl X x := by rfl) (hn : x ≠ "__name__" := by decide) (hdb : (x == ("__debug__" : Str)) = false := by decide)
    (he : starEach (e :: es) X.env = (false, eval e X.env) :: starEach es X.env := by rfl) (hpl : (backTo pos (starEach es X.env)).any (·.1) = false := by rfl) : DE X F S (.Call (.Name x p) (e :: es) [] pos) P :=
  de_mk (pe_callB hc hg hm hv h hn hdb he hpl) fun σ H Q ⟨G, sv, k⟩ => ⟨G, sv, fun ds S' G' vs H' hp st rs => hp vs G' σ H' Q st.sv rs fun d S2 G2 v H2 hp2 st2 r2 => k d S2 G2 v H2 hp2 (st.trans st2) r2⟩
theorem de_callT (hc : CallR X (.type T) r) (hm : X.mg x = none) (hv : bootBuiltins x = some (.type T)) (h : DA X F S (e :: es) (fun ds S' => CallD X.K F r ds S' P)) (hg : Gl X x := by rfl) (hn : x ≠ "__name__" := by decide) (hdb : (x == ("__debug__" : Str)) = false := by decide)
    (he : starEach (e :: es) X.env = (false, eval e X.env) :: starEach es X.env := by rfl) (hpl : (backTo pos (starEach es X.env)).any (·.1) = false := by rfl) : DE X F S (.Call (.Name x p) (e :: es) [] pos) P :=
  de_mk (pe_callTy hc hg hm hv h hn hdb he hpl) fun σ H Q ⟨G, sv, k⟩ => ⟨G, sv, fun ds S' G' vs H' hp st rs => hp vs G' σ H' Q st.sv rs fun d S2 G2 v H2 hp2 st2 r2 => k d S2 G2 v H2 hp2 (st.trans st2) r2⟩
theorem do_callB {P : List D → List Sl → Prop} (hc : CallR X (.builtin id) r) (hm : X.mg x = none) (hv : bootBuiltins x = some (.builtin id)) (h : DA X F S (e :: es) (fun ds S' => CallO X.K F r ds S' P)) (hg : Gl X x := by rfl) (hn : x ≠ "__name__" := by decide) (hdb : (x == ("__debug__" : Str)) = false := by decide)
    (he : starEach (e :: es) X.env = (false, eval e X.env) :: starEach es X.env := by rfl) (hpl : (backTo pos (starEach es X.env)).any (·.1) = false := by rfl) : DO X F S (.Call (.Name x p) (e :: es) [] pos) P :=
  do_mk (pe_callB hc hg hm hv h hn hdb he hpl) fun σ H Q ⟨G, sv, k⟩ => ⟨G, sv, fun ds S' G' vs H' hp st rs => hp vs G' σ H' Q st.sv rs fun d S2 G2 q vs2 H2 hp2 st2 g2 h2 n2 l2 r2 => k d S2 G2 q vs2 H2 hp2 (st.trans st2) g2 (st.fresh h2) n2 l2 r2⟩
theorem do_callT {P : List D → List Sl → Prop} (hc : CallR X (.type T) r) (hm : X.mg x = none) (hv : bootBuiltins x = some (.type T)) (h : DA X F S (e :: es) (fun ds S' => CallO X.K F r ds S' P)) (hg : Gl X x := by rfl) (hn : x ≠ "__name__" := by decide) (hdb : (x == ("__debug__" : Str)) = false := by decide)
    (he : starEach (e :: es) X.env = (false, eval e X.env) :: starEach es X.env := by rfl) (hpl : (backTo pos (starEach es X.env)).any (·.1) = false := by rfl) : DO X F S (.Call (.Name x p) (e :: es) [] pos) P :=
  do_mk (pe_callTy hc hg hm hv h hn hdb he hpl) fun σ H Q ⟨G, sv, k⟩ => ⟨G, sv, fun ds S' G' vs H' hp st rs => hp vs G' σ H' Q st.sv rs fun d S2 G2 q vs2 H2 hp2 st2 g2 h2 n2 l2 r2 => k d S2 G2 q vs2 H2 hp2 (st.trans st2) g2 (st.fresh h2) n2 l2 r2⟩
end
end FW

namespace FW
open PySem PySem.Spec PyProof.Rows L2
variable [Tb]

/-! ### states: stores, weaker states -/
section
variable {K : PySem.W.Frag} {F : Fr} {S S' S1 S2 : List Sl} {G G' G1 G2 H H' H1 H2 : Hp} {σ σ' : L2.St} {p : Addr} {o : HO}
theorem mutAt_set {i j : Nat} {sl : Sl} {x : Option V} {q : Addr} (h : MutAt (S.set i sl) (σ.set i x) q j) (hij : i ≠ j) : MutAt S σ q j := by
  obtain ⟨⟨t, h1, h2⟩, e⟩ := h
  rw [List.getElem?_set_ne hij] at h1 e
  exact ⟨⟨t, h1, h2⟩, e⟩
theorem SV.setV {i : Nat} {v : V} {d : D} (sv : SV K F S G σ H) (r : Rp G v d) : SV K F (S.set i (.val d)) G (σ.set i (some v)) H where
  base := sv.base
  gh := sv.gh
  keep := sv.keep
  live := sv.live
  new := sv.new
  slot := fun j sl h => by
    by_cases e : i = j
    · subst e
      have hl : i < S.length := by
        have := (List.getElem?_eq_some_iff.mp h).1
        rwa [List.length_set] at this
      rw [List.getElem?_set_self hl] at h; cases h
      have hl2 : i < σ.length := by rw [← sv.len]; exact hl
      exact ⟨v, by rw [List.getElem?_set_self hl2], r⟩
    · rw [List.getElem?_set_ne e] at h ⊢
      exact sv.slot j sl h
  sep := fun a b q ne ha hb => by
    have hna : i ≠ a := fun e => by
      subst e
      obtain ⟨⟨t, h1, h2⟩, _⟩ := ha
      have hl := (List.getElem?_eq_some_iff.mp h1).1
      rw [List.length_set] at hl
      rw [List.getElem?_set_self hl] at h1; cases h1; cases h2
    have hnb : i ≠ b := fun e => by
      subst e
      obtain ⟨⟨t, h1, h2⟩, _⟩ := hb
      have hl := (List.getElem?_eq_some_iff.mp h1).1
      rw [List.length_set] at hl
      rw [List.getElem?_set_self hl] at h1; cases h1; cases h2
    exact sv.sep a b q ne (mutAt_set ha hna) (mutAt_set hb hnb)
  own0 := fun a es q h1 h2 => by
    by_cases e : i = a
    · subst e
      have hl := (List.getElem?_eq_some_iff.mp h1).1
      rw [List.length_set] at hl
      rw [List.getElem?_set_self hl] at h1; cases h1
    · rw [List.getElem?_set_ne e] at h1 h2
      exact sv.own0 a es q h1 h2
  len := by rw [List.length_set, List.length_set]; exact sv.len
  bh := sv.bh
theorem SV.setO {i : Nat} {vs : List V} {ds : List D} (sv : SV K F S G σ H) (gp : G p = none) (nm : NotMut S σ p) (h0 : F.H0 p = none) (hp : H p = some (.lst vs)) (r : Rps G vs ds) : SV K F (S.set i (.own ds)) G (σ.set i (some (.ref p))) H where
  base := sv.base
  gh := sv.gh
  keep := sv.keep
  live := sv.live
  new := sv.new
  slot := fun j sl h => by
    by_cases e : i = j
    · subst e
      have hl : i < S.length := by
        have := (List.getElem?_eq_some_iff.mp h).1
        rwa [List.length_set] at this
      rw [List.getElem?_set_self hl] at h; cases h
      have hl2 : i < σ.length := by rw [← sv.len]; exact hl
      exact ⟨p, vs, by rw [List.getElem?_set_self hl2], gp, hp, r⟩
    · rw [List.getElem?_set_ne e] at h ⊢
      exact sv.slot j sl h
  sep := fun a b q ne ha hb => by
    have key : ∀ c, i ≠ c → MutAt (S.set i (.own ds)) (σ.set i (some (.ref p))) q c → MutAt (S.set i (.own ds)) (σ.set i (some (.ref p))) q i → False := fun c hc m m' => by
      have m1 := mutAt_set m hc
      obtain ⟨⟨t, h1, h2⟩, e⟩ := m'
      have hl := (List.getElem?_eq_some_iff.mp e).1
      rw [List.length_set] at hl
      rw [List.getElem?_set_self hl] at e; cases e
      exact nm c m1
    by_cases ea : i = a
    · subst ea; exact key b ne hb ha
    · by_cases eb : i = b
      · subst eb; exact key a ea ha hb
      · exact sv.sep a b q ne (mutAt_set ha ea) (mutAt_set hb eb)
  own0 := fun a es q h1 h2 => by
    by_cases ea : i = a
    · subst ea
      have hl := (List.getElem?_eq_some_iff.mp h2).1
      rw [List.length_set] at hl
      rw [List.getElem?_set_self hl] at h2; cases h2
      exact h0
    · rw [List.getElem?_set_ne ea] at h1 h2
      exact sv.own0 a es q h1 h2
  len := by rw [List.length_set, List.length_set]; exact sv.len
  bh := sv.bh
/-- a list of one's own is written -/
theorem SV.wOwn {i : Nat} {vs' : List V} {ds ds' : List D} (sv : SV K F S G σ H) (hs : S[i]? = some (.own ds)) (he : σ[i]? = some (some (.ref p))) (r : Rps G vs' ds') : SV K F (S.set i (.own ds')) G σ (upd H p (.lst vs')) := by
  have m : MutAt S σ p i := ⟨⟨_, hs, rfl⟩, he⟩
  obtain ⟨ws, hp, gp⟩ := sv.mutH m
  have hl := (List.getElem?_eq_some_iff.mp hs).1
  have back : ∀ {a q}, MutAt (S.set i (.own ds')) σ q a → MutAt S σ q a := fun {a q} ha => by
    obtain ⟨⟨t, h1, h2⟩, e⟩ := ha
    by_cases z : i = a
    · subst z; exact ⟨⟨_, hs, rfl⟩, e⟩
    · rw [List.getElem?_set_ne z] at h1; exact ⟨⟨t, h1, h2⟩, e⟩
  refine ⟨sv.base, sv.gh.mut gp, fun a o ha q nt => ?_, sv.live_upd hp, sv.new, fun j sl h => ?_, fun a b q ne ha hb => sv.sep a b q ne (back ha) (back hb), fun a es q h1 h2 => ?_, by rw [List.length_set]; exact sv.len, sv.bh⟩
  · by_cases z : a = p
    · subst z
      rw [sv.own0 i ds a hs he] at q; cases q
    · rw [upd_ne z]; exact sv.keep a o ha q nt
  · by_cases z : i = j
    · subst z
      rw [List.getElem?_set_self hl] at h; cases h
      exact ⟨p, vs', he, gp, upd_same, r⟩
    · rw [List.getElem?_set_ne z] at h
      refine (sv.slot j sl h).mono (Ex.refl G) fun q hq hm => ?_
      have mj : MutAt S σ q j := ⟨⟨sl, h, hm⟩, hq⟩
      obtain ⟨_, _, gq⟩ := sv.mutH mj
      have ne : q ≠ p := fun e => sv.sep i j p z m (e ▸ mj)
      exact ⟨gq, upd_ne ne⟩
  · by_cases z : i = a
    · subst z; exact sv.own0 i ds q hs h2
    · rw [List.getElem?_set_ne z] at h1; exact sv.own0 a es q h1 h2
/-- an own list taken for good: a value from now on -/
theorem SV.freeze {i : Nat} {ds : List D} (sv : SV K F S G σ H) (hs : S[i]? = some (.own ds)) : ∃ G', Ex G G' ∧ SV K F (S.set i (.val (.list ds))) G' σ H := by
  obtain ⟨p, vs, he, gp, hp, rs⟩ := sv.slot i _ hs
  have m : MutAt S σ p i := ⟨⟨_, hs, rfl⟩, he⟩
  have hl := (List.getElem?_eq_some_iff.mp hs).1
  refine ⟨upd G p (.lst vs), Ex.upd gp, ?_⟩
  have sub : ∀ {a q}, MutAt (S.set i (.val (.list ds))) σ q a → MutAt S σ q a ∧ i ≠ a := fun {a q} ha => by
    obtain ⟨⟨t, h1, h2⟩, e⟩ := ha
    by_cases z : i = a
    · subst z; rw [List.getElem?_set_self hl] at h1; cases h1; cases h2
    · rw [List.getElem?_set_ne z] at h1; exact ⟨⟨⟨t, h1, h2⟩, e⟩, z⟩
  refine ⟨sv.base.trans (Ex.upd gp), fun a o h => ?_, sv.keep, sv.live, fun a o nc h => ?_, fun j sl h => ?_, fun a b q ne ha hb => sv.sep a b q ne (sub ha).1 (sub hb).1, fun a es q h1 h2 => ?_, by rw [List.length_set]; exact sv.len, sv.bh⟩
  · by_cases z : a = p
    · subst z; rw [upd_same] at h; cases h; exact hp
    · rw [upd_ne z] at h; exact sv.gh a o h
  · by_cases z : a = p
    · subst z
      exact .inr (sv.own0 i ds a hs he)
    · rw [upd_ne z] at h; exact sv.new a o nc h
  · by_cases z : i = j
    · subst z
      rw [List.getElem?_set_self hl] at h; cases h
      exact ⟨.ref p, he, .lst upd_same (rs.mono (Ex.upd gp))⟩
    · rw [List.getElem?_set_ne z] at h
      refine (sv.slot j sl h).mono (Ex.upd gp) fun q hq hm => ?_
      have mj : MutAt S σ q j := ⟨⟨sl, h, hm⟩, hq⟩
      obtain ⟨_, _, gq⟩ := sv.mutH mj
      have ne : q ≠ p := fun e => sv.sep i j p z m (e ▸ mj)
      exact ⟨by rw [upd_ne ne]; exact gq, rfl⟩
  · by_cases z : i = a
    · subst z
      rw [List.getElem?_set_self hl] at h1; cases h1
    · rw [List.getElem?_set_ne z] at h1; exact sv.own0 a es q h1 h2
end
end FW

namespace FW
open PySem PySem.Spec PyProof.Rows L2
variable [Tb]

/-! ### weaker states -/
inductive Wk : List Sl → List Sl → Prop
  | nil : Wk [] []
  | same {s : Sl} {a b : List Sl} : Wk a b → Wk (s :: a) (s :: b)
  | unk {s : Sl} {a b : List Sl} : Wk a b → Wk (s :: a) (.unk :: b)
theorem Wk.refl : ∀ S : List Sl, Wk S S
  | [] => .nil
  | _ :: S => .same (Wk.refl S)
theorem Wk.len {S S' : List Sl} (w : Wk S S') : S'.length = S.length := by
  induction w with
  | nil => rfl
  | same _ ih => rw [List.length_cons, List.length_cons, ih]
  | unk _ ih => rw [List.length_cons, List.length_cons, ih]
theorem Wk.at {S S' : List Sl} (w : Wk S S') : ∀ (i : Nat) (sl : Sl), S'[i]? = some sl → S[i]? = some sl ∨ sl = .unk := by
  induction w with
  | nil => intro i sl h; simp at h
  | same _ ih =>
    intro i sl h
    cases i with
    | zero => simp at h; subst h; exact .inl rfl
    | succ i => exact ih i sl (by simpa using h)
  | unk _ ih =>
    intro i sl h
    cases i with
    | zero => simp at h; exact .inr h.symm
    | succ i => exact ih i sl (by simpa using h)
theorem SV.weak {K : PySem.W.Frag} {F : Fr} {S S' : List Sl} {G H : Hp} {σ : L2.St} (sv : SV K F S G σ H) (w : Wk S S') : SV K F S' G σ H := by
  have back : ∀ {p j}, MutAt S' σ p j → MutAt S σ p j := fun {p j} ⟨⟨t, h1, h2⟩, e⟩ => by
    rcases w.at j t h1 with h | h
    · exact ⟨⟨t, h, h2⟩, e⟩
    · subst h; cases h2
  refine ⟨sv.base, sv.gh, sv.keep, sv.live, sv.new, fun i sl h => ?_, fun i j p ne a b => sv.sep i j p ne (back a) (back b), fun i ds p h e => ?_, by rw [w.len]; exact sv.len, sv.bh⟩
  · rcases w.at i sl h with h | h
    · exact sv.slot i sl h
    · subst h; trivial
  · rcases w.at i _ h with h | h
    · exact sv.own0 i ds p h e
    · cases h

/-! ### statements -/
structure Post where
  nx : List Sl → Prop
  rt : D → List Sl → Prop
  ro : List D → List Sl → Prop
  bk : List Sl → Prop
  ct : List Sl → Prop
  rn : D → List Sl → Prop
/-- what is wanted behind -/
structure Ends' (K : PySem.W.Frag) (F : Fr) (P : Post) (D : Ends) (G : Hp) : Prop where
  nx : ∀ S' G' σ' H', P.nx S' → Ex G G' → SV K F S' G' σ' H' → D.nx σ' H'
  rt : ∀ d S' G' σ' v H', P.rt d S' → Ex G G' → SV K F S' G' σ' H' → Rp G' v d → D.rt v H'
  ro : ∀ ds S' G' σ' p vs H', P.ro ds S' → Ex G G' → SV K F S' G' σ' H' → G' p = none → F.H0 p = none → H' p = some (.lst vs) → Rps G' vs ds → D.rt (.ref p) H'
  bk : ∀ S' G' σ' H', P.bk S' → Ex G G' → SV K F S' G' σ' H' → D.bk σ' H'
  ct : ∀ S' G' σ' H', P.ct S' → Ex G G' → SV K F S' G' σ' H' → D.ct σ' H'
  rn : ∀ d S' G' σ' v H', P.rn d S' → Ex G G' → SV K F S' G' σ' H' → Rn (fun a => F.H0 a = none) G' v d → D.rt v H'
def rdS (K : PySem.W.Frag) (F : Fr) (S : List Sl) (P : Post) : TS := fun D σ H => ∃ G, SV K F S G σ H ∧ Ends' K F P D G
def DS (X : Cx) (F : Fr) (S : List Sl) (st : Stmt) (P : Post) : Prop := PS X st (rdS X.K F S P)
def DB (X : Cx) (F : Fr) (S : List Sl) (sts : List Stmt) (P : Post) : Prop := PSs X sts (rdS X.K F S P)
def tS (X : Cx) (F : Fr) (st : Stmt) : TS := fun D σ H => ∃ S P, DS X F S st P ∧ rdS X.K F S P D σ H
def tSs (X : Cx) (F : Fr) (sts : List Stmt) : TS := fun D σ H => ∃ S P, DB X F S sts P ∧ rdS X.K F S P D σ H
/-- the same post with another word for what comes next -/
abbrev Post.next (P : Post) (k : List Sl → Prop) : Post := { P with nx := k }
section
variable {X : Cx} {F : Fr} {S S' : List Sl} {st : Stmt} {rest body orelse : List Stmt} {P P' : Post} {e a b c : Expr} {pos : Pos}
theorem Ends'.mono {K : PySem.W.Frag} {D : Ends} {G G' : Hp} (h : Ends' K F P D G) (e : Ex G G') : Ends' K F P D G' :=
  ⟨fun S1 G1 σ1 H1 hp ex => h.nx S1 G1 σ1 H1 hp (e.trans ex), fun d S1 G1 σ1 v H1 hp ex => h.rt d S1 G1 σ1 v H1 hp (e.trans ex), fun ds S1 G1 σ1 p vs H1 hp ex => h.ro ds S1 G1 σ1 p vs H1 hp (e.trans ex),
   fun S1 G1 σ1 H1 hp ex => h.bk S1 G1 σ1 H1 hp (e.trans ex), fun S1 G1 σ1 H1 hp ex => h.ct S1 G1 σ1 H1 hp (e.trans ex), fun d S1 G1 σ1 v H1 hp ex => h.rn d S1 G1 σ1 v H1 hp (e.trans ex)⟩
theorem pss_any : PSs X rest (tSs X F rest) := ⟨fun pins s σ H D I ⟨_, _, h, r⟩ => PSs.run h pins s σ H D I r⟩
theorem ps_any : PS X st (tS X F st) := ⟨fun pins s σ H D I ⟨_, _, h, r⟩ => PS.run h pins s σ H D I r⟩
theorem ds_mk {t : TS} (h : PS X st t) (k : ∀ D σ H, rdS X.K F S P D σ H → t D σ H) : DS X F S st P := ⟨fun pins s σ H D I r => h.run pins s σ H D I (k D σ H r)⟩
theorem db_mk {t : TS} (h : PSs X rest t) (k : ∀ D σ H, rdS X.K F S P D σ H → t D σ H) : DB X F S rest P := ⟨fun pins s σ H D I r => h.run pins s σ H D I (k D σ H r)⟩
/-- weaker: the state ahead, what is wanted -/
theorem db_weak (w : Wk S S') (h : DB X F S' rest P) : DB X F S rest P := db_mk h fun D σ H ⟨G, sv, k⟩ => ⟨G, sv.weak w, k⟩
theorem ds_weak (w : Wk S S') (h : DS X F S' st P) : DS X F S st P := ds_mk h fun D σ H ⟨G, sv, k⟩ => ⟨G, sv.weak w, k⟩
theorem db_freeze (i : Nat) {ds : List FW.D} (hs : S[i]? = some (.own ds)) (h : DB X F (S.set i (.val (.list ds))) rest P) : DB X F S rest P := db_mk h fun D σ H ⟨G, sv, k⟩ => by
  obtain ⟨G', e, sv'⟩ := sv.freeze hs
  exact ⟨G', sv', k.mono e⟩
theorem db_nil (h : P.nx S) : DB X F S [] P := db_mk pss_nil fun D σ H ⟨G, sv, k⟩ => k.nx S G σ H h (Ex.refl G) sv
theorem db_end (w : Wk S S') (h : P.nx S') : DB X F S [] P := db_weak w (db_nil h)
theorem db_cons (h : DS X F S st (P.next fun S1 => DB X F S1 rest P)) : DB X F S (st :: rest) P :=
  db_mk (pss_cons h pss_any) fun D σ H ⟨G, sv, k⟩ => ⟨G, sv, ⟨fun S1 G1 σ1 H1 hp ex sv1 => ⟨S1, P, hp, G1, sv1, k.mono ex⟩, k.rt, k.ro, k.bk, k.ct, k.rn⟩⟩
theorem ds_imp (h : DS X F S st P) (k : ∀ S', P.nx S' → P'.nx S') (k1 : ∀ d S', P.rt d S' → P'.rt d S') (k2 : ∀ d S', P.ro d S' → P'.ro d S') (k3 : ∀ S', P.bk S' → P'.bk S') (k4 : ∀ S', P.ct S' → P'.ct S') (k5 : ∀ d S', P.rn d S' → P'.rn d S') : DS X F S st P' :=
  ds_mk h fun D σ H ⟨G, sv, q⟩ => ⟨G, sv, ⟨fun S1 G1 σ1 H1 hp => q.nx S1 G1 σ1 H1 (k _ hp), fun d S1 G1 σ1 v H1 hp => q.rt d S1 G1 σ1 v H1 (k1 _ _ hp), fun d S1 G1 σ1 p vs H1 hp => q.ro d S1 G1 σ1 p vs H1 (k2 _ _ hp), fun S1 G1 σ1 H1 hp => q.bk S1 G1 σ1 H1 (k3 _ hp), fun S1 G1 σ1 H1 hp => q.ct S1 G1 σ1 H1 (k4 _ hp), fun d S1 G1 σ1 v H1 hp => q.rn d S1 G1 σ1 v H1 (k5 _ _ hp)⟩⟩
theorem db_imp (h : DB X F S rest P) (k : ∀ S', P.nx S' → P'.nx S') (k1 : ∀ d S', P.rt d S' → P'.rt d S') (k2 : ∀ d S', P.ro d S' → P'.ro d S') (k3 : ∀ S', P.bk S' → P'.bk S') (k4 : ∀ S', P.ct S' → P'.ct S') (k5 : ∀ d S', P.rn d S' → P'.rn d S') : DB X F S rest P' :=
  db_mk h fun D σ H ⟨G, sv, q⟩ => ⟨G, sv, ⟨fun S1 G1 σ1 H1 hp => q.nx S1 G1 σ1 H1 (k _ hp), fun d S1 G1 σ1 v H1 hp => q.rt d S1 G1 σ1 v H1 (k1 _ _ hp), fun d S1 G1 σ1 p vs H1 hp => q.ro d S1 G1 σ1 p vs H1 (k2 _ _ hp), fun S1 G1 σ1 H1 hp => q.bk S1 G1 σ1 H1 (k3 _ hp), fun S1 G1 σ1 H1 hp => q.ct S1 G1 σ1 H1 (k4 _ hp), fun d S1 G1 σ1 v H1 hp => q.rn d S1 G1 σ1 v H1 (k5 _ _ hp)⟩⟩
/-- a first part with its own word, then the rest -/
theorem db_one (h : DS X F S st P) : DB X F S [st] P := db_mk (pss_one h) fun _ _ _ r => r

theorem ds_pass (h : P.nx S) : DS X F S (.Pass pos) P := ds_mk ps_pass fun D σ H ⟨G, sv, k⟩ => k.nx S G σ H h (Ex.refl G) sv
theorem ds_break (h : P.bk S) : DS X F S (.Break pos) P := ds_mk ps_break fun D σ H ⟨G, sv, k⟩ => k.bk S G σ H h (Ex.refl G) sv
theorem ds_continue (h : P.ct S) : DS X F S (.Continue pos) P := ds_mk ps_continue fun D σ H ⟨G, sv, k⟩ => k.ct S G σ H h (Ex.refl G) sv
theorem ds_never (h : False) : DS X F S st P := h.elim
theorem ds_expr (h : DE X F S e (fun _ S' => P.nx S')) (hs : swapsWith e none pos.line X.env = pure false := by rfl) : DS X F S (.Expr e pos) P :=
  ds_mk (ps_expr h hs) fun D σ H ⟨G, sv, k⟩ => ⟨G, sv, fun d S' G' v H' hp st r => k.nx S' G' σ H' hp st.g st.sv⟩
theorem ds_ret (h : DE X F S e P.rt) : DS X F S (.Return (some e) pos) P :=
  ds_mk (ps_ret h) fun D σ H ⟨G, sv, k⟩ => ⟨G, sv, fun d S' G' v H' hp st r => k.rt d S' G' σ v H' hp st.g st.sv r⟩
theorem ds_retO (h : DO X F S e P.ro) : DS X F S (.Return (some e) pos) P :=
  ds_mk (ps_ret h) fun D σ H ⟨G, sv, k⟩ => ⟨G, sv, fun d S' G' p vs H' hp st g0 hn nm hh r => k.ro d S' G' σ p vs H' hp st.g st.sv g0 (sv.h0 hn) hh r⟩
theorem ds_retN (h : P.rt .none S) : DS X F S (.Return none pos) P := ds_mk ps_retN fun D σ H ⟨G, sv, k⟩ => k.rt .none S G σ .non H h (Ex.refl G) sv .non
/-- return x, x a list of one's own -/
theorem ds_retW (i : Nat) {x : Str} {p0 : Pos} {ds : List FW.D} (hS : S[i]? = some (.own ds)) (h : P.ro ds S) (hN : X.N[i]? = some x := by rfl) (hv : Vis X.env.scope x := by first | exact Or.inl rfl | exact Or.inr (Or.inl rfl) | exact Or.inr (Or.inr rfl))
    (hd : (x == ("__debug__" : Str)) = false := by decide) (hcd : (x == ("__classdict__" : Str)) = false := by decide) : DS X F S (.Return (some (.Name x p0)) pos) P :=
  ds_mk (ps_ret (pe_var hN hv hd hcd)) fun D σ H ⟨G, sv, k⟩ => by
    obtain ⟨p, vs, ep, gp, hp, rs⟩ := sv.slot i _ hS
    exact ⟨.ref p, ep, k.ro ds S G σ p vs H h (Ex.refl G) sv gp (sv.own0 i ds p hS ep) hp rs⟩
theorem ds_if (h : DT X F S c (fun t S' => (t = true → DB X F S' body P) ∧ (t = false → DB X F S' orelse P))) : DS X F S (.If c body orelse pos) P :=
  ds_mk (ps_if h pss_any pss_any) fun D σ H ⟨G, sv, k⟩ => ⟨G, sv, fun t S' G' H' hp st => by
    cases t with
    | true => exact iteT ⟨S', P, hp.1 rfl, G', st.sv, k.mono st.g⟩
    | false => exact iteF ⟨S', P, hp.2 rfl, G', st.sv, k.mono st.g⟩⟩

/-! ### targets -/
theorem setV_back {S : List Sl} {σ : L2.St} {i j : Nat} {d : FW.D} {v : Option V} {p : Addr} (h : MutAt (S.set i (.val d)) (σ.set i v) p j) : MutAt S σ p j := by
  refine mutAt_set h fun e => ?_
  subst e
  obtain ⟨⟨t, h1, h2⟩, _⟩ := h
  have hl := (List.getElem?_eq_some_iff.mp h1).1
  rw [List.length_set] at hl
  rw [List.getElem?_set_self hl] at h1; cases h1; cases h2
def rdG (K : PySem.W.Frag) (F : Fr) (is : List Nat) (g : FW.D → List Sl → (List Sl → Prop) → Prop) : TG := fun v σ H Q => ∃ G S d k, SV K F S G σ H ∧ Rp G v d ∧ g d S k ∧
  ∀ S' σ', k S' → (∀ j, j ∉ is → σ'[j]? = σ[j]?) → σ'.length = σ.length → (∀ p j, MutAt S' σ' p j → MutAt S σ p j) → SV K F S' G σ' H → Q σ' H
def rdGs (K : PySem.W.Frag) (F : Fr) (is : List Nat) (g : List FW.D → List Sl → (List Sl → Prop) → Prop) : TGs := fun vs σ H Q => ∃ G S ds k, SV K F S G σ H ∧ Rps G vs ds ∧ g ds S k ∧
  ∀ S' σ', k S' → (∀ j, j ∉ is → σ'[j]? = σ[j]?) → σ'.length = σ.length → (∀ p j, MutAt S' σ' p j → MutAt S σ p j) → SV K F S' G σ' H → Q σ' H
def DG (X : Cx) (F : Fr) (is : List Nat) (tg : Expr) (g : FW.D → List Sl → (List Sl → Prop) → Prop) : Prop := PG X tg (rdG X.K F is g)
def DGs (X : Cx) (F : Fr) (is : List Nat) (tgs : List Expr) (g : List FW.D → List Sl → (List Sl → Prop) → Prop) : Prop := PGs X tgs (rdGs X.K F is g)
def gN (i : Nat) : FW.D → List Sl → (List Sl → Prop) → Prop := fun d S k => k (S.set i (.val d))
def gs0 : List FW.D → List Sl → (List Sl → Prop) → Prop := fun ds S k => ds = [] ∧ k S
def gsC (g : FW.D → List Sl → (List Sl → Prop) → Prop) (r : List FW.D → List Sl → (List Sl → Prop) → Prop) : List FW.D → List Sl → (List Sl → Prop) → Prop := fun ds S k => ∃ d es, ds = d :: es ∧ g d S fun S' => r es S' k
def gT (n : Nat) (g : List FW.D → List Sl → (List Sl → Prop) → Prop) : FW.D → List Sl → (List Sl → Prop) → Prop := fun d S k => ∃ ds, d = .tuple ds ∧ ds.length = n ∧ g ds S k
variable {tg : Expr} {tgs : List Expr} {is js : List Nat} {g : FW.D → List Sl → (List Sl → Prop) → Prop} {r : List FW.D → List Sl → (List Sl → Prop) → Prop}
theorem dg_name (i : Nat) {x : Str} (hN : X.N.Nodup) (hi : X.N[i]? = some x := by rfl) (hx : Loc X.env.scope x := by first | exact .inl rfl | exact .inr rfl) (hf : X.fn x = true ∨ X.env.scope.names.lookup x = some .local := by first | exact .inl rfl | exact .inr rfl) : DG X F [i] (.Name x pos) (gN i) :=
  ⟨fun pins s σ H v u Q I rv ⟨G, S, d, k, sv, rp, hk, q⟩ => (pg_name hN hi hx hf).run pins s σ H v u Q I rv
    (q (S.set i (.val d)) (σ.set i (some v)) hk (fun j hj => List.getElem?_set_ne fun e => hj (by rw [e]; exact List.mem_cons_self)) (by rw [List.length_set]) (fun p j m => setV_back m) (sv.setV rp))⟩
theorem dgs_nil : DGs X F [] [] gs0 := ⟨fun pins s σ H vs us Q I rv ⟨G, S, ds, k, sv, rp, ⟨e, hk⟩, q⟩ => pgs_nil.run pins s σ H vs us Q I rv (by
  subst e; cases rp
  exact ⟨rfl, q S σ hk (fun _ _ => rfl) rfl (fun _ _ m => m) sv⟩)⟩
theorem dgs_cons (h1 : DG X F is tg g) (h2 : DGs X F js tgs r) (hs : (assignEach (tg :: tgs) X.env).map (·.2) = assign tg X.env :: (assignEach tgs X.env).map (·.2) := by rfl) : DGs X F (is ++ js) (tg :: tgs) (gsC g r) :=
  ⟨fun pins s σ H vs us Q I rv ⟨G, S, ds, k, sv, rp, ⟨d, es, e, hk⟩, q⟩ => (pgs_cons h1 h2 hs).run pins s σ H vs us Q I rv (by
    subst e
    cases rp with
    | cons r1 r2 =>
      refine ⟨_, _, rfl, G, S, d, _, sv, r1, hk, fun S' σ' hk' f1 l1 m1 sv' => ⟨G, S', es, k, sv', r2, hk', fun S2 σ2 hk2 f2 l2 m2 sv2 => q S2 σ2 hk2 (fun j hj => ?_) (l2.trans l1) (fun p j m => m1 p j (m2 p j m)) sv2⟩⟩
      rw [f2 j fun z => hj (List.mem_append_right _ z), f1 j fun z => hj (List.mem_append_left _ z)])⟩
theorem dg_tup {n k : Nat} (hc : X.calm = true) (h : DGs X F is tgs r) (hn : (assignEach tgs X.env).length = n := by rfl) (hst : (assignEach tgs X.env).findIdx? (·.1) = none := by rfl) : DG X F is (.Tuple tgs k pos) (gT n r) :=
  ⟨fun pins s σ H v u Q I rv ⟨G, S, d, kk, sv, rp, ⟨ds, e, hl, hk⟩, q⟩ => (pg_tup hc h hn hst).run pins s σ H v u Q I rv (by
    subst e
    cases rp with
    | tup ht rs => exact ⟨_, _, rfl, SqT.of (sv.gh _ _ ht), by rw [rs.length]; exact hl, G, S, ds, kk, sv, rs, hk, q⟩)⟩
/-- target = e -/
theorem ds_asg (hg : DG X F is tg g) (h : DE X F S e (fun d S' => g d S' P.nx)) (hs : swapsWithSole [tg] e pos.line X.env = pure false := by rfl) (hw : swappedStores [tg] e X.env = pure none := by rfl) (h1 : (assignEach [tg] X.env).map (·.2) = [assign tg X.env] := by rfl) : DS X F S (.Assign [tg] e pos) P :=
  ds_mk (ps_asg h hg hs hw (h1 := h1)) fun D σ H ⟨G, sv, k⟩ => ⟨G, sv, fun d S' G' v H' hp st rr => ⟨G', S', d, P.nx, st.sv, rr, hp, fun S2 σ2 hk _ _ _ sv2 => k.nx S2 G' σ2 H' hk st.g sv2⟩⟩
/-- x = e -/
theorem ds_set (i : Nat) {x : Str} {pos' : Pos} (hN : X.N.Nodup) (h : DE X F S e (fun d S' => P.nx (S'.set i (.val d)))) (hi : X.N[i]? = some x := by rfl) (hx : Loc X.env.scope x := by first | exact .inl rfl | exact .inr rfl) (hs : swapsWith e (some (.Name x pos')) pos.line X.env = pure false := by rfl)
    (hf : X.fn x = true ∨ X.env.scope.names.lookup x = some .local := by first | exact .inl rfl | exact .inr rfl) : DS X F S (.Assign [.Name x pos'] e pos) P :=
  ds_mk (ps_set hN hi hx h hs hf) fun D σ H ⟨G, sv, k⟩ => ⟨G, sv, fun d S' G' v H' hp st rr => k.nx _ G' _ H' hp st.g (st.sv.setV rr)⟩
theorem ds_setO (i : Nat) {x : Str} {pos' : Pos} (hN : X.N.Nodup) (h : DO X F S e (fun ds S' => P.nx (S'.set i (.own ds)))) (hi : X.N[i]? = some x := by rfl) (hx : Loc X.env.scope x := by first | exact .inl rfl | exact .inr rfl) (hs : swapsWith e (some (.Name x pos')) pos.line X.env = pure false := by rfl)
    (hf : X.fn x = true ∨ X.env.scope.names.lookup x = some .local := by first | exact .inl rfl | exact .inr rfl) : DS X F S (.Assign [.Name x pos'] e pos) P :=
  ds_mk (ps_set hN hi hx h hs hf) fun D σ H ⟨G, sv, k⟩ => ⟨G, sv, fun ds S' G' p vs H' hp st gp hn nm hh rr => k.nx _ G' _ H' hp st.g (st.sv.setO gp nm (sv.h0 hn) hh rr)⟩
/-! ### lists of one's own -/
theorem ds_append (i : Nat) {x : Str} {p1 p2 p3 : Pos} (hO : ∃ ds, S[i]? = some (.own ds)) (h : DE X F S e (fun d S' => ∃ ds, S'[i]? = some (.own ds) ∧ ds.length < sizeLine ∧ P.nx (S'.set i (.own (ds ++ [d])))))
    (hN : X.N[i]? = some x := by rfl) (hv : Vis X.env.scope x := by first | exact Or.inl rfl | exact Or.inr (Or.inl rfl) | exact Or.inr (Or.inr rfl))
    (hs1 : starEach (e :: []) X.env = (false, eval e X.env) :: starEach [] X.env := by rfl) (hs : swapsWith (.Call (.Attribute (.Name x p1) "append" p2) [e] [] p3) none pos.line X.env = pure false := by rfl)
    (hd : (x == ("__debug__" : Str)) = false := by decide) (hcd : (x == ("__classdict__" : Str)) = false := by decide)
    (hbase : attributeBase (.Name x p1) "append" X.env (eval (.Name x p1) X.env) = eval (.Name x p1) X.env := by rfl)
    (hfew : ((backTo p3 (starEach (e :: []) X.env)).all (fun x => !x.1) && (backToKw p3 (keywordEach [] X.env)).all (fun x => x.1.isSome)
      && decide ((e :: ([] : List Expr)).length + ([] : List Keyword).length + (if ([] : List Keyword).isEmpty then 0 else 1) < 30)) = true := by rfl)
    (hline : (p2.endLine == p3.line) = true := by rfl) :
    DS X F S (.Expr (.Call (.Attribute (.Name x p1) "append" p2) [e] [] p3) pos) P :=
  ds_mk (ps_expr (pe_bm PySem.F.plainAttrs_list PySem.F.slot_list_append PySem.F.type_list_append mt_append (pe_var hN hv hd hcd) (pa_cons h pa_nil hs1) hbase hfew hline hs1) hs) fun D σ H ⟨G, sv, k⟩ => by
    obtain ⟨ds0, h0⟩ := hO
    obtain ⟨p, vs, ep, gp, hp, rs⟩ := sv.slot i _ h0
    refine ⟨.ref p, ep, .inl ⟨rfl, _, SqL.of hp⟩, G, sv, fun d S' G' v H' ⟨ds, h2, hl, hP⟩ st rr => ?_⟩
    obtain ⟨p', vs', ep', gp', hp', rs'⟩ := st.sv.slot i _ h2
    rw [ep] at ep'; cases ep'
    show rAppend (.ref p) [v] H' fun _ H1 => D.nx σ H1
    exact ⟨p, vs', v, rfl, rfl, hp', by rw [rs'.length]; exact hl, k.nx _ G' σ _ hP st.g (st.sv.wOwn h2 ep (rs'.append (.cons rr .nil)))⟩
theorem ds_extend (i : Nat) {x : Str} {p1 p2 p3 : Pos} (hO : ∃ ds, S[i]? = some (.own ds)) (h : DO X F S e (fun es S' => ∃ ds, S'[i]? = some (.own ds) ∧ ds.length + es.length ≤ sizeLine ∧ P.nx (S'.set i (.own (ds ++ es)))))
    (hN : X.N[i]? = some x := by rfl) (hv : Vis X.env.scope x := by first | exact Or.inl rfl | exact Or.inr (Or.inl rfl) | exact Or.inr (Or.inr rfl))
    (hs1 : starEach (e :: []) X.env = (false, eval e X.env) :: starEach [] X.env := by rfl) (hs : swapsWith (.Call (.Attribute (.Name x p1) "extend" p2) [e] [] p3) none pos.line X.env = pure false := by rfl)
    (hd : (x == ("__debug__" : Str)) = false := by decide) (hcd : (x == ("__classdict__" : Str)) = false := by decide)
    (hbase : attributeBase (.Name x p1) "extend" X.env (eval (.Name x p1) X.env) = eval (.Name x p1) X.env := by rfl)
    (hfew : ((backTo p3 (starEach (e :: []) X.env)).all (fun x => !x.1) && (backToKw p3 (keywordEach [] X.env)).all (fun x => x.1.isSome)
      && decide ((e :: ([] : List Expr)).length + ([] : List Keyword).length + (if ([] : List Keyword).isEmpty then 0 else 1) < 30)) = true := by rfl)
    (hline : (p2.endLine == p3.line) = true := by rfl) :
    DS X F S (.Expr (.Call (.Attribute (.Name x p1) "extend" p2) [e] [] p3) pos) P :=
  ds_mk (ps_expr (pe_bm PySem.F.plainAttrs_list PySem.F.slot_list_extend PySem.F.type_list_extend mt_extend (pe_var hN hv hd hcd) (pa_cons h pa_nil hs1) hbase hfew hline hs1) hs) fun D σ H ⟨G, sv, k⟩ => by
    obtain ⟨ds0, h0⟩ := hO
    obtain ⟨p, vs, ep, gp, hp, rs⟩ := sv.slot i _ h0
    refine ⟨.ref p, ep, .inl ⟨rfl, _, SqL.of hp⟩, G, sv, fun es S' G' q ws H' ⟨ds, h2, hl, hP⟩ st gq hn nm hq rr => ?_⟩
    obtain ⟨p', vs', ep', gp', hp', rs'⟩ := st.sv.slot i _ h2
    rw [ep] at ep'; cases ep'
    show rExtend (.ref p) [.ref q] H' fun _ H1 => D.nx σ H1
    exact ⟨p, q, vs', ws, rfl, rfl, hp', hq, by rw [rs'.length, rr.length]; exact hl, k.nx _ G' σ _ hP st.g (st.sv.wOwn h2 ep (rs'.append rr))⟩
theorem ds_reverse (i : Nat) {x : Str} {p1 p2 p3 : Pos} {ds : List FW.D} (hO : S[i]? = some (.own ds)) (h : P.nx (S.set i (.own ds.reverse)))
    (hN : X.N[i]? = some x := by rfl) (hv : Vis X.env.scope x := by first | exact Or.inl rfl | exact Or.inr (Or.inl rfl) | exact Or.inr (Or.inr rfl))
    (hs : swapsWith (.Call (.Attribute (.Name x p1) "reverse" p2) [] [] p3) none pos.line X.env = pure false := by rfl)
    (hd : (x == ("__debug__" : Str)) = false := by decide) (hcd : (x == ("__classdict__" : Str)) = false := by decide)
    (hbase : attributeBase (.Name x p1) "reverse" X.env (eval (.Name x p1) X.env) = eval (.Name x p1) X.env := by rfl) (hline : (p2.endLine == p3.line) = true := by rfl) :
    DS X F S (.Expr (.Call (.Attribute (.Name x p1) "reverse" p2) [] [] p3) pos) P :=
  ds_mk (ps_expr (pe_bm0 PySem.F.plainAttrs_list PySem.F.slot_list_reverse PySem.F.type_list_reverse mt_reverse (pe_var hN hv hd hcd) hbase hline) hs) fun D σ H ⟨G, sv, k⟩ => by
    obtain ⟨p, vs, ep, gp, hp, rs⟩ := sv.slot i _ hO
    exact ⟨.ref p, ep, .inl ⟨rfl, _, SqL.of hp⟩, p, vs, rfl, rfl, hp, k.nx _ G σ _ h (Ex.refl G) (sv.wOwn hO ep rs.reverse)⟩
/-- x[k] = e -/
theorem ds_setix (i : Nat) {x : Str} {ix : Expr} {p1 p2 : Pos} (hO : ∃ ds, S[i]? = some (.own ds)) (h : DE X F S e (fun d S' => (∃ ds, S'[i]? = some (.own ds)) ∧ DE X F S' ix (fun d2 S2 => ∃ ds n j, d2 = .int n ∧ S2[i]? = some (.own ds) ∧ ixN ds.length n = some j ∧ P.nx (S2.set i (.own (ds.set j d))))))
    (hN : X.N[i]? = some x := by rfl) (hv : Vis X.env.scope x := by first | exact Or.inl rfl | exact Or.inr (Or.inl rfl) | exact Or.inr (Or.inr rfl))
    (hd : (x == ("__debug__" : Str)) = false := by decide) (hcd : (x == ("__classdict__" : Str)) = false := by decide)
    (ha : ∀ v, assign (.Subscript (.Name x p1) ix p2) X.env v = (do
    let ov ← holding [v] (eval (.Name x p1) X.env)
    let iv ← holding [v, ov] (eval ix X.env)
    standAt p2
    holding [v, ov, iv] (setItem ov iv v)
    release [v, ov, iv] []) := by intro _; rfl) (hs : swapsWithSole [.Subscript (.Name x p1) ix p2] e pos.line X.env = pure false := by rfl) (hw : swappedStores [.Subscript (.Name x p1) ix p2] e X.env = pure none := by rfl) :
    DS X F S (.Assign [.Subscript (.Name x p1) ix p2] e pos) P :=
  ds_mk (ps_asg h (pg_sub (pe_var hN hv hd hcd) pe_any set_list ha) hs hw) fun D σ H ⟨G, sv, k⟩ => ⟨G, sv, fun d S' G' v H' ⟨⟨ds0, h0⟩, hp⟩ st rr => by
    obtain ⟨p, vs, ep, gp, hpp, rs⟩ := st.sv.slot i _ h0
    refine ⟨.ref p, ep, S', _, hp, G', st.sv, fun d2 S2 G2 y H2 ⟨ds, n, j, e2, h2, hj, hP⟩ st2 r2 => ?_⟩
    subst e2; cases r2
    obtain ⟨p', vs', ep', gp', hp', rs'⟩ := st2.sv.slot i _ h2
    rw [ep] at ep'; cases ep'
    show rSetL (.ref p) (.int n) v H2 fun H3 => D.nx σ H3
    exact ⟨p, vs', n, j, rfl, rfl, hp', by rw [rs'.length]; exact hj, k.nx _ G2 σ _ hP (st.g.trans st2.g) (st2.sv.wOwn h2 ep (Rps.set (rr.mono st2.g) j rs'))⟩⟩
end
end FW

namespace FW
open PySem PySem.Spec PyProof.Rows L2
variable [Tb]

/-! ### what is walked -/
/-- an iterator yields these -/
structure ItD (J : It) (G : Hp) (xs : List FW.D) : Prop where
  go : ∀ i H, i < xs.length → Ex G H → J.go i H
  stop : ∀ H, Ex G H → J.stop xs.length H
  yld : ∀ i H x H', i < xs.length → Ex G H → J.yld i H x H' → ∃ d, xs[i]? = some d ∧
    ((H' = H ∧ Rp G x d) ∨ ∃ p ys ds, H p = none ∧ H' = upd H p (.tup ys) ∧ x = .ref p ∧ d = .tuple ds ∧ Rps G ys ds)
theorem ItD.mono {J : It} {G G' : Hp} {xs : List FW.D} (h : ItD J G xs) (e : Ex G G') : ItD J G' xs :=
  ⟨fun i H hi ex => h.go i H hi (e.trans ex), fun H ex => h.stop H (e.trans ex), fun i H x H' hi ex y => by
    obtain ⟨d, hd, q⟩ := h.yld i H x H' hi (e.trans ex) y
    refine ⟨d, hd, ?_⟩
    rcases q with ⟨e1, r⟩ | ⟨p, ys, ds, e1, e2, e3, e4, r⟩
    · exact .inl ⟨e1, r.mono e⟩
    · exact .inr ⟨p, ys, ds, e1, e2, e3, e4, r.mono e⟩⟩
def rdI (K : PySem.W.Frag) (F : Fr) (S : List Sl) (P : List FW.D → List Sl → Prop) : TI := fun σ H R => ∃ G, SV K F S G σ H ∧
  ∀ xs S' G' J H', P xs S' → Stp K F σ S G H S' G' H' → ItD J G' xs → R J H'
def DI (X : Cx) (F : Fr) (S : List Sl) (tg iter : Expr) (P : List FW.D → List Sl → Prop) : Prop := PI X tg iter (rdI X.K F S P)
section
variable {X : Cx} {F : Fr} {S : List Sl} {tg iter e a b : Expr} {P : List FW.D → List Sl → Prop} {pos : Pos}
theorem di_mk {t : TI} (h : PI X tg iter t) (k : ∀ σ H R, rdI X.K F S P σ H R → t σ H R) : DI X F S tg iter P := ⟨fun pins s σ H R I r => h.run pins s σ H R I (k σ H R r)⟩
theorem itd_list {K : PySem.W.Frag} {G : Hp} {p : Addr} {vs : List V} {ds : List FW.D} (hp : G p = some (.lst vs)) (r : Rps G vs ds) : ItD (Itl K p) G ds where
  go := fun i H hi ex => by
    have hl : i < vs.length := by rw [r.length]; exact hi
    exact ⟨vs, vs[i], SqL.of (ex _ _ hp), List.getElem?_eq_getElem hl⟩
  stop := fun H ex => ⟨vs, SqL.of (ex _ _ hp), by rw [r.length]; exact Nat.le_refl _⟩
  yld := fun i H x H' hi ex ⟨e, hx⟩ => by
    have hv := hx vs (SqL.of (ex _ _ hp))
    obtain ⟨d, hd, rd⟩ := r.get' hv
    exact ⟨d, hd, .inl ⟨e, rd⟩⟩
theorem itd_tup {K : PySem.W.Frag} {G : Hp} {p : Addr} {vs : List V} {ds : List FW.D} (hp : G p = some (.tup vs)) (r : Rps G vs ds) : ItD (Itt K p) G ds where
  go := fun i H hi ex => by
    have hl : i < vs.length := by rw [r.length]; exact hi
    exact ⟨vs, vs[i], SqT.of (ex _ _ hp), List.getElem?_eq_getElem hl⟩
  stop := fun H ex => ⟨vs, SqT.of (ex _ _ hp), by rw [r.length]; exact Nat.le_refl _⟩
  yld := fun i H x H' hi ex ⟨e, hx⟩ => by
    have hv := hx vs (SqT.of (ex _ _ hp))
    obtain ⟨d, hd, rd⟩ := r.get' hv
    exact ⟨d, hd, .inl ⟨e, rd⟩⟩
/-- lo, lo + 1, .. -/
def rgD (lo : Int) (n : Nat) : List FW.D := (List.range n).map fun i => .int (lo + (i : Nat))
theorem rgD_length (lo : Int) (n : Nat) : (rgD lo n).length = n := by unfold rgD; rw [List.length_map, List.length_range]
theorem rgD_get {lo : Int} {n i : Nat} (h : i < n) : (rgD lo n)[i]? = some (.int (lo + (i : Nat))) := by
  unfold rgD
  rw [List.getElem?_map, List.getElem?_range h]; rfl
theorem itd_range {lo : Int} {n : Nat} {G : Hp} : ItD (Itr lo n) G (rgD lo n) where
  go := fun i H hi _ => by rw [rgD_length] at hi; exact hi
  stop := fun H _ => by rw [rgD_length]; exact Nat.le_refl _
  yld := fun i H x H' hi _ ⟨e, hx⟩ => by
    rw [rgD_length] at hi
    subst hx
    exact ⟨_, rgD_get hi, .inl ⟨e, .int _⟩⟩
theorem itd_rangeC {lo c : Int} {n : Nat} {G : Hp} : ItD (Itc lo c n) G ((List.range n).map fun i => .int (lo + (i : Nat) * c)) where
  go := fun i H hi _ => by rw [List.length_map, List.length_range] at hi; exact hi
  stop := fun H _ => by rw [List.length_map, List.length_range]; exact Nat.le_refl _
  yld := fun i H x H' hi _ ⟨e, hx⟩ => by
    rw [List.length_map, List.length_range] at hi
    subst hx
    exact ⟨_, by rw [List.getElem?_map, List.getElem?_range hi]; rfl, .inl ⟨e, .int _⟩⟩
theorem di_list (h : DE X F S e (fun d S' => ∃ ds, d = .list ds ∧ P ds S')) : DI X F S tg e P :=
  di_mk (pi_list h) fun σ H R ⟨G, sv, k⟩ => ⟨G, sv, fun d S' G' v H' ⟨ds, ed, hp⟩ st r => by
    subst ed
    cases r with
    | lst hl rs => exact ⟨_, rfl, ⟨_, SqL.of (st.sv.gh _ _ hl)⟩, k ds S' G' _ H' hp st (itd_list hl rs)⟩⟩
theorem di_tup (h : DE X F S e (fun d S' => ∃ ds, d = .tuple ds ∧ P ds S')) : DI X F S tg e P :=
  di_mk (pi_tup h) fun σ H R ⟨G, sv, k⟩ => ⟨G, sv, fun d S' G' v H' ⟨ds, ed, hp⟩ st r => by
    subst ed
    cases r with
    | tup hl rs => exact ⟨_, rfl, ⟨_, SqT.of (st.sv.gh _ _ hl)⟩, k ds S' G' _ H' hp st (itd_tup hl rs)⟩⟩
theorem di_range1 {p : Pos} (hm : X.mg "range" = none) (h : DA X F S [a] (fun ds S' => ∃ j : Int, ds = [.int j] ∧ (-(2 ^ 62) ≤ j ∧ j < 2 ^ 62) ∧ P (rgD 0 j.toNat) S')) (hg : Gl X "range" := by rfl) (hs : starEach [a] X.env = [(false, eval a X.env)] := by rfl) : DI X F S tg (.Call (.Name "range" p) [a] [] pos) P :=
  di_mk (pi_range1 hg hm h hs) fun σ H R ⟨G, sv, k⟩ => ⟨G, sv, fun ds S' G' vs H' ⟨j, e, hb, hp⟩ st r => by
    subst e
    cases r with
    | cons r1 r2 => cases r1; cases r2; exact ⟨j, rfl, hb.1, hb.2, k _ S' G' _ H' hp st itd_range⟩⟩
theorem di_range2 {p : Pos} (hm : X.mg "range" = none) (h : DA X F S [a, b] (fun ds S' => ∃ i j : Int, ds = [.int i, .int j] ∧ (-(2 ^ 62) ≤ i ∧ i < 2 ^ 62 ∧ -(2 ^ 62) ≤ j ∧ j < 2 ^ 62) ∧ P (rgD i (j - i).toNat) S')) (hg : Gl X "range" := by rfl)
    (hs : starEach [a, b] X.env = [(false, eval a X.env), (false, eval b X.env)] := by rfl) (hs2 : starEach [b] X.env = [(false, eval b X.env)] := by rfl) : DI X F S tg (.Call (.Name "range" p) [a, b] [] pos) P :=
  di_mk (pi_range2 hg hm h hs hs2) fun σ H R ⟨G, sv, k⟩ => ⟨G, sv, fun ds S' G' vs H' ⟨i, j, e, hb, hp⟩ st r => by
    subst e
    cases r with
    | cons r1 r2 => cases r1; cases r2 with | cons r3 r4 => cases r3; cases r4; exact ⟨i, j, rfl, hb, k _ S' G' _ H' hp st itd_range⟩⟩

/-! ### for -/
theorem ds_for {is : List Nat} {g : FW.D → List Sl → (List Sl → Prop) → Prop} {P : Post} {body : List Stmt} (hp : PassesOwn (model X.prog X.w) X.A X.env X.xe) (hc : X.calm = true) (hg : DG X F is tg g)
    (h : DI X F S tg iter (fun xs S0 => ∃ Iv : Nat → List Sl → Prop, Iv 0 S0 ∧ (∀ i d Si, xs[i]? = some d → Iv i Si → g d Si fun S2 => DB X F S2 body ⟨Iv (i + 1), P.rt, P.ro, P.nx, Iv (i + 1), P.rn⟩) ∧ ∀ Sn, Iv xs.length Sn → P.nx Sn))
    (hs : ∀ x, foldedSetIterable iter X.env x = pure x := by intro _; rfl) : DS X F S (.For tg iter body [] pos) P :=
  ds_mk (ps_for hp hc h hg pss_any hs) fun D σ H ⟨G, sv, k⟩ => ⟨G, sv, fun xs S0 G0 J H0 ⟨Iv, i0, turn, fin⟩ st0 it => by
    refine ⟨fun i m σ H => i + m = xs.length ∧ ∃ G S, SV X.K F S G σ H ∧ Ex G0 G ∧ Iv i S, ⟨xs.length, by omega, G0, S0, st0.sv, Ex.refl G0, i0⟩, ?_⟩
    rintro i m σ1 H1 ⟨em, G1, S1, sv1, e1, iv⟩
    have it1 := it.mono e1
    by_cases hi : i < xs.length
    · refine .inr ⟨it1.go i H1 hi sv1.gh, fun σ' H' => ∃ m', m' < m ∧ (i + 1 + m' = xs.length ∧ ∃ G S, SV X.K F S G σ' H' ∧ Ex G0 G ∧ Iv (i + 1) S), fun σ' H' q => q, fun x H2 y => ?_⟩
      obtain ⟨d, hd, q⟩ := it1.yld i H1 x H2 hi sv1.gh y
      have go : ∀ G2, Ex G1 G2 → SV X.K F S1 G2 σ1 H2 → Rp G2 x d → rdG X.K F is g x σ1 H2 fun σ2 H3 => tSs X F body { D with nx := fun σ' H' => ∃ m', m' < m ∧ (i + 1 + m' = xs.length ∧ ∃ G S, SV X.K F S G σ' H' ∧ Ex G0 G ∧ Iv (i + 1) S), ct := fun σ' H' => ∃ m', m' < m ∧ (i + 1 + m' = xs.length ∧ ∃ G S, SV X.K F S G σ' H' ∧ Ex G0 G ∧ Iv (i + 1) S), bk := D.nx } σ2 H3 := fun G2 e2 sv2 r2 =>
        ⟨G2, S1, d, _, sv2, r2, turn i d S1 hd iv, fun S3 σ3 hk _ _ _ sv3 => ⟨S3, _, hk, G2, sv3, by
          have k2 := k.mono ((st0.g.trans e1).trans e2)
          refine ⟨fun S4 G4 σ4 H4 hp4 ex4 sv4 => ⟨m - 1, by omega, by omega, G4, S4, sv4, (e1.trans e2).trans ex4, hp4⟩, k2.rt, k2.ro, k2.nx, fun S4 G4 σ4 H4 hp4 ex4 sv4 => ⟨m - 1, by omega, by omega, G4, S4, sv4, (e1.trans e2).trans ex4, hp4⟩, k2.rn⟩⟩⟩
      rcases q with ⟨e2, r2⟩ | ⟨p, ys, ds, hn, e2, ex, ed, r2⟩
      · subst e2
        exact go G1 (Ex.refl G1) sv1 r2
      · subst e2; subst ex; subst ed
        exact go _ (Ex.upd (sv1.gh.none hn)) (sv1.alloc hn) (.tup upd_same (r2.mono (Ex.upd (sv1.gh.none hn))))
    · have ei : i = xs.length := by omega
      subst ei
      exact .inl ⟨it1.stop H1 sv1.gh, k.nx S1 G1 σ1 H1 (fin S1 iv) (st0.g.trans e1) sv1⟩⟩
/-! ### while -/
theorem ds_while {c : Expr} {P : Post} {body : List Stmt} (hp : PassesOwn (model X.prog X.w) X.A X.env X.xe) (Iv : Nat → List Sl → Prop) (m0 : Nat) (h0 : Iv m0 S)
    (h : ∀ m Sm, Iv m Sm → DT X F Sm c (fun t S' => (t = true → DB X F S' body ⟨fun S2 => ∃ m', m' < m ∧ Iv m' S2, P.rt, P.ro, P.nx, fun S2 => ∃ m', m' < m ∧ Iv m' S2, P.rn⟩) ∧ (t = false → P.nx S'))) : DS X F S (.While c body [] pos) P :=
  ds_mk (ps_while hp (pt_any (F := F)) (pss_any (F := F))) fun D σ H ⟨G, sv, k⟩ => by
    refine ⟨fun m σ H => ∃ G1 S, SV X.K F S G1 σ H ∧ Ex G G1 ∧ Iv m S, ⟨m0, G, S, sv, Ex.refl G, h0⟩, ?_⟩
    rintro m σ1 H1 ⟨G1, S1, sv1, e1, iv⟩
    refine ⟨S1, _, h m S1 iv, G1, sv1, fun t S2 G2 H2 hp2 st => ?_⟩
    cases t with
    | false => exact iteF (k.nx S2 G2 σ1 H2 (hp2.2 rfl) (e1.trans st.g) st.sv)
    | true =>
      refine iteT ⟨fun σ' H' => ∃ m', m' < m ∧ ∃ G1 S, SV X.K F S G1 σ' H' ∧ Ex G G1 ∧ Iv m' S, fun σ' H' q => q, S2, _, hp2.1 rfl, G2, st.sv, ?_⟩
      have k2 := k.mono (e1.trans st.g)
      exact ⟨fun S4 G4 σ4 H4 ⟨m', hm, hp4⟩ ex4 sv4 => ⟨m', hm, G4, S4, sv4, (e1.trans st.g).trans ex4, hp4⟩, k2.rt, k2.ro, k2.nx, fun S4 G4 σ4 H4 ⟨m', hm, hp4⟩ ex4 sv4 => ⟨m', hm, G4, S4, sv4, (e1.trans st.g).trans ex4, hp4⟩, k2.rn⟩
end

/-! ### list comprehensions -/
def wipeS (S : List Sl) : List Nat → List Sl
  | [] => S
  | v :: vs => (wipeS S vs).set v .unk
section
variable {K : PySem.W.Frag} {F : Fr} {S S' : List Sl} {G H : Hp} {σ σ' : L2.St}
theorem wipeS_length (S : List Sl) : ∀ vs, (wipeS S vs).length = S.length
  | [] => rfl
  | v :: vs => by unfold wipeS; rw [List.length_set, wipeS_length S vs]
theorem wipeS_in {S : List Sl} {i : Nat} {sl : Sl} : ∀ {vs : List Nat}, i ∈ vs → (wipeS S vs)[i]? = some sl → sl = .unk
  | v :: vs, hm, h => by
    unfold wipeS at h
    by_cases e : v = i
    · subst e
      have hl := (List.getElem?_eq_some_iff.mp h).1
      rw [List.length_set] at hl
      rw [List.getElem?_set_self hl] at h
      exact (Option.some.inj h).symm
    · rw [List.getElem?_set_ne e] at h
      rcases List.mem_cons.mp hm with z | z
      · exact absurd z.symm e
      · exact wipeS_in z h
theorem wipeS_out {S : List Sl} {i : Nat} : ∀ {vs : List Nat}, i ∉ vs → (wipeS S vs)[i]? = S[i]?
  | [], _ => rfl
  | v :: vs, h => by
    have h1 : v ≠ i := fun e => h (by rw [e]; exact List.mem_cons_self)
    unfold wipeS
    rw [List.getElem?_set_ne h1]
    exact wipeS_out fun z => h (List.mem_cons_of_mem _ z)
/-- the same state seen over slots that differ at places that are forgotten -/
theorem SV.moved {vs : List Nat} (sv : SV K F S G σ H) (h : ∀ j, j ∉ vs → σ'[j]? = σ[j]?) (hl : σ'.length = σ.length) : SV K F (wipeS S vs) G σ' H := by
  have back : ∀ {p j}, MutAt (wipeS S vs) σ' p j → MutAt S σ p j := fun {p j} ⟨⟨t, h1, h2⟩, e⟩ => by
    by_cases hj : j ∈ vs
    · have := wipeS_in hj h1
      subst this; cases h2
    · rw [wipeS_out hj] at h1
      rw [h j hj] at e
      exact ⟨⟨t, h1, h2⟩, e⟩
  refine ⟨sv.base, sv.gh, sv.keep, sv.live, sv.new, fun i sl h1 => ?_, fun i j p ne a b => sv.sep i j p ne (back a) (back b), fun i ds p h1 e => ?_, by rw [wipeS_length, sv.len, hl], sv.bh⟩
  · by_cases hj : i ∈ vs
    · have := wipeS_in hj h1
      subst this; trivial
    · rw [wipeS_out hj] at h1
      rw [h i hj]
      exact sv.slot i sl h1
  · by_cases hj : i ∈ vs
    · have := wipeS_in hj h1
      cases this
    · rw [wipeS_out hj] at h1
      rw [h i hj] at e
      exact sv.own0 i ds p h1 e
theorem moved_back {vs : List Nat} (h : ∀ j, j ∉ vs → σ'[j]? = σ[j]?) {p : Addr} {j : Nat} (m : MutAt (wipeS S vs) σ' p j) : MutAt S σ p j := by
  obtain ⟨⟨t, h1, h2⟩, e⟩ := m
  by_cases hj : j ∈ vs
  · have := wipeS_in hj h1
    subst this; cases h2
  · rw [wipeS_out hj] at h1
    rw [h j hj] at e
    exact ⟨⟨t, h1, h2⟩, e⟩
theorem wipe_eq {vs : List Nat} (h : ∀ j, j ∉ vs → σ'[j]? = σ[j]?) (hl : σ'.length = σ.length) : wipe σ' vs = wipe σ vs := by
  refine List.ext_getElem? fun j => ?_
  by_cases hj : j ∈ vs
  · have in_ : ∀ (τ : L2.St) (ws : List Nat), j ∈ ws → (wipe τ ws)[j]? = if j < τ.length then some none else none := by
      intro τ ws
      induction ws with
      | nil => intro z; cases z
      | cons v ws ih =>
        intro z
        unfold wipe
        by_cases e : v = j
        · subst e
          by_cases hlt : v < τ.length
          · rw [List.getElem?_set_self (by rw [wipe_length]; exact hlt), if_pos hlt]
          · rw [if_neg hlt, List.getElem?_eq_none (by rw [List.length_set, wipe_length]; omega)]
        · rw [List.getElem?_set_ne e]
          exact ih ((List.mem_cons.mp z).resolve_left fun z => e z.symm)
    rw [in_ σ' vs hj, in_ σ vs hj, hl]
  · rw [wipe_out hj, wipe_out hj, h j hj]
end
def DTs (X : Cx) (F : Fr) (S : List Sl) (ifs : List Expr) (P : Bool → List Sl → Prop) : Prop := PTs X ifs (rdT X.K F S P)
section
variable {X : Cx} {F : Fr} {S : List Sl} {c : Expr} {P : Bool → List Sl → Prop}
theorem dts_nil (h : P true S) : DTs X F S [] P := ⟨fun pins s σ H Q I ⟨G, sv, k⟩ => pts_nil.run pins s σ H Q I (k true S G H h (.refl sv))⟩
theorem dts_one (h : DT X F S c P) : DTs X F S [c] P := ⟨fun pins s σ H Q I r => (pts_one h).run pins s σ H Q I r⟩
end
/-- a comprehension's block -/
abbrev Bk (X : Cx) (scope : Scope) (s : Shared) (H : Hp) (C : Addr) (cl : List (Str × Addr)) (fp : List Addr) : Cx := X.blk s H scope (compEnvC scope cl C X.env) fp
def tTb (X : Cx) (F : Fr) (scope : Scope) (ifs : List Expr) : TT := fun σ H Q => ∃ S P, (∀ s H C cl fp, DTs (Bk X scope s H C cl fp) F S ifs P) ∧ rdT X.K F S P σ H Q
def tEb (X : Cx) (F : Fr) (scope : Scope) (e : Expr) : TE := fun σ H Q => ∃ S P, (∀ s H C cl fp, DE (Bk X scope s H C cl fp) F S e P) ∧ rd X.K F S P σ H Q
/-- what is to be shown of a comprehension, the items known -/
def LcI (X : Cx) (F : Fr) (scope : Scope) (vs : List Nat) (g : FW.D → List Sl → (List Sl → Prop) → Prop) (elt : Expr) (ifs : List Expr) (P : List FW.D → List Sl → Prop) (xs : List FW.D) (S0 : List Sl) : Prop :=
  ∃ Iv : Nat → List Sl → List FW.D → Prop, Iv 0 (wipeS S0 vs) [] ∧ (∀ i d Si acc, xs[i]? = some d → Iv i Si acc → g d Si fun S2 =>
    ∃ PT, (∀ s H C cl fp, DTs (Bk X scope s H C cl fp) F S2 ifs PT) ∧ ∀ t S3, PT t S3 → (t = true → acc.length < sizeLine ∧ ∀ s H C cl fp, DE (Bk X scope s H C cl fp) F S3 elt fun d' S4 => Iv (i + 1) (wipeS S4 vs) (acc ++ [d'])) ∧
      (t = false → Iv (i + 1) (wipeS S3 vs) acc)) ∧ ∀ Sn acc, Iv xs.length Sn acc → P acc (wipeS Sn vs)
section
variable {X : Cx} {F : Fr} {S : List Sl} {elt tg iter : Expr} {ifs : List Expr} {scope : Scope} {own : List (Str × Nat)} {pos : Pos} {is : List Nat} {g : FW.D → List Sl → (List Sl → Prop) → Prop} {P : List FW.D → List Sl → Prop}
/-- the reading of a comprehension -/
theorem lc_read (hsub : ∀ j ∈ is, j ∈ own.map (·.2)) {σ : L2.St} {H0 : Hp} {G0 : Hp} {S0 : List Sl} {xs : List FW.D} {J : It} {Q : VK} (sv0 : SV X.K F S0 G0 σ H0) (it : ItD J G0 xs) (h : LcI X F scope (own.map (·.2)) g elt ifs P xs S0)
    (k : ∀ ds S' G' p vs H', P ds S' → Stp X.K F σ S0 G0 H0 S' G' H' → G' p = none → H0 p = none → NotMut S' σ p → H' p = some (.lst vs) → Rps G' vs ds → Q (.ref p) H') :
    ∀ D, H0 D = none → ∃ W : Nat → Nat → Hp → Prop, (∃ m, W 0 m (upd H0 D (.lst []))) ∧ ∀ i m H, W i m H →
      (J.stop i H ∧ Q (.ref D) H) ∨ (J.go i H ∧ ∃ Nx : Hp → Prop, (∀ H', Nx H' → ∃ m', m' < m ∧ W (i + 1) m' H') ∧ ∀ x H', J.yld i H x H' → rdG X.K F is g x (wipe σ (own.map (·.2))) H' fun σ2 H2 => wipe σ2 (own.map (·.2)) = wipe σ (own.map (·.2)) ∧ tTb X F scope ifs σ2 H2 fun b H3 =>
        if b = true then tEb X F scope elt σ2 H3 fun y H4 => ∃ acc, H4 D = some (.lst acc) ∧ acc.length < sizeLine ∧ Nx (upd H4 D (.lst (acc ++ [y]))) else Nx H3) := by
  intro D hD
  obtain ⟨Iv, i0, turn, fin⟩ := h
  have h0D : F.H0 D = none := sv0.h0 hD
  have gD : G0 D = none := sv0.gh.none hD
  have out : ∀ j, j ∉ own.map (·.2) → (wipe σ (own.map (·.2)))[j]? = σ[j]? := fun j hj => wipe_out hj
  have out' : ∀ j, j ∉ own.map (·.2) → σ[j]? = (wipe σ (own.map (·.2)))[j]? := fun j hj => (out j hj).symm
  generalize hw : wipe σ (own.map (·.2)) = σw at out out' ⊢
  have lw : σw.length = σ.length := by rw [← hw, wipe_length]
  -- the invariant
  refine ⟨fun i m H => i + m = xs.length ∧ ∃ G Si acc vs, SV X.K F Si G σw H ∧ Ex G0 G ∧ Iv i Si acc ∧ G D = none ∧ H D = some (.lst vs) ∧ Rps G vs acc ∧
      (∀ a o, H0 a = some o → NotMut S0 σ a → NT o → H a = some o) ∧ (∀ p j, MutAt Si σw p j → MutAt S0 σ p j) ∧ (∀ a o, NC o → G a = some o → G0 a = some o ∨ H0 a = none) ∧ (∀ a o, H0 a = some o → ∃ o', H a = some o'),
    ⟨xs.length, by omega, G0, wipeS S0 (own.map (·.2)), [], [], (sv0.allocO hD).moved out lw, Ex.refl G0, i0, gD, upd_same, .nil, fun a o ha _ _ => Ex.upd hD a o ha, fun p j m => moved_back out m, fun a o _ h => .inl h, fun a o h => ⟨o, Ex.upd hD a o h⟩⟩, ?_⟩
  rintro i m H ⟨em, G, Si, acc, vs, sv, e0, iv, gd, hd, rs, kp, mb, nw, lv⟩
  have it1 := it.mono e0
  have nmD : NotMut Si σw D := fun j mm => sv0.fresh hD j (mb D j mm)
  by_cases hi : i < xs.length
  · refine .inr ⟨it1.go i H hi sv.gh, fun H' => ∃ m', m' < m ∧ (i + 1 + m' = xs.length ∧ ∃ G Si acc vs, SV X.K F Si G σw H' ∧ Ex G0 G ∧ Iv (i + 1) Si acc ∧ G D = none ∧ H' D = some (.lst vs) ∧ Rps G vs acc ∧
      (∀ a o, H0 a = some o → NotMut S0 σ a → NT o → H' a = some o) ∧ (∀ p j, MutAt Si σw p j → MutAt S0 σ p j) ∧ (∀ a o, NC o → G a = some o → G0 a = some o ∨ H0 a = none) ∧ (∀ a o, H0 a = some o → ∃ o', H' a = some o')), fun H' q => q, fun x H2 y => ?_⟩
    obtain ⟨d, hdx, q⟩ := it1.yld i H x H2 hi sv.gh y
    -- the item known over a ground G2
    have go : ∀ G2, Ex G G2 → SV X.K F Si G2 σw H2 → Rp G2 x d → G2 D = none → H2 D = some (.lst vs) → Ex H H2 → (∀ a o, NC o → G2 a = some o → G a = some o ∨ H a = none) → rdG X.K F is g x σw H2 fun σ2 H3 => wipe σ2 (own.map (·.2)) = σw ∧ tTb X F scope ifs σ2 H3 fun b H4 =>
        if b = true then tEb X F scope elt σ2 H4 fun y H5 => ∃ acc, H5 D = some (.lst acc) ∧ acc.length < sizeLine ∧ (∃ m', m' < m ∧ (i + 1 + m' = xs.length ∧ ∃ G Si acc' vs, SV X.K F Si G σw (upd H5 D (.lst (acc ++ [y]))) ∧ Ex G0 G ∧ Iv (i + 1) Si acc' ∧ G D = none ∧ (upd H5 D (.lst (acc ++ [y]))) D = some (.lst vs) ∧ Rps G vs acc' ∧
          (∀ a o, H0 a = some o → NotMut S0 σ a → NT o → (upd H5 D (.lst (acc ++ [y]))) a = some o) ∧ (∀ p j, MutAt Si σw p j → MutAt S0 σ p j) ∧ (∀ a o, NC o → G a = some o → G0 a = some o ∨ H0 a = none) ∧ (∀ a o, H0 a = some o → ∃ o', (upd H5 D (.lst (acc ++ [y]))) a = some o')))
        else (∃ m', m' < m ∧ (i + 1 + m' = xs.length ∧ ∃ G Si acc vs, SV X.K F Si G σw H4 ∧ Ex G0 G ∧ Iv (i + 1) Si acc ∧ G D = none ∧ H4 D = some (.lst vs) ∧ Rps G vs acc ∧
          (∀ a o, H0 a = some o → NotMut S0 σ a → NT o → H4 a = some o) ∧ (∀ p j, MutAt Si σw p j → MutAt S0 σ p j) ∧ (∀ a o, NC o → G a = some o → G0 a = some o ∨ H0 a = none) ∧ (∀ a o, H0 a = some o → ∃ o', H4 a = some o'))) := by
      intro G2 e2 sv2 r2 g2 h2 eh nw2
      refine ⟨G2, Si, d, _, sv2, r2, turn i d Si acc hdx iv, fun S3 σ3 ⟨PT, ht, hte⟩ f3 l3 m3 sv3 => ?_⟩
      have f3' : ∀ j, j ∉ own.map (·.2) → σ3[j]? = σw[j]? := fun j hj => f3 j fun z => hj (hsub j z)
      have f3b : ∀ j, j ∉ own.map (·.2) → σw[j]? = σ3[j]? := fun j hj => (f3' j hj).symm
      have ww : wipe σw (own.map (·.2)) = σw := by
        have := wipe_eq (σ := σ) (σ' := σw) (vs := own.map (·.2)) out lw
        rw [hw] at this
        exact this
      have wE : wipe σ3 (own.map (·.2)) = σw := (wipe_eq f3' l3).trans ww
      have nm3 : NotMut S3 σ3 D := fun j mm => nmD j (m3 D j mm)
      refine ⟨wE, S3, PT, ht, G2, sv3, fun t S4 G4 H4 hp4 st4 => ?_⟩
      have hD4 : H4 D = some (.lst vs) := st4.kp D _ h2 nm3 nt_lst
      have gD4 : G4 D = none := by
        cases q : G4 D with
        | none => rfl
        | some o =>
          have eo := st4.sv.gh D o q
          rw [hD4] at eo; cases eo
          rcases st4.nw D _ nc_lst q with z | z
          · rw [g2] at z; cases z
          · rw [h2] at z; cases z
      have nwf : ∀ {Gx Hx : Hp}, (∀ a o, NC o → Gx a = some o → G2 a = some o ∨ H2 a = none) → ∀ a o, NC o → Gx a = some o → G0 a = some o ∨ H0 a = none := fun {Gx Hx} hx a o nc z => by
        have h0n : H2 a = none → H0 a = none := fun z => by
          cases q : H0 a with
          | none => rfl
          | some o' =>
            obtain ⟨o2, z2⟩ := lv a o' q
            rw [eh a o2 z2] at z; cases z
        have h0n' : H a = none → H0 a = none := fun z => by
          cases q : H0 a with
          | none => rfl
          | some o' =>
            obtain ⟨o2, z2⟩ := lv a o' q
            rw [z2] at z; cases z
        rcases hx a o nc z with z | z
        · rcases nw2 a o nc z with z | z
          · exact nw a o nc z
          · exact .inr (h0n' z)
        · exact .inr (h0n z)
      have kpf : ∀ {Hx : Hp}, (∀ a o, H2 a = some o → NotMut S3 σ3 a → NT o → Hx a = some o) → ∀ a o, H0 a = some o → NotMut S0 σ a → NT o → Hx a = some o := fun {Hx} hx a o z nz nt =>
        hx a o (eh a o (kp a o z nz nt)) (fun j mm => nz j (mb a j (m3 a j mm))) nt
      cases t with
      | false =>
        refine iteF ⟨m - 1, by omega, by omega, G4, wipeS S4 (own.map (·.2)), acc, vs, st4.sv.moved f3b (by rw [l3]), (e0.trans e2).trans st4.g, (hte false S4 hp4).2 rfl, gD4, hD4, (rs.mono e2).mono st4.g, kpf st4.kp,
          fun p j mm => ?_, nwf (Hx := H4) st4.nw, fun a o z => ?_⟩
        · obtain ⟨⟨t1, h1, hh⟩, ee⟩ := moved_back f3b mm
          obtain ⟨t2, h3, h4⟩ := st4.less j t1 h1 hh
          exact mb p j (m3 p j ⟨⟨t2, h3, h4⟩, ee⟩)
        · obtain ⟨o1, z1⟩ := lv a o z
          exact st4.lv a o1 (eh a o1 z1)
      | true =>
        obtain ⟨hlen, he⟩ := (hte true S4 hp4).1 rfl
        refine iteT ⟨S4, _, he, G4, st4.sv, fun d5 S5 G5 y H5 hp5 st5 r5 => ?_⟩
        have st := st4.trans st5
        have hD5 : H5 D = some (.lst vs) := st.kp D _ h2 nm3 nt_lst
        have gD5 : G5 D = none := by
          cases q : G5 D with
          | none => rfl
          | some o =>
            have eo := st5.sv.gh D o q
            rw [hD5] at eo; cases eo
            rcases st.nw D _ nc_lst q with z | z
            · rw [g2] at z; cases z
            · rw [h2] at z; cases z
        have rs5 : Rps G5 (vs ++ [y]) (acc ++ [d5]) := Rps.append (((rs.mono e2).mono st4.g).mono st5.g) (.cons r5 .nil)
        have nm5 : NotMut S5 σ3 D := st.less.not nm3
        refine ⟨vs, hD5, by rw [rs.length]; exact hlen, m - 1, by omega, by omega, G5, wipeS S5 (own.map (·.2)), acc ++ [d5], vs ++ [y], (st5.sv.write gD5 nm5 h0D hD5).moved f3b (by rw [l3]), (e0.trans e2).trans st.g, hp5, gD5, upd_same, rs5, fun a o z nz nt => ?_,
          fun p j mm => ?_, nwf (Hx := H5) st.nw, fun a o z => ?_⟩
        · have ne : a ≠ D := ne_of_none z hD
          rw [upd_ne ne]
          exact kpf st.kp a o z nz nt
        · obtain ⟨⟨t1, h1, hh⟩, ee⟩ := moved_back f3b mm
          obtain ⟨t2, h3, h4⟩ := st.less j t1 h1 hh
          exact mb p j (m3 p j ⟨⟨t2, h3, h4⟩, ee⟩)
        · have ne : a ≠ D := ne_of_none z hD
          rw [upd_ne ne]
          obtain ⟨o1, z1⟩ := lv a o z
          exact st.lv a o1 (eh a o1 z1)
    rcases q with ⟨e2, r2⟩ | ⟨p, ys, ds, hn, e2, ex, ed, r2⟩
    · subst e2
      exact go G (Ex.refl G) sv r2 gd hd (Ex.refl H2) fun a o _ z => .inl z
    · subst e2; subst ex; subst ed
      have ne : D ≠ p := ne_of_none hd hn
      exact go _ (Ex.upd (sv.gh.none hn)) (sv.alloc hn) (.tup upd_same (r2.mono (Ex.upd (sv.gh.none hn)))) (by rw [upd_ne ne]; exact gd) (by rw [upd_ne ne]; exact hd) (Ex.upd hn) fun a o _ z => by
        by_cases za : a = p
        · subst za; exact .inr hn
        · rw [upd_ne za] at z; exact .inl z
  · have ei : i = xs.length := by omega
    subst ei
    have svF : SV X.K F (wipeS Si (own.map (·.2))) G σ H := sv.moved out' (by rw [lw])
    refine .inl ⟨it1.stop H sv.gh, k acc _ G D vs H (fin Si acc iv) ⟨e0, kp, fun j sl h1 hm => ?_, svF, lv, nw⟩ gd hD (fun j mm => ?_) hd rs⟩
    · by_cases hj : j ∈ own.map (·.2)
      · have := wipeS_in hj h1
        subst this; cases hm
      · rw [wipeS_out hj] at h1
        have hlt : j < σw.length := by
          rw [← sv.len]; exact (List.getElem?_eq_some_iff.mp h1).1
        have ks := sv.slot j sl h1
        have : ∃ p, σw[j]? = some (some (.ref p)) := by
          cases sl with
          | unk => cases hm
          | val d => cases hm
          | own ds => obtain ⟨p, _, e, _⟩ := ks; exact ⟨p, e⟩
          | row => obtain ⟨p, _, e, _⟩ := ks; exact ⟨p, e⟩
          | fix v => cases hm
          | new d => cases hm
          | ownN ds => obtain ⟨p, _, e, _⟩ := ks; exact ⟨p, e⟩
          | wild n => obtain ⟨p, _, e, _⟩ := ks; exact ⟨p, e⟩
          | hld v a u => cases hm
        obtain ⟨p, ep⟩ := this
        exact (mb p j ⟨⟨sl, h1, hm⟩, ep⟩).1
    · exact nmD j (moved_back out' mm)
/-- [elt for tg in iter if ..] -/
theorem do_lc (own : List (Str × Nat)) (hc : X.calm = true) (hN : X.N.Nodup) (hsub : ∀ j ∈ is, j ∈ own.map (·.2)) (hg : ∀ s H C cl fp, DG (Bk X scope s H C cl fp) F is tg g) (h : DI X F S tg iter (LcI X F scope (own.map (·.2)) g elt ifs P))
    (ok : BlkOk X.N X.env.scope scope own) (hs : ∀ x, foldedSetIterable iter X.env x = pure x := by intro _; rfl) : DO X F S (.ListComp elt [⟨tg, iter, ifs, 0⟩] scope pos) P :=
  do_mk (pe_lc (g := rdG X.K F is g) hc hN h ok hg (tt := tTb X F scope ifs) (fun s H C cl fp => ⟨fun pins s σ H Q I ⟨_, _, h, r⟩ => PTs.run (h _ _ _ _ _) pins s σ H Q I r⟩) (te := tEb X F scope elt) (fun s H C cl fp => ⟨fun pins s σ H Q I ⟨_, _, h, r⟩ => PE.run (h _ _ _ _ _) pins s σ H Q I r⟩) hs)
    fun σ H Q ⟨G, sv, k⟩ => ⟨G, sv, fun xs S0 G0 J H0 hl st0 it => lc_read hsub st0.sv it hl fun ds S' G' p vs H' hp st gp hn nm hh rs => k ds S' G' p vs H' hp (st0.trans st) gp (st0.fresh hn) nm hh rs⟩
/-- x = [..] on one line, x a local -/
theorem ds_setLc (i : Nat) {x : Str} {py spos : Pos} {P : Post} (own : List (Str × Nat)) (hc : X.calm = true) (hN : X.N.Nodup) (hsub : ∀ j ∈ is, j ∈ own.map (·.2)) (hg : ∀ s H C cl fp, DG (Bk X scope s H C cl fp) F is tg g)
    (h : DI X F S tg iter (LcI X F scope (own.map (·.2)) g elt ifs (fun ds S' => P.nx (S'.set i (.own ds))))) (ok : BlkOk X.N X.env.scope scope own) (hsw : swapsWith (.ListComp elt [⟨tg, iter, ifs, 0⟩] scope pos) (some (.Name x py)) spos.line X.env = pure true)
    (hy : X.N[i]? = some x := by rfl) (hyl : X.env.scope.names.lookup x = some .local := by rfl) (hs : ∀ x, foldedSetIterable iter X.env x = pure x := by intro _; rfl) : DS X F S (.Assign [.Name x py] (.ListComp elt [⟨tg, iter, ifs, 0⟩] scope pos) spos) P :=
  ds_mk (ps_setLc (g := rdG X.K F is g) hc hN hy hyl hsw h ok hg (tt := tTb X F scope ifs) (fun s H C cl fp => ⟨fun pins s σ H Q I ⟨_, _, h, r⟩ => PTs.run (h _ _ _ _ _) pins s σ H Q I r⟩) (te := tEb X F scope elt) (fun s H C cl fp => ⟨fun pins s σ H Q I ⟨_, _, h, r⟩ => PE.run (h _ _ _ _ _) pins s σ H Q I r⟩) hs)
    fun D σ H ⟨G, sv, k⟩ => ⟨G, sv, fun xs S0 G0 J H0 hl st0 it => lc_read (Q := fun x H1 => gName i x σ H1 D.nx) hsub st0.sv it hl fun ds S' G' p vs H' hp st gp hn nm hh rs => k.nx _ G' _ H' hp (st0.g.trans st.g) (st.sv.setO gp nm (st0.sv.h0 hn) hh rs)⟩
end
end FW

namespace FW
open PySem PySem.Spec PyProof.Rows L2
variable [Tb]

/-! ### exceptions that are let out -/
/-- an exception: its class, the number that it bears (none: no dict of its own) -/
abbrev Xk := Addr × Option Int
def XSh (x : Xk) (dd : Option Addr) (H H' : Hp) : Prop := match x.2 with
  | none => dd = none
  | some n => ∃ d, dd = some d ∧ H d = none ∧ H' d = some (.xd [(("number" : Str), .int n)])
theorem XSh.back {x : Xk} {dd : Option Addr} {H0 H H' : Hp} (h : XSh x dd H H') (e : ∀ d, H d = none → H0 d = none) : XSh x dd H0 H' := by
  obtain ⟨c, n⟩ := x
  cases n with
  | none => exact h
  | some n => obtain ⟨d, h1, h2, h3⟩ := h; exact ⟨d, h1, e d h2, h3⟩
/-- all that stood stands, tables may be written and stay good -/
structure ExT (H H' : Hp) : Prop where
  k : ∀ a o, H a = some o → NT o → H' a = some o
  l : ∀ a o, H a = some o → ∃ o', H' a = some o'
  t : TabG H H'
theorem ExT.of {H H' : Hp} (e : Ex H H') : ExT H H' := ⟨fun a o h _ => e a o h, fun a o h => ⟨o, e a o h⟩, TabG.of fun a o h _ => e a o h⟩
theorem ExT.trans {H H1 H2 : Hp} (a : ExT H H1) (b : ExT H1 H2) : ExT H H2 := ⟨fun x o h nt => b.k x o (a.k x o h nt) nt, fun x o h => by
  obtain ⟨o', h'⟩ := a.l x o h
  exact b.l x o' h', a.t.trans b.t⟩
structure Keep (F : Fr) (H' : Hp) : Prop where
  b : Ex F.B H'
  k : ∀ a o, some a ≠ F.r → F.H0 a = some o → NT o → H' a = some o
  l : (∀ r, F.r = some r → ∃ o, H' r = some o) ∧ (∀ a o, F.H0 a = some o → ∃ o', H' a = some o') ∧ TabG F.H0 H'
theorem SV.kept {K : PySem.W.Frag} {F : Fr} {S : List Sl} {G H : Hp} {σ : L2.St} (sv : SV K F S G σ H) : Keep F H := ⟨sv.base.trans sv.gh, sv.keep, sv.live⟩
theorem SV.keptX {K : PySem.W.Frag} {F : Fr} {S : List Sl} {G H H' : Hp} {σ : L2.St} (sv : SV K F S G σ H) (g : Ex G H') (e : ExT H H') : Keep F H' := ⟨sv.base.trans g, fun a o ha h0 nt => e.k a o (sv.keep a o ha h0 nt) nt, fun r hr => by
  obtain ⟨o, h⟩ := sv.live.1 r hr
  exact e.l r o h, fun a o h0 => by
  obtain ⟨o', h⟩ := sv.live.2.1 a o h0
  exact e.l a o' h, sv.live.2.2.trans e.t⟩
theorem Keep.ext {F : Fr} {H' : Hp} (k : Keep F H') (hr : F.r = none) : ExT F.H0 H' := ⟨fun a o h nt => k.k a o (fun z => by rw [hr] at z; cases z) h nt, k.l.2.1, k.l.2.2⟩
def Wish (CX : CXT) (X : Cx) (F : Fr) (ex : Xk → Prop) : Prop := ∃ E : XK, Passes CX X E ∧ ∀ x dd H', ex x → Keep F H' → XSh x dd F.H0 H' → E (.ref x.1) dd H'
theorem wish0 {X : Cx} {F : Fr} : Wish CX0 X F (fun _ => False) := ⟨E0, pass0, fun _ _ _ h => h.elim⟩
theorem wishL {X : Cx} {F : Fr} : Wish (L2.CX X.prog X.w) X F (fun _ => False) := ⟨E0, passL, fun _ _ _ h => h.elim⟩

/-! ### promises -/
/-- a def by trees: the arguments, what is wanted of a value, of a new list, of an exception -/
abbrev Zp := List FW.D → (FW.D → Prop) → (List FW.D → Prop) → (Xk → Prop) → Prop
structure PSt (G H G' H' : Hp) : Prop where
  g : Ex G G'
  gh : Ex G' H'
  h : ExT H H'
  nw : ∀ a o, NC o → G' a = some o → G a = some o ∨ H a = none
def spP (Z : Zp) : Sp := fun vs H Q E => ∃ (G : Hp) (ds : List FW.D) (kt : FW.D → Prop) (ko : List FW.D → Prop) (ke : Xk → Prop), Ex G H ∧ Rps G vs ds ∧ Z ds kt ko ke ∧
  (∀ d G' v H', kt d → PSt G H G' H' → Rp G' v d → Q v H') ∧
  (∀ es G' p ws H', ko es → PSt G H G' H' → G' p = none → H p = none → H' p = some (.lst ws) → Rps G' ws es → Q (.ref p) H') ∧
  (∀ x dd H', ke x → Ex G H' → ExT H H' → XSh x dd H H' → E (.ref x.1) dd H')
/-- a def whose first argument is the row -/
structure RSt (K : PySem.W.Frag) (p : Addr) (G H G' H' : Hp) : Prop where
  g : Ex G G'
  gh : Ex G' H'
  gp : G' p = none
  h : ∀ x o, x ≠ p → H x = some o → NT o → H' x = some o
  l : ∀ x o, H x = some o → ∃ o', H' x = some o'
  t : TabG H H'
  nw : ∀ a o, NC o → G' a = some o → G a = some o ∨ H a = none
  row : RowAt K G' H' p
def spR (K : PySem.W.Frag) (Z : Zp) : Sp := fun us H Q E => ∃ (G : Hp) (p : Addr) (vs : List V) (ds : List FW.D) (kt : FW.D → Prop) (ko : List FW.D → Prop),
  us = .ref p :: vs ∧ Ex G H ∧ G p = none ∧ RowAt K G H p ∧ Rps G vs ds ∧ Z ds kt ko (fun _ => False) ∧
  (∀ d G' v H', kt d → RSt K p G H G' H' → Rp G' v d → Q v H') ∧
  (∀ es G' r ws H', ko es → RSt K p G H G' H' → G' r = none → H r = none → H' r = some (.lst ws) → Rps G' ws es → Q (.ref r) H')
/-- a def of the text by its name -/
structure Kn (P : Program) (w : World) (K : PySem.W.Frag) (mg : Str → Option Value) (base : Heap) (CX : CXT) (x : Str) (k : Nat) (sp : Sp) : Prop where
  ex : ∃ f fd ps, FnOk P w K mg base CX k f fd ps sp ∧ mg x = some (.ref f) ∧ PySem.W.keepIn K (.ref f) = true ∧ Binds K fd ps []

section
variable {X : Cx} {F : Fr} {S : List Sl} {e : Expr} {es : List Expr} {P : PD} {pos p : Pos} {x : Str} {k : Nat} {CX : CXT}
theorem stp_of {K : PySem.W.Frag} {σ : L2.St} {G H G' H' : Hp} (sv : SV K F S G σ H) (st : PSt G H G' H') : Stp K F σ S G H S G' H' := by
  have no : ∀ q j, MutAt S σ q j → G' q = none ∧ H' q = H q := fun q j m => by
    obtain ⟨vs, h, g⟩ := sv.mutH m
    refine ⟨?_, (st.h.k _ _ h nt_lst).trans h.symm⟩
    cases z : G' q with
    | none => rfl
    | some o =>
      have eo := st.gh q o z
      rw [(st.h.k _ _ h nt_lst)] at eo; cases eo
      rcases st.nw q _ nc_lst z with z | z
      · rw [g] at z; cases z
      · rw [h] at z; cases z
  exact ⟨st.g, fun a o h _ nt => st.h.k a o h nt, Less.refl S, sv.growT st.g st.gh (fun a o _ h nt => st.h.k a o h nt) st.h.l st.h.t (fun j q m => no q j m) (fun a o nc h => (st.nw a o nc h).imp id fun z => sv.h0 z), st.h.l, st.nw⟩
theorem de_call {Z : Zp} {ex : Xk → Prop} (c : Kn X.prog X.w X.K X.mg X.base CX x k (spP Z)) (hr : Room k X.A) (hw : Wish CX X F ex) (h : DA X F S (e :: es) (fun ds S' => Z ds (fun d => P d S') (fun l => P (.list l) S') ex)) (hg : Gl X x := by rfl)
    (hdb : (x == ("__debug__" : Str)) = false := by decide) (he : starEach (e :: es) X.env = (false, eval e X.env) :: starEach es X.env := by rfl) (hpl : (backTo pos (starEach es X.env)).any (·.1) = false := by rfl) : DE X F S (.Call (.Name x p) (e :: es) [] pos) P := by
  obtain ⟨f, fd, ps, F1, hm, hk, hb⟩ := c.ex
  obtain ⟨E, hx, hE⟩ := hw
  exact de_mk (pe_call F1 hr hg hm hk hb .nil hx h hdb he hpl) fun σ H Q ⟨G, sv, k⟩ => ⟨G, sv, fun ds S' G' vs H' hp st rs => by
    show spP Z (vs ++ []) H' Q E
    rw [List.append_nil]
    refine ⟨G', ds, _, _, _, st.sv.gh, rs, hp, fun d G2 v H2 hk2 ps2 r2 => k d S' G2 v H2 hk2 (st.trans (stp_of st.sv ps2)) r2, fun l G2 q ws H2 hk2 ps2 gq hq hl r2 => ?_, fun x dd H2 hx2 eg eh sh => hE x dd H2 hx2 (st.sv.keptX eg eh) (sh.back fun d => st.sv.h0)⟩
    have st2 := st.trans (stp_of st.sv ps2)
    have nm : NotMut S' σ q := st.sv.fresh hq
    refine k _ S' (upd G2 q (.lst ws)) _ H2 hk2 ⟨st2.g.trans (Ex.upd gq), st2.kp, st2.less, st2.sv.ground gq nm (st.sv.h0 hq) hl, st2.lv, fun a o nc z => ?_⟩ (.lst upd_same (r2.mono (Ex.upd gq)))
    by_cases za : a = q
    · subst za; exact .inr (st.fresh hq)
    · rw [upd_ne za] at z; exact st2.nw a o nc z⟩
theorem do_call {Z : Zp} {ex : Xk → Prop} {P : List FW.D → List Sl → Prop} (c : Kn X.prog X.w X.K X.mg X.base CX x k (spP Z)) (hr : Room k X.A) (hw : Wish CX X F ex) (h : DA X F S (e :: es) (fun ds S' => Z ds (fun _ => False) (fun l => P l S') ex)) (hg : Gl X x := by rfl)
    (hdb : (x == ("__debug__" : Str)) = false := by decide) (he : starEach (e :: es) X.env = (false, eval e X.env) :: starEach es X.env := by rfl) (hpl : (backTo pos (starEach es X.env)).any (·.1) = false := by rfl) : DO X F S (.Call (.Name x p) (e :: es) [] pos) P := by
  obtain ⟨f, fd, ps, F1, hm, hk, hb⟩ := c.ex
  obtain ⟨E, hx, hE⟩ := hw
  exact do_mk (pe_call F1 hr hg hm hk hb .nil hx h hdb he hpl) fun σ H Q ⟨G, sv, k⟩ => ⟨G, sv, fun ds S' G' vs H' hp st rs => by
    show spP Z (vs ++ []) H' Q E
    rw [List.append_nil]
    refine ⟨G', ds, _, _, _, st.sv.gh, rs, hp, fun d G2 v H2 hk2 => hk2.elim, fun l G2 q ws H2 hk2 ps2 gq hq hl r2 => ?_, fun x dd H2 hx2 eg eh sh => hE x dd H2 hx2 (st.sv.keptX eg eh) (sh.back fun d => st.sv.h0)⟩
    exact k l S' G2 q ws H2 hk2 (st.trans (stp_of st.sv ps2)) gq (st.fresh hq) (st.sv.fresh hq) hl r2⟩
/-- .. with the row ahead -/
theorem stp_row {K : PySem.W.Frag} {σ : L2.St} {G H G' H' : Hp} {i : Nat} {q : Addr} (sv : SV K F S G σ H) (hs : S[i]? = some .row) (he : σ[i]? = some (some (.ref q))) (st : RSt K q G H G' H') : Stp K F σ S G H S G' H' := by
  have m : MutAt S σ q i := ⟨⟨_, hs, rfl⟩, he⟩
  obtain ⟨p2, fr, ep, gp, _⟩ := sv.slot i _ hs
  rw [he] at ep; cases ep
  have no : ∀ x j, x ≠ q → MutAt S σ x j → G' x = none ∧ H' x = H x := fun x j ne m => by
    obtain ⟨vs, h, g⟩ := sv.mutH m
    refine ⟨?_, (st.h _ _ ne h nt_lst).trans h.symm⟩
    cases z : G' x with
    | none => rfl
    | some o =>
      have eo := st.gh x o z
      rw [(st.h _ _ ne h nt_lst)] at eo; cases eo
      rcases st.nw x _ nc_lst z with z | z
      · rw [g] at z; cases z
      · rw [h] at z; cases z
  have there : ∃ o, H' q = some o := by
    obtain ⟨_, _, _, _, _, h, _⟩ := st.row
    exact ⟨_, h⟩
  refine ⟨st.g, fun x o h nm nt => st.h x o (fun z => nm i (z ▸ m)) h nt, Less.refl S, ⟨sv.base.trans st.g, st.gh, fun x o hx h0 nt => st.h x o (fun z => hx (by rw [z]; exact fr.symm)) (sv.keep x o hx h0 nt) nt, ⟨fun r hr => ?_, fun x o h0 => ?_, sv.live.2.2.trans st.t⟩, fun x o nc h => (st.nw x o nc h).elim (sv.new x o nc) fun z => .inr (sv.h0 z), fun j sl h => ?_, sv.sep, sv.own0, sv.len, sv.bh⟩, st.l, st.nw⟩
  · obtain ⟨o, h⟩ := sv.live.1 r hr
    exact st.l r o h
  · obtain ⟨o, h⟩ := sv.live.2.1 x o h0
    exact st.l x o h
  · by_cases z : i = j
    · subst z
      rw [hs] at h; cases h
      exact ⟨q, fr, he, st.gp, st.row⟩
    · refine (sv.slot j sl h).mono st.g fun x hx hm => ?_
      have mj : MutAt S σ x j := ⟨⟨sl, h, hm⟩, hx⟩
      exact no x j (fun e => sv.sep i j q z m (e ▸ mj)) mj
theorem de_callR {Z : Zp} (i : Nat) {x0 : Str} {p0 : Pos} (c : Kn X.prog X.w X.K X.mg X.base CX x k (spR X.K Z)) (hr : Room k X.A) (hw : Wish CX X F (fun _ => False))
    (h : DA X F S es (fun ds S' => S'[i]? = some .row ∧ Z ds (fun d => P d S') (fun l => P (.list l) S') (fun _ => False))) (hO : S[i]? = some .row := by rfl) (hg : Gl X x := by rfl)
    (hN : X.N[i]? = some x0 := by rfl) (hv : Vis X.env.scope x0 := by first | exact Or.inl rfl | exact Or.inr (Or.inl rfl) | exact Or.inr (Or.inr rfl)) (hd : (x0 == ("__debug__" : Str)) = false := by decide) (hcd : (x0 == ("__classdict__" : Str)) = false := by decide)
    (hdb : (x == ("__debug__" : Str)) = false := by decide) (he : starEach (.Name x0 p0 :: es) X.env = (false, eval (.Name x0 p0) X.env) :: starEach es X.env := by rfl) (hpl : (backTo pos (starEach es X.env)).any (·.1) = false := by rfl) : DE X F S (.Call (.Name x p) (.Name x0 p0 :: es) [] pos) P := by
  obtain ⟨f, fd, ps, F1, hm, hk, hb⟩ := c.ex
  obtain ⟨E, hx, hE⟩ := hw
  exact de_mk (pe_call F1 hr hg hm hk hb .nil hx (pa_cons (pe_var hN hv hd hcd) h he) hdb he hpl) fun σ H Q ⟨G, sv, k⟩ => by
    obtain ⟨p1, fr1, ep1, gp1, ra1⟩ := sv.slot i _ hO
    refine ⟨.ref p1, ep1, G, sv, fun ds S' G' vs H' ⟨hs, hp⟩ st rs => ?_⟩
    show spR X.K Z (.ref p1 :: vs ++ []) H' Q E
    rw [List.append_nil]
    obtain ⟨p2, fr2, ep2, gp2, ra2⟩ := st.sv.slot i _ hs
    rw [ep1] at ep2; cases ep2
    refine ⟨G', p1, vs, ds, _, _, rfl, st.sv.gh, gp2, ra2, rs, hp, fun d G2 v H2 hk2 ps2 r2 => k d _ G2 v H2 hk2 (st.trans (stp_row st.sv hs ep1 ps2)) r2, fun l G2 q ws H2 hk2 ps2 gq hq hl r2 => ?_⟩
    have st2 := st.trans (stp_row st.sv hs ep1 ps2)
    have nm : NotMut S' σ q := st.sv.fresh hq
    refine k _ _ (upd G2 q (.lst ws)) _ H2 hk2 ⟨st2.g.trans (Ex.upd gq), st2.kp, st2.less, st2.sv.ground gq nm (st.sv.h0 hq) hl, st2.lv, fun a o nc z => ?_⟩ (.lst upd_same (r2.mono (Ex.upd gq)))
    by_cases za : a = q
    · subst za; exact .inr (st.fresh hq)
    · rw [upd_ne za] at z; exact st2.nw a o nc z
theorem do_callR {Z : Zp} {P : List FW.D → List Sl → Prop} (i : Nat) {x0 : Str} {p0 : Pos} (c : Kn X.prog X.w X.K X.mg X.base CX x k (spR X.K Z)) (hr : Room k X.A) (hw : Wish CX X F (fun _ => False))
    (h : DA X F S es (fun ds S' => S'[i]? = some .row ∧ Z ds (fun _ => False) (fun l => P l S') (fun _ => False))) (hO : S[i]? = some .row := by rfl) (hg : Gl X x := by rfl)
    (hN : X.N[i]? = some x0 := by rfl) (hv : Vis X.env.scope x0 := by first | exact Or.inl rfl | exact Or.inr (Or.inl rfl) | exact Or.inr (Or.inr rfl)) (hd : (x0 == ("__debug__" : Str)) = false := by decide) (hcd : (x0 == ("__classdict__" : Str)) = false := by decide)
    (hdb : (x == ("__debug__" : Str)) = false := by decide) (he : starEach (.Name x0 p0 :: es) X.env = (false, eval (.Name x0 p0) X.env) :: starEach es X.env := by rfl) (hpl : (backTo pos (starEach es X.env)).any (·.1) = false := by rfl) : DO X F S (.Call (.Name x p) (.Name x0 p0 :: es) [] pos) P := by
  obtain ⟨f, fd, ps, F1, hm, hk, hb⟩ := c.ex
  obtain ⟨E, hx, hE⟩ := hw
  exact do_mk (pe_call F1 hr hg hm hk hb .nil hx (pa_cons (pe_var hN hv hd hcd) h he) hdb he hpl) fun σ H Q ⟨G, sv, k⟩ => by
    obtain ⟨p1, fr1, ep1, gp1, ra1⟩ := sv.slot i _ hO
    refine ⟨.ref p1, ep1, G, sv, fun ds S' G' vs H' ⟨hs, hp⟩ st rs => ?_⟩
    show spR X.K Z (.ref p1 :: vs ++ []) H' Q E
    rw [List.append_nil]
    obtain ⟨p2, fr2, ep2, gp2, ra2⟩ := st.sv.slot i _ hs
    rw [ep1] at ep2; cases ep2
    refine ⟨G', p1, vs, ds, _, _, rfl, st.sv.gh, gp2, ra2, rs, hp, fun d G2 v H2 hk2 => hk2.elim, fun l G2 q ws H2 hk2 ps2 gq hq hl r2 => ?_⟩
    exact k l _ G2 q ws H2 hk2 (st.trans (stp_row st.sv hs ep1 ps2)) gq (st.fresh hq) (st.sv.fresh hq) hl r2
end

/-! ### a def keeps its promise by its body -/
def sl0 (N : List Str) (ds : List FW.D) : List Sl := ds.map Sl.val ++ List.replicate (N.length - ds.length) .unk
theorem getElem?_replicate_unk {n i : Nat} {sl : Sl} (h : (List.replicate n Sl.unk)[i]? = some sl) : sl = .unk := by
  have := List.mem_of_getElem? h
  exact (List.mem_replicate.mp this).2
section
variable {P : Program} {w : World} {K : PySem.W.Frag} {mg : Str → Option Value} {base : Heap} {CX : CXT}
theorem sv_start {N : List Str} {vs : List V} {ds : List FW.D} {G H : Hp} (hN : ds.length ≤ N.length) (e : Ex G H) (r : Rps G vs ds) : SV K ⟨G, H, none⟩ (sl0 N ds) G (L2.start N vs) H := by
  have hl := r.length
  have no : ∀ {p j}, ¬ MutAt (sl0 N ds) (L2.start N vs) p j := fun {p j} ⟨⟨t, h1, h2⟩, _⟩ => by
    unfold sl0 at h1
    by_cases hj : j < (ds.map Sl.val).length
    · rw [List.getElem?_append_left hj, List.getElem?_map] at h1
      cases q : ds[j]? with
      | none => rw [q] at h1; cases h1
      | some d => rw [q] at h1; cases h1; cases h2
    · rw [List.getElem?_append_right (by omega)] at h1
      have := getElem?_replicate_unk h1
      subst this; cases h2
  refine ⟨Ex.refl G, e, fun a o _ h _ => h, ⟨fun r hr => (by cases hr), fun a o h => ⟨o, h⟩, TabG.refl H⟩, fun a o _ h => .inl h, fun i sl h => ?_, fun i j p _ a _ => no a, fun i es p h _ => ?_, ?_, e⟩
  · unfold sl0 at h
    by_cases hj : i < (ds.map Sl.val).length
    · rw [List.getElem?_append_left hj, List.getElem?_map] at h
      cases q : ds[i]? with
      | none => rw [q] at h; cases h
      | some d =>
        rw [q] at h; cases h
        obtain ⟨v, hv, rv⟩ := r.get q
        refine ⟨v, ?_, rv⟩
        unfold L2.start
        have hlt : i < (vs.map some).length := by
          rw [List.length_map] at hj ⊢
          omega
        rw [List.getElem?_append_left hlt, List.getElem?_map, hv]; rfl
    · rw [List.getElem?_append_right (by omega)] at h
      have := getElem?_replicate_unk h
      subst this; trivial
  · exfalso
    unfold sl0 at h
    by_cases hj : i < (ds.map Sl.val).length
    · rw [List.getElem?_append_left hj, List.getElem?_map] at h
      cases q : ds[i]? with
      | none => rw [q] at h; cases h
      | some d => rw [q] at h; cases h
    · rw [List.getElem?_append_right (by omega)] at h
      have := getElem?_replicate_unk h
      cases this
  · unfold sl0 L2.start
    simp only [List.length_append, List.length_map, List.length_replicate]
    omega
/-- what a body is to hand back -/
def postP (kt : FW.D → Prop) (ko : List FW.D → Prop) : Post := ⟨fun _ => kt .none, fun d _ => kt d, fun l _ => ko l, fun _ => False, fun _ => False, fun _ _ => False⟩
theorem ends_P {Z : Zp} {G H : Hp} {Q : VK} {kt : FW.D → Prop} {ko : List FW.D → Prop} (h1 : ∀ d G' v H', kt d → PSt G H G' H' → Rp G' v d → Q v H')
    (h2 : ∀ es G' p ws H', ko es → PSt G H G' H' → G' p = none → H p = none → H' p = some (.lst ws) → Rps G' ws es → Q (.ref p) H') : Ends' K ⟨G, H, none⟩ (postP kt ko) { nx := fun _ H' => Q .non H', rt := Q } G := by
  have pst : ∀ {S' G' σ' H'}, SV K ⟨G, H, none⟩ S' G' σ' H' → Ex G G' → PSt G H G' H' := fun {S' G' σ' H'} sv ex => ⟨ex, sv.gh, sv.kept.ext rfl, sv.new⟩
  exact ⟨fun S' G' σ' H' hp ex sv => h1 _ G' _ H' hp (pst sv ex) .non, fun d S' G' σ' v H' hp ex sv r => h1 d G' v H' hp (pst sv ex) r, fun es S' G' σ' p ws H' hp ex sv gp h0 hl r => h2 es G' p ws H' hp (pst sv ex) gp h0 hl r, fun _ _ _ _ h => h.elim, fun _ _ _ _ h => h.elim, fun _ _ _ _ _ _ h => h.elim⟩
theorem fn_ok {x qual : Str} {st : Stmt} {f : Addr} {fd : FuncData} {N ps : List Str} {k : Nat} {Z : Zp} (F : Fun K x qual st f fd) (S : FnScope N ps (defScope st)) (hlen : ∀ ds kt ko ke, Z ds kt ko ke → ds.length = ps.length) (hNl : ps.length ≤ N.length)
    (hb : ∀ (cdv : Value) (A : Around) (outer : List Env) (s : Shared) (H : Hp) (E : XK) (Fm : Fr) (ds : List FW.D) (kt : FW.D → Prop) (ko : List FW.D → Prop) (ke : Xk → Prop), Room k (A.deeper (envOfC qual (defScope st) s.heap.objs.size f cdv)) → Fm.r = none → Z ds kt ko ke →
      DB (cxOf CX0 P w K mg base N qual (defScope st) f cdv A outer s H E).nox Fm (sl0 N ds) (defBody st) (postP kt ko)) : FnOk P w K mg base CX0 (k + 1) f fd ps (spP Z) := by
  refine F.ok S (fun vs H Q E h => ?_) (fun cdv A outer s H vs Q E hr h => ?_)
  · obtain ⟨G, ds, kt, ko, ke, e, r, z, _⟩ := h
    rw [r.length]; exact hlen ds kt ko ke z
  · obtain ⟨G, ds, kt, ko, ke, e, r, z, h1, h2, h3⟩ := h
    have hl := hlen ds kt ko ke z
    exact ⟨_, hb cdv A outer s H E ⟨G, H, none⟩ ds kt ko ke hr rfl z, G, sv_start (by omega) e r, ends_P (Z := Z) h1 h2⟩
/-- a def that may raise -/
theorem fn_okX {x qual : Str} {st : Stmt} {f : Addr} {fd : FuncData} {N ps : List Str} {k : Nat} {Z : Zp} (F : Fun K x qual st f fd) (S : FnScope N ps (defScope st)) (hlen : ∀ ds kt ko ke, Z ds kt ko ke → ds.length = ps.length) (hNl : ps.length ≤ N.length)
    (hb : ∀ (cdv : Value) (A : Around) (outer : List Env) (s : Shared) (H : Hp) (E : XK) (Fm : Fr) (ds : List FW.D) (kt : FW.D → Prop) (ko : List FW.D → Prop) (ke : Xk → Prop), Room k (A.deeper (envOfC qual (defScope st) s.heap.objs.size f cdv)) → Fm.r = none → Z ds kt ko ke →
      (∀ x dd H', ke x → Keep Fm H' → XSh x dd Fm.H0 H' → E (.ref x.1) dd H') →
      DB (cxOf (L2.CX P w) P w K mg base N qual (defScope st) f cdv A outer s H E) Fm (sl0 N ds) (defBody st) (postP kt ko)) : FnOk P w K mg base (L2.CX P w) (k + 1) f fd ps (spP Z) := by
  refine F.okX S (fun vs H Q E h => ?_) (fun cdv A outer s H vs Q E hr h => ?_)
  · obtain ⟨G, ds, kt, ko, ke, e, r, z, _⟩ := h
    rw [r.length]; exact hlen ds kt ko ke z
  · obtain ⟨G, ds, kt, ko, ke, e, r, z, h1, h2, h3⟩ := h
    have hl := hlen ds kt ko ke z
    exact ⟨_, hb cdv A outer s H E ⟨G, H, none⟩ ds kt ko ke hr rfl z (fun x dd H' hx kp sh => h3 x dd H' hx kp.b (kp.ext rfl) sh), G, sv_start (by omega) e r, ends_P (Z := Z) h1 h2⟩
/-! ### .. with the row first -/
def slR (N : List Str) (ds : List FW.D) : List Sl := .row :: (ds.map Sl.val ++ List.replicate (N.length - (ds.length + 1)) .unk)
theorem sv_startR {N : List Str} {vs : List V} {ds : List FW.D} {G H : Hp} {p : Addr} (hN : ds.length + 1 ≤ N.length) (e : Ex G H) (gp : G p = none) (ra : RowAt K G H p) (r : Rps G vs ds) :
    SV K ⟨G, H, some p⟩ (slR N ds) G (L2.start N (.ref p :: vs)) H := by
  have hl := r.length
  have no : ∀ {x j}, MutAt (slR N ds) (L2.start N (.ref p :: vs)) x j → j = 0 := fun {x j} ⟨⟨t, h1, h2⟩, _⟩ => by
    unfold slR at h1
    cases j with
    | zero => rfl
    | succ j =>
      exfalso
      rw [List.getElem?_cons_succ] at h1
      by_cases hj : j < (ds.map Sl.val).length
      · rw [List.getElem?_append_left hj, List.getElem?_map] at h1
        cases q : ds[j]? with
        | none => rw [q] at h1; cases h1
        | some d => rw [q] at h1; cases h1; cases h2
      · rw [List.getElem?_append_right (by omega)] at h1
        have := getElem?_replicate_unk h1
        subst this; cases h2
  have ra' := ra
  obtain ⟨_, _, _, _, _, hp, _⟩ := ra'
  refine ⟨Ex.refl G, e, fun x o _ h _ => h, ⟨fun r hr => (by cases hr; exact ⟨_, hp⟩), fun a o h => ⟨o, h⟩, TabG.refl H⟩, fun x o _ h => .inl h, fun i sl h => ?_, fun i j x ne ma mb => ne ((no ma).trans (no mb).symm), fun i es x h _ => ?_, ?_, e⟩
  · unfold slR at h
    cases i with
    | zero =>
      simp at h; subst h
      exact ⟨p, rfl, rfl, gp, ra⟩
    | succ i =>
      rw [List.getElem?_cons_succ] at h
      have e1 : (L2.start N (.ref p :: vs))[i + 1]? = (vs.map some ++ List.replicate (N.length - (vs.length + 1)) none)[i]? := rfl
      rw [e1]
      by_cases hj : i < (ds.map Sl.val).length
      · rw [List.getElem?_append_left hj, List.getElem?_map] at h
        cases q : ds[i]? with
        | none => rw [q] at h; cases h
        | some d =>
          rw [q] at h; cases h
          obtain ⟨v, hv, rv⟩ := r.get q
          refine ⟨v, ?_, rv⟩
          have hlt : i < (vs.map some).length := by
            rw [List.length_map] at hj ⊢
            omega
          rw [List.getElem?_append_left hlt, List.getElem?_map, hv]; rfl
      · rw [List.getElem?_append_right (by omega)] at h
        have := getElem?_replicate_unk h
        subst this; trivial
  · exfalso
    unfold slR at h
    cases i with
    | zero => simp at h
    | succ i =>
      rw [List.getElem?_cons_succ] at h
      by_cases hj : i < (ds.map Sl.val).length
      · rw [List.getElem?_append_left hj, List.getElem?_map] at h
        cases q : ds[i]? with
        | none => rw [q] at h; cases h
        | some d => rw [q] at h; cases h
      · rw [List.getElem?_append_right (by omega)] at h
        have := getElem?_replicate_unk h
        cases this
  · unfold slR L2.start
    simp only [List.length_append, List.length_map, List.length_replicate, List.length_cons]
    omega
def postR (kt : FW.D → Prop) (ko : List FW.D → Prop) : Post :=
  ⟨fun S => S[0]? = some .row ∧ kt .none, fun d S => S[0]? = some .row ∧ kt d, fun l S => S[0]? = some .row ∧ ko l, fun _ => False, fun _ => False, fun _ _ => False⟩
theorem fn_okR {x qual : Str} {st : Stmt} {f : Addr} {fd : FuncData} {N ps : List Str} {k : Nat} {Z : Zp} (F : Fun K x qual st f fd) (S : FnScope N ps (defScope st)) (hlen : ∀ ds kt ko ke, Z ds kt ko ke → ds.length + 1 = ps.length) (hNl : ps.length ≤ N.length)
    (hb : ∀ (cdv : Value) (A : Around) (outer : List Env) (s : Shared) (H : Hp) (E : XK) (Fm : Fr) (ds : List FW.D) (kt : FW.D → Prop) (ko : List FW.D → Prop), Room k (A.deeper (envOfC qual (defScope st) s.heap.objs.size f cdv)) → Z ds kt ko (fun _ => False) →
      DB (cxOf CX0 P w K mg base N qual (defScope st) f cdv A outer s H E).nox Fm (slR N ds) (defBody st) (postR kt ko)) : FnOk P w K mg base CX0 (k + 1) f fd ps (spR K Z) := by
  refine F.ok S (fun vs H Q E h => ?_) (fun cdv A outer s H vs Q E hr h => ?_)
  · obtain ⟨G, p, vs', ds, kt, ko, rfl, e, gp, ra, r, z, _⟩ := h
    rw [List.length_cons, r.length]; exact hlen ds kt ko _ z
  · obtain ⟨G, p, vs', ds, kt, ko, rfl, e, gp, ra, r, z, h1, h2⟩ := h
    have hl := hlen ds kt ko _ z
    refine ⟨_, hb cdv A outer s H E ⟨G, H, some p⟩ ds kt ko hr z, G, sv_startR (by omega) e gp ra r, ?_⟩
    have rst : ∀ {S' G' σ' H'}, SV K ⟨G, H, some p⟩ S' G' σ' H' → Ex G G' → S'[0]? = some .row → RSt K p G H G' H' := fun {S' G' σ' H'} sv ex hs => by
      obtain ⟨p2, fr, _, gp2, ra2⟩ := sv.slot 0 _ hs
      cases fr
      exact ⟨ex, sv.gh, gp2, fun x o ne h nt => sv.keep x o (fun z => ne (by cases z; rfl)) h nt, sv.live.2.1, sv.live.2.2, sv.new, ra2⟩
    exact ⟨fun S' G' σ' H' ⟨hs, hp⟩ ex sv => h1 _ G' _ H' hp (rst sv ex hs) .non, fun d S' G' σ' v H' ⟨hs, hp⟩ ex sv r => h1 d G' v H' hp (rst sv ex hs) r,
      fun es S' G' σ' p ws H' ⟨hs, hp⟩ ex sv gp h0 hl r => h2 es G' p ws H' hp (rst sv ex hs) gp h0 hl r, fun _ _ _ _ h => h.elim, fun _ _ _ _ h => h.elim, fun _ _ _ _ _ _ h => h.elim⟩
/-- .. by its raw reading -/
theorem fn_rawR {x qual : Str} {st : Stmt} {f : Addr} {fd : FuncData} {N ps : List Str} {k : Nat} {Z : Zp} (F : Fun K x qual st f fd) (S : FnScope N ps (defScope st)) (hlen : ∀ ds kt ko ke, Z ds kt ko ke → ds.length + 1 = ps.length)
    (hb : ∀ (cdv : Value) (A : Around) (outer : List Env) (s : Shared) (H : Hp) (vs : List V) (Q : VK) (E : XK), Room k (A.deeper (envOfC qual (defScope st) s.heap.objs.size f cdv)) → spR K Z vs H Q E →
      ∃ t, PSs (cxOf CX0 P w K mg base N qual (defScope st) f cdv A outer s H E).nox (defBody st) t ∧ t { nx := fun _ H' => Q .non H', rt := Q } (L2.start N vs) H) : FnOk P w K mg base CX0 (k + 1) f fd ps (spR K Z) := by
  refine F.ok S (fun vs H Q E h => ?_) hb
  obtain ⟨G, p, vs', ds, kt, ko, rfl, e, gp, ra, r, z, _⟩ := h
  rw [List.length_cons, r.length]; exact hlen ds kt ko _ z
/-! ### the law -/
def spLaw (K : PySem.W.Frag) : Sp := fun vs H Q _ => ∃ (a : Addr) (ns : List Int), vs = [.ref a] ∧ SqL K H a (ns.map V.int) ∧ ns.length ≤ 63 ∧ ∀ H', Q (.bl true) H'
def postL : Post := ⟨fun _ => False, fun d _ => d = .bool true, fun _ _ => False, fun _ => False, fun _ => False, fun _ _ => False⟩
def tSsA (X : Cx) (sts : List Stmt) : TS := fun D σ H => ∃ F S P, DB X F S sts P ∧ rdS X.K F S P D σ H
theorem pss_anyA {X : Cx} {sts : List Stmt} : PSs X sts (tSsA X sts) := ⟨fun pins s σ H D I ⟨_, _, _, h, r⟩ => PSs.run h pins s σ H D I r⟩
abbrev tRow : TS := tAsg (tLst (tCons (tVar 0) (tCons (tC (.int 0)) (tCons (tC (.int 0)) (tCons (tC (.int 0)) tNil))))) (gName 1)
theorem fn_law {st s0 : Stmt} {rest : List Stmt} {f : Addr} {fd : FuncData} {N : List Str} {k n : Nat} (F : Fun K "law" "law" st f fd) (S : FnScope N ["_law_script"] (defScope st)) (hbd : defBody st = s0 :: rest) (hN : N.length = n + 2)
    (h0 : ∀ (cdv : Value) (A : Around) (outer : List Env) (s : Shared) (H : Hp) (E : XK), PS (cxOf CX0 P w K mg base N "law" (defScope st) f cdv A outer s H E).nox s0 tRow)
    (hb : ∀ (cdv : Value) (A : Around) (outer : List Env) (s : Shared) (H : Hp) (E : XK) (Fm : Fr), Room k (A.deeper (envOfC "law" (defScope st) s.heap.objs.size f cdv)) →
      DB (cxOf CX0 P w K mg base N "law" (defScope st) f cdv A outer s H E).nox Fm (.unk :: .row :: List.replicate n .unk) rest postL) : FnOk P w K mg base CX0 (k + 1) f fd ["_law_script"] (spLaw K) := by
  refine F.ok S (fun vs H Q E h => ?_) (fun cdv A outer s H vs Q E hr h => ?_)
  · obtain ⟨a, ns, rfl, _⟩ := h; rfl
  · obtain ⟨a, ns, rfl, hS, hlen, q⟩ := h
    refine ⟨tSeq tRow (tSsA (cxOf CX0 P w K mg base N "law" (defScope st) f cdv A outer s H E).nox rest), ?_, ?_⟩
    · rw [hbd]; exact pss_cons (h0 cdv A outer s H E) pss_anyA
    · refine ⟨.ref a, rfl, by show 4 ≤ sizeLine; decide, fun p hp => ?_⟩
      have e1 : Ex H (upd H p (.lst [.ref a, .int 0, .int 0, .int 0])) := Ex.upd hp
      refine ⟨⟨H, upd H p (.lst [.ref a, .int 0, .int 0, .int 0]), some p⟩, _, _, hb cdv A outer s H E _ hr, H, ?_, ?_⟩
      · have hst : (L2.start N [.ref a]).set 1 (some (.ref p)) = some (.ref a) :: some (.ref p) :: List.replicate n none := by
          unfold L2.start
          have : N.length - [V.ref a].length = n + 1 := by rw [hN]; rfl
          rw [this, List.replicate_succ]
          rfl
        have only : ∀ {x j}, MutAt (.unk :: .row :: List.replicate n .unk) (some (.ref a) :: some (.ref p) :: List.replicate n none) x j → j = 1 := fun {x j} ⟨⟨t, h1, h2⟩, _⟩ => by
          match j, h1 with
          | 0, h1 => simp at h1; subst h1; cases h2
          | 1, _ => rfl
          | j + 2, h1 =>
            exfalso
            have h1' : (List.replicate n Sl.unk)[j]? = some t := h1
            have := getElem?_replicate_unk h1'
            subst this; cases h2
        show SV K _ _ H ((L2.start N [.ref a]).set 1 (some (.ref p))) _
        rw [hst]
        refine ⟨Ex.refl H, e1, fun x o _ h _ => h, ⟨fun r hr => (by cases hr; exact ⟨_, upd_same⟩), fun a o h => ⟨o, h⟩, TabG.refl _⟩, fun x o _ h => .inl h, fun i sl h => ?_, fun i j x ne ma mb => ne ((only ma).trans (only mb).symm), fun i es x h _ => ?_, ?_, e1⟩
        · match i, h with
          | 0, h => simp at h; subst h; trivial
          | 1, h => simp at h; subst h; exact ⟨p, rfl, rfl, hp, a, ns, 0, 0, 0, upd_same, hS, ⟨hlen, by decide, by decide, by decide, by decide⟩⟩
          | i + 2, h =>
            have h1' : (List.replicate n Sl.unk)[i]? = some sl := h
            have := getElem?_replicate_unk h1'
            subst this; trivial
        · exfalso
          match i, h with
          | 0, h => simp at h
          | 1, h => simp at h
          | i + 2, h =>
            have h1' : (List.replicate n Sl.unk)[i]? = some (.own es) := h
            have := getElem?_replicate_unk h1'
            cases this
        · simp
      · exact ⟨fun _ _ _ _ h => h.elim, fun d S' G' σ' v H' hd ex sv r => by
          have hd : d = .bool true := hd
          subst hd
          cases r
          exact q H', fun _ _ _ _ _ _ _ h => h.elim, fun _ _ _ _ h => h.elim, fun _ _ _ _ h => h.elim, fun _ _ _ _ _ _ h => h.elim⟩
end
end FW

namespace FW
open PySem PySem.Spec PyProof.Rows L2
variable [Tb]

/-- the built-in names that the top does not hide -/
structure BT (mg : Str → Option Value) : Prop where
  len : mg "len" = none
  range : mg "range" = none
  sorted : mg "sorted" = none
  set : mg "set" = none
  tuple : mg "tuple" = none
  list : mg "list" = none
  min : mg "min" = none
  max : mg "max" = none
  abs : mg "abs" = none
  sum : mg "sum" = none
  int : mg "int" = none
  str : mg "str" = none
  bool : mg "bool" = none
  zip : mg "zip" = none
  reversed : mg "reversed" = none
  isinstance : mg "isinstance" = none

section
variable {X : Cx} {F : Fr} {S : List Sl} {e a b tg iter : Expr} {P : PD} {PO : List FW.D → List Sl → Prop} {pos p : Pos}
/-! ### len, abs, max, min, int, str, sum -/
theorem de_len (B : BT X.mg) (h : DE X F S e (fun d S' => ∃ ds, Sq d ds ∧ P (.int ds.length) S')) (hg : Gl X "len" := by rfl) (he : starEach (e :: []) X.env = (false, eval e X.env) :: starEach [] X.env := by rfl) (hpl : (backTo pos (starEach [] X.env)).any (·.1) = false := by rfl) : DE X F S (.Call (.Name "len" p) [e] [] pos) P :=
  de_callB call_len_seq B.len PySem.boot_len (da_cons (h.imp fun d S' ⟨ds, sq, hp⟩ => da_nil fun vs G σ H Q sv r k => by
    cases r with
    | cons r1 r2 =>
      cases r2
      obtain ⟨p, xs, rfl, hq, rs⟩ := rp_sq (K := X.K) sv.gh sq r1
      exact ⟨p, xs, rfl, hq, by rw [rs.length]; exact k _ S' G _ H hp (.refl sv) (.int _)⟩) he) hg (by decide) (by decide) he hpl
theorem de_lenS (B : BT X.mg) (h : DE X F S e (fun d S' => ∃ z, d = .str z ∧ z.length ≤ sizeLine ∧ P (.int z.length) S')) (hg : Gl X "len" := by rfl) (he : starEach (e :: []) X.env = (false, eval e X.env) :: starEach [] X.env := by rfl) (hpl : (backTo pos (starEach [] X.env)).any (·.1) = false := by rfl) : DE X F S (.Call (.Name "len" p) [e] [] pos) P :=
  de_callB call_len_str B.len PySem.boot_len (da_cons (h.imp fun d S' ⟨z, ed, hl, hp⟩ => da_nil fun vs G σ H Q sv r k => by
    subst ed
    cases r with
    | cons r1 r2 => cases r1; cases r2; exact ⟨z, rfl, hl, k _ S' G _ H hp (.refl sv) (.int _)⟩) he) hg (by decide) (by decide) he hpl
theorem de_abs (B : BT X.mg) (h : DE X F S e (fun d S' => ∃ i, d = .int i ∧ P (.int (if i < 0 then -i else i)) S')) (hg : Gl X "abs" := by rfl) (he : starEach (e :: []) X.env = (false, eval e X.env) :: starEach [] X.env := by rfl) (hpl : (backTo pos (starEach [] X.env)).any (·.1) = false := by rfl) : DE X F S (.Call (.Name "abs" p) [e] [] pos) P :=
  de_callB call_abs B.abs (by decide +kernel) (da_cons (h.imp fun d S' ⟨i, ed, hp⟩ => da_nil fun vs G σ H Q sv r k => by
    subst ed
    cases r with
    | cons r1 r2 => cases r1; cases r2; exact ⟨i, rfl, k _ S' G _ H hp (.refl sv) (.int _)⟩) he) hg (by decide) (by decide) he hpl
theorem de_max2 (B : BT X.mg) (hc : X.calm = true) (h : DA X F S (a :: [b]) (fun ds S' => ∃ i j, ds = [.int i, .int j] ∧ P (.int (if j > i then j else i)) S')) (hg : Gl X "max" := by rfl) (he : starEach (a :: [b]) X.env = (false, eval a X.env) :: starEach [b] X.env := by rfl) (hpl : (backTo pos (starEach [b] X.env)).any (·.1) = false := by rfl) : DE X F S (.Call (.Name "max" p) [a, b] [] pos) P :=
  de_callB (call_max2 hc) B.max (by decide +kernel) (da_mk h fun σ H Q ⟨G, sv, k⟩ => ⟨G, sv, fun ds S' G' vs H' ⟨i, j, ed, hp⟩ st rs => k ds S' G' vs H' (fun vs G σ H Q sv r k => by
    subst ed
    cases r with
    | cons r1 r2 => cases r1; cases r2 with | cons r3 r4 => cases r3; cases r4; exact ⟨i, j, rfl, k _ S' G _ H hp (.refl sv) (.int _)⟩) st rs⟩) hg (by decide) (by decide) he hpl
theorem de_min2 (B : BT X.mg) (hc : X.calm = true) (h : DA X F S (a :: [b]) (fun ds S' => ∃ i j, ds = [.int i, .int j] ∧ P (.int (if j < i then j else i)) S')) (hg : Gl X "min" := by rfl) (he : starEach (a :: [b]) X.env = (false, eval a X.env) :: starEach [b] X.env := by rfl) (hpl : (backTo pos (starEach [b] X.env)).any (·.1) = false := by rfl) : DE X F S (.Call (.Name "min" p) [a, b] [] pos) P :=
  de_callB (call_min2 hc) B.min (by decide +kernel) (da_mk h fun σ H Q ⟨G, sv, k⟩ => ⟨G, sv, fun ds S' G' vs H' ⟨i, j, ed, hp⟩ st rs => k ds S' G' vs H' (fun vs G σ H Q sv r k => by
    subst ed
    cases r with
    | cons r1 r2 => cases r1; cases r2 with | cons r3 r4 => cases r3; cases r4; exact ⟨i, j, rfl, k _ S' G _ H hp (.refl sv) (.int _)⟩) st rs⟩) hg (by decide) (by decide) he hpl
/-- int(flag) -/
theorem de_intB (B : BT X.mg) (h : DE X F S e (fun d S' => B1 d fun k => P (.int (if k then 1 else 0)) S')) (hg : Gl X "int" := by rfl) (he : starEach (e :: []) X.env = (false, eval e X.env) :: starEach [] X.env := by rfl) (hpl : (backTo pos (starEach [] X.env)).any (·.1) = false := by rfl) : DE X F S (.Call (.Name "int" p) [e] [] pos) P :=
  de_callT call_int1 B.int (by decide +kernel) (da_cons (h.imp fun d S' ⟨i, ed, hp⟩ => da_nil fun vs G σ H Q sv r k => by
    subst ed
    cases r with
    | cons r1 r2 => cases r1; cases r2; exact .inr ⟨i, rfl, k _ S' G _ H hp (.refl sv) (.int _)⟩) he) hg (by decide) (by decide) he hpl
theorem de_strI (B : BT X.mg) (h : DE X F S e (fun d S' => ∃ i, d = .int i ∧ i.natAbs.log2 < 1920 ∧ P (.str (toString i)) S')) (hg : Gl X "str" := by rfl) (he : starEach (e :: []) X.env = (false, eval e X.env) :: starEach [] X.env := by rfl) (hpl : (backTo pos (starEach [] X.env)).any (·.1) = false := by rfl) : DE X F S (.Call (.Name "str" p) [e] [] pos) P :=
  de_callT call_str_int B.str (by decide +kernel) (da_cons (h.imp fun d S' ⟨i, ed, hl, hp⟩ => da_nil fun vs G σ H Q sv r k => by
    subst ed
    cases r with
    | cons r1 r2 => cases r1; cases r2; exact ⟨i, rfl, hl, k _ S' G _ H hp (.refl sv) (.str _)⟩) he) hg (by decide) (by decide) he hpl
theorem de_sum (B : BT X.mg) (hc : X.calm = true) (h : DE X F S e (fun d S' => ∃ ns : List Int, d = .list (ns.map .int) ∧ P (.int ns.sum) S')) (hg : Gl X "sum" := by rfl) (he : starEach (e :: []) X.env = (false, eval e X.env) :: starEach [] X.env := by rfl) (hpl : (backTo pos (starEach [] X.env)).any (·.1) = false := by rfl) : DE X F S (.Call (.Name "sum" p) [e] [] pos) P :=
  de_callB (cr_sum hc) B.sum (by decide +kernel) (da_cons (h.imp fun d S' ⟨ns, ed, hp⟩ => da_nil fun vs G σ H Q sv r k => by
    subst ed
    cases r with
    | cons r1 r2 => cases r2; cases r1 with | lst hl rs => have e := rs.ints; subst e; exact ⟨_, ns, rfl, SqL.of (sv.gh _ _ hl), k _ S' G _ H hp (.refl sv) (.int _)⟩) he) hg (by decide) (by decide) he hpl
/-- max(xs), min(xs), xs ints in a list or a tuple: here lists -/
theorem de_maxL (B : BT X.mg) (hc : X.calm = true) (h : DE X F S e (fun d S' => ∃ ns : List Int, d = .list (ns.map .int) ∧ 0 < ns.length ∧ ∀ m, m ∈ ns → (∀ y ∈ ns, y ≤ m) → P (.int m) S')) (hg : Gl X "max" := by rfl) (he : starEach (e :: []) X.env = (false, eval e X.env) :: starEach [] X.env := by rfl) (hpl : (backTo pos (starEach [] X.env)).any (·.1) = false := by rfl) : DE X F S (.Call (.Name "max" p) [e] [] pos) P :=
  de_callB (cr_max hc) B.max (by decide +kernel) (da_cons (h.imp fun d S' ⟨ns, ed, hl0, hp⟩ => da_nil fun vs G σ H Q sv r k => by
    subst ed
    cases r with
    | cons r1 r2 => cases r2; cases r1 with | lst hl rs => have e := rs.ints; subst e; exact ⟨_, ns, rfl, SqL.of (sv.gh _ _ hl), hl0, fun m h1 h2 => k _ S' G _ H (hp m h1 h2) (.refl sv) (.int _)⟩) he) hg (by decide) (by decide) he hpl
theorem de_minL (B : BT X.mg) (hc : X.calm = true) (h : DE X F S e (fun d S' => ∃ ns : List Int, d = .list (ns.map .int) ∧ 0 < ns.length ∧ ∀ m, m ∈ ns → (∀ y ∈ ns, m ≤ y) → P (.int m) S')) (hg : Gl X "min" := by rfl) (he : starEach (e :: []) X.env = (false, eval e X.env) :: starEach [] X.env := by rfl) (hpl : (backTo pos (starEach [] X.env)).any (·.1) = false := by rfl) : DE X F S (.Call (.Name "min" p) [e] [] pos) P :=
  de_callB (cr_min hc) B.min (by decide +kernel) (da_cons (h.imp fun d S' ⟨ns, ed, hl0, hp⟩ => da_nil fun vs G σ H Q sv r k => by
    subst ed
    cases r with
    | cons r1 r2 => cases r2; cases r1 with | lst hl rs => have e := rs.ints; subst e; exact ⟨_, ns, rfl, SqL.of (sv.gh _ _ hl), hl0, fun m h1 h2 => k _ S' G _ H (hp m h1 h2) (.refl sv) (.int _)⟩) he) hg (by decide) (by decide) he hpl

/-! ### tuple, list -/
theorem de_tupOf (B : BT X.mg) (h : DE X F S e (fun d S' => ∃ ds, Sq d ds ∧ P (.tuple ds) S')) (hg : Gl X "tuple" := by rfl) (he : starEach (e :: []) X.env = (false, eval e X.env) :: starEach [] X.env := by rfl) (hpl : (backTo pos (starEach [] X.env)).any (·.1) = false := by rfl) : DE X F S (.Call (.Name "tuple" p) [e] [] pos) P :=
  de_callT call_tuple_of B.tuple (by decide +kernel) (da_cons (h.imp fun d S' ⟨ds, sq, hp⟩ => da_nil fun vs G σ H Q sv r k => by
    cases r with
    | cons r1 r2 =>
      cases r2
      cases sq with
      | l => cases r1 with | lst hl rs => exact ⟨_, _, rfl, .inl ⟨SqL.of (sv.gh _ _ hl), fun q hn => k _ S' _ _ _ hp (.alloc sv hn) (.tup upd_same (rs.mono (Ex.upd (sv.gh.none hn))))⟩⟩
      | t => cases r1 with | tup hl rs => exact ⟨_, _, rfl, .inr ⟨SqT.of (sv.gh _ _ hl), k _ S' G _ H hp (.refl sv) (.tup hl rs)⟩⟩) he) hg (by decide) (by decide) he hpl
theorem do_listOf (B : BT X.mg) (h : DE X F S e (fun d S' => ∃ ds, Sq d ds ∧ PO ds S')) (hg : Gl X "list" := by rfl) (he : starEach (e :: []) X.env = (false, eval e X.env) :: starEach [] X.env := by rfl) (hpl : (backTo pos (starEach [] X.env)).any (·.1) = false := by rfl) : DO X F S (.Call (.Name "list" p) [e] [] pos) PO :=
  do_callT call_list_of B.list (by decide +kernel) (da_cons (h.imp fun d S' ⟨ds, sq, hp⟩ => da_nil fun vs G σ H Q sv r k => by
    cases r with
    | cons r1 r2 =>
      cases r2
      obtain ⟨p, xs, rfl, hq, rs⟩ := rp_sq (K := X.K) sv.gh sq r1
      exact ⟨p, xs, rfl, hq, fun l hn => k _ S' G l xs _ hp (.allocO sv hn) (sv.gh.none hn) hn (sv.fresh hn) upd_same rs⟩) he) hg (by decide) (by decide) he hpl
theorem rps_rg (a b : Int) (G : Hp) : Rps G (rgV a b) (rgD a (b - a).toNat) := by
  unfold rgV rgD
  have : ∀ l : List Nat, Rps G (l.map fun i : Nat => V.int (a + (i : Nat))) (l.map fun i : Nat => PyData.int (a + (i : Nat))) := by
    intro l
    induction l with
    | nil => exact .nil
    | cons x l ih => exact .cons (.int _) ih
  exact this _
theorem do_listRg2 {p2 pos2 : Pos} (B : BT X.mg) (hc : X.calm = true) (h : DE X F S a (fun d1 S1 => DE X F S1 b (fun d2 S2 => I2 d1 d2 fun i j => RgOk i j ∧ PO (rgD i (j - i).toNat) S2))) (hg : Gl X "list" := by rfl) (hg2 : Gl X "range" := by rfl)
    (na : starEach [a, b] X.env = (false, eval a X.env) :: starEach [b] X.env := by rfl) (nb : starEach [b] X.env = (false, eval b X.env) :: starEach [] X.env := by rfl) (hp : (backTo pos2 (starEach [b] X.env)).any (·.1) = false := by rfl)
    (nc : starEach [.Call (.Name "range" p2) [a, b] [] pos2] X.env = (false, eval (.Call (.Name "range" p2) [a, b] [] pos2) X.env) :: starEach [] X.env := by rfl) : DO X F S (.Call (.Name "list" p) [.Call (.Name "range" p2) [a, b] [] pos2] [] pos) PO :=
  do_mk (pe_listRg hc hg B.list (prg_2 hg2 B.range h pe_any na nb hp) nc) fun σ H Q ⟨G, sv, k⟩ => ⟨G, sv, fun d1 S1 G1 x H1 h1 st1 r1 => ⟨S1, _, h1, G1, st1.sv, fun d2 S2 G2 y H2 ⟨i, j, e1, e2, ok, hp⟩ st2 r2 => by
    subst e1; subst e2; cases r1; cases r2
    refine ⟨i, j, rfl, rfl, ok, fun q hn => ?_⟩
    have st := st1.trans st2
    exact k _ S2 G2 q _ _ hp (st.trans (.allocO st2.sv hn)) (st2.sv.gh.none hn) (st.fresh hn) (st2.sv.fresh hn) upd_same (rps_rg i j G2)⟩⟩
theorem do_listRg1 {p2 pos2 : Pos} (B : BT X.mg) (hc : X.calm = true) (h : DE X F S a (fun d1 S1 => ∃ j, d1 = .int j ∧ RgOk 0 j ∧ PO (rgD 0 (j - 0).toNat) S1)) (hg : Gl X "list" := by rfl) (hg2 : Gl X "range" := by rfl)
    (na : starEach [a] X.env = (false, eval a X.env) :: starEach [] X.env := by rfl)
    (nc : starEach [.Call (.Name "range" p2) [a] [] pos2] X.env = (false, eval (.Call (.Name "range" p2) [a] [] pos2) X.env) :: starEach [] X.env := by rfl) : DO X F S (.Call (.Name "list" p) [.Call (.Name "range" p2) [a] [] pos2] [] pos) PO :=
  do_mk (pe_listRg hc hg B.list (prg_1 hg2 B.range h na) nc) fun σ H Q ⟨G, sv, k⟩ => ⟨G, sv, fun d1 S1 G1 x H1 ⟨j, e1, ok, hp⟩ st1 r1 => by
    subst e1; cases r1
    refine ⟨j, rfl, ok, fun q hn => ?_⟩
    exact k _ S1 G1 q _ _ hp (st1.trans (.allocO st1.sv hn)) (st1.sv.gh.none hn) (st1.fresh hn) (st1.sv.fresh hn) upd_same (rps_rg 0 j G1)⟩

/-! ### +, * of tuples and lists -/
theorem de_addT (h : DE X F S a (fun d1 S1 => DE X F S1 b (fun d2 S2 => ∃ xs ys, d1 = .tuple xs ∧ d2 = .tuple ys ∧ xs.length + ys.length ≤ sizeLine ∧ P (.tuple (xs ++ ys)) S2))) : DE X F S (.BinOp a .Add b pos) P :=
  de_op op_catA (h.imp fun d1 S1 h1 => h1.imp fun d2 S2 ⟨xs, ys, e1, e2, hl, hp⟩ x y G σ H Q sv r1 r2 k => by
    subst e1; subst e2
    cases r1 with
    | tup h1 rs1 => cases r2 with | tup h2 rs2 =>
      refine ⟨_, _, _, _, rfl, rfl, SqT.of (sv.gh _ _ h1), SqT.of (sv.gh _ _ h2), by rw [rs1.length, rs2.length]; exact hl, fun e => ?_, fun _ e => ?_, fun _ _ q hn => ?_⟩
      · subst e; cases rs1; exact k _ S2 G _ H hp (.refl sv) (.tup h2 rs2)
      · subst e; cases rs2; exact k _ S2 G _ H hp (.refl sv) (.tup h1 (by rw [List.append_nil]; exact rs1))
      · exact k _ S2 _ _ _ hp (.alloc sv hn) (.tup upd_same ((rs1.append rs2).mono (Ex.upd (sv.gh.none hn)))))
theorem do_addL (h : DE X F S a (fun d1 S1 => DE X F S1 b (fun d2 S2 => ∃ xs ys, d1 = .list xs ∧ d2 = .list ys ∧ xs.length + ys.length ≤ sizeLine ∧ PO (xs ++ ys) S2))) : DO X F S (.BinOp a .Add b pos) PO :=
  do_mk (pe_op op_cat h pe_any) fun σ H Q ⟨G, sv, k⟩ => ⟨G, sv, fun d1 S1 G1 x H1 h1 st1 r1 => ⟨S1, _, h1, G1, st1.sv, fun d2 S2 G2 y H2 ⟨xs, ys, e1, e2, hl, hp⟩ st2 r2 => by
    subst e1; subst e2
    cases r1 with
    | lst h1 rs1 => cases r2 with | lst h2 rs2 =>
      refine ⟨_, _, _, _, rfl, rfl, st2.sv.gh _ _ (st2.g _ _ h1), st2.sv.gh _ _ h2, by rw [rs1.length, rs2.length]; exact hl, fun q hn => ?_⟩
      have st := st1.trans st2
      exact k _ S2 G2 q _ _ hp (st.trans (.allocO st2.sv hn)) (st2.sv.gh.none hn) (st.fresh hn) (st2.sv.fresh hn) upd_same ((rs1.mono st2.g).append rs2)⟩⟩
theorem do_mulL (h : DE X F S a (fun d1 S1 => DE X F S1 b (fun d2 S2 => ∃ xs n, d1 = .list xs ∧ d2 = .int n ∧ (-(2 ^ 63) ≤ n ∧ n < 2 ^ 63) ∧ xs.length * n.toNat ≤ sizeLine ∧ PO (List.replicate n.toNat xs).flatten S2))) : DO X F S (.BinOp a .Mult b pos) PO :=
  do_mk (pe_op op_rep h pe_any) fun σ H Q ⟨G, sv, k⟩ => ⟨G, sv, fun d1 S1 G1 x H1 h1 st1 r1 => ⟨S1, _, h1, G1, st1.sv, fun d2 S2 G2 y H2 ⟨xs, n, e1, e2, hn1, hl, hp⟩ st2 r2 => by
    subst e1; subst e2; cases r2
    cases r1 with
    | lst h1 rs1 =>
      refine ⟨_, n, _, rfl, rfl, st2.sv.gh _ _ (st2.g _ _ h1), hn1.1, hn1.2, by rw [rs1.length]; exact hl, fun q hn => ?_⟩
      have st := st1.trans st2
      exact k _ S2 G2 q _ _ hp (st.trans (.allocO st2.sv hn)) (st2.sv.gh.none hn) (st.fresh hn) (st2.sv.fresh hn) upd_same ((rs1.mono st2.g).rep n.toNat)⟩⟩
theorem de_mulT (h : DE X F S a (fun d1 S1 => DE X F S1 b (fun d2 S2 => ∃ xs n, d1 = .tuple xs ∧ d2 = .int n ∧ xs ≠ [] ∧ (2 ≤ n ∧ n ≤ 1000) ∧ xs.length ≤ 1000 ∧ P (.tuple (List.replicate n.toNat xs).flatten) S2))) : DE X F S (.BinOp a .Mult b pos) P :=
  de_op op_repT (h.imp fun d1 S1 h1 => h1.imp fun d2 S2 ⟨xs, n, e1, e2, hne, hn1, hl, hp⟩ x y G σ H Q sv r1 r2 k => by
    subst e1; subst e2; cases r2
    cases r1 with
    | tup h1 rs1 =>
      refine ⟨_, n, _, rfl, rfl, SqT.of (sv.gh _ _ h1), fun e => hne ?_, hn1.1, hn1.2, by rw [rs1.length]; exact hl, fun q hn => k _ S2 _ _ _ hp (.alloc sv hn) (.tup upd_same ((rs1.rep n.toNat).mono (Ex.upd (sv.gh.none hn))))⟩
      subst e; cases rs1; rfl)
/-! ### in, not in -/
def flatD : FW.D → Bool
  | .list _ => false
  | .tuple _ => false
  | .dict _ => false
  | _ => true
theorem flat_rp {G : Hp} {v : V} {d : FW.D} (r : Rp G v d) (f : flatD d = true) : flatV v = true := by
  cases r <;> first | rfl | cases f
theorem eqV_rp {G : Hp} {v u : V} {d c : FW.D} (r : Rp G v d) (s : Rp G u c) (f : flatD d = true) (g : flatD c = true) : eqV v u = PyData.eqv d c := by
  cases r <;> cases s <;> first | cases f | cases g | skip
  all_goals first | rfl | simp [eqV, PyData.eqv]
def inD (x : FW.D) (ds : List FW.D) : Bool := ds.any fun y => PyData.eqv y x
theorem inV_rp {G : Hp} {v : V} {d : FW.D} (r : Rp G v d) (f : flatD d = true) : ∀ {vs : List V} {ds : List FW.D}, Rps G vs ds → ds.all flatD = true → inV v vs = inD d ds ∧ vs.all flatV = true
  | _, _, .nil, _ => ⟨rfl, rfl⟩
  | v' :: vs', d' :: ds', .cons a t, h => by
    rw [List.all_cons, Bool.and_eq_true] at h
    obtain ⟨h1, h2⟩ := inV_rp r f t h.2
    refine ⟨?_, by rw [List.all_cons, flat_rp a h.1, h2]; rfl⟩
    have e1 : inV v (v' :: vs') = (eqV v' v || inV v vs') := List.any_cons
    have e2 : inD d (d' :: ds') = (PyData.eqv d' d || inD d ds') := List.any_cons
    rw [e1, e2, h1, eqV_rp a r h.1 f]
def In2 (d1 d2 : FW.D) (k : Bool → Prop) : Prop := ∃ ds, Sq d2 ds ∧ flatD d1 = true ∧ ds.all flatD = true ∧ k (inD d1 ds)
theorem opd_in {K : PySem.W.Frag} {d1 d2 : FW.D} (h : In2 d1 d2 fun b => P (.bool b) S) : OpD K F (rIn K false) d1 d2 S P := fun x y G σ H Q sv rx ry k => by
  obtain ⟨ds, sq, f1, f2, hp⟩ := h
  obtain ⟨q, xs, rfl, hq, rs⟩ := rp_sq (K := K) sv.gh sq ry
  obtain ⟨e1, e2⟩ := inV_rp rx f1 rs f2
  exact ⟨q, xs, rfl, hq, flat_rp rx f1, e2, by rw [e1]; exact k _ S G _ H hp (.refl sv) (.bl _)⟩
theorem opd_nin {K : PySem.W.Frag} {d1 d2 : FW.D} (h : In2 d1 d2 fun b => P (.bool (!b)) S) : OpD K F (rIn K true) d1 d2 S P := fun x y G σ H Q sv rx ry k => by
  obtain ⟨ds, sq, f1, f2, hp⟩ := h
  obtain ⟨q, xs, rfl, hq, rs⟩ := rp_sq (K := K) sv.gh sq ry
  obtain ⟨e1, e2⟩ := inV_rp rx f1 rs f2
  exact ⟨q, xs, rfl, hq, flat_rp rx f1, e2, by rw [e1]; exact k _ S G _ H hp (.refl sv) (.bl _)⟩
theorem de_in (h : DE X F S a (fun d1 S1 => DE X F S1 b (fun d2 S2 => In2 d1 d2 fun k => P (.bool k) S2))) (hm : behindInMarks .In b = false := by rfl) : DE X F S (.Compare a [.In] [b] pos) P :=
  de_cmp op_in_seq hm (h.imp fun d1 S1 h => h.imp fun d2 S2 h => opd_in h)
theorem dt_in {P : Bool → List Sl → Prop} (h : DE X F S a (fun d1 S1 => DE X F S1 b (fun d2 S2 => In2 d1 d2 fun k => P k S2))) (hm : behindInMarks .In b = false := by rfl) : DT X F S (.Compare a [.In] [b] pos) P :=
  dt_cmp op_in_seq hm (h.imp fun d1 S1 h => h.imp fun d2 S2 ⟨ds, sq, f1, f2, hp⟩ => opd_in ⟨ds, sq, f1, f2, b1 hp⟩)
theorem dt_nin {P : Bool → List Sl → Prop} (h : DE X F S a (fun d1 S1 => DE X F S1 b (fun d2 S2 => In2 d1 d2 fun k => P (!k) S2))) (hm : behindInMarks .NotIn b = false := by rfl) : DT X F S (.Compare a [.NotIn] [b] pos) P :=
  dt_cmp op_notIn_seq hm (h.imp fun d1 S1 h => h.imp fun d2 S2 ⟨ds, sq, f1, f2, hp⟩ => opd_nin ⟨ds, sq, f1, f2, b1 hp⟩)

/-! ### zip, reversed -/
def zipD (xs ys : List FW.D) : List FW.D := (xs.zip ys).map fun p => .tuple [p.1, p.2]
theorem zipD_length (xs ys : List FW.D) : (zipD xs ys).length = min xs.length ys.length := by unfold zipD; rw [List.length_map, List.length_zip]
theorem zipD_get {xs ys : List FW.D} {i : Nat} {x y : FW.D} (h1 : xs[i]? = some x) (h2 : ys[i]? = some y) : (zipD xs ys)[i]? = some (.tuple [x, y]) := by
  unfold zipD
  rw [List.getElem?_map, List.zip, List.getElem?_zipWith, h1, h2]; rfl
theorem itd_zip {K : PySem.W.Frag} {G : Hp} {a b : Addr} {vs ws : List V} {xs ys : List FW.D} (ha : G a = some (.lst vs)) (hb : G b = some (.lst ws)) (ra : Rps G vs xs) (rb : Rps G ws ys) : ItD (Itz K a b) G (zipD xs ys) where
  go := fun i H hi ex => by
    rw [zipD_length] at hi
    have h1 : i < vs.length := by rw [ra.length]; omega
    have h2 : i < ws.length := by rw [rb.length]; omega
    exact ⟨vs, ws, vs[i], ws[i], SqL.of (ex _ _ ha), SqL.of (ex _ _ hb), List.getElem?_eq_getElem h1, List.getElem?_eq_getElem h2⟩
  stop := fun H ex => ⟨vs, ws, SqL.of (ex _ _ ha), SqL.of (ex _ _ hb), by rw [zipD_length, ra.length, rb.length]; omega⟩
  yld := fun i H x H' hi ex ⟨T, x1, y1, e1, hn, e2, f1, f2⟩ => by
    obtain ⟨d1, hd1, r1⟩ := ra.get' (f1 vs (SqL.of (ex _ _ ha)))
    obtain ⟨d2, hd2, r2⟩ := rb.get' (f2 ws (SqL.of (ex _ _ hb)))
    exact ⟨_, zipD_get hd1 hd2, .inr ⟨T, [x1, y1], [d1, d2], hn, e2, e1, rfl, .cons r1 (.cons r2 .nil)⟩⟩
theorem itd_zipT {K : PySem.W.Frag} {G : Hp} {a b : Addr} {vs ws : List V} {xs ys : List FW.D} (ha : G a = some (.tup vs)) (hb : G b = some (.tup ws)) (ra : Rps G vs xs) (rb : Rps G ws ys) : ItD (RZ.ItzT K a b) G (zipD xs ys) where
  go := fun i H hi ex => by
    rw [zipD_length] at hi
    have h1 : i < vs.length := by rw [ra.length]; omega
    have h2 : i < ws.length := by rw [rb.length]; omega
    exact ⟨vs, ws, vs[i], ws[i], SqT.of (ex _ _ ha), SqT.of (ex _ _ hb), List.getElem?_eq_getElem h1, List.getElem?_eq_getElem h2⟩
  stop := fun H ex => ⟨vs, ws, SqT.of (ex _ _ ha), SqT.of (ex _ _ hb), by rw [zipD_length, ra.length, rb.length]; omega⟩
  yld := fun i H x H' hi ex ⟨T, x1, y1, e1, hn, e2, f1, f2⟩ => by
    obtain ⟨d1, hd1, r1⟩ := ra.get' (f1 vs (SqT.of (ex _ _ ha)))
    obtain ⟨d2, hd2, r2⟩ := rb.get' (f2 ws (SqT.of (ex _ _ hb)))
    exact ⟨_, zipD_get hd1 hd2, .inr ⟨T, [x1, y1], [d1, d2], hn, e2, e1, rfl, .cons r1 (.cons r2 .nil)⟩⟩
theorem di_zip {elts : List Expr} {kk : Nat} {tpos : Pos} (B : BT X.mg) (h : DE X F S a (fun d1 S1 => DE X F S1 b (fun d2 S2 => ∃ xs ys, ((d1 = .list xs ∧ d2 = .list ys) ∨ (d1 = .tuple xs ∧ d2 = .tuple ys)) ∧ PO (zipD xs ys) S2))) (hg : Gl X "zip" := by rfl)
    (hs : starEach [a, b] X.env = (false, eval a X.env) :: starEach [b] X.env := by rfl) (hs2 : starEach [b] X.env = (false, eval b X.env) :: starEach [] X.env := by rfl) (hpl : (backTo pos (starEach [b] X.env)).any (·.1) = false := by rfl) : DI X F S (.Tuple elts kk tpos) (.Call (.Name "zip" p) [a, b] [] pos) PO :=
  di_mk (RZ.pi_zipA hg B.zip (pa_cons h (pa_cons pe_any pa_nil hs2) hs) hs hpl) fun σ H R ⟨G, sv, k⟩ => ⟨G, sv, fun d1 S1 G1 x H1 h1 st1 r1 => ⟨S1, _, h1, G1, st1.sv, fun d2 S2 G2 y H2 ⟨xs, ys, hd, hp⟩ st2 r2 => by
    have st := st1.trans st2
    rcases hd with ⟨e1, e2⟩ | ⟨e1, e2⟩
    · subst e1; subst e2
      cases r1 with
      | lst h1 rs1 => cases r2 with | lst h2 rs2 =>
        exact ⟨_, _, _, _, rfl, .inl ⟨SqL.of (st2.sv.gh _ _ (st2.g _ _ h1)), SqL.of (st2.sv.gh _ _ h2), k _ S2 G2 _ H2 hp st (itd_zip (st2.g _ _ h1) h2 (rs1.mono st2.g) rs2)⟩⟩
    · subst e1; subst e2
      cases r1 with
      | tup h1 rs1 => cases r2 with | tup h2 rs2 =>
        exact ⟨_, _, _, _, rfl, .inr ⟨SqT.of (st2.sv.gh _ _ (st2.g _ _ h1)), SqT.of (st2.sv.gh _ _ h2), k _ S2 G2 _ H2 hp st (itd_zipT (st2.g _ _ h1) h2 (rs1.mono st2.g) rs2)⟩⟩⟩⟩
theorem rev_get {α : Type} {l : List α} {i : Nat} (h : i < l.length) : l.reverse[i]? = l[l.length - 1 - i]? := List.getElem?_reverse h
theorem itd_rev {K : PySem.W.Frag} {G : Hp} {a : Addr} {vs : List V} {xs : List FW.D} (ha : G a = some (.lst vs)) (ra : Rps G vs xs) : ItD (Itv K a vs.length) G xs.reverse where
  go := fun i H hi ex => by
    rw [List.length_reverse, ← ra.length] at hi
    exact ⟨hi, vs, vs[vs.length - 1 - i], SqL.of (ex _ _ ha), List.getElem?_eq_getElem (by omega)⟩
  stop := fun H ex => by rw [List.length_reverse, ra.length]; exact Nat.le_refl _
  yld := fun i H x H' hi ex ⟨e, f⟩ => by
    rw [List.length_reverse] at hi
    obtain ⟨d, hd, rd⟩ := ra.get' (f vs (SqL.of (ex _ _ ha)))
    exact ⟨d, by rw [rev_get hi, ← ra.length]; exact hd, .inl ⟨e, rd⟩⟩
theorem itd_revT {K : PySem.W.Frag} {G : Hp} {a : Addr} {vs : List V} {xs : List FW.D} (ha : G a = some (.tup vs)) (ra : Rps G vs xs) : ItD (RT.ItvT K a vs.length) G xs.reverse where
  go := fun i H hi ex => by
    rw [List.length_reverse, ← ra.length] at hi
    exact ⟨hi, vs, vs[vs.length - 1 - i], SqT.of (ex _ _ ha), List.getElem?_eq_getElem (by omega)⟩
  stop := fun H ex => by rw [List.length_reverse, ra.length]; exact Nat.le_refl _
  yld := fun i H x H' hi ex ⟨e, f⟩ => by
    rw [List.length_reverse] at hi
    obtain ⟨d, hd, rd⟩ := ra.get' (f vs (SqT.of (ex _ _ ha)))
    exact ⟨d, by rw [rev_get hi, ← ra.length]; exact hd, .inl ⟨e, rd⟩⟩
theorem di_rev (B : BT X.mg) (h : DE X F S a (fun d S' => ∃ ds, Sq d ds ∧ PO ds.reverse S')) (hg : Gl X "reversed" := by rfl) (hs : starEach [a] X.env = (false, eval a X.env) :: starEach [] X.env := by rfl) : DI X F S tg (.Call (.Name "reversed" p) [a] [] pos) PO :=
  di_mk (RT.pi_revA hg B.reversed h hs) fun σ H R ⟨G, sv, k⟩ => ⟨G, sv, fun d S' G' v H' ⟨ds, sq, hp⟩ st r => by
    cases sq with
    | l => cases r with | lst hl rs => exact ⟨_, _, rfl, .inl ⟨SqL.of (st.sv.gh _ _ hl), k _ S' G' _ H' hp st (itd_rev hl rs)⟩⟩
    | t => cases r with | tup hl rs => exact ⟨_, _, rfl, .inr ⟨SqT.of (st.sv.gh _ _ hl), k _ S' G' _ H' hp st (itd_revT hl rs)⟩⟩⟩
theorem di_revRg1 {p2 pos2 : Pos} (B : BT X.mg) (h : DE X F S a (fun d S' => ∃ j, d = .int j ∧ (-(2 ^ 62) ≤ j ∧ j < 2 ^ 62) ∧ PO ((List.range j.toNat).map fun i : Nat => .int (((j.toNat : Nat) : Int) - 1 - (i : Nat))) S')) (hg : Gl X "reversed" := by rfl) (hg2 : Gl X "range" := by rfl)
    (na : starEach [a] X.env = (false, eval a X.env) :: starEach [] X.env := by rfl)
    (hs : starEach [.Call (.Name "range" p2) [a] [] pos2] X.env = (false, eval (.Call (.Name "range" p2) [a] [] pos2) X.env) :: starEach [] X.env := by rfl) : DI X F S tg (.Call (.Name "reversed" p) [.Call (.Name "range" p2) [a] [] pos2] [] pos) PO :=
  di_mk (pi_revR hg B.reversed (prg_1 hg2 B.range h na) hs) fun σ H R ⟨G, sv, k⟩ => ⟨G, sv, fun d S' G' v H' ⟨j, e, hb, hp⟩ st r => by
    subst e; cases r
    refine ⟨j, rfl, by decide, by decide, hb.1, hb.2, ?_⟩
    have it := itd_rangeC (lo := 0 + (((j - 0).toNat : Nat) : Int) - 1) (c := -1) (n := (j - 0).toNat) (G := G')
    refine k _ S' G' _ H' hp st ?_
    have e1 : j - 0 = j := Int.sub_zero j
    have e2 : ((List.range (j - 0).toNat).map fun i : Nat => PyData.int (0 + (((j - 0).toNat : Nat) : Int) - 1 + (i : Nat) * (-1))) = (List.range j.toNat).map fun i : Nat => .int (((j.toNat : Nat) : Int) - 1 - (i : Nat)) := by
      rw [e1]
      refine List.map_congr_left fun i _ => ?_
      congr 1
      omega
    rw [← e2]
    exact it⟩

/-! ### sorted -/
theorem each_rps {G : Hp} : ∀ {out : List Value} {ds : List FW.D}, PySem.W.EachIs (fun v d => ∃ x, RelV x v ∧ Rp G x d) out ds → ∃ xs, Vals xs out ∧ Rps G xs ds
  | _, _, .nil => ⟨[], .nil, .nil⟩
  | _, _, .cons ⟨x, r, q⟩ t => by
    obtain ⟨xs, h1, h2⟩ := each_rps t
    exact ⟨x :: xs, .cons r h1, .cons q h2⟩
theorem rps_each {G : Hp} : ∀ {xs : List V} {out : List Value} {ds : List FW.D}, Vals xs out → Rps G xs ds → PySem.W.EachIs (fun v d => ∃ x, RelV x v ∧ Rp G x d) out ds
  | _, _, _, .nil, .nil => .nil
  | _, _, _, .cons r v, .cons q t => .cons ⟨_, r, q⟩ (rps_each v t)
/-! ### isinstance -/
def tyD : FW.D → String
  | .none => "NoneType"
  | .bool _ => "bool"
  | .int _ => "int"
  | .str _ => "str"
  | .list _ => "list"
  | .tuple _ => "tuple"
  | .dict _ => "dict"
theorem rp_ty {K : PySem.W.Frag} {G H : Hp} {v : V} {d : FW.D} (e : Ex G H) (r : Rp G v d) (nd : ∀ kvs, d ≠ .dict kvs) : TyX K H v (.type (tyD d)) := by
  cases r with
  | non => exact .base .non
  | bl b => exact .base (.bl b)
  | int i => exact .base (.int i)
  | str x => exact .base (.str x)
  | lst h _ => exact .base (.lst (e _ _ h))
  | tup h _ => exact .base (.tup (e _ _ h))
  | thk _ _ _ _ => exact absurd rfl (nd _)
theorem de_isi {T : Str} {n : String} {p1 : Pos} (B : BT X.mg) (hT : X.mg T = none) (hb : bootBuiltins T = some (.type n)) (h : DE X F S e (fun d S' => ∃ b, kitB (tyD d) n = some b ∧ (∀ kvs, d ≠ .dict kvs) ∧ P (.bool b) S')) (hg : Gl X "isinstance" := by rfl) (hgT : Gl X T := by rfl) (hn : T ≠ "__name__" := by decide) (hd : (T == ("__debug__" : Str)) = false := by decide)
    (hs : starEach [e, .Name T p1] X.env = (false, eval e X.env) :: starEach [.Name T p1] X.env := by rfl) (hs2 : starEach [.Name T p1] X.env = (false, eval (.Name T p1) X.env) :: starEach [] X.env := by rfl) (hpl : (backTo pos (starEach [.Name T p1] X.env)).any (·.1) = false := by rfl) : DE X F S (.Call (.Name "isinstance" p) [e, .Name T p1] [] pos) P :=
  de_mk (pe_callB call_isi hg B.isinstance (by decide +kernel) (pa_cons h (pa_cons (pe_bltn (v := .ty n) hgT hT hb rfl hn hd) pa_nil hs2) hs) (by decide) (by decide) hs hpl) fun σ H Q ⟨G, sv, k⟩ => ⟨G, sv, fun d S' G' v H' ⟨b, hk, nd, hp⟩ st r =>
    ⟨v, .ty n, _, _, b, rfl, .ty n, rp_ty st.sv.gh r nd, kit_ty hk, k _ S' G' _ H' hp st (.bl b)⟩⟩
/-- isinstance(e, (T, U)) -/
theorem de_isi2 {T U : Str} {n m : String} {p1 p2 p3 : Pos} {j : Nat} (B : BT X.mg) (hT : X.mg T = none) (hb : bootBuiltins T = some (.type n)) (hU : X.mg U = none) (hb2 : bootBuiltins U = some (.type m)) (h : DE X F S e (fun d S' => ∃ b c, kitB (tyD d) n = some b ∧ kitB (tyD d) m = some c ∧ (∀ kvs, d ≠ .dict kvs) ∧ P (.bool (b || c)) S')) (hg : Gl X "isinstance" := by rfl) (hgT : Gl X T := by rfl) (hgU : Gl X U := by rfl)
    (hn : T ≠ "__name__" := by decide) (hd : (T == ("__debug__" : Str)) = false := by decide) (hn2 : U ≠ "__name__" := by decide) (hd2 : (U == ("__debug__" : Str)) = false := by decide)
    (hs : starEach [e, .Tuple [.Name T p1, .Name U p2] j p3] X.env = (false, eval e X.env) :: starEach [.Tuple [.Name T p1, .Name U p2] j p3] X.env := by rfl) (hs2 : starEach [.Tuple [.Name T p1, .Name U p2] j p3] X.env = (false, eval (.Tuple [.Name T p1, .Name U p2] j p3) X.env) :: starEach [] X.env := by rfl)
    (hs3 : starEach [.Name T p1, .Name U p2] X.env = (false, eval (.Name T p1) X.env) :: starEach [.Name U p2] X.env := by rfl) (hs4 : starEach [.Name U p2] X.env = (false, eval (.Name U p2) X.env) :: starEach [] X.env := by rfl)
    (hpl : (backTo pos (starEach [.Tuple [.Name T p1, .Name U p2] j p3] X.env)).any (·.1) = false := by rfl) : DE X F S (.Call (.Name "isinstance" p) [e, .Tuple [.Name T p1, .Name U p2] j p3] [] pos) P :=
  de_mk (pe_callB call_isiT hg B.isinstance (by decide +kernel) (pa_cons h (pa_cons (pe_tup (pa_cons (pe_bltn (v := .ty n) hgT hT hb rfl hn hd) (pa_cons (pe_bltn (v := .ty m) hgU hU hb2 rfl hn2 hd2) pa_nil hs4) hs3)) pa_nil hs2) hs) (by decide) (by decide) hs hpl) fun σ H Q ⟨G, sv, k⟩ => ⟨G, sv, fun d S' G' v H' ⟨b, c, hk, hk2, nd, hp⟩ st r => by
    refine ⟨by show 2 ≤ sizeLine; decide, fun q hq => ?_⟩
    refine ⟨v, q, [.ty n, .ty m], _, [.type n, .type m], b || c, rfl, upd_same, .cons (.ty n) (.cons (.ty m) .nil), rp_ty (st.sv.gh.trans (Ex.upd hq)) r nd, kitAny_cons (b := b) (kit_ty hk) (fun hb => ?_) (fun hb => by rw [hb]; rfl), ?_⟩
    · refine kitAny_cons (b := c) (kit_ty hk2) (fun hc => ?_) (fun hc => by rw [hc, Bool.or_true])
      rw [hb, hc]; rfl
    · have al := Stp.allocO (o := .tup [.ty n, .ty m]) st.sv hq
      exact k _ S' G' _ _ hp (st.trans al) (.bl _)⟩
end
end FW

namespace FW
open PySem PySem.Spec PyProof.Rows L2
variable [Tb]

/-! ### expressions that change nothing: their value -/
def Ep (X : Cx) (F : Fr) (S : List Sl) (e : Expr) (d : FW.D) : Prop := DE X F S e fun d' S' => d' = d ∧ S' = S
def Tp (X : Cx) (F : Fr) (S : List Sl) (e : Expr) (b : Bool) : Prop := DT X F S e fun b' S' => b' = b ∧ S' = S
def Wp (X : Cx) (F : Fr) (S : List Sl) (e : Expr) (b : Bool) : Prop := DW X F S e fun b' S' => b' = b ∧ S' = S
def Ap (X : Cx) (F : Fr) (S : List Sl) (es : List Expr) (ds : List FW.D) : Prop := DA X F S es fun ds' S' => ds' = ds ∧ S' = S
def Op (X : Cx) (F : Fr) (S : List Sl) (e : Expr) (ds : List FW.D) : Prop := DO X F S e fun ds' S' => ds' = ds ∧ S' = S
section
variable {X : Cx} {F : Fr} {S : List Sl} {e a b c tg iter : Expr} {es rest : List Expr} {P : PD} {PT : Bool → List Sl → Prop} {PO : List FW.D → List Sl → Prop} {pos p : Pos} {d d1 d2 : FW.D} {x y z : Bool} {i j k : Int} {xs ys ds : List FW.D}
theorem Ep.to (h : Ep X F S e d) (q : P d S) : DE X F S e P := DE.imp h fun _ _ ⟨e1, e2⟩ => by subst e1; subst e2; exact q
theorem Tp.to (h : Tp X F S e x) (q : PT x S) : DT X F S e PT := DT.imp h fun _ _ ⟨e1, e2⟩ => by subst e1; subst e2; exact q
theorem Op.to (h : Op X F S e ds) (q : PO ds S) : DO X F S e PO := DO.imp h fun _ _ ⟨e1, e2⟩ => by subst e1; subst e2; exact q
theorem Ap.to {P : List FW.D → List Sl → Prop} (h : Ap X F S es ds) (q : P ds S) : DA X F S es P := da_mk h fun σ H Q ⟨G, sv, k⟩ => ⟨G, sv, fun ds' S' G' vs H' ⟨e1, e2⟩ st r => by subst e1; subst e2; exact k _ _ G' vs H' q st r⟩
theorem Wp.to (h : Wp X F S e x) (q : PT x S) : DW X F S e PT := dw_mk h fun σ H Q ⟨G, sv, k⟩ => ⟨G, sv, fun b' S' G' H' ⟨e1, e2⟩ st => by subst e1; subst e2; exact k _ _ G' H' q st⟩
theorem ep_o (h : Op X F S e ds) : Ep X F S e (.list ds) := de_o (h.to ⟨rfl, rfl⟩)
theorem Ep.cast (h : Ep X F S e d) (q : d = d1) : Ep X F S e d1 := by rw [← q]; exact h
theorem Tp.cast (h : Tp X F S e x) (q : x = y) : Tp X F S e y := by rw [← q]; exact h
theorem ep_v (i : Nat) {x : Str} (hS : S[i]? = some (.val d) := by rfl) (hN : X.N[i]? = some x := by rfl) (hv : Vis X.env.scope x := by first | exact Or.inl rfl | exact Or.inr (Or.inl rfl) | exact Or.inr (Or.inr rfl))
    (hd : (x == ("__debug__" : Str)) = false := by decide) (hcd : (x == ("__classdict__" : Str)) = false := by decide) : Ep X F S (.Name x pos) d := de_v i hS ⟨rfl, rfl⟩ hN hv hd hcd
theorem ep_int {i : Int} {j} : Ep X F S (.Constant (.int i) j pos) (.int i) := de_int ⟨rfl, rfl⟩
theorem ep_bl {i j} : Ep X F S (.Constant (.bool i) j pos) (.bool i) := de_bl ⟨rfl, rfl⟩
theorem ep_non {j} : Ep X F S (.Constant .none j pos) .none := de_non ⟨rfl, rfl⟩
theorem ep_str {i j} : Ep X F S (.Constant (.str i) j pos) (.str i) := de_str ⟨rfl, rfl⟩
theorem ep_gi {x : Str} {i : Int} (hm : ∃ t, X.mg x = some (.int i t)) (hg : Gl X x := by rfl) (hd : (x == ("__debug__" : Str)) = false := by decide) : Ep X F S (.Name x pos) (.int i) := de_gi hm ⟨rfl, rfl⟩ hg hd
theorem ep_gs {x : Str} {i : Str} (hm : ∃ t, X.mg x = some (.str i t)) (hg : Gl X x := by rfl) (hd : (x == ("__debug__" : Str)) = false := by decide) : Ep X F S (.Name x pos) (.str i) := de_gs hm ⟨rfl, rfl⟩ hg hd
theorem ep_add (ha : Ep X F S a (.int i)) (hb : Ep X F S b (.int j)) : Ep X F S (.BinOp a .Add b pos) (.int (i + j)) := de_add (ha.to (hb.to (i2 ⟨rfl, rfl⟩)))
theorem ep_sub (ha : Ep X F S a (.int i)) (hb : Ep X F S b (.int j)) : Ep X F S (.BinOp a .Sub b pos) (.int (i - j)) := de_sub (ha.to (hb.to (i2 ⟨rfl, rfl⟩)))
theorem ep_mul (ha : Ep X F S a (.int i)) (hb : Ep X F S b (.int j)) (h : CMul i j) : Ep X F S (.BinOp a .Mult b pos) (.int (i * j)) := de_mul (ha.to (hb.to (i2 ⟨h, rfl, rfl⟩)))
theorem ep_mod (ha : Ep X F S a (.int i)) (hb : Ep X F S b (.int j)) (h : 0 < j) : Ep X F S (.BinOp a .Mod b pos) (.int (i % j)) := de_mod (ha.to (hb.to (i2 ⟨h, rfl, rfl⟩)))
theorem ep_fdiv (ha : Ep X F S a (.int i)) (hb : Ep X F S b (.int j)) (h : CDiv i j) : Ep X F S (.BinOp a .FloorDiv b pos) (.int (i / j)) := de_fdiv (ha.to (hb.to (i2 ⟨h, rfl, rfl⟩)))
theorem ep_pow (ha : Ep X F S a (.int i)) (hb : Ep X F S b (.int j)) (h : CPow i j) : Ep X F S (.BinOp a .Pow b pos) (.int (i ^ j.toNat)) := de_pow (ha.to (hb.to (i2 ⟨h, rfl, rfl⟩)))
theorem ep_neg (ha : Ep X F S a (.int i)) : Ep X F S (.UnaryOp .USub a pos) (.int (-i)) := de_neg (ha.to ⟨_, rfl, rfl, rfl⟩)
theorem ep_addT (ha : Ep X F S a (.tuple xs)) (hb : Ep X F S b (.tuple ys)) (h : xs.length + ys.length ≤ sizeLine) : Ep X F S (.BinOp a .Add b pos) (.tuple (xs ++ ys)) := de_addT (ha.to (hb.to ⟨_, _, rfl, rfl, h, rfl, rfl⟩))
theorem op_addL (ha : Ep X F S a (.list xs)) (hb : Ep X F S b (.list ys)) (h : xs.length + ys.length ≤ sizeLine) : Op X F S (.BinOp a .Add b pos) (xs ++ ys) := do_addL (ha.to (hb.to ⟨_, _, rfl, rfl, h, rfl, rfl⟩))
theorem ep_mulT {n : Int} (ha : Ep X F S a (.tuple xs)) (hb : Ep X F S b (.int n)) (h0 : xs ≠ []) (h1 : 2 ≤ n ∧ n ≤ 1000) (h2 : xs.length ≤ 1000) : Ep X F S (.BinOp a .Mult b pos) (.tuple (List.replicate n.toNat xs).flatten) := de_mulT (ha.to (hb.to ⟨_, _, rfl, rfl, h0, h1, h2, rfl, rfl⟩))
theorem op_mulL {n : Int} (ha : Ep X F S a (.list xs)) (hb : Ep X F S b (.int n)) (h1 : -(2 ^ 63) ≤ n ∧ n < 2 ^ 63) (h2 : xs.length * n.toNat ≤ sizeLine) : Op X F S (.BinOp a .Mult b pos) (List.replicate n.toNat xs).flatten := do_mulL (ha.to (hb.to ⟨_, _, rfl, rfl, h1, h2, rfl, rfl⟩))
theorem ap_nil : Ap X F S [] [] := da_nil ⟨rfl, rfl⟩
theorem ap_cons (h : Ep X F S e d) (hr : Ap X F S es ds) (hs : starEach (e :: es) X.env = (false, eval e X.env) :: starEach es X.env := by rfl) : Ap X F S (e :: es) (d :: ds) := da_cons (h.to (hr.to ⟨rfl, rfl⟩)) hs
theorem ep_tup {x1} (h : Ap X F S es ds) (hl : Nat.ble ds.length 1000 = true := by rfl) : Ep X F S (.Tuple es x1 pos) (.tuple ds) := de_tup (h.to ⟨Nat.le_trans (Nat.le_of_ble_eq_true hl) (by decide), rfl, rfl⟩)
theorem op_lst (h : Ap X F S es ds) (hl : Nat.ble ds.length 1000 = true := by rfl) : Op X F S (.List es pos) ds := do_lst (h.to ⟨Nat.le_trans (Nat.le_of_ble_eq_true hl) (by decide), rfl, rfl⟩)
theorem ep_ixT {d : FW.D} (ha : Ep X F S a (.tuple xs)) (hb : Ep X F S b (.int i)) (h : atI xs i = some d) (hs : PlainIx b := by exact fun _ _ => rfl) : Ep X F S (.Subscript a b pos) d := de_ix (ha.to (hb.to ⟨_, _, _, .t _, rfl, h, rfl, rfl⟩)) hs
theorem ep_ixL {d : FW.D} (ha : Ep X F S a (.list xs)) (hb : Ep X F S b (.int i)) (h : atI xs i = some d) (hs : PlainIx b := by exact fun _ _ => rfl) : Ep X F S (.Subscript a b pos) d := de_ix (ha.to (hb.to ⟨_, _, _, .l _, rfl, h, rfl, rfl⟩)) hs
theorem ep_ixO {d : FW.D} (n : Nat) {x : Str} {p0 : Pos} (hb : Ep X F S b (.int i)) (h : atI ds i = some d) (hO : S[n]? = some (.own ds) := by rfl) (hN : X.N[n]? = some x := by rfl)
    (hv : Vis X.env.scope x := by first | exact Or.inl rfl | exact Or.inr (Or.inl rfl) | exact Or.inr (Or.inr rfl)) (hs : PlainIx b := by exact fun _ _ => rfl)
    (hd : (x == ("__debug__" : Str)) = false := by decide) (hcd : (x == ("__classdict__" : Str)) = false := by decide) : Ep X F S (.Subscript (.Name x p0) b pos) d := de_ixO n (hb.to ⟨_, _, _, hO, rfl, h, rfl, rfl⟩) ⟨_, hO⟩ hN hv hs hd hcd
def Pp (X : Cx) (F : Fr) (S : List Sl) (o : Option Expr) (r : Option Int) : Prop := DP X F S o fun r' S' => r' = r ∧ S' = S
theorem Pp.to {o : Option Expr} {r : Option Int} {Q : Option Int → List Sl → Prop} (h : Pp X F S o r) (q : Q r S) : DP X F S o Q := ⟨fun pins s σ H R I ⟨G, sv, k⟩ => PO.run h pins s σ H R I ⟨G, sv, fun o' S' G' H' ⟨e1, e2⟩ st => by subst e1; subst e2; exact k _ _ G' H' q st⟩⟩
theorem pp_none : Pp X F S none none := dp_none ⟨rfl, rfl⟩
theorem pp_some (h : Ep X F S e (.int i)) : Pp X F S (some e) (some i) := dp_some (h.to ⟨_, rfl, rfl, rfl⟩)
theorem ep_slT {lo hi : Option Expr} {l u : Option Int} {p2 : Pos} (ha : Ep X F S a (.tuple xs)) (hl : Pp X F S lo l) (hu : Pp X F S hi u) : Ep X F S (.Subscript a (.Slice lo hi none p2) pos) (.tuple (cutD xs l u)) := de_slT (ha.to ⟨_, rfl, hl.to (hu.to ⟨rfl, rfl⟩)⟩)
theorem op_slL {lo hi : Option Expr} {l u : Option Int} {p2 : Pos} (ha : Ep X F S a (.list xs)) (hl : Pp X F S lo l) (hu : Pp X F S hi u) : Op X F S (.Subscript a (.Slice lo hi none p2) pos) (cutD xs l u) := do_slL (ha.to ⟨_, rfl, hl.to (hu.to ⟨rfl, rfl⟩)⟩)
theorem ep_lenT (B : BT X.mg) (h : Ep X F S e (.tuple xs)) (hg : Gl X "len" := by rfl) (he : starEach (e :: []) X.env = (false, eval e X.env) :: starEach [] X.env := by rfl) (hpl : (backTo pos (starEach [] X.env)).any (·.1) = false := by rfl) : Ep X F S (.Call (.Name "len" p) [e] [] pos) (.int xs.length) := de_len B (h.to ⟨_, .t _, rfl, rfl⟩) hg he hpl
theorem ep_lenL (B : BT X.mg) (h : Ep X F S e (.list xs)) (hg : Gl X "len" := by rfl) (he : starEach (e :: []) X.env = (false, eval e X.env) :: starEach [] X.env := by rfl) (hpl : (backTo pos (starEach [] X.env)).any (·.1) = false := by rfl) : Ep X F S (.Call (.Name "len" p) [e] [] pos) (.int xs.length) := de_len B (h.to ⟨_, .l _, rfl, rfl⟩) hg he hpl
theorem ep_abs (B : BT X.mg) (h : Ep X F S e (.int i)) (hg : Gl X "abs" := by rfl) (he : starEach (e :: []) X.env = (false, eval e X.env) :: starEach [] X.env := by rfl) (hpl : (backTo pos (starEach [] X.env)).any (·.1) = false := by rfl) : Ep X F S (.Call (.Name "abs" p) [e] [] pos) (.int (if i < 0 then -i else i)) := de_abs B (h.to ⟨_, rfl, rfl, rfl⟩) hg he hpl
theorem ep_max2 (B : BT X.mg) (hc : X.calm = true) (h : Ap X F S (a :: [b]) [.int i, .int j]) (hg : Gl X "max" := by rfl) (he : starEach (a :: [b]) X.env = (false, eval a X.env) :: starEach [b] X.env := by rfl) (hpl : (backTo pos (starEach [b] X.env)).any (·.1) = false := by rfl) : Ep X F S (.Call (.Name "max" p) [a, b] [] pos) (.int (if j > i then j else i)) := de_max2 B hc (h.to ⟨_, _, rfl, rfl, rfl⟩) hg he hpl
theorem ep_min2 (B : BT X.mg) (hc : X.calm = true) (h : Ap X F S (a :: [b]) [.int i, .int j]) (hg : Gl X "min" := by rfl) (he : starEach (a :: [b]) X.env = (false, eval a X.env) :: starEach [b] X.env := by rfl) (hpl : (backTo pos (starEach [b] X.env)).any (·.1) = false := by rfl) : Ep X F S (.Call (.Name "min" p) [a, b] [] pos) (.int (if j < i then j else i)) := de_min2 B hc (h.to ⟨_, _, rfl, rfl, rfl⟩) hg he hpl
theorem ep_intB (B : BT X.mg) (h : Ep X F S e (.bool x)) (hg : Gl X "int" := by rfl) (he : starEach (e :: []) X.env = (false, eval e X.env) :: starEach [] X.env := by rfl) (hpl : (backTo pos (starEach [] X.env)).any (·.1) = false := by rfl) : Ep X F S (.Call (.Name "int" p) [e] [] pos) (.int (if x then 1 else 0)) := de_intB B (h.to (b1 ⟨rfl, rfl⟩)) hg he hpl
theorem ep_tupOf (B : BT X.mg) (h : Op X F S e ds) (hg : Gl X "tuple" := by rfl) (he : starEach (e :: []) X.env = (false, eval e X.env) :: starEach [] X.env := by rfl) (hpl : (backTo pos (starEach [] X.env)).any (·.1) = false := by rfl) : Ep X F S (.Call (.Name "tuple" p) [e] [] pos) (.tuple ds) := de_tupOf B ((ep_o h).to ⟨_, .l _, rfl, rfl⟩) hg he hpl
theorem ep_tupOfV (B : BT X.mg) (h : Ep X F S e (.list ds)) (hg : Gl X "tuple" := by rfl) (he : starEach (e :: []) X.env = (false, eval e X.env) :: starEach [] X.env := by rfl) (hpl : (backTo pos (starEach [] X.env)).any (·.1) = false := by rfl) : Ep X F S (.Call (.Name "tuple" p) [e] [] pos) (.tuple ds) := de_tupOf B (h.to ⟨_, .l _, rfl, rfl⟩) hg he hpl
theorem op_listOf (B : BT X.mg) (sq : Sq d ds) (h : Ep X F S e d) (hg : Gl X "list" := by rfl) (he : starEach (e :: []) X.env = (false, eval e X.env) :: starEach [] X.env := by rfl) (hpl : (backTo pos (starEach [] X.env)).any (·.1) = false := by rfl) : Op X F S (.Call (.Name "list" p) [e] [] pos) ds := do_listOf B (h.to ⟨_, sq, rfl, rfl⟩) hg he hpl
theorem op_listRg2 {p2 pos2 : Pos} (B : BT X.mg) (hc : X.calm = true) (ha : Ep X F S a (.int i)) (hb : Ep X F S b (.int j)) (ok : RgOk i j) (hg : Gl X "list" := by rfl) (hg2 : Gl X "range" := by rfl)
    (na : starEach [a, b] X.env = (false, eval a X.env) :: starEach [b] X.env := by rfl) (nb : starEach [b] X.env = (false, eval b X.env) :: starEach [] X.env := by rfl) (hp : (backTo pos2 (starEach [b] X.env)).any (·.1) = false := by rfl)
    (nc : starEach [.Call (.Name "range" p2) [a, b] [] pos2] X.env = (false, eval (.Call (.Name "range" p2) [a, b] [] pos2) X.env) :: starEach [] X.env := by rfl) : Op X F S (.Call (.Name "list" p) [.Call (.Name "range" p2) [a, b] [] pos2] [] pos) (rgD i (j - i).toNat) := do_listRg2 B hc (ha.to (hb.to (i2 ⟨ok, rfl, rfl⟩))) hg hg2 na nb hp nc
theorem ep_if (hc : Tp X F S c x) (ha : x = true → Ep X F S a d1) (hb : x = false → Ep X F S b d2) : Ep X F S (.IfExp c a b pos) (if x = true then d1 else d2) := de_if (hc.to ⟨fun h => by subst h; exact (ha rfl).to ⟨(if_pos rfl).symm, rfl⟩, fun h => by subst h; exact (hb rfl).to ⟨(if_neg Bool.false_ne_true).symm, rfl⟩⟩)
theorem ep_ord {op : CmpOp} {g : Int → Int → Bool} (o : OrdOp op g) (ha : Ep X F S a (.int i)) (hb : Ep X F S b (.int j)) : Ep X F S (.Compare a [op] [b] pos) (.bool (g i j)) := de_ord o (ha.to (hb.to (i2 ⟨rfl, rfl⟩)))
theorem ep_eq {n : Nat} (hr : Room n X.A) (ha : Ep X F S a d1) (hb : Ep X F S b d2) (h1 : Sh d1) (h2 : Sh d2) : Ep X F S (.Compare a [.Eq] [b] pos) (.bool (PyData.eqv d1 d2)) := de_eq hr (ha.to (hb.to ⟨h1, h2, rfl, rfl⟩))
theorem ep_ne {n : Nat} (hr : Room n X.A) (ha : Ep X F S a d1) (hb : Ep X F S b d2) (h1 : Sh d1) (h2 : Sh d2) : Ep X F S (.Compare a [.NotEq] [b] pos) (.bool (!PyData.eqv d1 d2)) := de_ne hr (ha.to (hb.to ⟨h1, h2, rfl, rfl⟩))
theorem ep_isN {j pos'} (h : Ep X F S a d) : Ep X F S (.Compare a [.Is] [.Constant .none j pos'] pos) (.bool (isNone d)) := de_isN (h.to ⟨rfl, rfl⟩)
theorem ep_or (ha : Ep X F S a (.bool x)) (hb : x = false → Ep X F S (.BoolOp .Or (b :: rest) pos) (.bool y)) : Ep X F S (.BoolOp .Or (a :: b :: rest) pos) (.bool (x || y)) :=
  de_or (ha.to (b1 ⟨fun h => by subst h; exact ⟨rfl, rfl⟩, fun h => by subst h; exact (hb rfl).to ⟨by rw [Bool.false_or], rfl⟩⟩))
theorem ep_and (ha : Ep X F S a (.bool x)) (hb : x = true → Ep X F S (.BoolOp .And (b :: rest) pos) (.bool y)) : Ep X F S (.BoolOp .And (a :: b :: rest) pos) (.bool (x && y)) :=
  de_and (ha.to (b1 ⟨fun h => by subst h; exact ⟨rfl, rfl⟩, fun h => by subst h; exact (hb rfl).to ⟨by rw [Bool.true_and], rfl⟩⟩))
theorem ep_one {op} (h : Ep X F S a d) : Ep X F S (.BoolOp op [a] pos) d := de_one h
theorem ep_not (h : Ep X F S a (.bool x)) : Ep X F S (.UnaryOp .Not a pos) (.bool (!x)) := de_not (h.to (b1 ⟨rfl, rfl⟩))
theorem ep_ch2 {op op' : CmpOp} {g g' : Int → Int → Bool} (o : OrdOp op g) (o' : OrdOp op' g') (ha : Ep X F S a (.int i)) (hb : Ep X F S b (.int j)) (hc : Ep X F S c (.int k)) (hm : lastMarks [op, op'] [b, c] = false := by with_unfolding_all rfl) :
    Ep X F S (.Compare a [op, op'] [b, c] pos) (.bool (g i j && g' j k)) := de_ch2 o o' (ha.to (hb.to (i2 ⟨fun h => ⟨by rw [h, Bool.false_and], rfl⟩, fun h => hc.to ⟨_, rfl, by rw [h, Bool.true_and], rfl⟩⟩))) hm
theorem tp_val (he : ∀ whole, isTrue e X.env whole = (do let v ← whole; standAt e.pos; holding [v] (truthy v))) (h : Ep X F S e (.bool x)) : Tp X F S e x := dt_val he (h.to (b1 ⟨rfl, rfl⟩))
theorem tp_ord {op : CmpOp} {g : Int → Int → Bool} (o : OrdOp op g) (ha : Ep X F S a (.int i)) (hb : Ep X F S b (.int j)) : Tp X F S (.Compare a [op] [b] pos) (g i j) := dt_ord o (ha.to (hb.to (i2 ⟨rfl, rfl⟩)))
theorem tp_eq {n : Nat} (hr : Room n X.A) (ha : Ep X F S a d1) (hb : Ep X F S b d2) (h1 : Sh d1) (h2 : Sh d2) : Tp X F S (.Compare a [.Eq] [b] pos) (PyData.eqv d1 d2) := dt_eq hr (ha.to (hb.to ⟨h1, h2, rfl, rfl⟩))
theorem tp_ne {n : Nat} (hr : Room n X.A) (ha : Ep X F S a d1) (hb : Ep X F S b d2) (h1 : Sh d1) (h2 : Sh d2) : Tp X F S (.Compare a [.NotEq] [b] pos) (!PyData.eqv d1 d2) := dt_ne hr (ha.to (hb.to ⟨h1, h2, rfl, rfl⟩))
theorem tp_isN {j pos'} (h : Ep X F S a d) : Tp X F S (.Compare a [.Is] [.Constant .none j pos'] pos) (isNone d) := dt_isN (h.to ⟨rfl, rfl⟩)
theorem tp_notN {j pos'} (h : Ep X F S a d) : Tp X F S (.Compare a [.IsNot] [.Constant .none j pos'] pos) (!isNone d) := dt_notN (h.to ⟨rfl, rfl⟩)
theorem tp_nin (ha : Ep X F S a d) (hb : Ep X F S b d2) (sq : Sq d2 ds) (f1 : flatD d = true) (f2 : ds.all flatD = true) (hm : behindInMarks .NotIn b = false := by rfl) : Tp X F S (.Compare a [.NotIn] [b] pos) (!inD d ds) := dt_nin (ha.to (hb.to ⟨_, sq, f1, f2, rfl, rfl⟩)) hm
theorem tp_not (h : Tp X F S a x) : Tp X F S (.UnaryOp .Not a pos) (!x) := dt_not (h.to ⟨rfl, rfl⟩)
theorem tp_w (h : Wp X F S e x) : Tp X F S e x := dt_bw h
theorem wp_or1 (h : Tp X F S a x) : Wp X F S (.BoolOp .Or [a] pos) x := dw_or1 h
theorem wp_and1 (h : Tp X F S a x) : Wp X F S (.BoolOp .And [a] pos) x := dw_and1 h
theorem wp_or (ha : Tp X F S a x) (hb : x = false → Wp X F S (.BoolOp .Or (b :: rest) pos) y) : Wp X F S (.BoolOp .Or (a :: b :: rest) pos) (x || y) :=
  dw_or (ha.to ⟨fun h => by subst h; exact ⟨rfl, rfl⟩, fun h => by subst h; exact (hb rfl).to ⟨by rw [Bool.false_or], rfl⟩⟩)
theorem wp_and (ha : Tp X F S a x) (hb : x = true → Wp X F S (.BoolOp .And (b :: rest) pos) y) : Wp X F S (.BoolOp .And (a :: b :: rest) pos) (x && y) :=
  dw_and (ha.to ⟨fun h => by subst h; exact ⟨rfl, rfl⟩, fun h => by subst h; exact (hb rfl).to ⟨by rw [Bool.true_and], rfl⟩⟩)
theorem tp_ch2 {op op' : CmpOp} {g g' : Int → Int → Bool} (o : OrdOp op g) (o' : OrdOp op' g') (ha : Ep X F S a (.int i)) (hb : Ep X F S b (.int j)) (hc : Ep X F S c (.int k)) (hm : lastMarks [op, op'] [b, c] = false := by with_unfolding_all rfl) :
    Tp X F S (.Compare a [op, op'] [b, c] pos) (g i j && g' j k) := dt_ch2 o o' (ha.to (hb.to (i2 ⟨fun h => ⟨by rw [h, Bool.false_and], rfl⟩, fun h => hc.to ⟨_, rfl, by rw [h, Bool.true_and], rfl⟩⟩))) hm
theorem tp_ch3 {e : Expr} {l : Int} {op op' op'' : CmpOp} {g g' g'' : Int → Int → Bool} (o : OrdOp op g) (o' : OrdOp op' g') (o'' : OrdOp op'' g'') (ha : Ep X F S a (.int i)) (hb : Ep X F S b (.int j)) (hc : Ep X F S c (.int k)) (hd : Ep X F S e (.int l)) (hm : lastMarks [op, op', op''] [b, c, e] = false := by with_unfolding_all rfl) :
    Tp X F S (.Compare a [op, op', op''] [b, c, e] pos) (g i j && (g' j k && g'' k l)) :=
  dt_ch3 o o' o'' (ha.to (hb.to (i2 ⟨fun h => ⟨by rw [h, Bool.false_and], rfl⟩, fun h => hc.to ⟨_, rfl, fun h2 => ⟨by rw [h, h2, Bool.true_and, Bool.false_and], rfl⟩, fun h2 => hd.to ⟨_, rfl, by rw [h, h2, Bool.true_and, Bool.true_and], rfl⟩⟩⟩))) hm
/-! ### statements over these -/
theorem ds_ifP {body orelse : List Stmt} {P : Post} (h : Tp X F S c x) (h1 : x = true → DB X F S body P) (h2 : x = false → DB X F S orelse P) : DS X F S (.If c body orelse pos) P := ds_if (h.to ⟨h1, h2⟩)
theorem ds_setP (n : Nat) {x : Str} {pos' : Pos} {P : Post} (hN : X.N.Nodup) (h : Ep X F S e d) (k : P.nx (S.set n (.val d))) (hi : X.N[n]? = some x := by rfl) (hx : Loc X.env.scope x := by first | exact .inl rfl | exact .inr rfl) (hs : swapsWith e (some (.Name x pos')) pos.line X.env = pure false := by rfl)
    (hf : X.fn x = true ∨ X.env.scope.names.lookup x = some .local := by first | exact .inl rfl | exact .inr rfl) : DS X F S (.Assign [.Name x pos'] e pos) P := ds_set n hN (h.to k) hi hx hs hf
theorem ds_setOP (n : Nat) {x : Str} {pos' : Pos} {P : Post} (hN : X.N.Nodup) (h : Op X F S e ds) (k : P.nx (S.set n (.own ds))) (hi : X.N[n]? = some x := by rfl) (hx : Loc X.env.scope x := by first | exact .inl rfl | exact .inr rfl) (hs : swapsWith e (some (.Name x pos')) pos.line X.env = pure false := by rfl)
    (hf : X.fn x = true ∨ X.env.scope.names.lookup x = some .local := by first | exact .inl rfl | exact .inr rfl) : DS X F S (.Assign [.Name x pos'] e pos) P := ds_setO n hN (h.to k) hi hx hs hf
theorem ds_retP {P : Post} (h : Ep X F S e d) (k : P.rt d S) : DS X F S (.Return (some e) pos) P := ds_ret (h.to k)
theorem ds_retOP {P : Post} (h : Op X F S e ds) (k : P.ro ds S) : DS X F S (.Return (some e) pos) P := ds_retO (h.to k)
/-! ### comprehensions that change nothing -/
variable {β : Type} {scope : Scope} {elt : Expr} {ifs : List Expr} {vs : List Nat}
theorem lcp_gen {g0 : FW.D → List Sl → (List Sl → Prop) → Prop} (enc : β → FW.D) (bs : List β) (f : β → Bool) (g : β → FW.D) (St : β → List Sl) (hxs : xs = bs.map enc) (hl : bs.length < sizeLine)
    (hg : ∀ b ∈ bs, ∀ k : List Sl → Prop, k (St b) → g0 (enc b) (wipeS S vs) k) (hw : ∀ b ∈ bs, wipeS (St b) vs = wipeS S vs)
    (ht : ∀ b ∈ bs, ∀ s H C cl fp, DTs (Bk X scope s H C cl fp) F (St b) ifs fun t S' => t = f b ∧ S' = St b) (he : ∀ b ∈ bs, f b = true → ∀ s H C cl fp, Ep (Bk X scope s H C cl fp) F (St b) elt (g b)) (hw2 : wipeS (wipeS S vs) vs = wipeS S vs)
    (k : PO ((bs.filter f).map g) (wipeS S vs)) : LcI X F scope vs g0 elt ifs PO xs S := by
  refine ⟨fun i Si acc => Si = wipeS S vs ∧ acc = ((bs.take i).filter f).map g, ⟨rfl, by simp⟩, fun i d Si acc hd ⟨e1, e2⟩ => ?_, fun Sn acc ⟨e1, e2⟩ => ?_⟩
  · subst hxs
    rw [List.getElem?_map] at hd
    cases hb : bs[i]? with
    | none => rw [hb] at hd; cases hd
    | some b =>
      rw [hb] at hd; cases hd
      have hm : b ∈ bs := List.mem_of_getElem? hb
      subst e1
      have htk : bs.take (i + 1) = bs.take i ++ [b] := by rw [List.take_add_one, hb]; rfl
      refine hg b hm _ ⟨_, ht b hm, fun t S3 ⟨et, e3⟩ => ?_⟩
      subst e3
      refine ⟨fun h => ⟨?_, fun s H C cl fp => ?_⟩, fun h => ?_⟩
      · subst e2
        have hl1 : (((bs.take i).filter f).map g).length ≤ (bs.take i).length := by rw [List.length_map]; exact List.length_filter_le _ _
        have hl2 : (bs.take i).length ≤ bs.length := by rw [List.length_take]; exact Nat.min_le_right _ _
        exact Nat.lt_of_le_of_lt (Nat.le_trans hl1 hl2) hl
      · refine (he b hm (et.symm.trans h) s H C cl fp).to ⟨hw b hm, ?_⟩
        rw [e2, htk, List.filter_append, List.map_append, List.filter_cons, if_pos (et.symm.trans h)]; rfl
      · refine ⟨hw b hm, ?_⟩
        rw [e2, htk, List.filter_append, List.map_append, List.filter_cons, if_neg (by rw [← et, h]; exact Bool.false_ne_true)]
        rw [List.filter_nil, List.map_nil, List.append_nil]
  · subst e1; subst e2; subst hxs
    rw [List.length_map, List.take_length, hw2]
    exact k
/-- the target a name in slot n -/
theorem lcp (n : Nat) (enc : β → FW.D) (bs : List β) (f : β → Bool) (g : β → FW.D) (hxs : xs = bs.map enc) (hl : bs.length < sizeLine)
    (ht : ∀ b ∈ bs, ∀ s H C cl fp, DTs (Bk X scope s H C cl fp) F ((wipeS S vs).set n (.val (enc b))) ifs fun t S' => t = f b ∧ S' = (wipeS S vs).set n (.val (enc b)))
    (he : ∀ b ∈ bs, f b = true → ∀ s H C cl fp, Ep (Bk X scope s H C cl fp) F ((wipeS S vs).set n (.val (enc b))) elt (g b)) (k : PO ((bs.filter f).map g) (wipeS S vs)) (hw : ∀ d : FW.D, wipeS ((wipeS S vs).set n (.val d)) vs = wipeS S vs := by intro _; rfl) (hw2 : wipeS (wipeS S vs) vs = wipeS S vs := by rfl) :
    LcI X F scope vs (gN n) elt ifs PO xs S :=
  lcp_gen enc bs f g (fun b => (wipeS S vs).set n (.val (enc b))) hxs hl (fun b _ k hk => hk) (fun b _ => hw _) ht he hw2 k
/-- .. a pair of names in slots n, m -/
theorem lcp2 (n m : Nat) (e1 e2 : β → FW.D) (bs : List β) (f : β → Bool) (g : β → FW.D) (hxs : xs = bs.map fun b => .tuple [e1 b, e2 b]) (hl : bs.length < sizeLine)
    (ht : ∀ b ∈ bs, ∀ s H C cl fp, DTs (Bk X scope s H C cl fp) F (((wipeS S vs).set n (.val (e1 b))).set m (.val (e2 b))) ifs fun t S' => t = f b ∧ S' = ((wipeS S vs).set n (.val (e1 b))).set m (.val (e2 b)))
    (he : ∀ b ∈ bs, f b = true → ∀ s H C cl fp, Ep (Bk X scope s H C cl fp) F (((wipeS S vs).set n (.val (e1 b))).set m (.val (e2 b))) elt (g b)) (k : PO ((bs.filter f).map g) (wipeS S vs)) (hw : ∀ d d' : FW.D, wipeS (((wipeS S vs).set n (.val d)).set m (.val d')) vs = wipeS S vs := by intro _ _; rfl) (hw2 : wipeS (wipeS S vs) vs = wipeS S vs := by rfl) :
    LcI X F scope vs (gT 2 (gsC (gN n) (gsC (gN m) gs0))) elt ifs PO xs S :=
  lcp_gen (fun b => .tuple [e1 b, e2 b]) bs f g (fun b => ((wipeS S vs).set n (.val (e1 b))).set m (.val (e2 b))) hxs hl (fun b _ k hk => ⟨_, rfl, rfl, _, _, rfl, _, _, rfl, rfl, hk⟩) (fun b _ => hw _ _) ht he hw2 k
theorem ts_nil {f : Bool} (h : f = true := by rfl) : DTs X F S [] fun t S' => t = f ∧ S' = S := dts_nil ⟨h.symm, rfl⟩
theorem ts_one (h : Tp X F S c x) : DTs X F S [c] fun t S' => t = x ∧ S' = S := dts_one h
/-- nothing left out -/
theorem filter_true {α : Type} (l : List α) : l.filter (fun _ => true) = l := List.filter_eq_self.mpr fun _ _ => rfl
/-- Sh -/
theorem sh_int (i : Int) : Sh (.int i) := by
  show ((PyData.int i).canLay0 && decide ((PyData.int i).depth ≤ 64)) = true
  simp [PyData.canLay0, PyData.depth]
/-- ints to a depth -/
def shD (n : Nat) (d : FW.D) : Prop := d.canLay0 = true ∧ d.depth ≤ n
theorem sh_of {n : Nat} {d : FW.D} (h : shD n d) (hn : n ≤ 64 := by decide) : Sh d := by
  show (d.canLay0 && decide (d.depth ≤ 64)) = true
  rw [h.1, decide_eq_true (Nat.le_trans h.2 hn)]; rfl
theorem shD_int (n : Nat) (i : Int) : shD n (.int i) := ⟨by simp [PyData.canLay0], by simp [PyData.depth]⟩
theorem shD_bool (n : Nat) (i : Bool) : shD n (.bool i) := ⟨by simp [PyData.canLay0], by simp [PyData.depth]⟩
theorem shD_str (n : Nat) {i : Str} (h : PyData.strOk i = true) : shD n (.str i) := ⟨by simp [PyData.canLay0, h], by simp [PyData.depth]⟩
theorem shD_none (n : Nat) : shD n .none := ⟨by simp [PyData.canLay0], by simp [PyData.depth]⟩
theorem shD_all {n : Nat} : ∀ {ds : List FW.D}, (∀ d ∈ ds, shD n d) → PyData.canLayAll0 ds = true ∧ PyData.depthAll ds ≤ n
  | [], _ => ⟨by simp [PyData.canLayAll0], by simp [PyData.depthAll]⟩
  | d :: ds, h => by
    obtain ⟨h1, h2⟩ := h d List.mem_cons_self
    obtain ⟨h3, h4⟩ := shD_all (n := n) (ds := ds) fun x hx => h x (List.mem_cons_of_mem _ hx)
    refine ⟨by simp [PyData.canLayAll0, h1, h3], ?_⟩
    simp only [PyData.depthAll]
    omega
theorem shD_tup {n : Nat} {ds : List FW.D} (h : ∀ d ∈ ds, shD n d) : shD (n + 1) (.tuple ds) := by
  obtain ⟨h1, h2⟩ := shD_all h
  refine ⟨by simp [PyData.canLay0, h1], ?_⟩
  simp only [PyData.depth]
  omega
theorem shD_lst {n : Nat} {ds : List FW.D} (h : ∀ d ∈ ds, shD n d) : shD (n + 1) (.list ds) := by
  obtain ⟨h1, h2⟩ := shD_all h
  refine ⟨by simp [PyData.canLay0, h1], ?_⟩
  simp only [PyData.depth]
  omega
theorem shD_ints (n : Nat) (ns : List Int) : ∀ d ∈ ns.map PyData.int, shD n d := fun d h => by
  obtain ⟨i, _, rfl⟩ := List.mem_map.mp h
  exact shD_int n i
theorem sh_tints (ns : List Int) : Sh (.tuple (ns.map .int)) := sh_of (n := 1) (shD_tup (shD_ints 0 ns))
theorem sh_lints (ns : List Int) : Sh (.list (ns.map .int)) := sh_of (n := 1) (shD_lst (shD_ints 0 ns))
theorem sh_nil : Sh (.list []) := sh_of (n := 1) (shD_lst (n := 0) (by simp))
theorem sh_none : Sh .none := sh_of (shD_none 0)
/-- == of lists with [] -/
theorem eqv_nilL (ds : List FW.D) : PyData.eqv (.list ds) (.list []) = ds.isEmpty := by
  cases ds <;> simp [PyData.eqv, PyData.eqvAll]
theorem eqv_int (i j : Int) : PyData.eqv (.int i) (.int j) = (i == j) := by simp [PyData.eqv]
theorem eqvAll_ints : ∀ ns ms : List Int, PyData.eqvAll (ns.map .int) (ms.map .int) = decide (ns = ms)
  | [], [] => by simp [PyData.eqvAll]
  | [], m :: ms => by simp [PyData.eqvAll]
  | n :: ns, [] => by simp [PyData.eqvAll]
  | n :: ns, m :: ms => by
    simp only [List.map_cons, PyData.eqvAll, eqvAll_ints ns ms, eqv_int]
    by_cases h1 : n = m <;> by_cases h2 : ns = ms <;> simp [h1, h2]
theorem eqv_tints (ns ms : List Int) : PyData.eqv (.tuple (ns.map .int)) (.tuple (ms.map .int)) = decide (ns = ms) := by
  show PyData.eqvAll _ _ = _
  exact eqvAll_ints ns ms
theorem eqv_lints (ns ms : List Int) : PyData.eqv (.list (ns.map .int)) (.list (ms.map .int)) = decide (ns = ms) := by
  show PyData.eqvAll _ _ = _
  exact eqvAll_ints ns ms
end
end FW

namespace FW
open PySem PySem.Spec PyProof.Rows L2
variable [Tb]

theorem Kn.up {P : Program} {w : World} {K : PySem.W.Frag} {mg : Str → Option Value} {base : Heap} {CX : CXT} {x : Str} {j k : Nat} {sp : Sp} (c : Kn P w K mg base CX x j sp) (h : j ≤ k := by decide) : Kn P w K mg base CX x k sp := by
  obtain ⟨f, fd, ps, F, hm, hk, hb⟩ := c.ex
  exact ⟨f, fd, ps, F.mono h, hm, hk, hb⟩
theorem kn_mk {P : Program} {w : World} {K : PySem.W.Frag} {mg : Str → Option Value} {base : Heap} {CX : CXT} {x : Str} {k : Nat} {sp : Sp} {f : Addr} {fd : FuncData} {ps : List Str} {h : Heap} (X : K.In h) (G : h.Ns mainGlobals mg)
    (a : PySem.W.nsIn K mainGlobals x = some (some (.ref f))) (kp : PySem.W.keepIn K (.ref f) = true) (b : Binds K fd ps []) (F : FnOk P w K mg base CX k f fd ps sp) : Kn P w K mg base CX x k sp :=
  ⟨f, fd, ps, F, PySem.W.mg_of X G a, kp, b⟩

section
variable {X : Cx} {F : Fr} {S : List Sl} {e a : Expr} {es : List Expr} {P : PD} {pos p : Pos} {x : Str} {k : Nat} {CX : CXT} {d : FW.D} {ds : List FW.D}
theorem ep_call {Z : Zp} {ex : Xk → Prop} (c : Kn X.prog X.w X.K X.mg X.base CX x k (spP Z)) (hr : Room k X.A) (hw : Wish CX X F ex) (h : Ap X F S (e :: es) ds) (hz : Z ds (fun d' => d' = d ∧ S = S) (fun l => .list l = d ∧ S = S) ex) (hg : Gl X x := by rfl)
    (hdb : (x == ("__debug__" : Str)) = false := by decide) (he : starEach (e :: es) X.env = (false, eval e X.env) :: starEach es X.env := by rfl) (hpl : (backTo pos (starEach es X.env)).any (·.1) = false := by rfl) : Ep X F S (.Call (.Name x p) (e :: es) [] pos) d :=
  de_call c hr hw (h.to hz) hg hdb he hpl
end

/-! ### the script's row -/
def z_taken : Zp := fun ds kt _ _ => ∃ m : Int, ds = [.int m] ∧ (0 < m ∧ m < 1073741824) ∧ ∀ r : Int, 0 ≤ r → r < m → kt (.int r)
section
variable {X : Cx} {F : Fr} {S : List Sl} {e a : Expr} {P : PD} {pos p : Pos} {x x0 : Str} {k : Nat} {m : Int} {p0 : Pos}
theorem de_take (i : Nat) (c : Kn X.prog X.w X.K X.mg X.base CX0 x k (spR X.K z_taken)) (hr : Room k X.A)
    (h : DE X F S a (fun d S' => ∃ m : Int, d = .int m ∧ (0 < m ∧ m < 1073741824) ∧ S'[i]? = some .row ∧ ∀ r : Int, 0 ≤ r → r < m → P (.int r) S')) (hO : S[i]? = some .row := by rfl) (hg : Gl X x := by rfl)
    (hN : X.N[i]? = some x0 := by rfl) (hv : Vis X.env.scope x0 := by first | exact Or.inl rfl | exact Or.inr (Or.inl rfl) | exact Or.inr (Or.inr rfl)) (hd : (x0 == ("__debug__" : Str)) = false := by decide) (hcd : (x0 == ("__classdict__" : Str)) = false := by decide)
    (hdb : (x == ("__debug__" : Str)) = false := by decide) (he : starEach (.Name x0 p0 :: [a]) X.env = (false, eval (.Name x0 p0) X.env) :: starEach [a] X.env := by rfl) (he2 : starEach [a] X.env = (false, eval a X.env) :: starEach [] X.env := by rfl) (hpl : (backTo pos (starEach [a] X.env)).any (·.1) = false := by rfl) : DE X F S (.Call (.Name x p) (.Name x0 p0 :: [a]) [] pos) P :=
  de_callR i c hr wish0 (da_cons (DE.imp h fun d S' ⟨m, e1, h1, h2, h3⟩ => da_nil ⟨h2, m, by rw [e1], h1, h3⟩) he2) hO hg hN hv hd hcd hdb he hpl
theorem de_takeP (i : Nat) (c : Kn X.prog X.w X.K X.mg X.base CX0 x k (spR X.K z_taken)) (hr : Room k X.A) (h : Ep X F S a (.int m)) (hm : 0 < m ∧ m < 1073741824) (q : ∀ r : Int, 0 ≤ r → r < m → P (.int r) S) (hO : S[i]? = some .row := by rfl) (hg : Gl X x := by rfl)
    (hN : X.N[i]? = some x0 := by rfl) (hv : Vis X.env.scope x0 := by first | exact Or.inl rfl | exact Or.inr (Or.inl rfl) | exact Or.inr (Or.inr rfl)) (hd : (x0 == ("__debug__" : Str)) = false := by decide) (hcd : (x0 == ("__classdict__" : Str)) = false := by decide)
    (hdb : (x == ("__debug__" : Str)) = false := by decide) (he : starEach (.Name x0 p0 :: [a]) X.env = (false, eval (.Name x0 p0) X.env) :: starEach [a] X.env := by rfl) (he2 : starEach [a] X.env = (false, eval a X.env) :: starEach [] X.env := by rfl) (hpl : (backTo pos (starEach [a] X.env)).any (·.1) = false := by rfl) : DE X F S (.Call (.Name x p) (.Name x0 p0 :: [a]) [] pos) P :=
  de_take i c hr (h.to ⟨m, rfl, hm, hO, q⟩) hO hg hN hv hd hcd hdb he he2 hpl
end

/-! ### a join behind a statement -/
theorem db_mid {X : Cx} {F : Fr} {S : List Sl} {st : Stmt} {rest : List Stmt} {P : Post} (M : List Sl → Prop) (h1 : DS X F S st ⟨M, P.rt, P.ro, P.bk, P.ct, P.rn⟩) (h2 : ∀ S', M S' → DB X F S' rest P) : DB X F S (st :: rest) P :=
  db_cons (ds_imp h1 h2 (fun _ _ h => h) (fun _ _ h => h) (fun _ h => h) (fun _ h => h) (fun _ _ h => h))
/-! ### one of some -/
def AI (lo hi : Int) (ds : List FW.D) : Prop := ∀ d ∈ ds, ∃ v : Int, d = .int v ∧ lo ≤ v ∧ v ≤ hi
theorem AI.nil {lo hi : Int} : AI lo hi [] := fun _ h => nomatch h
theorem AI.cons {lo hi v : Int} {ds : List FW.D} (h0 : lo ≤ v) (h1 : v ≤ hi) (h : AI lo hi ds) : AI lo hi (.int v :: ds) := fun d hd => by
  rcases List.mem_cons.mp hd with rfl | hd
  · exact ⟨v, rfl, h0, h1⟩
  · exact h d hd
theorem AI.ints {lo hi : Int} : ∀ {ns : List Int}, (∀ v ∈ ns, lo ≤ v ∧ v ≤ hi) → AI lo hi (ns.map .int)
  | ns, h => fun d hd => by
    obtain ⟨v, hv, rfl⟩ := List.mem_map.mp hd
    exact ⟨v, rfl, (h v hv).1, (h v hv).2⟩
theorem AI.toInts {lo hi : Int} : ∀ {ds : List FW.D}, AI lo hi ds → ∃ ns : List Int, ds = ns.map .int ∧ ∀ v ∈ ns, lo ≤ v ∧ v ≤ hi
  | [], _ => ⟨[], rfl, fun _ h => nomatch h⟩
  | d :: ds, h => by
    obtain ⟨v, rfl, h0, h1⟩ := h d List.mem_cons_self
    obtain ⟨ns, rfl, hn⟩ := AI.toInts (ds := ds) fun x hx => h x (List.mem_cons_of_mem _ hx)
    exact ⟨v :: ns, rfl, fun y hy => by
      rcases List.mem_cons.mp hy with rfl | hy
      · exact ⟨h0, h1⟩
      · exact hn y hy⟩
theorem atI_some {α : Type} {xs : List α} {r : Int} (h0 : 0 ≤ r) (h1 : r < xs.length) : ∃ d, atI xs r = some d ∧ d ∈ xs := by
  have h2 : r.toNat < xs.length := by omega
  refine ⟨xs[r.toNat], ?_, List.getElem_mem h2⟩
  have e : atI xs ((r.toNat : Nat) : Int) = some xs[r.toNat] := atI_nat (List.getElem?_eq_getElem h2)
  have e2 : ((r.toNat : Nat) : Int) = r := by omega
  rw [e2] at e
  exact e
section
variable {X : Cx} {F : Fr} {S : List Sl} {a : Expr} {P : PD} {pos pos2 p : Pos} {x x0 : Str} {k : Nat} {n : Int} {p0 pc : Pos} {j : _}
/-- [..][_law_taken(_law_row, n)]: any of them -/
theorem de_pick (i : Nat) (c : Kn X.prog X.w X.K X.mg X.base CX0 x k (spR X.K z_taken)) (hr : Room k X.A) (hm : 0 < n ∧ n < 1073741824)
    (h : DE X F S a (fun d1 S1 => S1[i]? = some .row ∧ ∃ ds : List FW.D, d1 = .list ds ∧ Nat.ble n.toNat ds.length = true ∧ ∀ d ∈ ds, P d S1)) (hg : Gl X x := by rfl)
    (hN : X.N[i]? = some x0 := by rfl) (hv : Vis X.env.scope x0 := by first | exact Or.inl rfl | exact Or.inr (Or.inl rfl) | exact Or.inr (Or.inr rfl)) (hd : (x0 == ("__debug__" : Str)) = false := by decide) (hcd : (x0 == ("__classdict__" : Str)) = false := by decide)
    (hdb : (x == ("__debug__" : Str)) = false := by decide) (he : starEach (.Name x0 p0 :: [.Constant (.int n) j pc]) X.env = (false, eval (.Name x0 p0) X.env) :: starEach [.Constant (.int n) j pc] X.env := by rfl) (he2 : starEach [.Constant (.int n) j pc] X.env = (false, eval (.Constant (.int n) j pc) X.env) :: starEach [] X.env := by rfl) (hpl : (backTo pos (starEach [.Constant (.int n) j pc] X.env)).any (·.1) = false := by rfl)
    (hs : PlainIx (.Call (.Name x p) (.Name x0 p0 :: [.Constant (.int n) j pc]) [] pos) := by exact fun _ _ => rfl) : DE X F S (.Subscript a (.Call (.Name x p) (.Name x0 p0 :: [.Constant (.int n) j pc]) [] pos) pos2) P :=
  de_ix (DE.imp h fun d1 S1 ⟨hO, ds, e, hl, hp⟩ => de_takeP i c hr ep_int hm (fun r h0 h1 => by
    obtain ⟨d, hd, hm⟩ := atI_some (xs := ds) h0 (by have := Nat.le_of_ble_eq_true hl; omega)
    exact ⟨ds, r, d, by rw [e]; exact .l _, rfl, hd, hp d hm⟩) hO hg hN hv hd hcd hdb he he2 hpl) hs
/-- .. all ints between these -/
theorem de_pickI (lo hi : Int) (i : Nat) (c : Kn X.prog X.w X.K X.mg X.base CX0 x k (spR X.K z_taken)) (hr : Room k X.A) (hm : 0 < n ∧ n < 1073741824)
    (h : DE X F S a (fun d1 S1 => S1[i]? = some .row ∧ ∃ ds : List FW.D, d1 = .list ds ∧ Nat.ble n.toNat ds.length = true ∧ AI lo hi ds ∧ ∀ v : Int, lo ≤ v → v ≤ hi → P (.int v) S1)) (hg : Gl X x := by rfl)
    (hN : X.N[i]? = some x0 := by rfl) (hv : Vis X.env.scope x0 := by first | exact Or.inl rfl | exact Or.inr (Or.inl rfl) | exact Or.inr (Or.inr rfl)) (hd : (x0 == ("__debug__" : Str)) = false := by decide) (hcd : (x0 == ("__classdict__" : Str)) = false := by decide)
    (hdb : (x == ("__debug__" : Str)) = false := by decide) (he : starEach (.Name x0 p0 :: [.Constant (.int n) j pc]) X.env = (false, eval (.Name x0 p0) X.env) :: starEach [.Constant (.int n) j pc] X.env := by rfl) (he2 : starEach [.Constant (.int n) j pc] X.env = (false, eval (.Constant (.int n) j pc) X.env) :: starEach [] X.env := by rfl) (hpl : (backTo pos (starEach [.Constant (.int n) j pc] X.env)).any (·.1) = false := by rfl)
    (hs : PlainIx (.Call (.Name x p) (.Name x0 p0 :: [.Constant (.int n) j pc]) [] pos) := by exact fun _ _ => rfl) : DE X F S (.Subscript a (.Call (.Name x p) (.Name x0 p0 :: [.Constant (.int n) j pc]) [] pos) pos2) P :=
  de_pick i c hr hm (DE.imp h fun d1 S1 ⟨hO, ds, e, hl, ha, hp⟩ => ⟨hO, ds, e, hl, fun d hd => by
    obtain ⟨v, rfl, h0, h1⟩ := ha d hd
    exact hp v h0 h1⟩) hg hN hv hd hcd hdb he he2 hpl hs
end

/-! ### isinstance of data, by its kind -/
def isT : FW.D → Bool
  | .tuple _ => true
  | _ => false
def isL : FW.D → Bool
  | .list _ => true
  | _ => false
def isBo : FW.D → Bool
  | .bool _ => true
  | _ => false
def isS : FW.D → Bool
  | .str _ => true
  | _ => false
def isIn : FW.D → Bool
  | .int _ => true
  | .bool _ => true
  | _ => false
theorem kit_T : ∀ d : FW.D, kitB (tyD d) "tuple" = some (isT d)
  | .none => (by decide +kernel : kitB "NoneType" "tuple" = some false)
  | .bool _ => (by decide +kernel : kitB "bool" "tuple" = some false)
  | .int _ => (by decide +kernel : kitB "int" "tuple" = some false)
  | .str _ => (by decide +kernel : kitB "str" "tuple" = some false)
  | .list _ => (by decide +kernel : kitB "list" "tuple" = some false)
  | .tuple _ => (by decide +kernel : kitB "tuple" "tuple" = some true)
  | .dict _ => (by decide +kernel : kitB "dict" "tuple" = some false)
theorem kit_L : ∀ d : FW.D, kitB (tyD d) "list" = some (isL d)
  | .none => (by decide +kernel : kitB "NoneType" "list" = some false)
  | .bool _ => (by decide +kernel : kitB "bool" "list" = some false)
  | .int _ => (by decide +kernel : kitB "int" "list" = some false)
  | .str _ => (by decide +kernel : kitB "str" "list" = some false)
  | .list _ => (by decide +kernel : kitB "list" "list" = some true)
  | .tuple _ => (by decide +kernel : kitB "tuple" "list" = some false)
  | .dict _ => (by decide +kernel : kitB "dict" "list" = some false)
theorem kit_B : ∀ d : FW.D, kitB (tyD d) "bool" = some (isBo d)
  | .none => (by decide +kernel : kitB "NoneType" "bool" = some false)
  | .bool _ => (by decide +kernel : kitB "bool" "bool" = some true)
  | .int _ => (by decide +kernel : kitB "int" "bool" = some false)
  | .str _ => (by decide +kernel : kitB "str" "bool" = some false)
  | .list _ => (by decide +kernel : kitB "list" "bool" = some false)
  | .tuple _ => (by decide +kernel : kitB "tuple" "bool" = some false)
  | .dict _ => (by decide +kernel : kitB "dict" "bool" = some false)
theorem kit_S : ∀ d : FW.D, kitB (tyD d) "str" = some (isS d)
  | .none => (by decide +kernel : kitB "NoneType" "str" = some false)
  | .bool _ => (by decide +kernel : kitB "bool" "str" = some false)
  | .int _ => (by decide +kernel : kitB "int" "str" = some false)
  | .str _ => (by decide +kernel : kitB "str" "str" = some true)
  | .list _ => (by decide +kernel : kitB "list" "str" = some false)
  | .tuple _ => (by decide +kernel : kitB "tuple" "str" = some false)
  | .dict _ => (by decide +kernel : kitB "dict" "str" = some false)
theorem kit_I : ∀ d : FW.D, kitB (tyD d) "int" = some (isIn d)
  | .none => (by decide +kernel : kitB "NoneType" "int" = some false)
  | .bool _ => (by decide +kernel : kitB "bool" "int" = some true)
  | .int _ => (by decide +kernel : kitB "int" "int" = some true)
  | .str _ => (by decide +kernel : kitB "str" "int" = some false)
  | .list _ => (by decide +kernel : kitB "list" "int" = some false)
  | .tuple _ => (by decide +kernel : kitB "tuple" "int" = some false)
  | .dict _ => (by decide +kernel : kitB "dict" "int" = some false)
section
variable {X : Cx} {F : Fr} {S : List Sl} {e : Expr} {pos p p1 p2 p3 : Pos} {d : FW.D} {j : Nat}
theorem ep_isT (B : BT X.mg) (h : Ep X F S e d) (nd : ∀ kvs, d ≠ .dict kvs := by first | assumption | (intro _ z; cases z)) (hg : Gl X "isinstance" := by rfl) (hgT : Gl X "tuple" := by rfl)
    (hs : starEach [e, .Name "tuple" p1] X.env = (false, eval e X.env) :: starEach [.Name "tuple" p1] X.env := by rfl) (hs2 : starEach [.Name "tuple" p1] X.env = (false, eval (.Name "tuple" p1) X.env) :: starEach [] X.env := by rfl) (hpl : (backTo pos (starEach [.Name "tuple" p1] X.env)).any (·.1) = false := by rfl) : Ep X F S (.Call (.Name "isinstance" p) [e, .Name "tuple" p1] [] pos) (.bool (isT d)) :=
  de_isi B B.tuple (by decide +kernel) (h.to ⟨_, kit_T d, nd, rfl, rfl⟩) hg hgT (by decide) (by decide) hs hs2 hpl
theorem ep_isL (B : BT X.mg) (h : Ep X F S e d) (nd : ∀ kvs, d ≠ .dict kvs := by first | assumption | (intro _ z; cases z)) (hg : Gl X "isinstance" := by rfl) (hgT : Gl X "list" := by rfl)
    (hs : starEach [e, .Name "list" p1] X.env = (false, eval e X.env) :: starEach [.Name "list" p1] X.env := by rfl) (hs2 : starEach [.Name "list" p1] X.env = (false, eval (.Name "list" p1) X.env) :: starEach [] X.env := by rfl) (hpl : (backTo pos (starEach [.Name "list" p1] X.env)).any (·.1) = false := by rfl) : Ep X F S (.Call (.Name "isinstance" p) [e, .Name "list" p1] [] pos) (.bool (isL d)) :=
  de_isi B B.list (by decide +kernel) (h.to ⟨_, kit_L d, nd, rfl, rfl⟩) hg hgT (by decide) (by decide) hs hs2 hpl
theorem ep_isB (B : BT X.mg) (h : Ep X F S e d) (nd : ∀ kvs, d ≠ .dict kvs := by first | assumption | (intro _ z; cases z)) (hg : Gl X "isinstance" := by rfl) (hgT : Gl X "bool" := by rfl)
    (hs : starEach [e, .Name "bool" p1] X.env = (false, eval e X.env) :: starEach [.Name "bool" p1] X.env := by rfl) (hs2 : starEach [.Name "bool" p1] X.env = (false, eval (.Name "bool" p1) X.env) :: starEach [] X.env := by rfl) (hpl : (backTo pos (starEach [.Name "bool" p1] X.env)).any (·.1) = false := by rfl) : Ep X F S (.Call (.Name "isinstance" p) [e, .Name "bool" p1] [] pos) (.bool (isBo d)) :=
  de_isi B B.bool (by decide +kernel) (h.to ⟨_, kit_B d, nd, rfl, rfl⟩) hg hgT (by decide) (by decide) hs hs2 hpl
theorem ep_isS (B : BT X.mg) (h : Ep X F S e d) (nd : ∀ kvs, d ≠ .dict kvs := by first | assumption | (intro _ z; cases z)) (hg : Gl X "isinstance" := by rfl) (hgT : Gl X "str" := by rfl)
    (hs : starEach [e, .Name "str" p1] X.env = (false, eval e X.env) :: starEach [.Name "str" p1] X.env := by rfl) (hs2 : starEach [.Name "str" p1] X.env = (false, eval (.Name "str" p1) X.env) :: starEach [] X.env := by rfl) (hpl : (backTo pos (starEach [.Name "str" p1] X.env)).any (·.1) = false := by rfl) : Ep X F S (.Call (.Name "isinstance" p) [e, .Name "str" p1] [] pos) (.bool (isS d)) :=
  de_isi B B.str (by decide +kernel) (h.to ⟨_, kit_S d, nd, rfl, rfl⟩) hg hgT (by decide) (by decide) hs hs2 hpl
theorem ep_isI (B : BT X.mg) (h : Ep X F S e d) (nd : ∀ kvs, d ≠ .dict kvs := by first | assumption | (intro _ z; cases z)) (hg : Gl X "isinstance" := by rfl) (hgT : Gl X "int" := by rfl)
    (hs : starEach [e, .Name "int" p1] X.env = (false, eval e X.env) :: starEach [.Name "int" p1] X.env := by rfl) (hs2 : starEach [.Name "int" p1] X.env = (false, eval (.Name "int" p1) X.env) :: starEach [] X.env := by rfl) (hpl : (backTo pos (starEach [.Name "int" p1] X.env)).any (·.1) = false := by rfl) : Ep X F S (.Call (.Name "isinstance" p) [e, .Name "int" p1] [] pos) (.bool (isIn d)) :=
  de_isi B B.int (by decide +kernel) (h.to ⟨_, kit_I d, nd, rfl, rfl⟩) hg hgT (by decide) (by decide) hs hs2 hpl
theorem ep_isTL (B : BT X.mg) (h : Ep X F S e d) (nd : ∀ kvs, d ≠ .dict kvs := by first | assumption | (intro _ z; cases z)) (hg : Gl X "isinstance" := by rfl) (hgT : Gl X "tuple" := by rfl) (hgU : Gl X "list" := by rfl)
    (hs : starEach [e, .Tuple [.Name "tuple" p1, .Name "list" p2] j p3] X.env = (false, eval e X.env) :: starEach [.Tuple [.Name "tuple" p1, .Name "list" p2] j p3] X.env := by rfl) (hs2 : starEach [.Tuple [.Name "tuple" p1, .Name "list" p2] j p3] X.env = (false, eval (.Tuple [.Name "tuple" p1, .Name "list" p2] j p3) X.env) :: starEach [] X.env := by rfl)
    (hs3 : starEach [.Name "tuple" p1, .Name "list" p2] X.env = (false, eval (.Name "tuple" p1) X.env) :: starEach [.Name "list" p2] X.env := by rfl) (hs4 : starEach [.Name "list" p2] X.env = (false, eval (.Name "list" p2) X.env) :: starEach [] X.env := by rfl)
    (hpl : (backTo pos (starEach [.Tuple [.Name "tuple" p1, .Name "list" p2] j p3] X.env)).any (·.1) = false := by rfl) : Ep X F S (.Call (.Name "isinstance" p) [e, .Tuple [.Name "tuple" p1, .Name "list" p2] j p3] [] pos) (.bool (isT d || isL d)) :=
  de_isi2 B B.tuple (by decide +kernel) B.list (by decide +kernel) (h.to ⟨_, _, kit_T d, kit_L d, nd, rfl, rfl⟩) hg hgT hgU (by decide) (by decide) (by decide) (by decide) hs hs2 hs3 hs4 hpl
end
/-! ### lists of ints by place -/
theorem getD_lt {α : Type} {xs : List α} {b : Nat} {x : α} (h : b < xs.length) : xs.getD b x = xs[b] := by
  rw [List.getD_eq_getElem?_getD, List.getElem?_eq_getElem h]; rfl
theorem atI_ints {ns : List Int} {b : Nat} (h : b < ns.length) : atI (ns.map PyData.int) ((b : Nat) : Int) = some (.int (ns.getD b 0)) :=
  atI_nat (by rw [List.getElem?_map, List.getElem?_eq_getElem h, getD_lt h]; rfl)
theorem atI_ints0 {ns : List Int} {b : Nat} (h : b < ns.length) : atI (ns.map PyData.int) (0 + ((b : Nat) : Int)) = some (.int (ns.getD b 0)) := by
  rw [Int.zero_add]; exact atI_ints h
theorem atI_cons0 {α : Type} {x : α} {xs : List α} : atI (x :: xs) 0 = some x := atI_nat (j := 0) rfl
theorem atI_D {ds : List FW.D} {b : Nat} (h : b < ds.length) : atI ds (0 + ((b : Nat) : Int)) = some (ds.getD b .none) := by
  rw [Int.zero_add]
  exact atI_nat (by rw [List.getElem?_eq_getElem h, getD_lt h])
theorem range_zip {α β : Type} (x : α) (y : β) : ∀ (t : List α) (s : List β), t.length = s.length → (List.range s.length).map (fun b => (t.getD b x, s.getD b y)) = t.zip s
  | [], [], _ => rfl
  | a :: t, b :: s, h => by
    rw [List.length_cons, List.range_succ_eq_map, List.map_cons, List.map_map, List.zip_cons_cons, ← range_zip x y t s (by simpa using h)]
    rfl
theorem rz {α β γ : Type} (x : α) (y : β) {t : List α} {s : List β} (h : t.length = s.length) (f : α × β → Bool) (g : α × β → γ) :
    ((List.range s.length).filter fun b => f (t.getD b x, s.getD b y)).map (fun b => g (t.getD b x, s.getD b y)) = ((t.zip s).filter f).map g := by
  rw [← range_zip x y t s h, List.filter_map, List.map_map]; rfl
theorem range_zipL {α β : Type} (x : α) (y : β) : ∀ (t : List α) (s : List β), s.length ≤ t.length → (List.range s.length).map (fun b => (t.getD b x, s.getD b y)) = t.zip s
  | [], [], _ => rfl
  | _ :: _, [], _ => rfl
  | [], _ :: _, h => absurd h (Nat.not_succ_le_zero _)
  | a :: t, b :: s, h => by
    rw [List.length_cons, List.range_succ_eq_map, List.map_cons, List.map_map, List.zip_cons_cons, ← range_zipL x y t s (Nat.le_of_succ_le_succ h)]
    rfl
theorem rzL {α β γ : Type} (x : α) (y : β) {t : List α} {s : List β} (h : s.length ≤ t.length) (f : α × β → Bool) (g : α × β → γ) :
    ((List.range s.length).filter fun b => f (t.getD b x, s.getD b y)).map (fun b => g (t.getD b x, s.getD b y)) = ((t.zip s).filter f).map g := by
  rw [← range_zipL x y t s h, List.filter_map, List.map_map]; rfl
theorem mem_range {n b : Nat} (h : b ∈ List.range n) : b < n := List.mem_range.mp h
end FW

namespace FW
open PySem PySem.Spec PyProof.Rows L2
variable [Tb]
/-! ### tuple * 1 is the tuple itself -/
theorem tup_mul1 (l : Addr) (items : Array Value) (n : Nat) (dd : Option Addr) (sl : Array (Option Value)) (u : Tok) :
    Meets (Builtin.«tuple.__mul__» ⟨[.ref l, .int 1 u], []⟩) (fun _ R s => s.heap.get? l = some { cls := .type "tuple", dict := dd, data := .seq items n, slots := sl } ∧ R (.ok (.ret (Value.ref l))) s) :=
  .of_wp fun prog w A R s h => by
    obtain ⟨hp, g, d, tk, os⟩ := s
    obtain ⟨hl, h⟩ := h
    have f1 := AutoSeq1.idx_int
    have c1 : (items.isEmpty || (1 : Int) == 1) = true := by rw [beq_self_eq_true, Bool.or_true]
    wp_walk using wpAny_loadPart' hl
    repeat (first
      | (refine wpAny_ite_true (decide_eq_true c1) ?_; wp_walk using wpAny_loadPart' hl)
      | (refine wpAny_ite_false (by decide) ?_; wp_walk using wpAny_loadPart' hl))
    exact ⟨_, rfl, h⟩
def rRep1 (K : PySem.W.Frag) : R2 := fun x y H Q => ∃ l xs, x = .ref l ∧ y = .int 1 ∧ SqT K H l xs ∧ Q (.ref l) H
section
variable {X : Cx} {F : Fr} {S : List Sl} {a b : Expr} {P : PD} {pos : Pos}
theorem op_rep1 : OpR X (binaryOp .Mult) (rRep1 X.K) := by
  intro pins s σ H x y v u Q I rx ry h
  obtain ⟨l, xs, rfl, rfl, hT, q⟩ := h
  cases rx; obtain ⟨t, rfl⟩ := ry
  obtain ⟨its, r, ⟨⟨cls, dd, data, sl⟩, ho, hc, n, hd⟩, hs⟩ := I.tuple hT
  simp only at hc hd; subst hc hd
  exact wpAny_binaryOp_repeat_ref (T := "tuple") (U := "int") (by decide) ⟨_, ho, rfl⟩ (fun s' => typeIs_int s' 1 t) noFill_tuple_mul F.fills_int_mul F.slot_int_rmul repeat_tuple F.slot_int_index.lookup (call_meets F.slot_int_rmul (typeIs_int s 1 t) F.entry_int_rmul (F.args_int_rmul_2 _ _) (int_rmul_tuple 1 t l its.toArray n dd sl) ⟨ho, rfl, ⟨_, ho, rfl⟩, call_meets F.slot_tuple_mul ⟨_, ho, rfl⟩ F.entry_tuple_mul (F.args_tuple_mul_2 _ _) (tup_mul1 l its.toArray n dd sl t) ⟨ho, .ref l, H, I, rfl, q⟩⟩)
theorem de_mulT1 (h : DE X F S a (fun d1 S1 => DE X F S1 b (fun d2 S2 => ∃ xs n, d1 = .tuple xs ∧ d2 = .int n ∧ xs ≠ [] ∧ (1 ≤ n ∧ n ≤ 1000) ∧ xs.length ≤ 1000 ∧ P (.tuple (List.replicate n.toNat xs).flatten) S2))) : DE X F S (.BinOp a .Mult b pos) P :=
  de_op (op_repT.or op_rep1) (h.imp fun d1 S1 h1 => h1.imp fun d2 S2 ⟨xs, n, e1, e2, hne, hn1, hl, hp⟩ x y G σ H Q sv r1 r2 k => by
    subst e1; subst e2; cases r2
    cases r1 with
    | tup h1 rs1 =>
      by_cases hn : 2 ≤ n
      · exact .inl ⟨_, n, _, rfl, rfl, SqT.of (sv.gh _ _ h1), fun e => hne (by subst e; cases rs1; rfl), hn, hn1.2, by rw [rs1.length]; exact hl, fun q hn => k _ S2 _ _ _ hp (.alloc sv hn) (.tup upd_same ((rs1.rep n.toNat).mono (Ex.upd (sv.gh.none hn))))⟩
      · have e1 : n = 1 := by omega
        subst e1
        have e2 : (List.replicate (Int.toNat 1) xs).flatten = xs := by
          show (List.replicate 1 xs).flatten = xs
          simp
        rw [e2] at hp
        exact .inr ⟨_, _, rfl, rfl, SqT.of (sv.gh _ _ h1), k _ S2 _ _ _ hp (.refl sv) (.tup h1 rs1)⟩)
theorem ep_mulT1 {xs : List FW.D} {n : Int} (ha : Ep X F S a (.tuple xs)) (hb : Ep X F S b (.int n)) (h0 : xs ≠ []) (h1 : 1 ≤ n ∧ n ≤ 1000) (h2 : xs.length ≤ 1000) : Ep X F S (.BinOp a .Mult b pos) (.tuple (List.replicate n.toNat xs).flatten) := de_mulT1 (ha.to (hb.to ⟨_, _, rfl, rfl, h0, h1, h2, rfl, rfl⟩))
/-! ### max, min of a list: a member that none passes -/
def maxOf (l : List Int) : Int := l.foldl (fun a b => if a < b then b else a) (l.headD 0)
def minOf (l : List Int) : Int := l.foldl (fun a b => if b < a then b else a) (l.headD 0)
theorem fold_max : ∀ (l : List Int) (a : Int), (a ≤ l.foldl (fun a b => if a < b then b else a) a ∧ ∀ x ∈ l, x ≤ l.foldl (fun a b => if a < b then b else a) a) ∧ (l.foldl (fun a b => if a < b then b else a) a = a ∨ l.foldl (fun a b => if a < b then b else a) a ∈ l)
  | [], a => ⟨⟨Int.le_refl a, fun _ h => nomatch h⟩, .inl rfl⟩
  | y :: l, a => by
    obtain ⟨⟨h1, h2⟩, h3⟩ := fold_max l (if a < y then y else a)
    rw [List.foldl_cons]
    have hh : a ≤ (if a < y then y else a) ∧ y ≤ (if a < y then y else a) := by split <;> omega
    refine ⟨⟨Int.le_trans hh.1 h1, fun x hx => ?_⟩, ?_⟩
    · rcases List.mem_cons.mp hx with rfl | hx
      · exact Int.le_trans hh.2 h1
      · exact h2 x hx
    · rcases h3 with h3 | h3
      · rw [h3]; split
        · exact .inr List.mem_cons_self
        · exact .inl rfl
      · exact .inr (List.mem_cons_of_mem _ h3)
theorem fold_min : ∀ (l : List Int) (a : Int), (l.foldl (fun a b => if b < a then b else a) a ≤ a ∧ ∀ x ∈ l, l.foldl (fun a b => if b < a then b else a) a ≤ x) ∧ (l.foldl (fun a b => if b < a then b else a) a = a ∨ l.foldl (fun a b => if b < a then b else a) a ∈ l)
  | [], a => ⟨⟨Int.le_refl a, fun _ h => nomatch h⟩, .inl rfl⟩
  | y :: l, a => by
    obtain ⟨⟨h1, h2⟩, h3⟩ := fold_min l (if y < a then y else a)
    rw [List.foldl_cons]
    have hh : (if y < a then y else a) ≤ a ∧ (if y < a then y else a) ≤ y := by split <;> omega
    refine ⟨⟨Int.le_trans h1 hh.1, fun x hx => ?_⟩, ?_⟩
    · rcases List.mem_cons.mp hx with rfl | hx
      · exact Int.le_trans h1 hh.2
      · exact h2 x hx
    · rcases h3 with h3 | h3
      · rw [h3]; split
        · exact .inr List.mem_cons_self
        · exact .inl rfl
      · exact .inr (List.mem_cons_of_mem _ h3)
theorem maxOf_mem {l : List Int} (h : l ≠ []) : maxOf l ∈ l ∧ ∀ x ∈ l, x ≤ maxOf l := by
  cases l with
  | nil => exact absurd rfl h
  | cons a l =>
    obtain ⟨⟨_, h2⟩, h3⟩ := fold_max (a :: l) a
    refine ⟨?_, h2⟩
    rcases h3 with h3 | h3
    · rw [show maxOf (a :: l) = a from h3]; exact List.mem_cons_self
    · exact h3
theorem minOf_mem {l : List Int} (h : l ≠ []) : minOf l ∈ l ∧ ∀ x ∈ l, minOf l ≤ x := by
  cases l with
  | nil => exact absurd rfl h
  | cons a l =>
    obtain ⟨⟨_, h2⟩, h3⟩ := fold_min (a :: l) a
    refine ⟨?_, h2⟩
    rcases h3 with h3 | h3
    · rw [show minOf (a :: l) = a from h3]; exact List.mem_cons_self
    · exact h3
variable {e : Expr} {p : Pos} {ns : List Int}
theorem ep_maxL (B : BT X.mg) (hc : X.calm = true) (h : Ep X F S e (.list (ns.map .int))) (h0 : ns ≠ []) (hg : Gl X "max" := by rfl) (he : starEach (e :: []) X.env = (false, eval e X.env) :: starEach [] X.env := by rfl) (hpl : (backTo pos (starEach [] X.env)).any (·.1) = false := by rfl) : Ep X F S (.Call (.Name "max" p) [e] [] pos) (.int (maxOf ns)) :=
  de_maxL B hc (h.to ⟨ns, rfl, List.length_pos_iff.mpr h0, fun m hm hy => ⟨by
    have := maxOf_mem h0
    rw [Int.le_antisymm (hy _ this.1) (this.2 _ hm)], rfl⟩⟩) hg he hpl
theorem ep_minL (B : BT X.mg) (hc : X.calm = true) (h : Ep X F S e (.list (ns.map .int))) (h0 : ns ≠ []) (hg : Gl X "min" := by rfl) (he : starEach (e :: []) X.env = (false, eval e X.env) :: starEach [] X.env := by rfl) (hpl : (backTo pos (starEach [] X.env)).any (·.1) = false := by rfl) : Ep X F S (.Call (.Name "min" p) [e] [] pos) (.int (minOf ns)) :=
  de_minL B hc (h.to ⟨ns, rfl, List.length_pos_iff.mpr h0, fun m hm hy => ⟨by
    have := minOf_mem h0
    rw [Int.le_antisymm (this.2 _ hm) (hy _ this.1)], rfl⟩⟩) hg he hpl
end
/-! ### comprehensions with an effect on the row: each item some value of a kind -/
section
variable {X : Cx} {F : Fr} {S : List Sl} {elt : Expr} {scope : Scope} {vs : List Nat} {PO : List FW.D → List Sl → Prop} {xs : List FW.D}
theorem lcr (n : Nat) (R : FW.D → Prop) (hl : xs.length < sizeLine) (he : ∀ d ∈ xs, ∀ s H C cl fp, DE (Bk X scope s H C cl fp) F ((wipeS S vs).set n (.val d)) elt fun d' S' => R d' ∧ S' = (wipeS S vs).set n (.val d))
    (k : ∀ acc : List FW.D, acc.length = xs.length → (∀ d ∈ acc, R d) → PO acc (wipeS S vs)) (hw : ∀ d : FW.D, wipeS ((wipeS S vs).set n (.val d)) vs = wipeS S vs := by intro _; rfl) (hw2 : wipeS (wipeS S vs) vs = wipeS S vs := by rfl) : LcI X F scope vs (gN n) elt [] PO xs S := by
  refine ⟨fun i Si acc => Si = wipeS S vs ∧ acc.length = i ∧ ∀ d ∈ acc, R d, ⟨rfl, rfl, fun _ h => nomatch h⟩, fun i d Si acc hd ⟨e1, e2, e3⟩ => ?_, fun Sn acc ⟨e1, e2, e3⟩ => ?_⟩
  · subst e1
    have hi := (List.getElem?_eq_some_iff.mp hd).1
    refine ⟨fun t S' => t = true ∧ S' = (wipeS S vs).set n (.val d), fun _ _ _ _ _ => dts_nil ⟨rfl, rfl⟩, fun t S3 ⟨et, e4⟩ => ?_⟩
    subst et; subst e4
    refine ⟨fun _ => ⟨by omega, fun s H C cl fp => DE.imp (he d (List.mem_of_getElem? hd) s H C cl fp) fun d' S4 ⟨hR, e5⟩ => ?_⟩, fun z => nomatch z⟩
    subst e5
    refine ⟨hw d, by rw [List.length_append, e2]; rfl, fun x hx => ?_⟩
    rcases List.mem_append.mp hx with hx | hx
    · exact e3 x hx
    · rw [List.mem_singleton.mp hx]; exact hR
  · subst e1
    rw [hw2]
    exact k acc e2 e3
end
/-! ### not in, in: items of any depth -/
section
variable {X : Cx} {F : Fr} {S : List Sl} {a b : Expr} {pos : Pos} {n : Nat} {d : FW.D} {ds : List FW.D}
theorem tp_ninD (hr : Room n X.A) (ha : Ep X F S a d) (hb : Ep X F S b (.list ds)) (h1 : Sh d) (h2 : Sh (.list ds)) (hm : behindInMarks .NotIn b = false := by rfl) : Tp X F S (.Compare a [.NotIn] [b] pos) (!inD d ds) :=
  dt_cmp (op_notInD (by have := hr.un; omega)) hm (ha.to (hb.to fun x y G σ H Q sv r1 r2 k => ⟨d, ds, (r1.mono sv.gh).dp (SeqAt.canLay_of_shaped h1), (r2.mono sv.gh).dp (SeqAt.canLay_of_shaped h2), h1, h2, k _ S G _ H (b1 ⟨rfl, rfl⟩) (.refl sv) (.bl _)⟩))
theorem tp_inD (hr : Room n X.A) (ha : Ep X F S a d) (hb : Ep X F S b (.list ds)) (h1 : Sh d) (h2 : Sh (.list ds)) (hm : behindInMarks .In b = false := by rfl) : Tp X F S (.Compare a [.In] [b] pos) (inD d ds) :=
  dt_cmp (op_inD (by have := hr.un; omega)) hm (ha.to (hb.to fun x y G σ H Q sv r1 r2 k => ⟨d, ds, (r1.mono sv.gh).dp (SeqAt.canLay_of_shaped h1), (r2.mono sv.gh).dp (SeqAt.canLay_of_shaped h2), h1, h2, k _ S G _ H (b1 ⟨rfl, rfl⟩) (.refl sv) (.bl _)⟩))
end
end FW

namespace FW
open PySem PySem.Spec PyProof.Rows L2
variable [Tb]
/-! ### xs.pop(k), xs != [] of a list of one's own -/
section
variable {X : Cx} {F : Fr} {S : List Sl} {e b : Expr} {P : PD} {PT : Bool → List Sl → Prop} {pos : Pos} {k : Nat}
theorem Stp.wOwn {K : PySem.W.Frag} {σ : L2.St} {G H : Hp} {i : Nat} {p : Addr} {vs' : List V} {ds ds' : List FW.D} (sv : SV K F S G σ H) (hs : S[i]? = some (.own ds)) (he : σ[i]? = some (some (.ref p))) (r : Rps G vs' ds') : Stp K F σ S G H (S.set i (.own ds')) G (upd H p (.lst vs')) := by
  have m : MutAt S σ p i := ⟨⟨_, hs, rfl⟩, he⟩
  refine ⟨Ex.refl G, fun a o h nm _ => ?_, fun j sl h hm => ?_, sv.wOwn hs he r, fun a o h => ?_, fun a o _ h => .inl h⟩
  · have ne : a ≠ p := fun z => nm i (by rw [z]; exact m)
    rw [upd_ne ne]; exact h
  · by_cases z : i = j
    · subst z; exact ⟨_, hs, rfl⟩
    · rw [List.getElem?_set_ne z] at h; exact ⟨sl, h, hm⟩
  · by_cases z : a = p
    · subst z; exact ⟨_, upd_same⟩
    · exact ⟨o, by rw [upd_ne z]; exact h⟩
theorem de_popO (i : Nat) {x : Str} {p1 p2 p3 : Pos} (hO : ∃ ds, S[i]? = some (.own ds)) (h : DE X F S e (fun d S' => ∃ ds n j y, d = .int n ∧ S'[i]? = some (.own ds) ∧ ixN ds.length n = some j ∧ ds[j]? = some y ∧ ds.length < 2 ^ 60 ∧ P y (S'.set i (.own (ds.eraseIdx j)))))
    (hN : X.N[i]? = some x := by rfl) (hv : Vis X.env.scope x := by first | exact Or.inl rfl | exact Or.inr (Or.inl rfl) | exact Or.inr (Or.inr rfl)) (hs1 : starEach (e :: []) X.env = (false, eval e X.env) :: starEach [] X.env := by rfl)
    (hd : (x == ("__debug__" : Str)) = false := by decide) (hcd : (x == ("__classdict__" : Str)) = false := by decide) (hbase : attributeBase (.Name x p1) "pop" X.env (eval (.Name x p1) X.env) = eval (.Name x p1) X.env := by rfl)
    (hfew : ((backTo p3 (starEach (e :: []) X.env)).all (fun x => !x.1) && (backToKw p3 (keywordEach [] X.env)).all (fun x => x.1.isSome) && decide ((e :: ([] : List Expr)).length + ([] : List Keyword).length + (if ([] : List Keyword).isEmpty then 0 else 1) < 30)) = true := by rfl)
    (hline : (p2.endLine == p3.line) = true := by rfl) (hpl : (backTo p3 (starEach ([] : List Expr) X.env)).any (·.1) = false := by rfl) : DE X F S (.Call (.Attribute (.Name x p1) "pop" p2) [e] [] p3) P :=
  de_mk (pe_bm PySem.F.plainAttrs_list PySem.F.slot_list_pop PySem.F.type_list_pop mt_popAt (pe_var hN hv hd hcd) (pa_cons h pa_nil hs1) hbase hfew hline hs1 hpl) fun σ H Q ⟨G, sv, kk⟩ => by
    obtain ⟨ds0, h0⟩ := hO
    obtain ⟨p, vs, ep, gp, hp, rs⟩ := sv.slot i _ h0
    refine ⟨.ref p, ep, .inl ⟨rfl, _, SqL.of hp⟩, G, sv, fun d S' G' v H' ⟨ds, n, j, y, ed, h2, hj, hy, hl, hP⟩ st rr => ?_⟩
    subst ed; cases rr
    obtain ⟨p', vs', ep', gp', hp', rs'⟩ := st.sv.slot i _ h2
    rw [ep] at ep'; cases ep'
    obtain ⟨v, hvv, rv⟩ := rs'.get hy
    have hx := ixN_seq hj
    show rPopAt (.ref p) [.int n] H' Q
    exact ⟨p, vs', n, j, v, rfl, rfl, hp', by omega, by omega, by rw [rs'.length]; exact hx.1, hvv, kk y _ G' v _ hP (st.trans (Stp.wOwn st.sv h2 ep (rs'.erase j))) rv⟩
/-- xs != e, xs a list of one's own -/
theorem dt_neO (i : Nat) {x : Str} {p1 : Pos} (hr : Room k X.A) {ds : List FW.D} {d2 : FW.D} (hO : S[i]? = some (.own ds)) (hb : Ep X F S b d2) (h1 : Sh (.list ds)) (h2 : Sh d2) (q : PT (!PyData.eqv (.list ds) d2) S)
    (hN : X.N[i]? = some x := by rfl) (hv : Vis X.env.scope x := by first | exact Or.inl rfl | exact Or.inr (Or.inl rfl) | exact Or.inr (Or.inr rfl)) (hd : (x == ("__debug__" : Str)) = false := by decide) (hcd : (x == ("__classdict__" : Str)) = false := by decide) : DT X F S (.Compare (.Name x p1) [.NotEq] [b] pos) PT :=
  dt_mk (pt_cmpR (op_neD hr.units) (pe_var hN hv hd hcd) hb (nomark b)) fun σ H Q ⟨G, sv, kk⟩ => by
    obtain ⟨p, vs, ep, gp, hp, rs⟩ := sv.slot i _ hO
    refine ⟨.ref p, ep, G, sv, fun d' S' G' v2 H' ⟨ed, eS⟩ st r2 => ?_⟩
    subst ed; subst eS
    obtain ⟨p', vs', ep', gp', hp', rs'⟩ := st.sv.slot i _ hO
    rw [ep] at ep'; cases ep'
    exact ⟨.list ds, d', .lst (SqL.of hp') ((rs'.mono st.sv.gh).dp (by simpa only [PyData.canLay0] using SeqAt.canLay_of_shaped h1)), (r2.mono st.sv.gh).dp (SeqAt.canLay_of_shaped h2), h1, h2, _, rfl, kk _ S' G' H' q st⟩
end
/-! len(xs), xs a list of one's own -/
section
variable {X : Cx} {F : Fr} {S : List Sl} {P : PD} {pos p : Pos}
theorem de_lenO (i : Nat) {x : Str} {p1 : Pos} {ds : List FW.D} (B : BT X.mg) (hO : S[i]? = some (.own ds)) (q : P (.int ds.length) S) (hg : Gl X "len" := by rfl) (hN : X.N[i]? = some x := by rfl) (hv : Vis X.env.scope x := by first | exact Or.inl rfl | exact Or.inr (Or.inl rfl) | exact Or.inr (Or.inr rfl))
    (hd : (x == ("__debug__" : Str)) = false := by decide) (hcd : (x == ("__classdict__" : Str)) = false := by decide) (he : starEach (.Name x p1 :: []) X.env = (false, eval (.Name x p1) X.env) :: starEach [] X.env := by rfl) (hpl : (backTo pos (starEach [] X.env)).any (·.1) = false := by rfl) : DE X F S (.Call (.Name "len" p) [.Name x p1] [] pos) P :=
  de_mk (pe_callB call_len_seq hg B.len PySem.boot_len (pa_cons (pe_var hN hv hd hcd) pa_nil he) (by decide) (by decide) he hpl) fun σ H Q ⟨G, sv, kk⟩ => by
    obtain ⟨p, vs, ep, gp, hp, rs⟩ := sv.slot i _ hO
    exact ⟨.ref p, ep, p, vs, rfl, .inl (SqL.of hp), by rw [rs.length]; exact kk _ S G _ H q (.refl sv) (.int _)⟩
end
/-! ### xs[::-1] -/
section
variable {X : Cx} {F : Fr} {S : List Sl} {e : Expr} {pos p1 p2 p3 : Pos} {k : Nat} {ds : List FW.D}
theorem op_revL (h : Ep X F S e (.list ds)) : Op X F S (.Subscript e (.Slice none none (some (.UnaryOp .USub (.Constant (.int 1) k p1) p2)) p3) pos) ds.reverse :=
  do_mk (pe_revL h) fun σ H Q ⟨G, sv, kk⟩ => ⟨G, sv, fun d S' G' v H' ⟨ed, eS⟩ st r => by
    subst ed; subst eS
    cases r with
    | lst hl rs => exact ⟨_, _, rfl, SqL.of (st.sv.gh _ _ hl), fun q hq => kk ds.reverse _ G' q _ _ ⟨rfl, rfl⟩ (st.trans (.allocO st.sv hq)) (st.sv.gh.none hq) (st.fresh hq) (st.sv.fresh hq) upd_same rs.reverse⟩⟩
end
/-! ### xs[lo:hi] of a list of one's own -/
section
variable {X : Cx} {F : Fr} {S : List Sl} {lo hi : Option Expr} {l u : Option Int} {pos p2 : Pos} {ds : List FW.D}
theorem op_slO (i : Nat) {x : Str} {p1 : Pos} (hO : S[i]? = some (.own ds)) (hl : Pp X F S lo l) (hu : Pp X F S hi u) (hN : X.N[i]? = some x := by rfl) (hv : Vis X.env.scope x := by first | exact Or.inl rfl | exact Or.inr (Or.inl rfl) | exact Or.inr (Or.inr rfl))
    (hd : (x == ("__debug__" : Str)) = false := by decide) (hcd : (x == ("__classdict__" : Str)) = false := by decide) : Op X F S (.Subscript (.Name x p1) (.Slice lo hi none p2) pos) (FW.cutD ds l u) :=
  do_mk (pe_slice sl_list (pe_var hN hv hd hcd) hl hu) fun σ H Q ⟨G, sv, k⟩ => by
    obtain ⟨p, vs, ep, gp, hp, rs⟩ := sv.slot i _ hO
    refine ⟨.ref p, ep, G, sv, fun l' S2 G2 H2 ⟨e1, e2⟩ st2 => ⟨G2, by subst e2; exact st2.sv, fun u' S3 G3 H3 ⟨e3, e4⟩ st3 => ?_⟩⟩
    subst e1; subst e2; subst e3; subst e4
    obtain ⟨p', vs', ep', gp', hp', rs'⟩ := st3.sv.slot i _ hO
    rw [ep] at ep'; cases ep'
    have st := st2.trans st3
    exact ⟨p, vs', rfl, SqL.of hp', fun q hn => k _ _ G3 q _ _ ⟨rfl, rfl⟩ (st.trans (.allocO st3.sv hn)) (st3.sv.gh.none hn) (st.fresh hn) (st3.sv.fresh hn) upd_same (rs'.cut _ _)⟩
end
end FW

namespace FW
open PySem PySem.Spec PyProof.Rows L2
variable [Tb]
/-! ### t[::-1], t a tuple -/
section
variable {prog : Program} {w : World} {A : Around} {E : Value → Shared → Prop} {s : Shared}
theorem places_rev (n : Nat) : Builtin.Slice.slicePlaces ((n : Int) - 1) (-1) (-1) = n := by
  unfold Builtin.Slice.slicePlaces
  have h1 : ¬ ((-1 : Int) > 0) := by omega
  simp only [h1, if_false]
  split
  · rw [show (- -1 : Int) = 1 by decide, Int.ediv_one]
    omega
  · omega
theorem adjust_rev (n : Nat) : Builtin.Slice.sliceAdjust none none (-1) (n : Int) = ((n : Int) - 1, -1) := by
  unfold Builtin.Slice.sliceAdjust
  have h1 : (-1 : Int) < 0 := by omega
  simp only [h1, if_true]
theorem sliceApplied_rev {sl : Addr} {vs : Value} {n : Nat} {Q : Int × Int × Nat → Shared → Prop} (hs : s.heap.IsSliceOf sl .none .none vs) (ps : IsPart vs (some (-1)))
    (h : Q ((n : Int) - 1, -1, n) s) : wpAny (model prog w) A (Builtin.Slice.sliceApplied (.ref sl) (pure (n : Int))) Q E s := by
  obtain ⟨os, hos, hcs, hds⟩ := id hs
  unfold Builtin.Slice.sliceApplied Builtin.Slice.sliceFields
  refine wpAny_bind (wpAny_bind (wpAny_field hos hds (x := .none) rfl (wpAny_bind (wpAny_field hos hds (x := .none) rfl (wpAny_bind (wpAny_field hos hds (x := vs) rfl (wpAny_pure ?_)))))))
  refine wpAny_bind (HT.slicePart_ ps ?_)
  show wpAny _ _ (if ((-1 : Int) == 0) = true then _ else _) _ _ s
  rw [if_neg (by decide)]
  refine wpAny_bind (slicePart_none (wpAny_bind (slicePart_none (wpAny_bind (wpAny_pure ?_)))))
  show wpAny _ _ (match Builtin.Slice.sliceAdjust none none (-1) (n : Int) with | (lo, hi) => pure (lo, (-1 : Int), Builtin.Slice.slicePlaces lo hi (-1))) _ _ s
  rw [adjust_rev n]
  show wpAny _ _ (pure ((n : Int) - 1, (-1 : Int), Builtin.Slice.slicePlaces ((n : Int) - 1) (-1) (-1))) _ _ s
  rw [places_rev]
  exact wpAny_pure h
theorem pick_rev (xs : Array Value) : ((List.range xs.size).filterMap fun (k : Nat) => xs[((xs.size : Int) - 1 + (k : Int) * (-1)).toNat]?).toArray = xs.toList.reverse.toArray := by
  have e : (fun (k : Nat) => xs[((xs.size : Int) - 1 + (k : Int) * (-1)).toNat]?) = (fun k => xs[k]?) ∘ fun k => xs.size - 1 - k := by
    funext k
    have : ((xs.size : Int) - 1 + (k : Int) * (-1)).toNat = xs.size - 1 - k := by omega
    rw [this]; rfl
  rw [e, ← List.filterMap_map, PySem.W.krv_range, List.filterMap_reverse, PySem.W.krv_all]
theorem getItem_tuple_rev {t sl : Addr} {items : Array Value} {vs : Value} {Q : Value → Shared → Prop} (ht : IsTup s.heap t items) (hs : s.heap.IsSliceOf sl .none .none vs) (ps : IsPart vs (some (-1)))
    (h : Q (.ref s.heap.objs.size) { s with heap := s.heap.push { cls := .type "tuple", data := .seq items.toList.reverse.toArray } })
    (hsz : items.size ≤ sizeLine) : wpAny (model prog w) A (getItem (.ref t) (.ref sl)) Q E s := by
  have htake : sizeOk (.seq items.toList.reverse.toArray) := by
    show items.toList.reverse.toArray.size ≤ sizeLine
    rw [List.size_toArray, List.length_reverse, Array.length_toList]
    exact hsz
  obtain ⟨os, hos, hcs, hds⟩ := id hs
  have hTs : s.TypeIs (.ref sl) "slice" := ⟨os, hos, hcs⟩
  unfold getItem
  try with_reducible refine wpAny_holding ?_
  first | refine wpAny_bind (wpAny_pure ?_) | skip
  refine wpAny_bind (wpAny_sequenceKey ht.typeIs (by decide) ?_)
  refine wpAny_bind (wpAny_callSpecial?_slot (name := Str.ofString "__getitem__") ht.typeIs PyProof.Rows.slot_tuple_getitem
    (wpAny_call_entry PyProof.Rows.slot_tuple_getitem ht.typeIs entry_tuple_getitem ?_ (args_tuple_getitem _ _)))
  show wpAny _ _ (Builtin.Tuple.tupleItemsOf (.ref t) >>= _) _ _ s
  refine wpAny_bind (tupleItemsOf_ ht ?_)
  refine wpAny_bind (wpAny_typeOf hTs ?_)
  rw [if_pos (by decide)]
  refine wpAny_bind (sliceApplied_rev hs ps ?_)
  have hno : ¬ ((((items.size : Int) - 1) == 0 && (-1 : Int) == 1 && items.size == items.size) = true) := by
    intro q
    rw [Bool.and_eq_true, Bool.and_eq_true] at q
    exact absurd q.1.2 (by decide)
  show wpAny _ _ (if (((items.size : Int) - 1) == 0 && (-1 : Int) == 1 && items.size == items.size) = true then _ else _) _ _ s
  rw [if_neg hno, pick_rev]
  first
    | exact wpAny_bind (m := Builtin.Tuple.tupleExact _) (wpAny_newObj_type (wpAny_pure ⟨_, rfl, wpAny_pure h⟩) htake)
    | exact wpAny_bind (m := Builtin.Tuple.tupleExact _) (wpAny_newObj_type (wpAny_bind (wpAny_pure (wpAny_pure ⟨_, rfl, wpAny_pure h⟩))) htake)
    | exact wpAny_bind (wpAny_bind (m := Builtin.Tuple.tupleExact _) (wpAny_newObj_type (wpAny_pure (wpAny_pure ⟨_, rfl, wpAny_pure h⟩)) htake))
    | exact wpAny_bind (wpAny_bind (m := Builtin.Tuple.tupleExact _) (wpAny_newObj_type (wpAny_pure ⟨_, rfl, wpAny_pure h⟩) htake))
end
def tRevT (K : PySem.W.Frag) (te : TE) : TE := fun σ H Q => te σ H fun x H1 => ∃ a xs, x = .ref a ∧ SqT K H1 a xs ∧ ∀ p, H1 p = none → Q (.ref p) (upd H1 p (.tup xs.reverse))
theorem pe_revT {X : Cx} {e : Expr} {te : TE} {k : Nat} {p1 p2 p3 pos : Pos} (he : PE X e te) : PE X (.Subscript e (.Slice none none (some (.UnaryOp .USub (.Constant (.int 1) k p1) p2)) p3) pos) (tRevT X.K te) := by
  refine ⟨fun pins s σ H Q I h => ?_⟩
  refine Subscript_ (thn (he.run pins s σ H _ I h) fun v s1 ⟨x, H1, I1, r1, q1⟩ => ?_)
  obtain ⟨a, xs, ex, hx, q⟩ := q1
  subst ex
  cases r1
  have hst : PO X (some (.UnaryOp .USub (.Constant (.int 1) k p1) p2)) (tPart (tUn (rU fun i => .int (-i)) (tC (.int 1)))) := po_some (pe_un un_neg pe_int)
  refine wpAny_Slice (thn (po_none.run pins s1 σ H1 (fun o H2 => o = none ∧ H2 = H1) I1 ⟨rfl, rfl⟩) fun vl s2 ⟨l, H2, I2, pl, el, e2⟩ => ?_)
  subst el e2
  refine thn (po_none.run pins s2 σ H2 (fun o H3 => o = none ∧ H3 = H2) I2 ⟨rfl, rfl⟩) fun vu s3 ⟨u, H3, I3, pu, eu, e3⟩ => ?_
  subst eu e3
  refine thn (hst.run pins s3 σ H3 (fun o H4 => o = some (-1) ∧ H4 = H3) I3 ⟨1, rfl, -1, rfl, rfl, rfl⟩) fun vs s4 ⟨o, H4, I4, ps, eo, e4⟩ => ?_
  subst eo e4
  cases pl
  cases pu
  have I5 : Inv X pins σ H4 { s4 with heap := s4.heap.push { cls := .type "slice", data := .fields #[.none, .none, vs] } } := I4.kept (t' := s4.toks) fun b ob q => Heap.get?_push_of_some _ q
  obtain ⟨its, r, ht, hz⟩ := I5.tuple hx
  show wpAny (model X.prog X.w) X.A (subscriptTail e (.Slice none none (some (.UnaryOp .USub (.Constant (.int 1) k p1) p2)) p3) (.ref a) (.ref s4.heap.objs.size)) (EP X pins σ Q) X.xe { s4 with heap := s4.heap.push { cls := .type "slice", data := .fields #[.none, .none, vs] } }
  refine tail_any (ops := [.ref a, .ref s4.heap.objs.size]) ht.typeIs (PyProof.Rows.slot_tuple_getitem.lookup) ?_ (by with_unfolding_all rfl)
  refine getItem_tuple_rev ht (Heap.IsSliceOf.new _ .none .none vs) ps ?_ (by rw [List.size_toArray, ← r.length]; exact hz)
  refine ⟨.ref _, _, I5.laid (t' := s4.toks) (o := .tup xs.reverse) (fun b ob q => Heap.get?_push_of_some _ q) (Nat.le_refl _) ?_, rfl, q _ (I5.hok.fresh (Nat.le_refl _))⟩
  exact ⟨by rw [List.length_reverse]; exact hz, _, r.reverse, IsTup.new _ _⟩
section
variable {X : Cx} {F : Fr} {S : List Sl} {e : Expr} {pos p1 p2 p3 : Pos} {k : Nat} {ds : List FW.D}
theorem ep_revT (h : Ep X F S e (.tuple ds)) : Ep X F S (.Subscript e (.Slice none none (some (.UnaryOp .USub (.Constant (.int 1) k p1) p2)) p3) pos) (.tuple ds.reverse) :=
  de_mk (pe_revT h) fun σ H Q ⟨G, sv, kk⟩ => ⟨G, sv, fun d S' G' v H' ⟨ed, eS⟩ st r => by
    subst ed; subst eS
    cases r with
    | tup hl rs => exact ⟨_, _, rfl, SqT.of (st.sv.gh _ _ hl), fun q hq => kk (.tuple ds.reverse) _ _ _ _ ⟨rfl, rfl⟩ (st.trans (.alloc st.sv hq)) (.tup upd_same (rs.reverse.mono (Ex.upd (st.sv.gh.none hq))))⟩⟩
end
end FW

namespace FW
open PySem PySem.Spec PyProof.Rows L2
variable [Tb]
/-! ### values whose lists are all new -/
abbrev Nw (F : Fr) : Addr → Prop := fun a => F.H0 a = none
def rdN (K : PySem.W.Frag) (F : Fr) (S : List Sl) (P : PD) : TE := fun σ H Q => ∃ G, SV K F S G σ H ∧
  ∀ d S' G' v H', P d S' → Stp K F σ S G H S' G' H' → Rn (Nw F) G' v d → Q v H'
def rdNs (K : PySem.W.Frag) (F : Fr) (S : List Sl) (P : List FW.D → List Sl → Prop) : TA := fun σ H Q => ∃ G, SV K F S G σ H ∧
  ∀ ds S' G' vs H', P ds S' → Stp K F σ S G H S' G' H' → Rns (Nw F) G' vs ds → Q vs H'
def DN (X : Cx) (F : Fr) (S : List Sl) (e : Expr) (P : PD) : Prop := PE X e (rdN X.K F S P)
def DNs (X : Cx) (F : Fr) (S : List Sl) (es : List Expr) (P : List FW.D → List Sl → Prop) : Prop := PA X es (rdNs X.K F S P)
def tNs (X : Cx) (F : Fr) (es : List Expr) : TA := fun σ H Q => ∃ S P, DNs X F S es P ∧ rdNs X.K F S P σ H Q
abbrev Zn := List FW.D → (FW.D → Prop) → Prop
/-- a def that gives a value whose lists are all new -/
def spN (Z : Zn) : Sp := fun vs H Q _ => ∃ (G : Hp) (ds : List FW.D) (kn : FW.D → Prop), Ex G H ∧ Rps G vs ds ∧ Z ds kn ∧
  ∀ d G' v H', kn d → PSt G H G' H' → Rn (fun a => H a = none) G' v d → Q v H'
section
variable {X : Cx} {F : Fr} {S : List Sl} {e a b c : Expr} {es rest : List Expr} {P P' : PD} {pos : Pos}
theorem pns_any : PA X es (tNs X F es) := ⟨fun p pins s σ H Q I ⟨_, _, h, r⟩ => PA.run h p pins s σ H Q I r⟩
theorem dn_mk {t : TE} (h : PE X e t) (k : ∀ σ H Q, rdN X.K F S P σ H Q → t σ H Q) : DN X F S e P := ⟨fun pins s σ H Q I r => h.run pins s σ H Q I (k σ H Q r)⟩
theorem dns_mk {P : List FW.D → List Sl → Prop} {t : TA} (h : PA X es t) (k : ∀ σ H Q, rdNs X.K F S P σ H Q → t σ H Q) : DNs X F S es P := ⟨fun p pins s σ H Q I r => h.run p pins s σ H Q I (k σ H Q r)⟩
theorem DN.imp (h : DN X F S e P) (k : ∀ d S', P d S' → P' d S') : DN X F S e P' := dn_mk h fun _ _ _ ⟨G, sv, q⟩ => ⟨G, sv, fun d S' G' v H' hp => q d S' G' v H' (k d S' hp)⟩
theorem dn_of (h : DE X F S e (fun d S' => noL d = true ∧ P d S')) : DN X F S e P := dn_mk h fun σ H Q ⟨G, sv, q⟩ => ⟨G, sv, fun d S' G' v H' ⟨hn, hp⟩ st r => q d S' G' v H' hp st (r.rn hn)⟩
theorem dn_p {d : FW.D} (h : Ep X F S e d) (hn : noL d = true) (hp : P d S) : DN X F S e P := dn_of (h.to ⟨hn, hp⟩)
theorem de_n (h : DN X F S e P) : DE X F S e P := de_mk h fun σ H Q ⟨G, sv, q⟩ => ⟨G, sv, fun d S' G' v H' hp st r => q d S' G' v H' hp st r.rp⟩
theorem dn_o (h : DO X F S e (fun ds S' => noLs ds = true ∧ P (.list ds) S')) : DN X F S e P := dn_mk h fun σ H Q ⟨G, sv, q⟩ => ⟨G, sv, fun ds S' G' p vs H' ⟨hn, hp⟩ st gp hpn nm hh r => by
  have e0 : F.H0 p = none := sv.h0 hpn
  have sv2 := st.sv.ground gp nm e0 hh
  refine q _ S' (upd G' p (.lst vs)) _ H' hp ⟨st.g.trans (Ex.upd gp), st.kp, st.less, sv2, st.lv, fun x o nc h => ?_⟩ (.lst e0 upd_same ((r.mono (Ex.upd gp)).rns hn))
  by_cases z : x = p
  · subst z; exact .inr hpn
  · rw [upd_ne z] at h; exact st.nw x o nc h⟩
theorem dn_nw (i : Nat) {x : Str} {d : FW.D} (hS : S[i]? = some (.new d)) (h : P d S) (hN : X.N[i]? = some x := by rfl) (hv : Vis X.env.scope x := by first | exact Or.inl rfl | exact Or.inr (Or.inl rfl) | exact Or.inr (Or.inr rfl))
    (hd : (x == ("__debug__" : Str)) = false := by decide) (hcd : (x == ("__classdict__" : Str)) = false := by decide) : DN X F S (.Name x pos) P :=
  dn_mk (pe_var hN hv hd hcd) fun σ H Q ⟨G, sv, q⟩ => by
    obtain ⟨v, e, r⟩ := sv.slot i _ hS
    exact ⟨v, e, q d S G v H h (.refl sv) r⟩
theorem ep_nw (i : Nat) {x : Str} {d : FW.D} (hS : S[i]? = some (.new d) := by rfl) (hN : X.N[i]? = some x := by rfl) (hv : Vis X.env.scope x := by first | exact Or.inl rfl | exact Or.inr (Or.inl rfl) | exact Or.inr (Or.inr rfl))
    (hd : (x == ("__debug__" : Str)) = false := by decide) (hcd : (x == ("__classdict__" : Str)) = false := by decide) : Ep X F S (.Name x pos) d := de_n (dn_nw i hS ⟨rfl, rfl⟩ hN hv hd hcd)
theorem ep_fx (i : Nat) {x : Str} {d : FW.D} {v : V} (r : Rp F.B v d) (hS : S[i]? = some (.fix v) := by rfl) (hN : X.N[i]? = some x := by rfl) (hv : Vis X.env.scope x := by first | exact Or.inl rfl | exact Or.inr (Or.inl rfl) | exact Or.inr (Or.inr rfl))
    (hd : (x == ("__debug__" : Str)) = false := by decide) (hcd : (x == ("__classdict__" : Str)) = false := by decide) : Ep X F S (.Name x pos) d :=
  de_mk (pe_var hN hv hd hcd) fun σ H Q ⟨G, sv, q⟩ => ⟨v, sv.slot i _ hS, q d S G v H ⟨rfl, rfl⟩ (.refl sv) (r.mono sv.base)⟩
theorem dns_nil {P : List FW.D → List Sl → Prop} (h : P [] S) : DNs X F S [] P := dns_mk pa_nil fun σ H Q ⟨G, sv, k⟩ => k [] S G [] H h (.refl sv) .nil
theorem dns_cons {P : List FW.D → List Sl → Prop} (h : DN X F S e (fun d S' => DNs X F S' es (fun ds S2 => P (d :: ds) S2))) (hs : starEach (e :: es) X.env = (false, eval e X.env) :: starEach es X.env := by rfl) : DNs X F S (e :: es) P :=
  dns_mk (pa_cons h pns_any hs) fun σ H Q ⟨G, sv, k⟩ => ⟨G, sv, fun d S' G' v H' hp st r => ⟨S', _, hp, G', st.sv, fun ds S2 G2 vs H2 hp2 st2 r2 =>
    k (d :: ds) S2 G2 (v :: vs) H2 hp2 (st.trans st2) (.cons (r.mono st2.g fun _ z => z) r2)⟩⟩
theorem dn_tup {x1} (h : DNs X F S es (fun ds S' => ds.length ≤ sizeLine ∧ P (.tuple ds) S')) : DN X F S (.Tuple es x1 pos) P :=
  dn_mk (pe_tup h) fun σ H Q ⟨G, sv, k⟩ => ⟨G, sv, fun ds S' G' vs H' hp st r => ⟨by rw [r.rps.length]; exact hp.1, fun p hn =>
    k _ S' _ _ _ hp.2 (st.trans (.alloc st.sv hn)) (.tup upd_same (r.mono (Ex.upd (st.sv.gh.none hn)) fun _ z => z))⟩⟩
theorem dn_lst (h : DNs X F S es (fun ds S' => ds.length ≤ sizeLine ∧ P (.list ds) S')) : DN X F S (.List es pos) P :=
  dn_mk (pe_lst h) fun σ H Q ⟨G, sv, k⟩ => ⟨G, sv, fun ds S' G' vs H' hp st r => ⟨by rw [r.rps.length]; exact hp.1, fun p hn =>
    k _ S' _ _ _ hp.2 (st.trans (.alloc st.sv hn)) (.lst (st.sv.h0 hn) upd_same (r.mono (Ex.upd (st.sv.gh.none hn)) fun _ z => z))⟩⟩
theorem dn_call {x : Str} {k : Nat} {p : Pos} {Z : Zn} (c : Kn X.prog X.w X.K X.mg X.base CX0 x k (spN Z)) (hr : Room k X.A) (h : DA X F S (e :: es) (fun ds S' => Z ds (fun d => P d S'))) (hg : Gl X x := by rfl)
    (hdb : (x == ("__debug__" : Str)) = false := by decide) (he : starEach (e :: es) X.env = (false, eval e X.env) :: starEach es X.env := by rfl) (hpl : (backTo pos (starEach es X.env)).any (·.1) = false := by rfl) : DN X F S (.Call (.Name x p) (e :: es) [] pos) P := by
  obtain ⟨f, fd, ps, F1, hm, hk, hb⟩ := c.ex
  exact dn_mk (pe_call F1 hr hg hm hk hb .nil (E := E0) pass0 h hdb he hpl) fun σ H Q ⟨G, sv, k⟩ => ⟨G, sv, fun ds S' G' vs H' hp st rs => by
    show spN Z (vs ++ []) H' Q E0
    rw [List.append_nil]
    exact ⟨G', ds, _, st.sv.gh, rs, hp, fun d G2 v H2 hk2 ps2 r2 => k d S' G2 v H2 hk2 (st.trans (stp_of st.sv ps2)) (r2.mono (Ex.refl _) fun a z => st.sv.h0 z)⟩⟩
theorem ep_callN {x : Str} {k : Nat} {p : Pos} {Z : Zn} {d : FW.D} {ds : List FW.D} (c : Kn X.prog X.w X.K X.mg X.base CX0 x k (spN Z)) (hr : Room k X.A) (h : Ap X F S (e :: es) ds) (hz : Z ds (fun d' => d' = d ∧ S = S)) (hg : Gl X x := by rfl)
    (hdb : (x == ("__debug__" : Str)) = false := by decide) (he : starEach (e :: es) X.env = (false, eval e X.env) :: starEach es X.env := by rfl) (hpl : (backTo pos (starEach es X.env)).any (·.1) = false := by rfl) : Ep X F S (.Call (.Name x p) (e :: es) [] pos) d :=
  de_n (dn_call c hr (h.to hz) hg hdb he hpl)
/-- return of such a value -/
theorem ds_retR {P : Post} (h : DN X F S e P.rn) : DS X F S (.Return (some e) pos) P :=
  ds_mk (ps_ret h) fun D σ H ⟨G, sv, k⟩ => ⟨G, sv, fun d S' G' v H' hp st r => k.rn d S' G' σ v H' hp st.g st.sv r⟩
end
/-! ### a def keeps such a promise by its body -/
def postN (kn : FW.D → Prop) : Post := ⟨fun _ => kn .none, fun d _ => noL d = true ∧ kn d, fun l _ => noLs l = true ∧ kn (.list l), fun _ => False, fun _ => False, fun d _ => kn d⟩
section
variable {P : Program} {w : World} {K : PySem.W.Frag} {mg : Str → Option Value} {base : Heap}
theorem ends_N {G H : Hp} {Q : VK} {kn : FW.D → Prop} (h1 : ∀ d G' v H', kn d → PSt G H G' H' → Rn (fun a => H a = none) G' v d → Q v H') : Ends' K ⟨G, H, none⟩ (postN kn) { nx := fun _ H' => Q .non H', rt := Q } G := by
  have pst : ∀ {S' G' σ' H'}, SV K ⟨G, H, none⟩ S' G' σ' H' → Ex G G' → PSt G H G' H' := fun {S' G' σ' H'} sv ex => ⟨ex, sv.gh, sv.kept.ext rfl, sv.new⟩
  refine ⟨fun S' G' σ' H' hp ex sv => h1 _ G' _ H' hp (pst sv ex) .non, fun d S' G' σ' v H' hp ex sv r => h1 d G' v H' hp.2 (pst sv ex) (r.rn hp.1), fun es S' G' σ' p ws H' hp ex sv gp h0 hl r => ?_, fun _ _ _ _ h => h.elim, fun _ _ _ _ h => h.elim, fun d S' G' σ' v H' hp ex sv r => h1 d G' v H' hp (pst sv ex) r⟩
  have p1 := pst sv ex
  refine h1 _ (upd G' p (.lst ws)) _ H' hp.2 ⟨ex.trans (Ex.upd gp), fun a o h => ?_, p1.h, fun a o nc h => ?_⟩ (.lst h0 upd_same ((r.mono (Ex.upd gp)).rns hp.1))
  · by_cases z : a = p
    · subst z; rw [upd_same] at h; cases h; exact hl
    · rw [upd_ne z] at h; exact p1.gh a o h
  · by_cases z : a = p
    · subst z; exact .inr h0
    · rw [upd_ne z] at h; exact p1.nw a o nc h
theorem fn_okN {x qual : Str} {st : Stmt} {f : Addr} {fd : FuncData} {N ps : List Str} {k : Nat} {Z : Zn} (F : Fun K x qual st f fd) (S : FnScope N ps (defScope st)) (hlen : ∀ ds kn, Z ds kn → ds.length = ps.length) (hNl : ps.length ≤ N.length)
    (hb : ∀ (cdv : Value) (A : Around) (outer : List Env) (s : Shared) (H : Hp) (E : XK) (Fm : Fr) (ds : List FW.D) (kn : FW.D → Prop), Room k (A.deeper (envOfC qual (defScope st) s.heap.objs.size f cdv)) → Fm.r = none → Z ds kn →
      DB (cxOf CX0 P w K mg base N qual (defScope st) f cdv A outer s H E).nox Fm (sl0 N ds) (defBody st) (postN kn)) : FnOk P w K mg base CX0 (k + 1) f fd ps (spN Z) := by
  refine F.ok S (fun vs H Q E h => ?_) (fun cdv A outer s H vs Q E hr h => ?_)
  · obtain ⟨G, ds, kn, e, r, z, _⟩ := h
    rw [r.length]; exact hlen ds kn z
  · obtain ⟨G, ds, kn, e, r, z, h1⟩ := h
    have hl := hlen ds kn z
    exact ⟨_, hb cdv A outer s H E ⟨G, H, none⟩ ds kn hr rfl z, G, sv_start (by omega) e r, ends_N h1⟩
end
/-! ### slots for these -/
section
variable {K : PySem.W.Frag} {F : Fr} {S : List Sl} {G H : Hp} {σ : L2.St} {p : Addr} {o : HO}
theorem getElem_self_set {i : Nat} {sl t : Sl} (h : (S.set i sl)[i]? = some t) : t = sl := by
  have hl := (List.getElem?_eq_some_iff.mp h).1
  rw [List.length_set] at hl
  rw [List.getElem?_set_self hl] at h
  exact (Option.some.inj h).symm
theorem SV.setS {i : Nat} {v : V} {sl : Sl} (sv : SV K F S G σ H) (ok : SlOk K F G H (some (some v)) sl) (hm : sl.mut = true → ∃ p, v = .ref p ∧ NotMut S σ p) (ho : ∀ ds, sl = .own ds → ∀ p, v = .ref p → F.H0 p = none) : SV K F (S.set i sl) G (σ.set i (some v)) H where
  base := sv.base
  gh := sv.gh
  keep := sv.keep
  live := sv.live
  new := sv.new
  slot := fun j t h => by
    by_cases e : i = j
    · subst e
      have hl := (List.getElem?_eq_some_iff.mp h).1
      rw [List.length_set] at hl
      have := getElem_self_set h
      subst this
      rw [List.getElem?_set_self (by rw [← sv.len]; exact hl)]
      exact ok
    · rw [List.getElem?_set_ne e] at h ⊢
      exact sv.slot j t h
  sep := fun a b q ne ha hb => by
    have key : ∀ c, i ≠ c → MutAt (S.set i sl) (σ.set i (some v)) q c → MutAt (S.set i sl) (σ.set i (some v)) q i → False := fun c hc m m' => by
      have m1 := mutAt_set m hc
      obtain ⟨⟨t, h1, h2⟩, e⟩ := m'
      have := getElem_self_set h1
      subst this
      obtain ⟨p, rfl, nm⟩ := hm h2
      have hl := (List.getElem?_eq_some_iff.mp e).1
      rw [List.length_set] at hl
      rw [List.getElem?_set_self hl] at e; cases e
      exact nm c m1
    by_cases ea : i = a
    · subst ea; exact key b ne hb ha
    · by_cases eb : i = b
      · subst eb; exact key a ea ha hb
      · exact sv.sep a b q ne (mutAt_set ha ea) (mutAt_set hb eb)
  own0 := fun a es q h1 h2 => by
    by_cases ea : i = a
    · subst ea
      have := getElem_self_set h1
      have hl := (List.getElem?_eq_some_iff.mp h2).1
      rw [List.length_set] at hl
      rw [List.getElem?_set_self hl] at h2; cases h2
      exact ho es this.symm q rfl
    · rw [List.getElem?_set_ne ea] at h1 h2
      exact sv.own0 a es q h1 h2
  len := by rw [List.length_set, List.length_set]; exact sv.len
  bh := sv.bh
/-- a list at a slot that may be written is written -/
theorem SV.wS {i : Nat} {sl sl' : Sl} {vs' : List V} (sv : SV K F S G σ H) (hs : S[i]? = some sl) (hm : sl.mut = true) (he : σ[i]? = some (some (.ref p))) (h0 : F.H0 p = none) (gp : G p = none) (ok : SlOk K F G (upd H p (.lst vs')) (some (some (.ref p))) sl') : SV K F (S.set i sl') G σ (upd H p (.lst vs')) := by
  have m : MutAt S σ p i := ⟨⟨_, hs, hm⟩, he⟩
  have hl := (List.getElem?_eq_some_iff.mp hs).1
  have back : ∀ {a q}, MutAt (S.set i sl') σ q a → MutAt S σ q a := fun {a q} ha => by
    obtain ⟨⟨t, h1, h2⟩, e⟩ := ha
    by_cases z : i = a
    · subst z; exact ⟨⟨_, hs, hm⟩, e⟩
    · rw [List.getElem?_set_ne z] at h1; exact ⟨⟨t, h1, h2⟩, e⟩
  obtain ⟨ws0, hp0, _⟩ := sv.mutH m
  refine ⟨sv.base, sv.gh.mut gp, fun a o ha q nt => ?_, sv.live_upd hp0, sv.new, fun j t h => ?_, fun a b q ne ha hb => sv.sep a b q ne (back ha) (back hb), fun a es q h1 h2 => ?_, by rw [List.length_set]; exact sv.len, sv.bh⟩
  · by_cases z : a = p
    · subst z
      rw [h0] at q; cases q
    · rw [upd_ne z]; exact sv.keep a o ha q nt
  · by_cases z : i = j
    · subst z
      have := getElem_self_set h
      subst this
      rw [he]; exact ok
    · rw [List.getElem?_set_ne z] at h
      refine (sv.slot j t h).mono (Ex.refl G) fun q hq hmt => ?_
      have mj : MutAt S σ q j := ⟨⟨t, h, hmt⟩, hq⟩
      obtain ⟨_, _, gq⟩ := sv.mutH mj
      have ne : q ≠ p := fun e => sv.sep i j p z m (e ▸ mj)
      exact ⟨gq, upd_ne ne⟩
  · by_cases z : i = a
    · subst z
      rw [he] at h2; cases h2
      exact h0
    · rw [List.getElem?_set_ne z] at h1; exact sv.own0 a es q h1 h2
/-- such a list is taken for good -/
theorem SV.frS {i : Nat} {sl sl' : Sl} {vs : List V} (sv : SV K F S G σ H) (hs : S[i]? = some sl) (hm : sl.mut = true) (he : σ[i]? = some (some (.ref p))) (gp : G p = none) (hp : H p = some (.lst vs)) (h0 : F.H0 p = none) (hm' : sl'.mut = false) (ok : SlOk K F (upd G p (.lst vs)) H (some (some (.ref p))) sl') : SV K F (S.set i sl') (upd G p (.lst vs)) σ H := by
  have m : MutAt S σ p i := ⟨⟨_, hs, hm⟩, he⟩
  have hl := (List.getElem?_eq_some_iff.mp hs).1
  have sub : ∀ {a q}, MutAt (S.set i sl') σ q a → MutAt S σ q a ∧ i ≠ a := fun {a q} ha => by
    obtain ⟨⟨t, h1, h2⟩, e⟩ := ha
    by_cases z : i = a
    · subst z
      have := getElem_self_set h1
      subst this
      rw [hm'] at h2; cases h2
    · rw [List.getElem?_set_ne z] at h1; exact ⟨⟨⟨t, h1, h2⟩, e⟩, z⟩
  refine ⟨sv.base.trans (Ex.upd gp), fun a o h => ?_, sv.keep, sv.live, fun a o nc h => ?_, fun j t h => ?_, fun a b q ne ha hb => sv.sep a b q ne (sub ha).1 (sub hb).1, fun a es q h1 h2 => ?_, by rw [List.length_set]; exact sv.len, sv.bh⟩
  · by_cases z : a = p
    · subst z; rw [upd_same] at h; cases h; exact hp
    · rw [upd_ne z] at h; exact sv.gh a o h
  · by_cases z : a = p
    · subst z; exact .inr h0
    · rw [upd_ne z] at h; exact sv.new a o nc h
  · by_cases z : i = j
    · subst z
      have := getElem_self_set h
      subst this
      rw [he]; exact ok
    · rw [List.getElem?_set_ne z] at h
      refine (sv.slot j t h).mono (Ex.upd gp) fun q hq hmt => ?_
      have mj : MutAt S σ q j := ⟨⟨t, h, hmt⟩, hq⟩
      obtain ⟨_, _, gq⟩ := sv.mutH mj
      have ne : q ≠ p := fun e => sv.sep i j p z m (e ▸ mj)
      exact ⟨by rw [upd_ne ne]; exact gq, rfl⟩
  · by_cases z : i = a
    · subst z
      rw [he] at h2; cases h2
      exact h0
    · rw [List.getElem?_set_ne z] at h1; exact sv.own0 a es q h1 h2
end
section
variable {X : Cx} {F : Fr} {S : List Sl} {e a b c : Expr} {rest : List Stmt} {P : Post} {pos : Pos} {ds : List FW.D}
/-- x = e, e such a value -/
theorem ds_setN (i : Nat) {x : Str} {pos' : Pos} (hN : X.N.Nodup) (h : DN X F S e (fun d S' => P.nx (S'.set i (.new d)))) (hi : X.N[i]? = some x := by rfl) (hx : Loc X.env.scope x := by first | exact .inl rfl | exact .inr rfl) (hs : swapsWith e (some (.Name x pos')) pos.line X.env = pure false := by rfl)
    (hf : X.fn x = true ∨ X.env.scope.names.lookup x = some .local := by first | exact .inl rfl | exact .inr rfl) : DS X F S (.Assign [.Name x pos'] e pos) P :=
  ds_mk (ps_set hN hi hx h hs hf) fun D σ H ⟨G, sv, k⟩ => ⟨G, sv, fun d S' G' v H' hp st rr => k.nx _ G' _ H' hp st.g (st.sv.setS (sl := .new d) ⟨v, rfl, rr⟩ (fun z => nomatch z) (fun _ z => nomatch z))⟩
/-- x = e, e a new list whose items' lists are new -/
theorem ds_setON (i : Nat) {x : Str} {pos' : Pos} (hN : X.N.Nodup) (h : DO X F S e (fun ds S' => noLs ds = true ∧ P.nx (S'.set i (.ownN ds)))) (hi : X.N[i]? = some x := by rfl) (hx : Loc X.env.scope x := by first | exact .inl rfl | exact .inr rfl) (hs : swapsWith e (some (.Name x pos')) pos.line X.env = pure false := by rfl)
    (hf : X.fn x = true ∨ X.env.scope.names.lookup x = some .local := by first | exact .inl rfl | exact .inr rfl) : DS X F S (.Assign [.Name x pos'] e pos) P :=
  ds_mk (ps_set hN hi hx h hs hf) fun D σ H ⟨G, sv, k⟩ => ⟨G, sv, fun ds S' G' p vs H' hp st gp hn nm hh rr => k.nx _ G' _ H' hp.2 st.g (st.sv.setS (sl := .ownN ds) ⟨p, vs, rfl, gp, hh, sv.h0 hn, rr.rns hp.1⟩ (fun _ => ⟨p, rfl, nm⟩) (fun _ z => nomatch z))⟩
theorem ds_appendN (i : Nat) {x : Str} {p1 p2 p3 : Pos} (hO : ∃ ds, S[i]? = some (.ownN ds)) (h : DN X F S e (fun d S' => ∃ ds, S'[i]? = some (.ownN ds) ∧ ds.length < sizeLine ∧ P.nx (S'.set i (.ownN (ds ++ [d])))))
    (hN : X.N[i]? = some x := by rfl) (hv : Vis X.env.scope x := by first | exact Or.inl rfl | exact Or.inr (Or.inl rfl) | exact Or.inr (Or.inr rfl))
    (hs1 : starEach (e :: []) X.env = (false, eval e X.env) :: starEach [] X.env := by rfl) (hs : swapsWith (.Call (.Attribute (.Name x p1) "append" p2) [e] [] p3) none pos.line X.env = pure false := by rfl)
    (hd : (x == ("__debug__" : Str)) = false := by decide) (hcd : (x == ("__classdict__" : Str)) = false := by decide)
    (hbase : attributeBase (.Name x p1) "append" X.env (eval (.Name x p1) X.env) = eval (.Name x p1) X.env := by rfl)
    (hfew : ((backTo p3 (starEach (e :: []) X.env)).all (fun x => !x.1) && (backToKw p3 (keywordEach [] X.env)).all (fun x => x.1.isSome)
      && decide ((e :: ([] : List Expr)).length + ([] : List Keyword).length + (if ([] : List Keyword).isEmpty then 0 else 1) < 30)) = true := by rfl)
    (hline : (p2.endLine == p3.line) = true := by rfl) :
    DS X F S (.Expr (.Call (.Attribute (.Name x p1) "append" p2) [e] [] p3) pos) P :=
  ds_mk (ps_expr (pe_bm PySem.F.plainAttrs_list PySem.F.slot_list_append PySem.F.type_list_append mt_append (pe_var hN hv hd hcd) (pa_cons h pa_nil hs1) hbase hfew hline hs1) hs) fun D σ H ⟨G, sv, k⟩ => by
    obtain ⟨ds0, h0⟩ := hO
    obtain ⟨p, vs, ep, gp, hp, hz, rs⟩ := sv.slot i _ h0
    refine ⟨.ref p, ep, .inl ⟨rfl, _, SqL.of hp⟩, G, sv, fun d S' G' v H' ⟨ds, h2, hl, hP⟩ st rr => ?_⟩
    obtain ⟨p', vs', ep', gp', hp', hz', rs'⟩ := st.sv.slot i _ h2
    rw [ep] at ep'; cases ep'
    show rAppend (.ref p) [v] H' fun _ H1 => D.nx σ H1
    exact ⟨p, vs', v, rfl, rfl, hp', by rw [rs'.rps.length]; exact hl, k.nx _ G' σ _ hP st.g (st.sv.wS h2 rfl ep hz' gp' ⟨p, _, rfl, gp', upd_same, hz', rs'.append (.cons rr .nil)⟩)⟩
theorem ep_ixON {d : FW.D} {i : Int} (n : Nat) {x : Str} {p0 : Pos} (hb : Ep X F S b (.int i)) (h : atI ds i = some d) (hO : S[n]? = some (.ownN ds) := by rfl) (hN : X.N[n]? = some x := by rfl)
    (hv : Vis X.env.scope x := by first | exact Or.inl rfl | exact Or.inr (Or.inl rfl) | exact Or.inr (Or.inr rfl)) (hs : PlainIx b := by exact fun _ _ => rfl)
    (hd : (x == ("__debug__" : Str)) = false := by decide) (hcd : (x == ("__classdict__" : Str)) = false := by decide) : Ep X F S (.Subscript (.Name x p0) b pos) d :=
  de_mk (pe_ix ix_list (pe_var hN hv hd hcd) hb hs) fun σ H Q ⟨G, sv, k⟩ => by
    obtain ⟨p, vs, ep, gp, hp, hz, rs⟩ := sv.slot n _ hO
    refine ⟨.ref p, ep, G, sv, fun d2 S2 G2 y H2 ⟨e2, e3⟩ st2 r2 => ?_⟩
    subst e2; subst e3; cases r2
    obtain ⟨p', vs', ep', gp', hp', hz', rs'⟩ := st2.sv.slot n _ hO
    rw [ep] at ep'; cases ep'
    obtain ⟨v, hv, rv⟩ := rs'.rps.atI h
    exact ⟨p, vs', i, v, rfl, rfl, SqL.of hp', hv, k d _ G2 v H2 ⟨rfl, rfl⟩ st2 rv⟩
/-- xs != e of such a list -/
theorem dt_neON (i : Nat) {x : Str} {p1 : Pos} {k : Nat} {PT : Bool → List Sl → Prop} (hr : Room k X.A) {d2 : FW.D} (hO : S[i]? = some (.ownN ds)) (hb : Ep X F S b d2) (h1 : Sh (.list ds)) (h2 : Sh d2) (q : PT (!PyData.eqv (.list ds) d2) S)
    (hN : X.N[i]? = some x := by rfl) (hv : Vis X.env.scope x := by first | exact Or.inl rfl | exact Or.inr (Or.inl rfl) | exact Or.inr (Or.inr rfl)) (hd : (x == ("__debug__" : Str)) = false := by decide) (hcd : (x == ("__classdict__" : Str)) = false := by decide) : DT X F S (.Compare (.Name x p1) [.NotEq] [b] pos) PT :=
  dt_mk (pt_cmpR (op_neD hr.units) (pe_var hN hv hd hcd) hb (nomark b)) fun σ H Q ⟨G, sv, kk⟩ => by
    obtain ⟨p, vs, ep, gp, hp, hz, rs⟩ := sv.slot i _ hO
    refine ⟨.ref p, ep, G, sv, fun d' S' G' v2 H' ⟨ed, eS⟩ st r2 => ?_⟩
    subst ed; subst eS
    obtain ⟨p', vs', ep', gp', hp', hz', rs'⟩ := st.sv.slot i _ hO
    rw [ep] at ep'; cases ep'
    exact ⟨.list ds, d', .lst (SqL.of hp') ((rs'.rps.mono st.sv.gh).dp (by simpa only [PyData.canLay0] using SeqAt.canLay_of_shaped h1)), (r2.mono st.sv.gh).dp (SeqAt.canLay_of_shaped h2), h1, h2, _, rfl, kk _ S' G' H' q st⟩
theorem db_freezeN (i : Nat) (hs : S[i]? = some (.ownN ds)) (h : DB X F (S.set i (.new (.list ds))) rest P) : DB X F S rest P := db_mk h fun D σ H ⟨G, sv, k⟩ => by
  obtain ⟨p, vs, ep, gp, hp, hz, rs⟩ := sv.slot i _ hs
  exact ⟨_, sv.frS hs rfl ep gp hp hz rfl ⟨.ref p, rfl, .lst hz upd_same (rs.mono (Ex.upd gp) fun _ z => z)⟩, k.mono (Ex.upd gp)⟩
theorem db_freezeO (i : Nat) (hs : S[i]? = some (.own ds)) (hn : noLs ds = true) (h : DB X F (S.set i (.new (.list ds))) rest P) : DB X F S rest P := db_mk h fun D σ H ⟨G, sv, k⟩ => by
  obtain ⟨p, vs, ep, gp, hp, rs⟩ := sv.slot i _ hs
  have hz := sv.own0 i ds p hs ep
  exact ⟨_, sv.frS hs rfl ep gp hp hz rfl ⟨.ref p, rfl, .lst hz upd_same ((rs.mono (Ex.upd gp)).rns hn)⟩, k.mono (Ex.upd gp)⟩
end
/-! ### a part of a body by itself: what stood ahead of it stands behind it, what it made may be changed within -/
def FxL (G : Hp) : List Sl → List Sl → Prop
  | [], S0 => S0 = []
  | .val d :: S, S0 => ∃ v S1, S0 = .fix v :: S1 ∧ Rp G v d ∧ FxL G S S1
  | .new d :: S, S0 => ∃ v S1, S0 = .fix v :: S1 ∧ Rp G v d ∧ FxL G S S1
  | .row :: S, S0 => ∃ v S1, S0 = .fix v :: S1 ∧ FxL G S S1
  | .own _ :: S, S0 => ∃ v S1, S0 = .fix v :: S1 ∧ FxL G S S1
  | .ownN _ :: S, S0 => ∃ v S1, S0 = .fix v :: S1 ∧ FxL G S S1
  | .wild _ :: S, S0 => ∃ v S1, S0 = .fix v :: S1 ∧ FxL G S S1
  | .fix v :: S, S0 => ∃ S1, S0 = .fix v :: S1 ∧ FxL G S S1
  | .hld v _ _ :: S, S0 => ∃ S1, S0 = .fix v :: S1 ∧ FxL G S S1
  | .unk :: S, S0 => ∃ S1, S0 = .unk :: S1 ∧ FxL G S S1
inductive Bck : List Sl → List Sl → List Sl → List Sl → Prop
  | nil : Bck [] [] [] []
  | keep {s : Sl} {v : V} {S S0 S' R : List Sl} : Bck S S0 S' R → Bck (s :: S) (.fix v :: S0) (.fix v :: S') (s :: R)
  | drop {s s0 s' : Sl} {S S0 S' R : List Sl} : Bck S S0 S' R → Bck (s :: S) (s0 :: S0) (s' :: S') (.unk :: R)
theorem Bck.len {S S0 S' R : List Sl} (h : Bck S S0 S' R) : R.length = S.length ∧ S'.length = S.length ∧ S0.length = S.length := by
  induction h with
  | nil => exact ⟨rfl, rfl, rfl⟩
  | keep _ ih => simp only [List.length_cons]; omega
  | drop _ ih => simp only [List.length_cons]; omega
theorem Bck.at {S S0 S' R : List Sl} (h : Bck S S0 S' R) : ∀ (i : Nat) (sl : Sl), R[i]? = some sl → sl = .unk ∨ (S[i]? = some sl ∧ ∃ v, S0[i]? = some (.fix v) ∧ S'[i]? = some (.fix v)) := by
  induction h with
  | nil => intro i sl h; simp at h
  | @keep s v _ _ _ _ _ ih =>
    intro i sl h
    cases i with
    | zero => simp at h; subst h; exact .inr ⟨rfl, v, rfl, rfl⟩
    | succ i => exact ih i sl (by simpa using h)
  | drop _ ih =>
    intro i sl h
    cases i with
    | zero => simp at h; exact .inl h.symm
    | succ i => exact ih i sl (by simpa using h)
section
variable {K : PySem.W.Frag} {F : Fr} {G H : Hp}
theorem fxL_ex : ∀ {S : List Sl} {σ : L2.St}, S.length = σ.length → (∀ (i : Nat) (sl : Sl), S[i]? = some sl → SlOk K F G H σ[i]? sl) → Ex G H → ∃ S0, FxL G S S0 ∧ S0.length = S.length ∧ ∀ (i : Nat) (s0 : Sl), S0[i]? = some s0 → s0 = .unk ∨ ∃ v, s0 = .fix v ∧ σ[i]? = some (some v)
  | [], σ, _, _, _ => ⟨[], rfl, rfl, fun i s0 h => by simp at h⟩
  | s :: S, [], hl, _, _ => by simp at hl
  | s :: S, o :: σ, hl, hs, eg => by
    obtain ⟨S1, f1, l1, a1⟩ := fxL_ex (S := S) (σ := σ) (by simpa using hl) (fun i sl h => by simpa using hs (i + 1) sl (by simpa using h)) eg
    have k0 := hs 0 s rfl
    have fin : ∀ v, o = some v → (∀ (i : Nat) (s0 : Sl), (Sl.fix v :: S1)[i]? = some s0 → s0 = .unk ∨ ∃ v, s0 = .fix v ∧ (o :: σ)[i]? = some (some v)) := fun v ho i s0 h => by
      cases i with
      | zero => simp at h; subst h; exact .inr ⟨v, rfl, by rw [ho]; rfl⟩
      | succ i => simpa using a1 i s0 (by simpa using h)
    cases s with
    | unk =>
      refine ⟨.unk :: S1, ⟨S1, rfl, f1⟩, by simp [l1], fun i s0 h => ?_⟩
      cases i with
      | zero => simp at h; exact .inl h.symm
      | succ i => simpa using a1 i s0 (by simpa using h)
    | val d => obtain ⟨v, e, r⟩ := k0; exact ⟨.fix v :: S1, ⟨v, S1, rfl, r, f1⟩, by simp [l1], fin v (by simpa using e)⟩
    | new d => obtain ⟨v, e, r⟩ := k0; exact ⟨.fix v :: S1, ⟨v, S1, rfl, r.rp, f1⟩, by simp [l1], fin v (by simpa using e)⟩
    | own ds => obtain ⟨p, _, e, _⟩ := k0; exact ⟨.fix (.ref p) :: S1, ⟨_, S1, rfl, f1⟩, by simp [l1], fin _ (by simpa using e)⟩
    | ownN ds => obtain ⟨p, _, e, _⟩ := k0; exact ⟨.fix (.ref p) :: S1, ⟨_, S1, rfl, f1⟩, by simp [l1], fin _ (by simpa using e)⟩
    | wild n => obtain ⟨p, _, e, _⟩ := k0; exact ⟨.fix (.ref p) :: S1, ⟨_, S1, rfl, f1⟩, by simp [l1], fin _ (by simpa using e)⟩
    | row => obtain ⟨p, _, e, _⟩ := k0; exact ⟨.fix (.ref p) :: S1, ⟨_, S1, rfl, f1⟩, by simp [l1], fin _ (by simpa using e)⟩
    | fix v => exact ⟨.fix v :: S1, ⟨S1, rfl, f1⟩, by simp [l1], fin v (by have : some o = some (some v) := k0; simpa using this)⟩
    | hld v a u => exact ⟨.fix v :: S1, ⟨S1, rfl, f1⟩, by simp [l1], fin v (by have : some o = some (some v) := k0.1; simpa using this)⟩
theorem SV.scope {S S0 : List Sl} {σ : L2.St} (sv : SV K F S G σ H) (l0 : S0.length = S.length) (a0 : ∀ (i : Nat) (s0 : Sl), S0[i]? = some s0 → s0 = .unk ∨ ∃ v, s0 = .fix v ∧ σ[i]? = some (some v)) : SV K ⟨G, H, none⟩ S0 G σ H := by
  have no : ∀ {p j}, ¬ MutAt S0 σ p j := fun {p j} ⟨⟨t, h1, h2⟩, _⟩ => by
    rcases a0 j t h1 with rfl | ⟨v, rfl, _⟩ <;> cases h2
  refine ⟨Ex.refl G, sv.gh, fun a o _ h _ => h, ⟨fun r hr => (by cases hr), fun a o h => ⟨o, h⟩, TabG.refl H⟩, fun a o _ h => .inl h, fun i sl h => ?_, fun i j p _ a _ => no a, fun i es p h _ => ?_, l0.trans sv.len, sv.gh⟩
  · rcases a0 i sl h with rfl | ⟨v, rfl, e⟩
    · trivial
    · exact e
  · rcases a0 i _ h with z | ⟨v, z, _⟩ <;> cases z
theorem SV.unscope {S S0 S' R : List Sl} {G' H' : Hp} {σ σ' : L2.St} (sv : SV K F S G σ H) (a0 : ∀ (i : Nat) (s0 : Sl), S0[i]? = some s0 → s0 = .unk ∨ ∃ v, s0 = .fix v ∧ σ[i]? = some (some v)) (sv' : SV K ⟨G, H, none⟩ S' G' σ' H') (b : Bck S S0 S' R) : SV K F R G σ' H' := by
  have kp : ExT H H' := sv'.kept.ext rfl
  have at_ : ∀ (i : Nat) (sl : Sl), R[i]? = some sl → sl = .unk ∨ (S[i]? = some sl ∧ σ'[i]? = σ[i]?) := fun i sl h => by
    rcases b.at i sl h with z | ⟨h1, v, h2, h3⟩
    · exact .inl z
    · refine .inr ⟨h1, ?_⟩
      have e1 : σ'[i]? = some (some v) := sv'.slot i _ h3
      rcases a0 i _ h2 with z | ⟨v', z, e2⟩
      · cases z
      · cases z
        rw [e1, e2]
  have back : ∀ {p j}, MutAt R σ' p j → MutAt S σ p j := fun {p j} ⟨⟨t, h1, h2⟩, e⟩ => by
    rcases at_ j t h1 with rfl | ⟨h3, h4⟩
    · cases h2
    · exact ⟨⟨t, h3, h2⟩, h4 ▸ e⟩
  have kk := sv.keptX sv'.kept.b kp
  refine ⟨sv.base, sv'.kept.b, kk.k, kk.l, sv.new, fun i sl h => ?_, fun i j p ne ma mb => sv.sep i j p ne (back ma) (back mb), fun i es p h e => ?_, ?_, sv.bh⟩
  · rcases at_ i sl h with rfl | ⟨h1, h2⟩
    · trivial
    · rw [h2]
      refine (sv.slot i sl h1).mono (Ex.refl G) fun p hp hm => ?_
      obtain ⟨vs, hh, g⟩ := sv.mutH ⟨⟨sl, h1, hm⟩, hp⟩
      exact ⟨g, (kp.k p _ hh nt_lst).trans hh.symm⟩
  · rcases at_ i _ h with z | ⟨h1, h2⟩
    · cases z
    · exact sv.own0 i es p h1 (h2 ▸ e)
  · have := b.len
    have h1 := sv'.len
    have h2 := sv.len
    have h3 : σ'.length = S'.length := h1.symm
    omega
end
/-! .. where the ground may go back to what it was at the beginning -/
structure Ends0 (K : PySem.W.Frag) (F : Fr) (P : Post) (D : Ends) : Prop where
  nx : ∀ S' G' σ' H', P.nx S' → SV K F S' G' σ' H' → D.nx σ' H'
  rt : ∀ d S' G' σ' v H', P.rt d S' → SV K F S' G' σ' H' → Rp G' v d → D.rt v H'
  ro : ∀ ds S' G' σ' p vs H', P.ro ds S' → SV K F S' G' σ' H' → G' p = none → F.H0 p = none → H' p = some (.lst vs) → Rps G' vs ds → D.rt (.ref p) H'
  bk : ∀ S' G' σ' H', P.bk S' → SV K F S' G' σ' H' → D.bk σ' H'
  ct : ∀ S' G' σ' H', P.ct S' → SV K F S' G' σ' H' → D.ct σ' H'
  rn : ∀ d S' G' σ' v H', P.rn d S' → SV K F S' G' σ' H' → Rn (fun a => F.H0 a = none) G' v d → D.rt v H'
theorem Ends0.ends {K : PySem.W.Frag} {F : Fr} {P : Post} {D : Ends} {G : Hp} (k : Ends0 K F P D) : Ends' K F P D G :=
  ⟨fun S' G' σ' H' hp _ => k.nx S' G' σ' H' hp, fun d S' G' σ' v H' hp _ => k.rt d S' G' σ' v H' hp, fun ds S' G' σ' p vs H' hp _ => k.ro ds S' G' σ' p vs H' hp, fun S' G' σ' H' hp _ => k.bk S' G' σ' H' hp, fun S' G' σ' H' hp _ => k.ct S' G' σ' H' hp, fun d S' G' σ' v H' hp _ => k.rn d S' G' σ' v H' hp⟩
def rdS0 (K : PySem.W.Frag) (F : Fr) (S : List Sl) (P : Post) : TS := fun D σ H => ∃ G, SV K F S G σ H ∧ Ends0 K F P D
def DS0 (X : Cx) (F : Fr) (S : List Sl) (st : Stmt) (P : Post) : Prop := PS X st (rdS0 X.K F S P)
def DB0 (X : Cx) (F : Fr) (S : List Sl) (sts : List Stmt) (P : Post) : Prop := PSs X sts (rdS0 X.K F S P)
def tSs0 (X : Cx) (F : Fr) (sts : List Stmt) : TS := fun D σ H => ∃ S P, DB0 X F S sts P ∧ rdS0 X.K F S P D σ H
section
variable {X : Cx} {F : Fr} {S S' : List Sl} {P : Post} {body orelse rest : List Stmt} {st : Stmt} {c : Expr} {pos : Pos} {x : Bool}
theorem pss_any0 : PSs X rest (tSs0 X F rest) := ⟨fun pins s σ H D I ⟨_, _, h, r⟩ => PSs.run h pins s σ H D I r⟩
theorem ds0_of (h : DS X F S st P) : DS0 X F S st P := ⟨fun pins s σ H D I ⟨G, sv, k⟩ => PS.run h pins s σ H D I ⟨G, sv, k.ends⟩⟩
theorem db0_of (h : DB X F S rest P) : DB0 X F S rest P := ⟨fun pins s σ H D I ⟨G, sv, k⟩ => PSs.run h pins s σ H D I ⟨G, sv, k.ends⟩⟩
theorem db0_mk {t : TS} (h : PSs X rest t) (k : ∀ D σ H, rdS0 X.K F S P D σ H → t D σ H) : DB0 X F S rest P := ⟨fun pins s σ H D I r => h.run pins s σ H D I (k D σ H r)⟩
theorem ds0_mk {t : TS} (h : PS X st t) (k : ∀ D σ H, rdS0 X.K F S P D σ H → t D σ H) : DS0 X F S st P := ⟨fun pins s σ H D I r => h.run pins s σ H D I (k D σ H r)⟩
theorem db0_nil (h : P.nx S) : DB0 X F S [] P := db0_mk pss_nil fun D σ H ⟨G, sv, k⟩ => k.nx S G σ H h sv
theorem db0_cons (h : DS0 X F S st (P.next fun S1 => DB0 X F S1 rest P)) : DB0 X F S (st :: rest) P :=
  db0_mk (pss_cons h pss_any0) fun D σ H ⟨G, sv, k⟩ => ⟨G, sv, ⟨fun S1 G1 σ1 H1 hp sv1 => ⟨S1, P, hp, G1, sv1, k⟩, k.rt, k.ro, k.bk, k.ct, k.rn⟩⟩
theorem db0_c (h : DS X F S st (P.next fun S1 => DB0 X F S1 rest P)) : DB0 X F S (st :: rest) P := db0_cons (ds0_of h)
theorem ds0_imp {P' : Post} (h : DS0 X F S st P) (k : ∀ S', P.nx S' → P'.nx S') (k1 : ∀ d S', P.rt d S' → P'.rt d S') (k2 : ∀ d S', P.ro d S' → P'.ro d S') (k3 : ∀ S', P.bk S' → P'.bk S') (k4 : ∀ S', P.ct S' → P'.ct S') (k5 : ∀ d S', P.rn d S' → P'.rn d S') : DS0 X F S st P' :=
  ds0_mk h fun D σ H ⟨G, sv, q⟩ => ⟨G, sv, ⟨fun S1 G1 σ1 H1 hp => q.nx S1 G1 σ1 H1 (k _ hp), fun d S1 G1 σ1 v H1 hp => q.rt d S1 G1 σ1 v H1 (k1 _ _ hp), fun d S1 G1 σ1 p vs H1 hp => q.ro d S1 G1 σ1 p vs H1 (k2 _ _ hp), fun S1 G1 σ1 H1 hp => q.bk S1 G1 σ1 H1 (k3 _ hp), fun S1 G1 σ1 H1 hp => q.ct S1 G1 σ1 H1 (k4 _ hp), fun d S1 G1 σ1 v H1 hp => q.rn d S1 G1 σ1 v H1 (k5 _ _ hp)⟩⟩
theorem db0_mid (M : List Sl → Prop) (h1 : DS0 X F S st ⟨M, P.rt, P.ro, P.bk, P.ct, P.rn⟩) (h2 : ∀ S', M S' → DB0 X F S' rest P) : DB0 X F S (st :: rest) P :=
  db0_cons (ds0_imp h1 h2 (fun _ _ h => h) (fun _ _ h => h) (fun _ h => h) (fun _ h => h) (fun _ _ h => h))
theorem db0_weak (w : Wk S S') (h : DB0 X F S' rest P) : DB0 X F S rest P := db0_mk h fun D σ H ⟨G, sv, k⟩ => ⟨G, sv.weak w, k⟩
theorem db0_one (h : DS0 X F S st P) : DB0 X F S [st] P := db0_mk (pss_one h) fun _ _ _ r => r
theorem ds0_if (h : DT X F S c (fun t S' => (t = true → DB0 X F S' body P) ∧ (t = false → DB0 X F S' orelse P))) : DS0 X F S (.If c body orelse pos) P :=
  ds0_mk (ps_if h pss_any0 pss_any0) fun D σ H ⟨G, sv, k⟩ => ⟨G, sv, fun t S' G' H' hp st => by
    cases t with
    | true => exact iteT ⟨S', P, hp.1 rfl, G', st.sv, k⟩
    | false => exact iteF ⟨S', P, hp.2 rfl, G', st.sv, k⟩⟩
theorem ds0_ifP (h : Tp X F S c x) (h1 : x = true → DB0 X F S body P) (h2 : x = false → DB0 X F S orelse P) : DS0 X F S (.If c body orelse pos) P := ds0_if (h.to ⟨h1, h2⟩)
end
section
variable {X : Cx} {F : Fr} {S : List Sl} {P : Post} {blk rest : List Stmt} {st : Stmt}
def postB (S S0 : List Sl) (P : Post) : Post := ⟨fun S' => ∃ R, Bck S S0 S' R ∧ P.nx R, fun _ _ => False, fun _ _ => False, fun _ => False, fun _ => False, fun _ _ => False⟩
theorem db_scope (h : ∀ (F' : Fr) (S0 : List Sl), F'.r = none → FxL F'.B S S0 → DB0 X F' S0 blk (postB S S0 P)) : DB X F S blk P :=
  ⟨fun pins s σ H D I ⟨G, sv, k⟩ => by
    obtain ⟨S0, f0, l0, a0⟩ := fxL_ex sv.len (fun i sl h => sv.slot i sl h) sv.gh
    exact PSs.run (h ⟨G, H, none⟩ S0 rfl f0) pins s σ H D I ⟨G, sv.scope l0 a0, fun S' G' σ' H' ⟨R, b, hp⟩ sv' => k.nx R G σ' H' hp (Ex.refl G) (sv.unscope a0 sv' b), fun _ _ _ _ _ _ h => h.elim, fun _ _ _ _ _ _ _ h => h.elim, fun _ _ _ _ h => h.elim, fun _ _ _ _ h => h.elim, fun _ _ _ _ _ _ h => h.elim⟩⟩
theorem ds_scope (h : ∀ (F' : Fr) (S0 : List Sl), F'.r = none → FxL F'.B S S0 → DS0 X F' S0 st (postB S S0 P)) : DS X F S st P :=
  ⟨fun pins s σ H D I ⟨G, sv, k⟩ => by
    obtain ⟨S0, f0, l0, a0⟩ := fxL_ex sv.len (fun i sl h => sv.slot i sl h) sv.gh
    exact PS.run (h ⟨G, H, none⟩ S0 rfl f0) pins s σ H D I ⟨G, sv.scope l0 a0, fun S' G' σ' H' ⟨R, b, hp⟩ sv' => k.nx R G σ' H' hp (Ex.refl G) (sv.unscope a0 sv' b), fun _ _ _ _ _ _ h => h.elim, fun _ _ _ _ _ _ _ h => h.elim, fun _ _ _ _ h => h.elim, fun _ _ _ _ h => h.elim, fun _ _ _ _ _ _ h => h.elim⟩⟩
end
/-! ### what was told is changed -/
mutual
theorem Rp.keepq {G : Hp} {q : Addr} {ws : List V} {o : HO} (hq : G q = some (.lst ws)) : ∀ {v : V} {d : D}, Rp G v d → noL d = true → Rp (upd G q o) v d
  | _, _, .non, _ => .non
  | _, _, .bl b, _ => .bl b
  | _, _, .int i, _ => .int i
  | _, _, .str x, _ => .str x
  | _, _, .lst _ _, z => by simp [noL] at z
  | _, _, .tup (a := a) h r, z => .tup (by
      rw [upd_ne (fun e => by subst e; rw [hq] at h; cases h)]; exact h) (Rps.keepq hq r (by simpa [noL] using z))
theorem Rps.keepq {G : Hp} {q : Addr} {ws : List V} {o : HO} (hq : G q = some (.lst ws)) : ∀ {vs : List V} {ds : List D}, Rps G vs ds → noLs ds = true → Rps (upd G q o) vs ds
  | _, _, .nil, _ => .nil
  | _, _, .cons a b, z => .cons (Rp.keepq hq a (by simp [noLs] at z; exact z.1)) (Rps.keepq hq b (by simp [noLs] at z; exact z.2))
end
theorem noLs_app {a b : List FW.D} (ha : noLs a = true) (hb : noLs b = true) : noLs (a ++ b) = true := by
  induction a with
  | nil => exact hb
  | cons d a ih =>
    simp only [noLs, Bool.and_eq_true, List.cons_append] at ha ⊢
    exact ⟨ha.1, ih ha.2⟩
theorem noLs_rev : ∀ {a : List FW.D}, noLs a = true → noLs a.reverse = true
  | [], _ => by simp [noLs]
  | d :: a, h => by
    simp only [noLs, Bool.and_eq_true] at h
    rw [List.reverse_cons]
    exact noLs_app (noLs_rev h.2) (by simp [noLs, h.1])
def keepF : Sl → Sl
  | .fix v => .fix v
  | _ => .unk
theorem keepF_get {S : List Sl} {i : Nat} {sl : Sl} (h : (S.map keepF)[i]? = some sl) : sl = .unk ∨ ∃ v, sl = .fix v ∧ S[i]? = some (.fix v) := by
  rw [List.getElem?_map] at h
  cases e : S[i]? with
  | none => rw [e] at h; cases h
  | some t =>
    rw [e] at h
    have h : keepF t = sl := Option.some.inj h
    subst h
    cases t <;> first | exact .inl rfl | exact .inr ⟨_, rfl, rfl⟩
section
variable {K : PySem.W.Frag} {F : Fr} {S : List Sl} {G H H' : Hp} {σ σ' : L2.St} {q : Addr}
theorem SV.chg {i : Nat} {sl : Sl} {vs vs' : List V} (sv : SV K F S G σ H) (hr : F.r = none) (h0 : F.H0 q = none) (hG : G q = some (.lst vs)) (hm : sl.mut = false) (ok : SlOk K F (upd G q (.lst vs')) (upd H q (.lst vs')) σ[i]? sl) : SV K F ((S.map keepF).set i sl) (upd G q (.lst vs')) σ (upd H q (.lst vs')) := by
  have no : ∀ {p j}, ¬ MutAt ((S.map keepF).set i sl) σ p j := fun {p j} ⟨⟨t, h1, h2⟩, _⟩ => by
    by_cases z : i = j
    · subst z
      have := getElem_self_set h1
      subst this
      rw [hm] at h2; cases h2
    · rw [List.getElem?_set_ne z] at h1
      rcases keepF_get h1 with rfl | ⟨v, rfl, _⟩ <;> cases h2
  have hB : F.B q = none := sv.bh.none h0
  refine ⟨sv.base.mut hB, sv.gh.upd2, fun a o ha h nt => ?_, sv.live_upd (sv.gh _ _ hG), fun a o nc h => ?_, fun j t h => ?_, fun a b p _ ha _ => no ha, fun a es p h _ => ?_, ?_, sv.bh⟩
  · have ne : a ≠ q := fun z => by subst z; rw [h0] at h; cases h
    rw [upd_ne ne]; exact sv.keep a o ha h nt
  · by_cases z : a = q
    · subst z; exact .inr h0
    · rw [upd_ne z] at h; exact sv.new a o nc h
  · by_cases z : i = j
    · subst z
      have := getElem_self_set h
      subst this
      exact ok
    · rw [List.getElem?_set_ne z] at h
      rcases keepF_get h with rfl | ⟨v, rfl, e⟩
      · trivial
      · exact sv.slot j _ e
  · by_cases z : i = a
    · subst z
      have := getElem_self_set h
      rw [← this] at hm; cases hm
    · rw [List.getElem?_set_ne z] at h
      rcases keepF_get h with z | ⟨v, z, _⟩ <;> cases z
  · rw [List.length_set, List.length_map]; exact sv.len
/-- since H nothing but new lists was written -/
structure Lo (F : Fr) (H H' : Hp) : Prop where
  a : ∀ b o, H b = some o → (∀ xs, o ≠ .lst xs) → H' b = some o
  z : ∀ b o, H b = some o → F.H0 b ≠ none → H' b = some o
theorem Lo.refl (F : Fr) (H : Hp) : Lo F H H := ⟨fun _ _ h _ => h, fun _ _ h _ => h⟩
theorem Lo.upd {q : Addr} {o : HO} (l : Lo F H H') (h0 : F.H0 q = none) (hq : H q = none ∨ ∃ us, H q = some (.lst us)) : Lo F H (L2.upd H' q o) :=
  ⟨fun b u h n => by
    rw [upd_ne (fun z => by
      subst z
      rcases hq with e | ⟨us, e⟩
      · rw [e] at h; cases h
      · rw [e] at h; cases h; exact n _ rfl)]
    exact l.a b u h n, fun b u h n => by rw [upd_ne (fun z => n (by rw [z]; exact h0))]; exact l.z b u h n⟩
/-- back to the ground of the beginning: what is new may be anything -/
theorem SV.bare {R : List Sl} (sv : SV K F S G σ H) (hr : F.r = none) (kp : Lo F H H') (hl : R.length = σ'.length) (hR : ∀ (i : Nat) (sl : Sl), R[i]? = some sl → sl = .unk ∨ ∃ v, sl = .fix v ∧ σ'[i]? = some (some v)) : SV K F R F.B σ' H' := by
  have no : ∀ {p j}, ¬ MutAt R σ' p j := fun {p j} ⟨⟨t, h1, h2⟩, _⟩ => by
    rcases hR j t h1 with rfl | ⟨v, rfl, _⟩ <;> cases h2
  refine ⟨Ex.refl _, fun a o h => kp.z a o (sv.gh a o (sv.base a o h)) (fun z => by rw [sv.bh a o h] at z; cases z), fun a o ha h nt => kp.z a o (sv.keep a o ha h nt) (fun z => by rw [h] at z; cases z),
    ⟨fun r h => (by rw [hr] at h; cases h), fun a o h => by
      obtain ⟨o', h'⟩ := sv.live.2.1 a o h
      exact ⟨o', kp.z a o' h' (fun z => by rw [h] at z; cases z)⟩, sv.live.2.2.trans (TabG.of kp.a)⟩, fun a o _ h => .inl h, fun j t h => ?_, fun a b p _ ha _ => no ha, fun a es p h _ => ?_, hl, sv.bh⟩
  · rcases hR j t h with rfl | ⟨v, rfl, e⟩
    · trivial
    · exact e
  · rcases hR a _ h with z | ⟨v, z, _⟩ <;> cases z
end
section
variable {X : Cx} {F : Fr} {S : List Sl} {P : Post} {e : Expr} {pos : Pos} {d0 d2 : FW.D} {ds : List FW.D}
theorem rn_pair {N : Addr → Prop} {G : Hp} {v : V} (r : Rn N G v (.tuple [d0, .list ds])) : ∃ p q v0 vs, v = .ref p ∧ G p = some (.tup [v0, .ref q]) ∧ Rn N G v0 d0 ∧ N q ∧ G q = some (.lst vs) ∧ Rns N G vs ds := by
  cases r with
  | tup hp rs =>
    cases rs with
    | cons r0 rs =>
      cases rs with
      | cons r1 rs =>
        cases rs
        cases r1 with
        | lst hn hq rq => exact ⟨_, _, _, _, rfl, hp, r0, hn, hq, rq⟩
/-- x[1].append(e) -/
theorem ds0_apPair (i : Nat) {x : Str} {j : Nat} {p0 p1 p2 p3 pc : Pos} (hF : F.r = none) (h : Ep X F S e d2) (n0 : noL d0 = true) (nd : noLs ds = true) (n2 : noL d2 = true) (hl : ds.length < sizeLine) (k : P.nx ((S.map keepF).set i (.new (.tuple [d0, .list (ds ++ [d2])]))))
    (hS : S[i]? = some (.new (.tuple [d0, .list ds])) := by rfl) (hN : X.N[i]? = some x := by rfl) (hv : Vis X.env.scope x := by first | exact Or.inl rfl | exact Or.inr (Or.inl rfl) | exact Or.inr (Or.inr rfl))
    (hs1 : starEach (e :: []) X.env = (false, eval e X.env) :: starEach [] X.env := by rfl) (hs : swapsWith (.Call (.Attribute (.Subscript (.Name x p0) (.Constant (.int 1) j pc) p1) "append" p2) [e] [] p3) none pos.line X.env = pure false := by rfl)
    (hd : (x == ("__debug__" : Str)) = false := by decide) (hcd : (x == ("__classdict__" : Str)) = false := by decide) (hix : PlainIx (.Constant (.int 1) j pc) := by exact fun _ _ => rfl)
    (hbase : attributeBase (.Subscript (.Name x p0) (.Constant (.int 1) j pc) p1) "append" X.env (eval (.Subscript (.Name x p0) (.Constant (.int 1) j pc) p1) X.env) = eval (.Subscript (.Name x p0) (.Constant (.int 1) j pc) p1) X.env := by rfl)
    (hfew : ((backTo p3 (starEach (e :: []) X.env)).all (fun x => !x.1) && (backToKw p3 (keywordEach [] X.env)).all (fun x => x.1.isSome)
      && decide ((e :: ([] : List Expr)).length + ([] : List Keyword).length + (if ([] : List Keyword).isEmpty then 0 else 1) < 30)) = true := by rfl)
    (hline : (p2.endLine == p3.line) = true := by rfl) :
    DS0 X F S (.Expr (.Call (.Attribute (.Subscript (.Name x p0) (.Constant (.int 1) j pc) p1) "append" p2) [e] [] p3) pos) P :=
  ds0_mk (ps_expr (pe_bm PySem.F.plainAttrs_list PySem.F.slot_list_append PySem.F.type_list_append mt_append (pe_ix ix_seq (pe_var hN hv hd hcd) pe_int hix) (pa_cons h pa_nil hs1) hbase hfew hline hs1) hs) fun D σ H ⟨G, sv, kk⟩ => by
    obtain ⟨v, ev, rv⟩ := sv.slot i _ hS
    obtain ⟨p, q, v0, vs, rfl, hp, r0, hn, hq, rq⟩ := rn_pair rv
    refine ⟨.ref p, ev, .inr (.inl ⟨p, _, 1, .ref q, rfl, rfl, SqT.of (sv.gh _ _ hp), atI_nat (j := 1) rfl, .inl ⟨rfl, _, SqL.of (sv.gh _ _ hq)⟩, G, sv, fun d' S' G' v2 H' ⟨ed, eS⟩ st r2 => ?_⟩)⟩
    subst ed; subst eS
    have hp' := st.g _ _ hp
    have hq' := st.g _ _ hq
    have ne : p ≠ q := fun z => by subst z; rw [hp] at hq; cases hq
    show rAppend (.ref q) [v2] H' fun _ H1 => D.nx σ H1
    refine ⟨q, vs, v2, rfl, rfl, st.sv.gh _ _ hq', by rw [rq.rps.length]; exact hl, kk.nx _ (upd G' q (.lst (vs ++ [v2]))) σ _ k (st.sv.chg hF hn hq' rfl ⟨.ref p, ev, ?_⟩)⟩
    refine .tup (xs := [v0, .ref q]) (by rw [upd_ne ne]; exact hp') (.cons (Rp.rn (Rp.keepq hq' (r0.rp.mono st.g) n0) n0) (.cons (.lst hn upd_same ?_) .nil))
    exact (((rq.rps.mono st.g).keepq hq' nd).rns nd).append (.cons ((r2.keepq hq' n2).rn n2) .nil)
/-- x[1].reverse() -/
theorem ds0_revPair (i : Nat) {x : Str} {j : Nat} {p0 p1 p2 p3 pc : Pos} (hF : F.r = none) (n0 : noL d0 = true) (nd : noLs ds = true) (k : P.nx ((S.map keepF).set i (.new (.tuple [d0, .list ds.reverse]))))
    (hS : S[i]? = some (.new (.tuple [d0, .list ds])) := by rfl) (hN : X.N[i]? = some x := by rfl) (hv : Vis X.env.scope x := by first | exact Or.inl rfl | exact Or.inr (Or.inl rfl) | exact Or.inr (Or.inr rfl))
    (hs : swapsWith (.Call (.Attribute (.Subscript (.Name x p0) (.Constant (.int 1) j pc) p1) "reverse" p2) [] [] p3) none pos.line X.env = pure false := by rfl)
    (hd : (x == ("__debug__" : Str)) = false := by decide) (hcd : (x == ("__classdict__" : Str)) = false := by decide) (hix : PlainIx (.Constant (.int 1) j pc) := by exact fun _ _ => rfl)
    (hbase : attributeBase (.Subscript (.Name x p0) (.Constant (.int 1) j pc) p1) "reverse" X.env (eval (.Subscript (.Name x p0) (.Constant (.int 1) j pc) p1) X.env) = eval (.Subscript (.Name x p0) (.Constant (.int 1) j pc) p1) X.env := by rfl) (hline : (p2.endLine == p3.line) = true := by rfl) :
    DS0 X F S (.Expr (.Call (.Attribute (.Subscript (.Name x p0) (.Constant (.int 1) j pc) p1) "reverse" p2) [] [] p3) pos) P :=
  ds0_mk (ps_expr (pe_bm0 PySem.F.plainAttrs_list PySem.F.slot_list_reverse PySem.F.type_list_reverse mt_reverse (pe_ix ix_seq (pe_var hN hv hd hcd) pe_int hix) hbase hline) hs) fun D σ H ⟨G, sv, kk⟩ => by
    obtain ⟨v, ev, rv⟩ := sv.slot i _ hS
    obtain ⟨p, q, v0, vs, rfl, hp, r0, hn, hq, rq⟩ := rn_pair rv
    have ne : p ≠ q := fun z => by subst z; rw [hp] at hq; cases hq
    refine ⟨.ref p, ev, .inr (.inl ⟨p, _, 1, .ref q, rfl, rfl, SqT.of (sv.gh _ _ hp), atI_nat (j := 1) rfl, .inl ⟨rfl, _, SqL.of (sv.gh _ _ hq)⟩, q, vs, rfl, rfl, sv.gh _ _ hq, kk.nx _ (upd G q (.lst vs.reverse)) σ _ k (sv.chg hF hn hq rfl ⟨.ref p, ev, ?_⟩)⟩)⟩
    refine .tup (xs := [v0, .ref q]) (by rw [upd_ne ne]; exact hp) (.cons (Rp.rn (Rp.keepq hq r0.rp n0) n0) (.cons (.lst hn upd_same ?_) .nil))
    exact ((rq.rps.keepq hq nd).reverse).rns (noLs_rev nd)
end
end FW

namespace FW
open PySem PySem.Spec PyProof.Rows L2
variable [Tb]
/-! ### lists within a list are changed, each by itself -/
/-- no list -/
def NL (H : Hp) (u : V) : Prop := u = .non ∨ (∃ b, u = .bl b) ∨ (∃ i, u = .int i) ∨ (∃ x, u = .str x) ∨ ∃ a xs, u = .ref a ∧ H a = some (.tup xs)
theorem NL.upd {H : Hp} {u : V} {q : Addr} {ws : List V} {o : HO} (h : NL H u) (hq : H q = some (.lst ws)) : NL (L2.upd H q o) u := by
  rcases h with h | h | h | h | ⟨a, xs, e, h⟩
  · exact .inl h
  · exact .inr (.inl h)
  · exact .inr (.inr (.inl h))
  · exact .inr (.inr (.inr (.inl h)))
  · exact .inr (.inr (.inr (.inr ⟨a, xs, e, by rw [upd_ne (fun z => by subst z; rw [hq] at h; cases h)]; exact h⟩)))
/-- a list's item: a new list of things that are none, or no list -/
def ItW (B : Prop) (F : Fr) (H : Hp) (p : Addr) (M : Nat) (u : V) : Prop := (∃ q ws, u = .ref q ∧ q ≠ p ∧ F.H0 q = none ∧ H q = some (.lst ws) ∧ ws.length ≤ M) ∨ (B ∧ NL H u)
/-- data whose lists may be changed within -/
def InL (B : Prop) (M : Nat) (d : FW.D) : Prop := (B ∧ noL d = true) ∨ ∃ es, d = .list es ∧ noLs es = true ∧ es.length ≤ M
theorem rn_get {N : Addr → Prop} {G : Hp} : ∀ {vs : List V} {ds : List FW.D} {u : V}, Rns N G vs ds → u ∈ vs → ∃ d ∈ ds, Rn N G u d
  | _, _, _, .nil, h => nomatch h
  | _, _, u, .cons (d := d) r t, h => by
    rcases List.mem_cons.mp h with rfl | h
    · exact ⟨d, List.mem_cons_self, r⟩
    · obtain ⟨d', hd, r'⟩ := rn_get t h
      exact ⟨d', List.mem_cons_of_mem _ hd, r'⟩
theorem noLs_mem : ∀ {ds : List FW.D} {d : FW.D}, noLs ds = true → d ∈ ds → noL d = true
  | [], _, _, h => nomatch h
  | e :: ds, d, hn, h => by
    simp only [noLs, Bool.and_eq_true] at hn
    rcases List.mem_cons.mp h with rfl | h
    · exact hn.1
    · exact noLs_mem hn.2 h
theorem itW_start {B : Prop} {F : Fr} {G H : Hp} {p : Addr} {us : List V} {ds : List FW.D} {M : Nat} (gh : Ex G H) (hp : G p = some (.lst us)) (r : Rns (Nw F) G us ds) (hd : ∀ d ∈ ds, InL B M d) : ∀ u ∈ us, ItW B F H p M u := fun u hu => by
  obtain ⟨d, hm, rd⟩ := rn_get r hu
  have isB : (∀ es, d ≠ .list es) → B := fun hne => by
    rcases hd d hm with ⟨z, _⟩ | ⟨es, e, _⟩
    · exact z
    · exact absurd e (hne es)
  cases rd with
  | non => exact .inr ⟨isB (fun es z => by cases z), .inl rfl⟩
  | bl b => exact .inr ⟨isB (fun es z => by cases z), .inr (.inl ⟨b, rfl⟩)⟩
  | int i => exact .inr ⟨isB (fun es z => by cases z), .inr (.inr (.inl ⟨i, rfl⟩))⟩
  | str x => exact .inr ⟨isB (fun es z => by cases z), .inr (.inr (.inr (.inl ⟨x, rfl⟩)))⟩
  | tup h _ => exact .inr ⟨isB (fun es z => by cases z), .inr (.inr (.inr (.inr ⟨_, _, rfl, gh _ _ h⟩)))⟩
  | lst hn hq rq =>
    rename_i q ws es
    refine .inl ⟨q, ws, rfl, fun z => ?_, hn, gh _ _ hq, ?_⟩
    · subst z
      rw [hp] at hq; cases hq
      obtain ⟨d', hd', rd'⟩ := rn_get rq hu
      rcases hd _ hm with ⟨_, z⟩ | ⟨es', e, z, _⟩
      · simp [noL] at z
      · cases e
        have hn' := noLs_mem z hd'
        cases rd' with
        | lst _ _ _ => simp [noL] at hn'
        | tup h _ => rw [hp] at h; cases h
    · rcases hd _ hm with ⟨_, z⟩ | ⟨es', e, _, z⟩
      · simp [noL] at z
      · cases e
        rw [rq.rps.length]; exact z
/-- a body that changes its item, a list, or leaves it, none -/
structure WBody (B : Prop) (F : Fr) (j : Nat) (tb : TS) (c : Nat) : Prop where
  l : ∀ (q : Addr) (ws : List V) (σ : L2.St) (H : Hp) (D : Ends), σ[j]? = some (some (.ref q)) → H q = some (.lst ws) → ws.length + 100 ≤ sizeLine → (∀ ws' : List V, ws'.length ≤ ws.length + c → D.nx σ (upd H q (.lst ws'))) → tb D σ H
  n : B → ∀ (u : V) (σ : L2.St) (H : Hp) (D : Ends), σ[j]? = some (some u) → NL H u → D.nx σ H → tb D σ H
theorem set_self {σ : L2.St} {i : Nat} {v : Option V} (h : σ[i]? = some v) : σ.set i v = σ := by
  refine List.ext_getElem? fun k => ?_
  by_cases e : i = k
  · subst e
    rw [List.getElem?_set_self (List.getElem?_eq_some_iff.mp h).1, h]
  · rw [List.getElem?_set_ne e]
section
variable {X : Cx} {F : Fr} {S : List Sl} {P : Post} {pos : Pos} {ds : List FW.D}
theorem ds0_wildFor {B : Prop} (i j : Nat) {x y : Str} {px py : Pos} {body : List Stmt} {tb : TS} (hp : PassesOwn (model X.prog X.w) X.A X.env X.xe) (hc : X.calm = true) (hN : X.N.Nodup) (hF : F.r = none) (hb : PSs X body tb) (wb : WBody B F j tb 10) (hij : i ≠ j)
    (hd : ∀ d ∈ ds, InL B 1000000 d) (hl : ds.length ≤ 1000) (k : P.nx ((((S.map keepF).set i .unk).set j .unk).set i (.wild 1000))) (hS : S[i]? = some (.new (.list ds)) := by rfl) (hjl : Nat.ble (j + 1) S.length = true := by rfl) (hi : X.N[i]? = some x := by rfl) (hv : Vis X.env.scope x := by first | exact Or.inl rfl | exact Or.inr (Or.inl rfl) | exact Or.inr (Or.inr rfl)) (hj : X.N[j]? = some y := by rfl) (hy : Loc X.env.scope y := by first | exact .inl rfl | exact .inr rfl)
    (hf : X.fn y = true ∨ X.env.scope.names.lookup y = some .local := by first | exact .inl rfl | exact .inr rfl) (hd1 : (x == ("__debug__" : Str)) = false := by decide) (hcd : (x == ("__classdict__" : Str)) = false := by decide) (hs : ∀ v, foldedSetIterable (.Name x px) X.env v = pure v := by intro _; rfl) :
    DS0 X F S (.For (.Name y py) (.Name x px) body [] pos) P :=
  ds0_mk (ps_for hp hc (pi_list (pe_var hi hv hd1 hcd)) (pg_name hN hj hy hf) hb hs) fun D σ H ⟨G, sv, kk⟩ => by
    obtain ⟨v, ev, rv⟩ := sv.slot i _ hS
    cases rv with
    | lst hn hp0 rs =>
    rename_i p us
    have hpH := sv.gh _ _ hp0
    have lus : us.length = ds.length := rs.rps.length
    refine ⟨.ref p, ev, p, rfl, ⟨us, SqL.of hpH⟩, fun a m σ' H' => a + m = us.length ∧ H' p = some (.lst us) ∧ Lo F H H' ∧ (∀ l, l ≠ j → σ'[l]? = σ[l]?) ∧ σ'.length = σ.length ∧ ∀ u ∈ us, ItW B F H' p (1000000 + 10 * a) u, ⟨us.length, by omega, hpH, Lo.refl F H, fun l _ => rfl, rfl, itW_start sv.gh hp0 rs hd⟩, ?_⟩
    rintro a m σ' H' ⟨em, hp1, kp, f1, l1, iw⟩
    by_cases ha : a < us.length
    · refine .inr ⟨⟨us, us[a], SqL.of hp1, List.getElem?_eq_getElem ha⟩, fun σ2 H2 => ∃ m', m' < m ∧ (a + 1 + m' = us.length ∧ H2 p = some (.lst us) ∧ Lo F H H2 ∧ (∀ l, l ≠ j → σ2[l]? = σ[l]?) ∧ σ2.length = σ.length ∧ ∀ u ∈ us, ItW B F H2 p (1000000 + 10 * (a + 1)) u), fun σ2 H2 q => q, fun x1 H2 ⟨e2, hx⟩ => ?_⟩
      subst e2
      have hx1 : x1 = us[a] := by
        have := hx us (SqL.of hp1)
        rw [List.getElem?_eq_getElem ha] at this
        exact (Option.some.inj this).symm
      have hm : x1 ∈ us := by rw [hx1]; exact List.getElem_mem ha
      show tb _ (σ'.set j (some x1)) H2
      have hlj : j < σ'.length := by
        rw [l1, ← sv.len]
        exact Nat.le_of_ble_eq_true hjl
      have hsj : (σ'.set j (some x1))[j]? = some (some x1) := List.getElem?_set_self hlj
      have fr : ∀ l, l ≠ j → (σ'.set j (some x1))[l]? = σ[l]? := fun l hl => by rw [List.getElem?_set_ne (fun z => hl z.symm)]; exact f1 l hl
      have grow : ∀ {u : V} {H3 : Hp}, ItW B F H3 p (1000000 + 10 * a) u → ItW B F H3 p (1000000 + 10 * (a + 1)) u := fun {u H3} h => by
        rcases h with ⟨q, ws, h1, h2, h3, h4, h5⟩ | h
        · exact .inl ⟨q, ws, h1, h2, h3, h4, by omega⟩
        · exact .inr h
      rcases iw x1 hm with ⟨q, ws, e1, ne, h0, hq, hw⟩ | ⟨hB, hnl⟩
      · subst e1
        refine wb.l q ws _ _ _ hsj hq (by have := sizeLine_eq; omega) fun ws' hw' => ⟨m - 1, by omega, by omega, by rw [upd_ne (fun z => ne z.symm)]; exact hp1, kp.upd h0 ?_, fr, by rw [List.length_set]; exact l1, fun u hu => ?_⟩
        · rcases itW_start (B := B) sv.gh hp0 rs hd _ hm with ⟨q3, ws3, e3, _, _, h3, _⟩ | ⟨_, h3⟩
          · cases e3; exact .inr ⟨_, h3⟩
          · rcases h3 with h3 | ⟨_, h3⟩ | ⟨_, h3⟩ | ⟨_, h3⟩ | ⟨a3, xs3, e3, h3⟩
            · cases h3
            · cases h3
            · cases h3
            · cases h3
            · cases e3
              have := kp.a q _ h3 (fun xs z => by cases z)
              rw [hq] at this; cases this
        · rcases iw u hu with ⟨q2, ws2, e3, ne2, h02, hq2, hw2⟩ | h
          · by_cases z : q2 = q
            · subst z
              exact .inl ⟨q2, ws', e3, ne, h0, upd_same, by omega⟩
            · exact .inl ⟨q2, ws2, e3, ne2, h02, by rw [upd_ne z]; exact hq2, by omega⟩
          · exact .inr ⟨h.1, h.2.upd hq⟩
      · exact wb.n hB x1 _ _ _ hsj hnl ⟨m - 1, by omega, by omega, hp1, kp, fr, by rw [List.length_set]; exact l1, fun u hu => grow (iw u hu)⟩
    · have ea : a = us.length := by omega
      subst ea
      refine .inl ⟨⟨us, SqL.of hp1, Nat.le_refl _⟩, kk.nx _ F.B σ' H' k ?_⟩
      have e1 : σ'[i]? = some (some (.ref p)) := (f1 i hij).trans ev
      have hR : ∀ (l : Nat) (sl : Sl), (((S.map keepF).set i .unk).set j .unk)[l]? = some sl → sl = .unk ∨ ∃ v, sl = .fix v ∧ σ'[l]? = some (some v) := fun l sl h => by
        by_cases z : j = l
        · subst z; exact .inl (getElem_self_set h)
        · rw [List.getElem?_set_ne z] at h
          by_cases z2 : i = l
          · subst z2; exact .inl (getElem_self_set h)
          · rw [List.getElem?_set_ne z2] at h
            rcases keepF_get h with e | ⟨v, e, hv⟩
            · exact .inl e
            · exact .inr ⟨v, e, (f1 l (fun w => z w.symm)).trans (sv.slot l _ hv)⟩
      have b0 : SV X.K F (((S.map keepF).set i .unk).set j .unk) F.B σ' H' := sv.bare hF kp (by rw [List.length_set, List.length_set, List.length_map, l1]; exact sv.len) hR
      have b1 := b0.setS (i := i) (v := .ref p) (sl := .wild 1000) ⟨p, us, rfl, sv.bh.none hn, hp1, hn, by omega⟩ (fun _ => ⟨p, rfl, fun l m => by
        obtain ⟨⟨t, h1, h2⟩, _⟩ := m
        rcases hR l t h1 with rfl | ⟨v, rfl, _⟩ <;> cases h2⟩) (fun _ z => nomatch z)
      rw [set_self e1] at b1
      exact b1
/-- for x in xs: x.append(c) -/
theorem wbody_append (j : Nat) {y : Str} {p1 p2 p3 pe pos2 : Pos} {c : Int} {jj} (hj : X.N[j]? = some y := by rfl) (hv : Vis X.env.scope y := by first | exact Or.inl rfl | exact Or.inr (Or.inl rfl) | exact Or.inr (Or.inr rfl)) (hd1 : (y == ("__debug__" : Str)) = false := by decide) (hcd : (y == ("__classdict__" : Str)) = false := by decide)
    (hs1 : starEach (.Constant (.int c) jj pe :: []) X.env = (false, eval (.Constant (.int c) jj pe) X.env) :: starEach [] X.env := by rfl) (hs : swapsWith (.Call (.Attribute (.Name y p1) "append" p2) [.Constant (.int c) jj pe] [] p3) none pos2.line X.env = pure false := by rfl)
    (hbase : attributeBase (.Name y p1) "append" X.env (eval (.Name y p1) X.env) = eval (.Name y p1) X.env := by rfl)
    (hfew : ((backTo p3 (starEach (.Constant (.int c) jj pe :: []) X.env)).all (fun x => !x.1) && (backToKw p3 (keywordEach [] X.env)).all (fun x => x.1.isSome)
      && decide (((.Constant (.int c) jj pe) :: ([] : List Expr)).length + ([] : List Keyword).length + (if ([] : List Keyword).isEmpty then 0 else 1) < 30)) = true := by rfl)
    (hline : (p2.endLine == p3.line) = true := by rfl) : ∃ tb : TS, PS X (.Expr (.Call (.Attribute (.Name y p1) "append" p2) [.Constant (.int c) jj pe] [] p3) pos2) tb ∧
      ∀ (q : Addr) (ws : List V) (σ : L2.St) (H : Hp) (D : Ends), σ[j]? = some (some (.ref q)) → H q = some (.lst ws) → ws.length + 1 ≤ sizeLine → D.nx σ (upd H q (.lst (ws ++ [.int c]))) → tb D σ H :=
  ⟨_, ps_expr (pe_bm PySem.F.plainAttrs_list PySem.F.slot_list_append PySem.F.type_list_append mt_append (pe_var hj hv hd1 hcd) (pa_cons pe_int pa_nil hs1) hbase hfew hline hs1) hs, fun q ws σ H D e hq hl hk =>
    ⟨.ref q, e, .inl ⟨rfl, _, SqL.of hq⟩, q, ws, .int c, rfl, rfl, hq, hl, hk⟩⟩
/-- xs.reverse() -/
theorem ps_rev (j : Nat) {y : Str} {p1 p2 p3 pos2 : Pos} (hj : X.N[j]? = some y := by rfl) (hv : Vis X.env.scope y := by first | exact Or.inl rfl | exact Or.inr (Or.inl rfl) | exact Or.inr (Or.inr rfl)) (hd1 : (y == ("__debug__" : Str)) = false := by decide) (hcd : (y == ("__classdict__" : Str)) = false := by decide)
    (hs : swapsWith (.Call (.Attribute (.Name y p1) "reverse" p2) [] [] p3) none pos2.line X.env = pure false := by rfl)
    (hbase : attributeBase (.Name y p1) "reverse" X.env (eval (.Name y p1) X.env) = eval (.Name y p1) X.env := by rfl) (hline : (p2.endLine == p3.line) = true := by rfl) : ∃ tb : TS, PS X (.Expr (.Call (.Attribute (.Name y p1) "reverse" p2) [] [] p3) pos2) tb ∧
      ∀ (q : Addr) (ws : List V) (σ : L2.St) (H : Hp) (D : Ends), σ[j]? = some (some (.ref q)) → H q = some (.lst ws) → D.nx σ (upd H q (.lst ws.reverse)) → tb D σ H :=
  ⟨_, ps_expr (pe_bm0 PySem.F.plainAttrs_list PySem.F.slot_list_reverse PySem.F.type_list_reverse mt_reverse (pe_var hj hv hd1 hcd) hbase hline) hs, fun q ws σ H D e hq hk =>
    ⟨.ref q, e, .inl ⟨rfl, _, SqL.of hq⟩, q, ws, rfl, rfl, hq, hk⟩⟩
/-- for x in xs: x.append(c), all items lists -/
theorem ds0_wild8 (i j : Nat) {x y : Str} {px py p1 p2 p3 pe pos2 : Pos} {c : Int} {jj} (hp : PassesOwn (model X.prog X.w) X.A X.env X.xe) (hc : X.calm = true) (hN : X.N.Nodup) (hF : F.r = none) (hij : i ≠ j)
    (hd : ∀ d ∈ ds, ∃ es, d = .list es ∧ noLs es = true ∧ es.length ≤ 1000) (hl : ds.length ≤ 1000) (k : P.nx ((((S.map keepF).set i .unk).set j .unk).set i (.wild 1000))) (hS : S[i]? = some (.new (.list ds)) := by rfl) (hjl : Nat.ble (j + 1) S.length = true := by rfl) (hi : X.N[i]? = some x := by rfl) (hv : Vis X.env.scope x := by first | exact Or.inl rfl | exact Or.inr (Or.inl rfl) | exact Or.inr (Or.inr rfl)) (hj : X.N[j]? = some y := by rfl) (hy : Loc X.env.scope y := by first | exact .inl rfl | exact .inr rfl)
    (hvy : Vis X.env.scope y := by first | exact Or.inl rfl | exact Or.inr (Or.inl rfl) | exact Or.inr (Or.inr rfl)) (hf : X.fn y = true ∨ X.env.scope.names.lookup y = some .local := by first | exact .inl rfl | exact .inr rfl) (hd1 : (x == ("__debug__" : Str)) = false := by decide) (hcd : (x == ("__classdict__" : Str)) = false := by decide) (hs : ∀ v, foldedSetIterable (.Name x px) X.env v = pure v := by intro _; rfl)
    (hdy : (y == ("__debug__" : Str)) = false := by decide) (hcy : (y == ("__classdict__" : Str)) = false := by decide)
    (hs1 : starEach (.Constant (.int c) jj pe :: []) X.env = (false, eval (.Constant (.int c) jj pe) X.env) :: starEach [] X.env := by rfl) (hs2 : swapsWith (.Call (.Attribute (.Name y p1) "append" p2) [.Constant (.int c) jj pe] [] p3) none pos2.line X.env = pure false := by rfl)
    (hbase : attributeBase (.Name y p1) "append" X.env (eval (.Name y p1) X.env) = eval (.Name y p1) X.env := by rfl)
    (hfew : ((backTo p3 (starEach (.Constant (.int c) jj pe :: []) X.env)).all (fun x => !x.1) && (backToKw p3 (keywordEach [] X.env)).all (fun x => x.1.isSome)
      && decide (((.Constant (.int c) jj pe) :: ([] : List Expr)).length + ([] : List Keyword).length + (if ([] : List Keyword).isEmpty then 0 else 1) < 30)) = true := by rfl)
    (hline : (p2.endLine == p3.line) = true := by rfl) : DS0 X F S (.For (.Name y py) (.Name x px) [.Expr (.Call (.Attribute (.Name y p1) "append" p2) [.Constant (.int c) jj pe] [] p3) pos2] [] pos) P := by
  obtain ⟨tb, h1, h2⟩ := wbody_append (X := X) j (y := y) (p1 := p1) (p2 := p2) (p3 := p3) (pe := pe) (pos2 := pos2) (c := c) (jj := jj) hj hvy hdy hcy hs1 hs2 hbase hfew hline
  exact ds0_wildFor (B := False) i j hp hc hN hF (pss_one h1) ⟨fun q ws σ H D e hq hl hk => h2 q ws σ H D e hq (by omega) (hk _ (by rw [List.length_append]; show ws.length + 1 ≤ _; omega)), fun z => z.elim⟩ hij (fun d h => by
    obtain ⟨es, e, h3, h4⟩ := hd d h
    exact .inr ⟨es, e, h3, by omega⟩) hl k hS hjl hi hv hj hy hf hd1 hcd hs
/-- .. on one's own list of any kind -/
theorem ds0_revWild (i : Nat) {n : Nat} {x : Str} {p1 p2 p3 : Pos} (k : P.nx (S.set i (.wild n))) (hS : S[i]? = some (.wild n) := by rfl) (hN : X.N[i]? = some x := by rfl) (hv : Vis X.env.scope x := by first | exact Or.inl rfl | exact Or.inr (Or.inl rfl) | exact Or.inr (Or.inr rfl))
    (hs : swapsWith (.Call (.Attribute (.Name x p1) "reverse" p2) [] [] p3) none pos.line X.env = pure false := by rfl) (hd : (x == ("__debug__" : Str)) = false := by decide) (hcd : (x == ("__classdict__" : Str)) = false := by decide)
    (hbase : attributeBase (.Name x p1) "reverse" X.env (eval (.Name x p1) X.env) = eval (.Name x p1) X.env := by rfl) (hline : (p2.endLine == p3.line) = true := by rfl) : DS0 X F S (.Expr (.Call (.Attribute (.Name x p1) "reverse" p2) [] [] p3) pos) P :=
  ds0_mk (ps_expr (pe_bm0 PySem.F.plainAttrs_list PySem.F.slot_list_reverse PySem.F.type_list_reverse mt_reverse (pe_var hN hv hd hcd) hbase hline) hs) fun D σ H ⟨G, sv, kk⟩ => by
    obtain ⟨p, us, ep, gp, hp, h0, hl⟩ := sv.slot i _ hS
    exact ⟨.ref p, ep, .inl ⟨rfl, _, SqL.of hp⟩, p, us, rfl, rfl, hp, kk.nx _ G σ _ k (sv.wS hS rfl ep h0 gp ⟨p, _, rfl, gp, upd_same, h0, by rw [List.length_reverse]; exact hl⟩)⟩
theorem ds0_apWild (i : Nat) {n : Nat} {x : Str} {c : Int} {jj} {p1 p2 p3 pe : Pos} (hn : n < sizeLine) (k : P.nx (S.set i (.wild (n + 1)))) (hS : S[i]? = some (.wild n) := by rfl) (hN : X.N[i]? = some x := by rfl) (hv : Vis X.env.scope x := by first | exact Or.inl rfl | exact Or.inr (Or.inl rfl) | exact Or.inr (Or.inr rfl))
    (hs1 : starEach (.Constant (.int c) jj pe :: []) X.env = (false, eval (.Constant (.int c) jj pe) X.env) :: starEach [] X.env := by rfl) (hs : swapsWith (.Call (.Attribute (.Name x p1) "append" p2) [.Constant (.int c) jj pe] [] p3) none pos.line X.env = pure false := by rfl)
    (hd : (x == ("__debug__" : Str)) = false := by decide) (hcd : (x == ("__classdict__" : Str)) = false := by decide)
    (hbase : attributeBase (.Name x p1) "append" X.env (eval (.Name x p1) X.env) = eval (.Name x p1) X.env := by rfl)
    (hfew : ((backTo p3 (starEach (.Constant (.int c) jj pe :: []) X.env)).all (fun x => !x.1) && (backToKw p3 (keywordEach [] X.env)).all (fun x => x.1.isSome)
      && decide (((.Constant (.int c) jj pe) :: ([] : List Expr)).length + ([] : List Keyword).length + (if ([] : List Keyword).isEmpty then 0 else 1) < 30)) = true := by rfl)
    (hline : (p2.endLine == p3.line) = true := by rfl) : DS0 X F S (.Expr (.Call (.Attribute (.Name x p1) "append" p2) [.Constant (.int c) jj pe] [] p3) pos) P :=
  ds0_mk (ps_expr (pe_bm PySem.F.plainAttrs_list PySem.F.slot_list_append PySem.F.type_list_append mt_append (pe_var hN hv hd hcd) (pa_cons pe_int pa_nil hs1) hbase hfew hline hs1) hs) fun D σ H ⟨G, sv, kk⟩ => by
    obtain ⟨p, us, ep, gp, hp, h0, hl⟩ := sv.slot i _ hS
    exact ⟨.ref p, ep, .inl ⟨rfl, _, SqL.of hp⟩, p, us, .int c, rfl, rfl, hp, by omega, kk.nx _ G σ _ k (sv.wS hS rfl ep h0 gp ⟨p, _, rfl, gp, upd_same, h0, by rw [List.length_append]; show us.length + 1 ≤ _; omega⟩)⟩
end
end FW

namespace FW
open PySem PySem.Spec PyProof.Rows L2
variable [Tb]
/-! ### the program's own errors -/
inductive Ec where
  | neck
  | shape
  | hand
  | chord
  | tune
  | text
def Ec.nm : Ec → Str
  | .neck => "BadNeck"
  | .shape => "BadShape"
  | .hand => "BadHand"
  | .chord => "BadChord"
  | .tune => "BadTune"
  | .text => "BadText"
def Ec.eq : Ec → Ec → Bool
  | .neck, .neck => true
  | .shape, .shape => true
  | .hand, .hand => true
  | .chord, .chord => true
  | .tune, .tune => true
  | .text, .text => true
  | _, _ => false
/-- what the top says of a class of errors -/
structure ExK (K : PySem.W.Frag) (mg : Str → Option Value) (NE : Addr) (x : Str) (C : Addr) : Prop where
  g : mg x = some (.ref C)
  k : PySem.W.keepIn K (.ref C) = true
  b : PySem.W.subIn K (.ref C) (.type "BaseException") = some true
  t : PySem.W.typeIn K (.ref C) = some (.type "type")
  i : PySem.W.isClsIn K C = true
  c : ExcC K C
  n : PySem.W.subIn K (.ref C) (.ref NE) = some true
  v : PySem.W.subIn K (.ref C) (.type "ValueError") = some true
structure XcOk (K : PySem.W.Frag) (mg : Str → Option Value) (NE : Addr) (EA : Ec → Addr) : Prop where
  ne : mg "NeckError" = some (.ref NE)
  nb : PySem.W.subIn K (.ref NE) (.type "BaseException") = some true
  nt : PySem.W.typeIn K (.ref NE) = some (.type "type")
  ni : PySem.W.isClsIn K NE = true
  vn : mg "ValueError" = none
  x : ∀ e : Ec, ExK K mg NE e.nm (EA e)
  o : ∀ e : Ec, e ≠ .chord → PySem.W.excIn K (EA e) [.type "ValueError", .type "Exception", .type "BaseException", .type "object"] "ValueError.__new__" = true
  s : ∀ e e' : Ec, PySem.W.subIn K (.ref (EA e)) (.ref (EA e')) = some (e.eq e')
def eaOf (a b c d e f : Addr) : Ec → Addr
  | .neck => a
  | .shape => b
  | .hand => c
  | .chord => d
  | .tune => e
  | .text => f
theorem kit_VE {K : PySem.W.Frag} {C : Addr} {b : Bool} (h : PySem.W.subIn K (.ref C) (.type "ValueError") = some b) : PySem.W.kitOne K (.ref C) (.type "ValueError") = some b := by
  unfold PySem.W.kitOne
  rw [if_neg (by simp)]
  show (if PySem.W.kitMeta "ValueError" = true then PySem.W.subIn K (.ref C) (.type "ValueError") else none) = some b
  rw [if_pos (by decide +kernel)]
  exact h
theorem kit_own {K : PySem.W.Frag} {D C : Addr} {b : Bool} (h1 : PySem.W.isClsIn K C = true) (h2 : PySem.W.typeIn K (.ref C) = some (.type "type")) (h3 : PySem.W.subIn K (.ref D) (.ref C) = some b) (h4 : D = C → b = true) : PySem.W.kitOne K (.ref D) (.ref C) = some b := by
  unfold PySem.W.kitOne
  by_cases e : D = C
  · subst e
    rw [if_pos (by simp), h4 rfl]
  · rw [if_neg (by simpa using e)]
    have e2 : ((PySem.W.clsIn K C).isSome && PySem.W.typeIn K (.ref C) == some (.type "type")) = true := by
      have h1' : (PySem.W.clsIn K C).isSome = true := h1
      rw [h1', h2] <;> rfl
    show (if ((PySem.W.clsIn K C).isSome && PySem.W.typeIn K (.ref C) == some (.type "type")) = true then PySem.W.subIn K (.ref D) (.ref C) else none) = some b
    rw [if_pos e2]
    exact h3
theorem exm_own {K : PySem.W.Frag} {D C : Addr} {b : Bool} (h0 : PySem.W.subIn K (.ref C) (.type "BaseException") = some true) (h1 : PySem.W.isClsIn K C = true) (h2 : PySem.W.typeIn K (.ref C) = some (.type "type")) (h3 : PySem.W.subIn K (.ref D) (.ref C) = some b) : PySem.W.exmOne K (.ref D) (.ref C) = some b := by
  have e1 : (PySem.W.subIn K (.ref C) (.type "BaseException") == some true) = true := by rw [h0] <;> rfl
  have e2 : ((PySem.W.clsIn K C).isSome && PySem.W.typeIn K (.ref C) == some (.type "type")) = true := by
    have h1' : (PySem.W.clsIn K C).isSome = true := h1
    rw [h1', h2] <;> rfl
  show (if (PySem.W.subIn K (.ref C) (.type "BaseException") == some true) = true then (if ((PySem.W.clsIn K C).isSome && PySem.W.typeIn K (.ref C) == some (.type "type")) = true then PySem.W.subIn K (.ref D) (.ref C) else none) else none) = some b
  rw [if_pos e1, if_pos e2]
  exact h3
theorem XcOk.kit {K : PySem.W.Frag} {mg : Str → Option Value} {NE : Addr} {EA : Ec → Addr} (E : XcOk K mg NE EA) (e e' : Ec) : PySem.W.kitOne K (.ref (EA e)) (.ref (EA e')) = some (e.eq e') := kit_own (E.x e').i (E.x e').t (E.s e e') fun h => by
  have h1 := E.s e e'
  rw [← h] at h1
  have h2 := E.s e e
  rw [h2] at h1
  have h3 : e.eq e = true := by cases e <;> rfl
  rw [h3] at h1
  exact (Option.some.inj h1).symm
theorem XcOk.kitV {K : PySem.W.Frag} {mg : Str → Option Value} {NE : Addr} {EA : Ec → Addr} (E : XcOk K mg NE EA) (e : Ec) : PySem.W.kitOne K (.ref (EA e)) (.type "ValueError") = some true := kit_VE (E.x e).v
theorem XcOk.exm {K : PySem.W.Frag} {mg : Str → Option Value} {NE : Addr} {EA : Ec → Addr} (E : XcOk K mg NE EA) (e : Ec) : PySem.W.exmOne K (.ref (EA e)) (.ref NE) = some true := exm_own E.nb E.ni E.nt (E.x e).n
section
variable {X : Cx} {F : Fr} {S : List Sl} {P : Post} {pos p p2 pos2 : Pos} {NE : Addr} {EA : Ec → Addr}
/-- raise X('m') -/
theorem ds_raise {W : WX} {m : Str} {j} (e : Ec) {x : Str} (E : XcOk X.K X.mg NE EA) (hc : X.calm = true) (tk : Takes X W) (hw : ∀ (dd : Option Addr) (σ : L2.St) (H' : Hp), Keep F H' → dd = none → W (.ref (EA e)) dd σ H') (hx : x = e.nm := by rfl) (hne : e ≠ .chord := by intro z; cases z) (hg : Gl X x := by rfl) (hdb : (x == ("__debug__" : Str)) = false := by decide) :
    DS X F S (.Raise (some (.Call (.Name x p) [.Constant (.str m) j p2] [] pos)) none pos2) P :=
  ds_mk (ps_raise hc tk (pmk_own PySem.F.excBase_ValueError (E.o e hne) (by rw [hx]; exact (E.x e).g) (E.x e).k (raises_own (E.x e).b (E.x e).t) hg hdb)) fun D σ H ⟨G, sv, k⟩ => hw none σ H sv.kept rfl
/-- what a def lets out, its callee let out -/
theorem wishX {ex : Xk → Prop} {E : XK} (tk : Takes X (fun cls d _ H => E cls d H)) (hE : ∀ x dd H', ex x → Keep F H' → XSh x dd F.H0 H' → E (.ref x.1) dd H') : Wish (L2.CX X.prog X.w) X F ex := ⟨E, passes_call tk (fun _ _ _ _ h => h), hE⟩
/-- .. by the caller's slots -/
theorem de_callS {x : Str} {k : Nat} {e : Expr} {es : List Expr} {Pd : PD} {Z : Zp} {W : WX} {RX : Xk → List Sl → Prop} (c : Kn X.prog X.w X.K X.mg X.base (L2.CX X.prog X.w) x k (spP Z)) (hr : Room k X.A) (tk : Takes X W) (hw : ∀ xk dd S1 G1 σ1 H1, RX xk S1 → SV X.K F S1 G1 σ1 H1 → XSh xk dd F.H0 H1 → W (.ref xk.1) dd σ1 H1)
    (h : DA X F S (e :: es) (fun ds S' => Z ds (fun d => Pd d S') (fun l => Pd (.list l) S') (fun xk => RX xk S'))) (hg : Gl X x := by rfl)
    (hdb : (x == ("__debug__" : Str)) = false := by decide) (he : starEach (e :: es) X.env = (false, eval e X.env) :: starEach es X.env := by rfl) (hpl : (backTo pos (starEach es X.env)).any (·.1) = false := by rfl) : DE X F S (.Call (.Name x p) (e :: es) [] pos) Pd := by
  obtain ⟨f, fd, ps, F1, hm, hk, hb⟩ := c.ex
  exact de_mk (pe_callS F1 hr hg hm hk hb (fun σ => passAt tk σ) h hdb he hpl) fun σ H Q ⟨G, sv, k⟩ => ⟨G, sv, fun ds S' G' vs H' hp st rs => by
    refine ⟨G', ds, _, _, _, st.sv.gh, rs, hp, fun d G2 v H2 hk2 ps2 r2 => k d S' G2 v H2 hk2 (st.trans (stp_of st.sv ps2)) r2, fun l G2 q ws H2 hk2 ps2 gq hq hl r2 => ?_, fun xk dd H2 hx2 eg eh sh => ?_⟩
    · have st2 := st.trans (stp_of st.sv ps2)
      have nm : NotMut S' σ q := st.sv.fresh hq
      refine k _ S' (upd G2 q (.lst ws)) _ H2 hk2 ⟨st2.g.trans (Ex.upd gq), st2.kp, st2.less, st2.sv.ground gq nm (st.sv.h0 hq) hl, st2.lv, fun a o nc z => ?_⟩ (.lst upd_same (r2.mono (Ex.upd gq)))
      by_cases za : a = q
      · subst za; exact .inr (st.fresh hq)
      · rw [upd_ne za] at z; exact st2.nw a o nc z
    · have st2 := stp_of st.sv (G' := G') (H' := H2) ⟨Ex.refl G', eg, eh, fun a o _ h => .inl h⟩
      exact hw xk dd S' G' σ H2 hx2 st2.sv (sh.back fun d => st.sv.h0)⟩
/-! ### isinstance of the error that a suite holds -/
/-- the slot of the error's name within its suite -/
def sufSl (xk : Xk) (a : Addr) (dd : Option Addr) : Sl := match xk.2, dd with
  | some n, some d => .hld (.ref a) d (.xd [(("number" : Str), .int n)])
  | _, _ => .fix (.ref a)
theorem slok_suf {K : PySem.W.Frag} {G H : Hp} {o : Option (Option V)} {xk : Xk} {a : Addr} {dd : Option Addr} (h : SlOk K F G H o (sufSl xk a dd)) : o = some (some (.ref a)) := by
  unfold sufSl at h
  split at h
  · exact h.1
  · exact h
theorem call_isEd {X : Cx} {a D : Addr} {d : Option Addr} {oe : Obj} {pn : List (Addr × Obj)} (C : ExcC X.K D) (hz : Zc (.ref D) d oe) (hd : d = none) (hf : ∃ vs, oe.data = .fields vs) : CallR (X.suite a ((a, oe) :: pn)) (.builtin "isinstance") (rIsE X.K D a) := by
  subst hd
  exact call_isE C hz hf
/-- isinstance(e, T) in a suite -/
theorem ep_isE (i : Nat) {a D C : Addr} {oe : Obj} {pn : List (Addr × Obj)} {xk : Xk} {dd : Option Addr} {x y : Str} {b : Bool} {p1 p3 : Pos} (B : BT X.mg) (hC : ExcC X.K D) (hz : Zc (.ref D) none oe) (hf : ∃ vs, oe.data = .fields vs) (hm : X.mg y = some (.ref C)) (hk : PySem.W.kitOne X.K (.ref D) (.ref C) = some b) (hS : S[i]? = some (sufSl xk a dd) := by rfl) (hN : X.N[i]? = some x := by rfl)
    (hv : Vis X.env.scope x := by first | exact Or.inl rfl | exact Or.inr (Or.inl rfl) | exact Or.inr (Or.inr rfl)) (hg : Gl X "isinstance" := by rfl) (hgT : Gl X y := by rfl) (hd : (x == ("__debug__" : Str)) = false := by decide) (hcd : (x == ("__classdict__" : Str)) = false := by decide) (hdy : (y == ("__debug__" : Str)) = false := by decide)
    (hs : starEach [.Name x p1, .Name y p3] X.env = (false, eval (.Name x p1) X.env) :: starEach [.Name y p3] X.env := by rfl) (hs2 : starEach [.Name y p3] X.env = (false, eval (.Name y p3) X.env) :: starEach [] X.env := by rfl) (hpl : (backTo pos (starEach [.Name y p3] X.env)).any (·.1) = false := by rfl) :
    Ep (X.suite a ((a, oe) :: pn)) F S (.Call (.Name "isinstance" p) [.Name x p1, .Name y p3] [] pos) (.bool b) :=
  de_mk (pe_callB (X := X.suite a ((a, oe) :: pn)) (call_isE hC hz hf) hg B.isinstance (by decide +kernel) (pa_cons (pe_var (X := X.suite a ((a, oe) :: pn)) hN hv hd hcd) (pa_cons (pe_glob (X := X.suite a ((a, oe) :: pn)) (v := .ref C) hgT hm rfl hdy) pa_nil hs2) hs) (by decide) (by decide) hs hpl) fun σ H Q ⟨G, sv, k⟩ =>
    ⟨.ref a, slok_suf (sv.slot i _ hS), .ref C, .ref C, b, rfl, fun u ru => ru, hk, k _ S G _ H ⟨rfl, rfl⟩ (.refl sv) (.bl b)⟩
theorem ep_isV (i : Nat) {a D : Addr} {oe : Obj} {pn : List (Addr × Obj)} {xk : Xk} {dd : Option Addr} {x : Str} {b : Bool} {p1 p3 : Pos} (B : BT X.mg) (hC : ExcC X.K D) (hz : Zc (.ref D) none oe) (hf : ∃ vs, oe.data = .fields vs) (hm : X.mg "ValueError" = none) (hk : PySem.W.kitOne X.K (.ref D) (.type "ValueError") = some b) (hS : S[i]? = some (sufSl xk a dd) := by rfl) (hN : X.N[i]? = some x := by rfl)
    (hv : Vis X.env.scope x := by first | exact Or.inl rfl | exact Or.inr (Or.inl rfl) | exact Or.inr (Or.inr rfl)) (hg : Gl X "isinstance" := by rfl) (hgT : Gl X "ValueError" := by rfl) (hd : (x == ("__debug__" : Str)) = false := by decide) (hcd : (x == ("__classdict__" : Str)) = false := by decide)
    (hs : starEach [.Name x p1, .Name "ValueError" p3] X.env = (false, eval (.Name x p1) X.env) :: starEach [.Name "ValueError" p3] X.env := by rfl) (hs2 : starEach [.Name "ValueError" p3] X.env = (false, eval (.Name "ValueError" p3) X.env) :: starEach [] X.env := by rfl) (hpl : (backTo pos (starEach [.Name "ValueError" p3] X.env)).any (·.1) = false := by rfl) :
    Ep (X.suite a ((a, oe) :: pn)) F S (.Call (.Name "isinstance" p) [.Name x p1, .Name "ValueError" p3] [] pos) (.bool b) :=
  de_mk (pe_callB (X := X.suite a ((a, oe) :: pn)) (call_isE hC hz hf) hg B.isinstance (by decide +kernel) (pa_cons (pe_var (X := X.suite a ((a, oe) :: pn)) hN hv hd hcd) (pa_cons (pe_bltn (X := X.suite a ((a, oe) :: pn)) (v := .ty "ValueError") hgT hm (by decide +kernel) rfl (by decide) (by decide)) pa_nil hs2) hs) (by decide) (by decide) hs hpl) fun σ H Q ⟨G, sv, k⟩ =>
    ⟨.ref a, slok_suf (sv.slot i _ hS), .ty "ValueError", .type "ValueError", b, rfl, fun u ru => ru, hk, k _ S G _ H ⟨rfl, rfl⟩ (.refl sv) (.bl b)⟩
end
/-! ### try: .. except X as n: .. -/
def Post.suite (P : Post) (i : Nat) : Post := ⟨fun S => P.nx (S.set i .unk), P.rt, P.ro, fun S => P.bk (S.set i .unk), fun S => P.ct (S.set i .unk), P.rn⟩
theorem SV.setU {K : PySem.W.Frag} {F : Fr} {S : List Sl} {G H : Hp} {σ : L2.St} {i : Nat} {v : Option V} (sv : SV K F S G σ H) : SV K F (S.set i .unk) G (σ.set i v) H := by
  have back : ∀ {p j}, MutAt (S.set i .unk) (σ.set i v) p j → MutAt S σ p j := fun {p j} m => mutAt_set m fun e => by
    subst e
    obtain ⟨⟨t, h1, h2⟩, _⟩ := m
    rw [getElem_self_set h1] at h2; cases h2
  refine ⟨sv.base, sv.gh, sv.keep, sv.live, sv.new, fun j t h => ?_, fun a b p ne ma mb => sv.sep a b p ne (back ma) (back mb), fun a es p h e => ?_, by rw [List.length_set, List.length_set]; exact sv.len, sv.bh⟩
  · by_cases z : i = j
    · subst z; rw [getElem_self_set h]; trivial
    · rw [List.getElem?_set_ne z] at h ⊢; exact sv.slot j t h
  · by_cases z : i = a
    · subst z; have := getElem_self_set h; cases this
    · rw [List.getElem?_set_ne z] at h e; exact sv.own0 a es p h e
section
variable {X : Cx} {F : Fr} {S : List Sl} {P : Post} {pos np pos' : Pos} {body suite : List Stmt} {b₀ : Stmt}
theorem Ends0.su {K : PySem.W.Frag} {F : Fr} {P : Post} {D : Ends} {i : Nat} (k : Ends0 K F P D) : Ends0 K F (P.suite i) { nx := fun σ' H' => D.nx (σ'.set i none) H', rt := D.rt, bk := fun σ' H' => D.bk (σ'.set i none) H', ct := fun σ' H' => D.ct (σ'.set i none) H' } :=
  ⟨fun S' G' σ' H' hp sv => k.nx _ G' _ H' hp sv.setU, k.rt, k.ro, fun S' G' σ' H' hp sv => k.bk _ G' _ H' hp sv.setU, fun S' G' σ' H' hp sv => k.ct _ G' _ H' hp sv.setU, k.rn⟩
theorem ds0_tryAs (i : Nat) {x n : Str} {c : Value} (RX : Xk → List Sl → Prop) (hs : X.stack = X.env :: X.outer) (hf : X.env.frame = some X.env.locals) (hN : X.N.Nodup) (hc : Names X x c)
    (hb : ∀ (W : WX) (pn : List (Addr × Obj)) (xe : Value → Shared → Prop), Takes (X.tr pn xe) W → (∀ xk dd S1 G1 σ1 H1, RX xk S1 → SV X.K F S1 G1 σ1 H1 → XSh xk dd F.H0 H1 → W (.ref xk.1) dd σ1 H1) → DB0 (X.tr pn xe) F S body P)
    (hx : ∀ xk S1, RX xk S1 → PySem.W.exmOne X.K (.ref xk.1) c = some true ∧ ∀ (a : Addr) (oe : Obj) (dd : Option Addr) (pn : List (Addr × Obj)), xk.2.isSome = dd.isSome → Zc (.ref xk.1) dd oe → (∃ vs, oe.data = .fields vs) → DB0 (X.suite a ((a, oe) :: pn)) F (S1.set i (sufSl xk a dd)) (b₀ :: suite) (P.suite i))
    (hi : X.N[i]? = some n := by rfl) (hln : X.env.kindOf n = some .local := by rfl) : DS0 X F S (.Try body [.ExceptHandler (some (.Name x np)) (some n) (b₀ :: suite) pos'] [] [] pos) P :=
  ds0_mk (ps_try_as (i := i) (tb := fun W D σ H => ∃ S P, (∀ pn xe, Takes (X.tr pn xe) W → DB0 (X.tr pn xe) F S body P) ∧ rdS0 X.K F S P D σ H)
    (ts := fun a cls d D σ H => ∃ S P, (∀ oe pn, Zc cls d oe → (∃ vs, oe.data = .fields vs) → DB0 (X.suite a ((a, oe) :: pn)) F S (b₀ :: suite) P) ∧ rdS0 X.K F S P D σ H) (Wout := fun _ _ _ _ => False) hs hf hN hi hln hc takes0
    (fun W pn xe tk _ => ⟨fun pins s σ H D I ⟨_, _, h, r⟩ => PSs.run (h pn xe tk) pins s σ H D I r⟩) (fun a oe cls d pn hz hff => ⟨fun pins s σ H D I ⟨_, _, h, r⟩ => PSs.run (h oe pn hz hff) pins s σ H D I r⟩)) fun D σ H ⟨G, sv, k⟩ =>
      ⟨S, P, fun pn xe tk => hb _ pn xe tk fun xk dd S1 G1 σ1 H1 hR sv1 sh => by
        obtain ⟨h1, h2⟩ := hx xk S1 hR
        refine ⟨true, h1, fun _ a ha => ?_, fun z => nomatch z⟩
        obtain ⟨cl, num⟩ := xk
        cases num with
        | none =>
          have sh : dd = none := sh
          exact ⟨_, _, fun oe pn hz hff => h2 a oe dd pn (by rw [sh]; rfl) hz hff, G1, sv1.setS (sl := .fix (.ref a)) rfl (fun z => nomatch z) (fun _ z => nomatch z), k.su⟩
        | some m =>
          obtain ⟨d, ed, hd0, hd1⟩ := sh
          subst ed
          have grow : ∃ G2, SV X.K F S1 G2 σ1 H1 ∧ G2 d = some (.xd [(("number" : Str), .int m)]) := by
            cases hg : G1 d with
            | some o =>
              have := sv1.gh _ _ hg
              rw [hd1] at this; cases this
              exact ⟨G1, sv1, hg⟩
            | none =>
              refine ⟨upd G1 d (.xd [(("number" : Str), .int m)]), sv1.ground hg (fun j mm => ?_) hd0 hd1, upd_same⟩
              obtain ⟨vs, hv, _⟩ := sv1.mutH mm
              rw [hd1] at hv; cases hv
          obtain ⟨G2, sv2, hg2⟩ := grow
          exact ⟨_, _, fun oe pn hz hff => h2 a oe (some d) pn rfl hz hff, G2, sv2.setS (sl := .hld (.ref a) d (.xd [(("number" : Str), .int m)])) ⟨rfl, hg2⟩ (fun z => nomatch z) (fun _ z => nomatch z), k.su⟩, G, sv, k⟩
end
/-! ### defs by such bodies -/
section
variable {P : Program} {w : World} {K : PySem.W.Frag} {mg : Str → Option Value} {base : Heap}
theorem ends_P0 {G H : Hp} {Q : VK} {kt : FW.D → Prop} {ko : List FW.D → Prop} (h1 : ∀ d G' v H', kt d → PSt G H G' H' → Rp G' v d → Q v H')
    (h2 : ∀ es G' p ws H', ko es → PSt G H G' H' → G' p = none → H p = none → H' p = some (.lst ws) → Rps G' ws es → Q (.ref p) H') : Ends0 K ⟨G, H, none⟩ (postP kt ko) { nx := fun _ H' => Q .non H', rt := Q } := by
  have pst : ∀ {S' G' σ' H'}, SV K ⟨G, H, none⟩ S' G' σ' H' → PSt G H G' H' := fun {S' G' σ' H'} sv => ⟨sv.base, sv.gh, sv.kept.ext rfl, sv.new⟩
  exact ⟨fun S' G' σ' H' hp sv => h1 _ G' _ H' hp (pst sv) .non, fun d S' G' σ' v H' hp sv r => h1 d G' v H' hp (pst sv) r, fun es S' G' σ' p ws H' hp sv gp h0 hl r => h2 es G' p ws H' hp (pst sv) gp h0 hl r, fun _ _ _ _ h => h.elim, fun _ _ _ _ h => h.elim, fun _ _ _ _ _ _ h => h.elim⟩
theorem fn_ok0 {x qual : Str} {st : Stmt} {f : Addr} {fd : FuncData} {N ps : List Str} {k : Nat} {Z : Zp} (F : Fun K x qual st f fd) (S : FnScope N ps (defScope st)) (hlen : ∀ ds kt ko ke, Z ds kt ko ke → ds.length = ps.length) (hNl : ps.length ≤ N.length)
    (hb : ∀ (cdv : Value) (A : Around) (outer : List Env) (s : Shared) (H : Hp) (E : XK) (Fm : Fr) (ds : List FW.D) (kt : FW.D → Prop) (ko : List FW.D → Prop) (ke : Xk → Prop), Room k (A.deeper (envOfC qual (defScope st) s.heap.objs.size f cdv)) → Fm.r = none → Z ds kt ko ke →
      DB0 (cxOf CX0 P w K mg base N qual (defScope st) f cdv A outer s H E).nox Fm (sl0 N ds) (defBody st) (postP kt ko)) : FnOk P w K mg base CX0 (k + 1) f fd ps (spP Z) := by
  refine F.ok S (fun vs H Q E h => ?_) (fun cdv A outer s H vs Q E hr h => ?_)
  · obtain ⟨G, ds, kt, ko, ke, e, r, z, _⟩ := h
    rw [r.length]; exact hlen ds kt ko ke z
  · obtain ⟨G, ds, kt, ko, ke, e, r, z, h1, h2, h3⟩ := h
    have hl := hlen ds kt ko ke z
    exact ⟨_, hb cdv A outer s H E ⟨G, H, none⟩ ds kt ko ke hr rfl z, G, sv_start (by omega) e r, ends_P0 h1 h2⟩
end
end FW

namespace FW
open PySem PySem.Spec PyProof.Rows L2
variable [Tb]
/-! ### xs.count(b), xs.index(b) of truth values; != where no room is known -/
theorem eqU_count {b : Bool} : ∀ {us : List Value} {bs : List Bool}, Vals (bs.map V.bl) us → us.countP (eqU (.bl b)) = bs.count b
  | [], [], .nil => rfl
  | u :: us, c :: bs, .cons r t => by
    have ih := eqU_count (b := b) t
    rw [List.countP_cons, List.count_cons, ih, eqU_of r rfl] <;> rfl
def rCntB (K : PySem.W.Frag) : V → List V → Hp → VK → Prop := fun x xs H Q => ∃ (p : Addr) (bs : List Bool) (b : Bool), x = .ref p ∧ xs = [.bl b] ∧ SqL K H p (bs.map V.bl) ∧ Q (.int (bs.count b : Nat)) H
theorem all_flat_bl (bs : List Bool) : (bs.map V.bl).all flatV = true := List.all_eq_true.mpr fun x hx => by
  obtain ⟨b, _, rfl⟩ := List.mem_map.mp hx
  rfl
theorem mt_countB {X : Cx} : MtR X "list.count" (rCntB X.K) := by
  intro pins s σ H x xs v us Q I rx rxs h
  obtain ⟨p, bs, b, rfl, rfl, hs, q⟩ := h
  cases rx
  cases rxs with
  | cons ry rt =>
    rename_i uy ut
    cases rt
    obtain ⟨its, rv, ⟨⟨cls, dd, data, sl⟩, n, ho, hc, hdn, hd⟩, hlen⟩ := I.list hs
    simp only at hc hd
    subst hc hd
    refine call_meets PySem.F.slot_list_count ⟨_, ho, rfl⟩ PySem.F.entry_list_count (PySem.F.args_list_count_2 _ _)
      (SeqAt.list_countAt p its.toArray n dd sl uy (eqU (.bl b))) ⟨ho, fun y hy => mem_eqAt ry rfl rv (all_flat_bl bs) y (by simpa using hy), ?_⟩
    have ec : its.toArray.toList.countP (eqU (.bl b)) = bs.count b := eqU_count rv
    refine ⟨.int (bs.count b : Nat), H, I.tok _, ⟨s.toks, ?_⟩, q⟩
    show Value.int ((its.toArray.toList.countP (eqU (.bl b)) : Nat) : Int) s.toks = Value.int ((bs.count b : Nat) : Int) s.toks
    rw [ec]
theorem rps_bools {G : Hp} : ∀ {vs : List V} {bs : List Bool}, Rps G vs (bs.map PyData.bool) → vs = bs.map V.bl
  | _, [], .nil => rfl
  | _, b :: bs, .cons r t => by
    cases r
    rw [rps_bools t]; rfl
section
variable {X : Cx} {F : Fr} {S : List Sl} {P : Post} {pos p1 p2 p3 : Pos} {a b : Expr} {bs : List Bool} {c : Bool}
theorem ep_countB (h : Ep X F S a (.list (bs.map .bool))) (hb : Ep X F S b (.bool c))
    (hs1 : starEach (b :: []) X.env = (false, eval b X.env) :: starEach [] X.env := by rfl)
    (hbase : attributeBase a "count" X.env (eval a X.env) = eval a X.env := by rfl)
    (hfew : ((backTo p3 (starEach (b :: []) X.env)).all (fun x => !x.1) && (backToKw p3 (keywordEach [] X.env)).all (fun x => x.1.isSome)
      && decide ((b :: ([] : List Expr)).length + ([] : List Keyword).length + (if ([] : List Keyword).isEmpty then 0 else 1) < 30)) = true := by rfl)
    (hline : (p2.endLine == p3.line) = true := by rfl) : Ep X F S (.Call (.Attribute a "count" p2) [b] [] p3) (.int (bs.count c : Nat)) :=
  de_mk (pe_bm PySem.F.plainAttrs_list PySem.F.slot_list_count PySem.F.type_list_count mt_countB h (pa_cons hb pa_nil hs1) hbase hfew hline hs1) fun σ H Q ⟨G, sv, k⟩ => ⟨G, sv, fun d1 S1 G1 x H1 ⟨e1, e2⟩ st1 r1 => by
    subst e1; subst e2
    cases r1 with
    | lst hp rs =>
      rename_i p vs
      refine ⟨.inl ⟨rfl, _, SqL.of (st1.sv.gh _ _ hp)⟩, G1, st1.sv, fun d2 S2 G2 y H2 ⟨e3, e4⟩ st2 r2 => ?_⟩
      subst e3; subst e4
      cases r2
      have e := rps_bools rs
      subst e
      exact ⟨p, bs, c, rfl, rfl, SqL.of (st2.sv.gh _ _ (st2.g _ _ hp)), k _ S2 G2 _ H2 ⟨rfl, rfl⟩ (st1.trans st2) (.int _)⟩⟩
theorem ep_indexB (j : Nat) (h : Ep X F S a (.list (bs.map .bool))) (hb : Ep X F S b (.bool c)) (h1 : bs[j]? = some c) (h2 : ∀ m, m < j → bs[m]? ≠ some c)
    (hs1 : starEach (b :: []) X.env = (false, eval b X.env) :: starEach [] X.env := by rfl)
    (hbase : attributeBase a "index" X.env (eval a X.env) = eval a X.env := by rfl)
    (hfew : ((backTo p3 (starEach (b :: []) X.env)).all (fun x => !x.1) && (backToKw p3 (keywordEach [] X.env)).all (fun x => x.1.isSome)
      && decide ((b :: ([] : List Expr)).length + ([] : List Keyword).length + (if ([] : List Keyword).isEmpty then 0 else 1) < 30)) = true := by rfl)
    (hline : (p2.endLine == p3.line) = true := by rfl) : Ep X F S (.Call (.Attribute a "index" p2) [b] [] p3) (.int (j : Nat)) :=
  de_mk (pe_bm PySem.F.plainAttrs_list PySem.F.slot_list_index PySem.F.type_list_index mt_index h (pa_cons hb pa_nil hs1) hbase hfew hline hs1) fun σ H Q ⟨G, sv, k⟩ => ⟨G, sv, fun d1 S1 G1 x H1 ⟨e1, e2⟩ st1 r1 => by
    subst e1; subst e2
    cases r1 with
    | lst hp rs =>
      rename_i p vs
      refine ⟨.inl ⟨rfl, _, SqL.of (st1.sv.gh _ _ hp)⟩, G1, st1.sv, fun d2 S2 G2 y H2 ⟨e3, e4⟩ st2 r2 => ?_⟩
      subst e3; subst e4
      cases r2
      have e := rps_bools rs
      subst e
      refine ⟨p, bs.map V.bl, .bl c, j, .bl c, rfl, rfl, SqL.of (st2.sv.gh _ _ (st2.g _ _ hp)), rfl, all_flat_bl bs, by rw [List.getElem?_map, h1]; rfl, by cases c <;> rfl, fun m z' hm hz => ?_, k _ S2 G2 _ H2 ⟨rfl, rfl⟩ (st1.trans st2) (.int _)⟩
      rw [List.getElem?_map] at hz
      cases hb2 : bs[m]? with
      | none => rw [hb2] at hz; cases hz
      | some b' =>
        rw [hb2] at hz
        have hz : V.bl b' = z' := Option.some.inj hz
        subst hz
        have := h2 m hm
        rw [hb2] at this
        cases b' <;> cases c <;> first | rfl | exact absurd rfl this⟩
theorem tp_neU {d1 d2 : FW.D} (hu : X.A.units + 64 < cLine) (ha : Ep X F S a d1) (hb : Ep X F S b d2) (h1 : Sh d1) (h2 : Sh d2) : Tp X F S (.Compare a [.NotEq] [b] pos) (!PyData.eqv d1 d2) :=
  dt_cmp (op_neD hu) (nomark b) (DE.imp ha fun e1 S1 ⟨h3, h4⟩ => by
    subst h3; subst h4
    exact DE.imp hb fun e2 S2 ⟨h5, h6⟩ => by
      subst h5; subst h6
      exact opd_ne ⟨h1, h2, b1 ⟨rfl, rfl⟩⟩)
end
end FW

namespace FW
open PySem PySem.Spec PyProof.Rows L2
variable [Tb]
/-! ### sorted by a key that a lambda tells -/
/-- a lambda without captured names, called -/
theorem run_lam {CX : CXT} {P : Program} {w : World} {K : PySem.W.Frag} {mg : Str → Option Value} {base : Heap} {k : Nat} {f c' : Addr} {q : Str} {params : Arguments} {body : Expr} {scope : Scope} {pm ctv : Value} {N ps : List Str}
    {A : Around} {outer : List Env} {s : Shared} {H : Hp} {us : List Value} {vs : List V} {Q : VK} {E : XK} (ho : s.heap.get? f = some (PySem.W.kla_obj "<lambda>" q params body scope [] pm c' ctv)) (hc : H c' = some (LamX.CodeO c' q)) (S : FnScope N ps scope) (hr : Room (k + 1) A) (e0 : Env0 P w K mg base A outer s H)
    (hb : bindArgs (PySem.W.kla_fn "<lambda>" q params body scope [] pm (.ref c') ctv) ⟨us, []⟩ = pure (ps.zip us)) (r : Vals vs us) (hl : vs.length = ps.length)
    (hbody : Room k (A.deeper (envOfC q scope s.heap.objs.size f (.ref c'))) → ∃ t, PE (cxOf CX P w K mg base N q scope f (.ref c') A outer s H E).nox body t ∧ t (L2.start N vs) H Q) :
    codeAny (model P w) A (.call (.ref f) ⟨us, []⟩) (CR CX outer P w H s Q E) s := by
  have lim : s.heap.NoLimit := e0.mod.nolimit.keeps fun b o e => (e0.bs b o e).1
  have hkind : ∀ y ∈ ps.zip us, scope.names.lookup y.1 = some .local ∨ (scope.names.lookup y.1 = some .cell ∧ ((cellsFrom (s.heap.objs.size + 1) scope.names []).lookup y.1).isSome = true) := fun ⟨n, v⟩ hy => by
    rcases S.par n (List.of_mem_zip hy).1 with z | z
    · exact .inl z
    · exact .inr ⟨z, PySem.W.cellsFrom_some _ _ _ (.inl z)⟩
  obtain ⟨⟨oc, vs', t, hoc, hdc, hvc⟩, _, _⟩ := e0.hok c' _ hc
  refine PySem.W.kla_callFunE hr.depth ho rfl S.co S.gen rfl ⟨c', oc, vs', t, rfl, hoc, hdc, hvc⟩ ?_
  rw [hb]
  refine wpAny_pure (wpAny_newFunctionEnv_cells S.kind hkind fun env he s1 x => ?_)
  subst he
  refine ⟨lim.keeps x.toInCall.keep, ?_⟩
  obtain ⟨t, ht, hq⟩ := hbody (hr.deeper _)
  have I : Inv (cxOf CX P w K mg base N q scope f (.ref c') A outer s H E) [] (L2.start N vs) H s1 := inv_start S hr.hd e0 hl r x
  refine PySem.W.kla_codeExpr (wpAny_mono (ht.run [] s1 (L2.start N vs) H Q (I.wish _) hq) (fun u s' hs => ?_) fun e s' hs => hs.elim)
  obtain ⟨v, H', J, rv, q⟩ := hs
  exact ⟨v, H', J.os, J.bare, J.base, J.hok, rv, q⟩
theorem PSt.refl {G H : Hp} (e : Ex G H) : PSt G H G H := ⟨Ex.refl G, e, .of (Ex.refl H), fun _ _ _ h => .inl h⟩
theorem PSt.trans {G H G1 H1 G2 H2 : Hp} (a : PSt G H G1 H1) (b : PSt G1 H1 G2 H2) : PSt G H G2 H2 := ⟨a.g.trans b.g, b.gh, a.h.trans b.h, fun x o nc h => by
  rcases b.nw x o nc h with h | h
  · exact a.nw x o nc h
  · right
    cases q : H x with
    | none => rfl
    | some u =>
      obtain ⟨o', h'⟩ := a.h.l x u q
      rw [h'] at h; cases h⟩
section
variable {X : Cx} {pins : List (Addr × Obj)} {σ : L2.St} {H : Hp} {s : Shared}
theorem ltN {h : Heap} {b : Addr} {o : Obj} (e : h.get? b = some o) : @LT.lt Nat _ b h.objs.size := Heap.lt_size e
end
/-! ### lambdas are made -/
section
variable {X : Cx} {pins : List (Addr × Obj)} {σ : L2.St} {H : Hp} {s : Shared}
/-- what a lambda's making does to the abstract heap -/
def Made (H : Hp) (P : Addr) (q : Str) (H1 : Hp) : Prop := H1 = H ∨ ∃ (ps : Array Value) (u : Pos) (c' : Addr), H P = some (.tbl ps) ∧ H c' = none ∧ H1 = upd (upd H P (.tbl (ps ++ #[rawInt u.line, rawInt u.col, .ref c']))) c' (LamX.CodeO c' q)
theorem lam_make3 {c P : Addr} {q : Str} {params : Arguments} {body : Expr} {scope : Scope} {pos : Pos} {E : Value → Shared → Prop} {Q : Value → Shared → Prop} (I : Inv X pins σ H s) (TB : LamX.TabB X.base X.mg c P) (hcode : X.env.code = .ref c) (hq : X.env.qual ++ "<lambda>" = q)
    (tS : LamX.TabS H P q) (hdef : defaultsOf params X.env = ([], [])) (hfree : ∀ y ∈ scope.names, y.2 = .free → ∃ c, X.env.cells.lookup y.1 = some c)
    (h : ∀ (f c' : Addr) (pm ctv : Value) (H1 : Hp) (s' : Shared), Inv X pins σ H1 s' → Made H P q H1 → H1 c' = some (LamX.CodeO c' q) →
      s'.heap.get? f = some (PySem.W.kla_obj "<lambda>" q params body scope (cloFrom X.env.cells scope.names []) pm c' ctv) → H1 f = none → @LE.le Nat _ s.heap.objs.size f → Q (.ref f) s') :
    wpAny (model X.prog X.w) X.A (eval (.Lambda params body scope pos) X.env) Q E s := by
  subst hq
  obtain ⟨ps, hP, ht, ha⟩ := tS
  refine PySem.W.kla_eval hdef ?_
  have gP := I.hok P _ hP
  have gP : s.heap.get? P = some { cls := .none, data := .fields ps } := gP
  have bP := TB.bm.keeps I.bk
  have cP := TB.code.keeps I.bk
  have gG := I.mod.glob.keeps I.bk
  cases am : codeAmong pos ps.toList with
  | none =>
    refine PySem.W.kla_makeFunction (c := c) (P := P) (ps := ps) (closure_ok hfree) I.ok.glob gG hcode cP gP ht am TB.gP bP fun k ctv h1 tk hx hge hlt hrec htb => ?_
    obtain ⟨k2, oc, vs, t, e2, hoc, hd, hv⟩ := hrec
    injection e2 with e2
    subst e2
    have hk : H k = none := I.hok.fresh hge
    have hz : @LE.le Nat _ s.heap.objs.size h1.objs.size := Nat.le_trans hge (Nat.le_of_lt hlt)
    have J := LamX.inv_table (q := X.env.qual ++ "<lambda>") (t' := tk) (more := #[rawInt pos.line, rawInt pos.col, .ref k]) (h' := h1.push (PySem.W.kla_obj "<lambda>" (X.env.qual ++ "<lambda>") params body scope (cloFrom X.env.cells scope.names []) ((X.mg "__name__").getD .none) k ctv)) I hP (fun b o hb e => Heap.get?_push_of_some _ (hx b o hb e)) (Heap.get?_push_of_some _ htb) hge
      ⟨oc, vs, t, Heap.get?_push_of_some _ hoc, hd, hv⟩
    refine h _ k _ ctv _ _ J (.inr ⟨ps, pos, k, hP, hk, rfl⟩) upd_same (Heap.get?_push_size _ rfl) ?_ hz
    have n2 : @Ne Nat h1.objs.size P := Nat.ne_of_gt (Nat.lt_of_lt_of_le (ltN gP) hz)
    rw [upd_ne (Nat.ne_of_gt hlt), upd_ne n2]
    exact I.hok.fresh hz
  | some cv =>
    obtain ⟨k, e, hco⟩ := ha pos cv am
    subst e
    refine PySem.W.kla_makeFunctionHit (c := c) (P := P) (ps := ps) (closure_ok hfree) I.ok.glob gG hcode cP gP ht am bP fun ctv h1 tk hx hz => ?_
    exact h _ k _ ctv H _ (I.kept (t' := tk) fun b o e => Heap.get?_push_of_some _ (hx b o e)) (.inl rfl) hco (Heap.get?_push_size _ rfl) (I.hok.fresh hz) hz
end
theorem Made.keep {H H1 : Hp} {P : Addr} {q : Str} (m : Made H P q H1) {b : Addr} {o : HO} (h : H b = some o) (ne : b ≠ P) : H1 b = some o := by
  rcases m with rfl | ⟨ps, u, k, _, hk, rfl⟩
  · exact h
  · rw [upd_ne (ne_of_none h hk), upd_ne ne]; exact h
theorem Made.tabs {T : List (Addr × Str)} {H H1 : Hp} {P : Addr} {q : Str} (m : Made H P q H1) (hu : ∀ p ∈ T, p.1 = P → p.2 = q) (t : LamX.Tabs T H) : LamX.Tabs T H1 := by
  rcases m with rfl | ⟨ps, u, k, hP, hk, rfl⟩
  · exact t
  · intro p hp
    obtain ⟨ps2, a1, a2, a3⟩ := t p hp
    have up : ∀ {c0 : Addr} {nm : Str}, H c0 = some (LamX.CodeO c0 nm) → upd (upd H P (.tbl (ps ++ #[rawInt u.line, rawInt u.col, .ref k]))) k (LamX.CodeO k q) c0 = some (LamX.CodeO c0 nm) := fun {c0 nm} e => by
      rw [upd_ne (ne_of_none e hk), upd_ne (fun z => by subst z; rw [e] at hP; exact LamX.codeO_ne ps (Option.some.inj hP))]; exact e
    by_cases hb : p.1 = P
    · have eq := hu p hp hb
      rw [hb, hP] at a1
      cases a1
      rw [eq] at a3
      rw [hb, eq]
      have el : (ps ++ #[rawInt u.line, rawInt u.col, .ref k]).toList = ps.toList ++ [rawInt u.line, rawInt u.col, .ref k] := by simp
      refine ⟨_, by rw [upd_ne (ne_of_none hP hk), upd_same], by rw [el]; exact PySem.TriplesOk_snoc _ _ _ _ a2, fun p' cv hcv => ?_⟩
      rw [el] at hcv
      rcases LamX.among_app _ a2 hcv with z | z
      · obtain ⟨c0, e1, e2⟩ := a3 p' cv z
        exact ⟨c0, e1, up e2⟩
      · exact ⟨k, z, upd_same⟩
    · refine ⟨ps2, by rw [upd_ne (ne_of_none a1 hk), upd_ne hb]; exact a1, a2, fun p' cv hcv => ?_⟩
      obtain ⟨c0, e1, e2⟩ := a3 p' cv hcv
      exact ⟨c0, e1, up e2⟩
/-- tables stand, and none in the ground -/
structure TbOk (G H : Hp) : Prop where
  t : LamX.Tabs Tb.T H
  g : ∀ p ∈ Tb.T, G p.1 = none
theorem TbOk.at {G H : Hp} (t : TbOk G H) {p : Addr × Str} (hp : p ∈ Tb.T) : ∃ ps, H p.1 = some (.tbl ps) := by
  obtain ⟨ps, h, _⟩ := t.t p hp
  exact ⟨ps, h⟩
theorem SV.tb {K : PySem.W.Frag} {F : Fr} {S : List Sl} {G H : Hp} {σ : L2.St} (sv : SV K F S G σ H) (t : TbOk F.B F.H0) : TbOk G H := ⟨sv.live.2.2 t.t, fun p hp => by
  cases q : G p.1 with
  | none => rfl
  | some o =>
    obtain ⟨ps, h⟩ := t.at hp
    obtain ⟨ps2, h2, _⟩ := sv.live.2.2 t.t p hp
    have eo := sv.gh _ _ q
    rw [h2] at eo; cases eo
    rcases sv.new _ _ nc_tbl q with z | z
    · rw [t.g p hp] at z; cases z
    · rw [h] at z; cases z⟩
/-- the def's code object c makes lambdas of the one name q -/
def Mk (base : Heap) (mg : Str → Option Value) (c : Addr) (q : Str) : Prop := ∃ P, LamX.TabB base mg c P ∧ (P, q) ∈ Tb.T ∧ ∀ p ∈ Tb.T, p.1 = P → p.2 = q
theorem stp_made {K : PySem.W.Frag} {F : Fr} {S : List Sl} {G H H1 : Hp} {σ : L2.St} {P : Addr} {q : Str} (sv : SV K F S G σ H) (t : TbOk F.B F.H0) (hm : (P, q) ∈ Tb.T) (hu : ∀ p ∈ Tb.T, p.1 = P → p.2 = q) (m : Made H P q H1) : Stp K F σ S G H S G H1 := by
  have t1 := sv.tb t
  obtain ⟨ps, hP⟩ := t1.at hm
  have nP : ∀ b o, H b = some o → NT o → b ≠ P := fun b o e nt z => by subst z; rw [hP] at e; cases e; exact nt ps rfl
  have el : ∀ b o, H b = some o → ∃ o', H1 b = some o' := fun b o e => by
    rcases m with rfl | ⟨ps, u, k, _, hk, rfl⟩
    · exact ⟨o, e⟩
    · rw [upd_ne (ne_of_none e hk)]
      by_cases z : b = P
      · subst z; exact ⟨_, upd_same⟩
      · exact ⟨o, by rw [upd_ne z]; exact e⟩
  refine ⟨Ex.refl G, fun b o e _ nt => m.keep e (nP b o e nt), Less.refl S, sv.growT (Ex.refl G) (fun b o e => m.keep (sv.gh b o e) fun z => ?_) (fun b o _ e nt => m.keep e (nP b o e nt)) el (fun t => m.tabs hu t) (fun j p mm => ?_) (fun _ _ _ h => .inl h), el, fun _ _ _ h => .inl h⟩
  · subst z
    rw [t1.g (b, q) hm] at e; cases e
  · obtain ⟨vs, h, g⟩ := sv.mutH mm
    exact ⟨g, (m.keep h (nP p _ h nt_lst)).trans h.symm⟩
end FW

namespace FW
open PySem PySem.Spec PyProof.Rows L2
variable [Tb]
/-! ### promises where tables are written -/
def spPT (Z : Zp) : Sp := fun vs H Q E => ∃ (G : Hp) (ds : List FW.D) (kt : FW.D → Prop) (ko : List FW.D → Prop) (ke : Xk → Prop), TbOk G H ∧ Ex G H ∧ Rps G vs ds ∧ Z ds kt ko ke ∧
  (∀ d G' v H', kt d → PSt G H G' H' → Rp G' v d → Q v H') ∧
  (∀ es G' p ws H', ko es → PSt G H G' H' → G' p = none → H p = none → H' p = some (.lst ws) → Rps G' ws es → Q (.ref p) H') ∧
  (∀ x dd H', ke x → Ex G H' → ExT H H' → XSh x dd H H' → E (.ref x.1) dd H')
def spNT (Z : Zn) : Sp := fun vs H Q _ => ∃ (G : Hp) (ds : List FW.D) (kn : FW.D → Prop), TbOk G H ∧ Ex G H ∧ Rps G vs ds ∧ Z ds kn ∧
  ∀ d G' v H', kn d → PSt G H G' H' → Rn (fun a => H a = none) G' v d → Q v H'
/-- a def whose code object stands at c -/
structure FunC (K : PySem.W.Frag) (x qual : Str) (st : Stmt) (f : Addr) (fd : FuncData) (c : Addr) : Prop where
  ex : ∃ (oc : Value) (od : Option Addr) (kV doc pm : Value) (an : Option Addr) (ct : Value) (osl : Array (Option Value)),
    fd = PySem.W.fnOf x qual (defArgs st) (defBody st) (defScope st) .none kV doc pm an (.ref c) ct ∧ K.lookup f = some ⟨oc, od, .func fd, osl⟩ ∧ PySem.W.codeIn K (.ref c) qual = true
section
variable {P : Program} {w : World} {K : PySem.W.Frag} {mg : Str → Option Value} {base : Heap}
theorem funC_mk {x qual : Str} {st : Stmt} {f c : Addr} {oc : Value} {od an : Option Addr} {osl : Array (Option Value)} {kV doc pm ct : Value} (l : K.lookup f = some ⟨oc, od, .func (PySem.W.fnOf x qual (defArgs st) (defBody st) (defScope st) .none kV doc pm an (.ref c) ct), osl⟩)
    (k : PySem.W.codeIn K (.ref c) qual = true) : FunC K x qual st f (PySem.W.fnOf x qual (defArgs st) (defBody st) (defScope st) .none kV doc pm an (.ref c) ct) c := ⟨oc, od, kV, doc, pm, an, ct, osl, rfl, l, k⟩
theorem fn_okC {x qual : Str} {st : Stmt} {f c : Addr} {fd : FuncData} {N ps : List Str} {k : Nat} {Z : Zp} (F : FunC K x qual st f fd c) (S : FnScope N ps (defScope st)) (hlen : ∀ ds kt ko ke, Z ds kt ko ke → ds.length = ps.length) (hNl : ps.length ≤ N.length)
    (hb : ∀ (A : Around) (outer : List Env) (s : Shared) (H : Hp) (E : XK) (Fm : Fr) (ds : List FW.D) (kt : FW.D → Prop) (ko : List FW.D → Prop) (ke : Xk → Prop), Room k (A.deeper (envOfC qual (defScope st) s.heap.objs.size f (.ref c))) → Fm.r = none → TbOk Fm.B Fm.H0 → Z ds kt ko ke →
      DB (cxOf CX0 P w K mg base N qual (defScope st) f (.ref c) A outer s H E).nox Fm (sl0 N ds) (defBody st) (postP kt ko)) : FnOk P w K mg base CX0 (k + 1) f fd ps (spPT Z) := by
  obtain ⟨oc, od, kV, doc, pm, an, ct, osl, rfl, lk, hcd⟩ := F.ex
  refine fn_of lk hcd S (fun vs H Q E h => ?_) fun A outer s H vs Q E hr h => ?_
  · obtain ⟨G, ds, kt, ko, ke, _, e, r, z, _⟩ := h
    rw [r.length]; exact hlen ds kt ko ke z
  · obtain ⟨G, ds, kt, ko, ke, t, e, r, z, h1, h2, h3⟩ := h
    have hl := hlen ds kt ko ke z
    exact ⟨_, PSs.nox (hb A outer s H E ⟨G, H, none⟩ ds kt ko ke hr rfl t z), G, sv_start (by omega) e r, ends_P (Z := Z) h1 h2⟩
theorem fn_okT {x qual : Str} {st : Stmt} {f : Addr} {fd : FuncData} {N ps : List Str} {k : Nat} {Z : Zp} (F : Fun K x qual st f fd) (S : FnScope N ps (defScope st)) (hlen : ∀ ds kt ko ke, Z ds kt ko ke → ds.length = ps.length) (hNl : ps.length ≤ N.length)
    (hb : ∀ (cdv : Value) (A : Around) (outer : List Env) (s : Shared) (H : Hp) (E : XK) (Fm : Fr) (ds : List FW.D) (kt : FW.D → Prop) (ko : List FW.D → Prop) (ke : Xk → Prop), Room k (A.deeper (envOfC qual (defScope st) s.heap.objs.size f cdv)) → Fm.r = none → TbOk Fm.B Fm.H0 → Z ds kt ko ke →
      DB (cxOf CX0 P w K mg base N qual (defScope st) f cdv A outer s H E).nox Fm (sl0 N ds) (defBody st) (postP kt ko)) : FnOk P w K mg base CX0 (k + 1) f fd ps (spPT Z) := by
  refine F.ok S (fun vs H Q E h => ?_) (fun cdv A outer s H vs Q E hr h => ?_)
  · obtain ⟨G, ds, kt, ko, ke, _, e, r, z, _⟩ := h
    rw [r.length]; exact hlen ds kt ko ke z
  · obtain ⟨G, ds, kt, ko, ke, t, e, r, z, h1, h2, h3⟩ := h
    have hl := hlen ds kt ko ke z
    exact ⟨_, hb cdv A outer s H E ⟨G, H, none⟩ ds kt ko ke hr rfl t z, G, sv_start (by omega) e r, ends_P (Z := Z) h1 h2⟩
theorem fn_okNT {x qual : Str} {st : Stmt} {f : Addr} {fd : FuncData} {N ps : List Str} {k : Nat} {Z : Zn} (F : Fun K x qual st f fd) (S : FnScope N ps (defScope st)) (hlen : ∀ ds kn, Z ds kn → ds.length = ps.length) (hNl : ps.length ≤ N.length)
    (hb : ∀ (cdv : Value) (A : Around) (outer : List Env) (s : Shared) (H : Hp) (E : XK) (Fm : Fr) (ds : List FW.D) (kn : FW.D → Prop), Room k (A.deeper (envOfC qual (defScope st) s.heap.objs.size f cdv)) → Fm.r = none → TbOk Fm.B Fm.H0 → Z ds kn →
      DB (cxOf CX0 P w K mg base N qual (defScope st) f cdv A outer s H E).nox Fm (sl0 N ds) (defBody st) (postN kn)) : FnOk P w K mg base CX0 (k + 1) f fd ps (spNT Z) := by
  refine F.ok S (fun vs H Q E h => ?_) (fun cdv A outer s H vs Q E hr h => ?_)
  · obtain ⟨G, ds, kn, _, e, r, z, _⟩ := h
    rw [r.length]; exact hlen ds kn z
  · obtain ⟨G, ds, kn, t, e, r, z, h1⟩ := h
    have hl := hlen ds kn z
    exact ⟨_, hb cdv A outer s H E ⟨G, H, none⟩ ds kn hr rfl t z, G, sv_start (by omega) e r, ends_N h1⟩
end
section
variable {X : Cx} {F : Fr} {S : List Sl} {e : Expr} {es : List Expr} {P : PD} {pos p : Pos} {x : Str} {k : Nat} {CX : CXT}
theorem de_callTb {Z : Zp} {ex : Xk → Prop} (t : TbOk F.B F.H0) (c : Kn X.prog X.w X.K X.mg X.base CX x k (spPT Z)) (hr : Room k X.A) (hw : Wish CX X F ex) (h : DA X F S (e :: es) (fun ds S' => Z ds (fun d => P d S') (fun l => P (.list l) S') ex)) (hg : Gl X x := by rfl)
    (hdb : (x == ("__debug__" : Str)) = false := by decide) (he : starEach (e :: es) X.env = (false, eval e X.env) :: starEach es X.env := by rfl) (hpl : (backTo pos (starEach es X.env)).any (·.1) = false := by rfl) : DE X F S (.Call (.Name x p) (e :: es) [] pos) P := by
  obtain ⟨f, fd, ps, F1, hm, hk, hb⟩ := c.ex
  obtain ⟨E, hx, hE⟩ := hw
  exact de_mk (pe_call F1 hr hg hm hk hb .nil hx h hdb he hpl) fun σ H Q ⟨G, sv, k⟩ => ⟨G, sv, fun ds S' G' vs H' hp st rs => by
    show spPT Z (vs ++ []) H' Q E
    rw [List.append_nil]
    refine ⟨G', ds, _, _, _, st.sv.tb t, st.sv.gh, rs, hp, fun d G2 v H2 hk2 ps2 r2 => k d S' G2 v H2 hk2 (st.trans (stp_of st.sv ps2)) r2, fun l G2 q ws H2 hk2 ps2 gq hq hl r2 => ?_, fun x dd H2 hx2 eg eh sh => hE x dd H2 hx2 (st.sv.keptX eg eh) (sh.back fun d => st.sv.h0)⟩
    have st2 := st.trans (stp_of st.sv ps2)
    have nm : NotMut S' σ q := st.sv.fresh hq
    refine k _ S' (upd G2 q (.lst ws)) _ H2 hk2 ⟨st2.g.trans (Ex.upd gq), st2.kp, st2.less, st2.sv.ground gq nm (st.sv.h0 hq) hl, st2.lv, fun a o nc z => ?_⟩ (.lst upd_same (r2.mono (Ex.upd gq)))
    by_cases za : a = q
    · subst za; exact .inr (st.fresh hq)
    · rw [upd_ne za] at z; exact st2.nw a o nc z⟩
theorem ep_callT {Z : Zp} {ex : Xk → Prop} {d : FW.D} {ds : List FW.D} (t : TbOk F.B F.H0) (c : Kn X.prog X.w X.K X.mg X.base CX x k (spPT Z)) (hr : Room k X.A) (hw : Wish CX X F ex) (h : Ap X F S (e :: es) ds) (hz : Z ds (fun d' => d' = d ∧ S = S) (fun l => .list l = d ∧ S = S) ex) (hg : Gl X x := by rfl)
    (hdb : (x == ("__debug__" : Str)) = false := by decide) (he : starEach (e :: es) X.env = (false, eval e X.env) :: starEach es X.env := by rfl) (hpl : (backTo pos (starEach es X.env)).any (·.1) = false := by rfl) : Ep X F S (.Call (.Name x p) (e :: es) [] pos) d :=
  de_callTb t c hr hw (h.to hz) hg hdb he hpl
theorem dn_callT {Z : Zn} (t : TbOk F.B F.H0) (c : Kn X.prog X.w X.K X.mg X.base CX0 x k (spNT Z)) (hr : Room k X.A) (h : DA X F S (e :: es) (fun ds S' => Z ds (fun d => P d S'))) (hg : Gl X x := by rfl)
    (hdb : (x == ("__debug__" : Str)) = false := by decide) (he : starEach (e :: es) X.env = (false, eval e X.env) :: starEach es X.env := by rfl) (hpl : (backTo pos (starEach es X.env)).any (·.1) = false := by rfl) : DN X F S (.Call (.Name x p) (e :: es) [] pos) P := by
  obtain ⟨f, fd, ps, F1, hm, hk, hb⟩ := c.ex
  exact dn_mk (pe_call F1 hr hg hm hk hb .nil (E := E0) pass0 h hdb he hpl) fun σ H Q ⟨G, sv, k⟩ => ⟨G, sv, fun ds S' G' vs H' hp st rs => by
    show spNT Z (vs ++ []) H' Q E0
    rw [List.append_nil]
    exact ⟨G', ds, _, st.sv.tb t, st.sv.gh, rs, hp, fun d G2 v H2 hk2 ps2 r2 => k d S' G2 v H2 hk2 (st.trans (stp_of st.sv ps2)) (r2.mono (Ex.refl _) fun a z => st.sv.h0 z)⟩⟩
theorem ep_callNT {Z : Zn} {d : FW.D} {ds : List FW.D} (t : TbOk F.B F.H0) (c : Kn X.prog X.w X.K X.mg X.base CX0 x k (spNT Z)) (hr : Room k X.A) (h : Ap X F S (e :: es) ds) (hz : Z ds (fun d' => d' = d ∧ S = S)) (hg : Gl X x := by rfl)
    (hdb : (x == ("__debug__" : Str)) = false := by decide) (he : starEach (e :: es) X.env = (false, eval e X.env) :: starEach es X.env := by rfl) (hpl : (backTo pos (starEach es X.env)).any (·.1) = false := by rfl) : Ep X F S (.Call (.Name x p) (e :: es) [] pos) d :=
  de_n (dn_callT t c hr (h.to hz) hg hdb he hpl)
end
section
variable {X : Cx} {F : Fr} {S : List Sl} {blk : List Stmt} {st : Stmt} {P : Post}
theorem db_scopeT (t : TbOk F.B F.H0) (h : ∀ (F' : Fr) (S0 : List Sl), F'.r = none → FxL F'.B S S0 → TbOk F'.B F'.H0 → DB0 X F' S0 blk (postB S S0 P)) : DB X F S blk P :=
  ⟨fun pins s σ H D I ⟨G, sv, k⟩ => by
    obtain ⟨S0, f0, l0, a0⟩ := fxL_ex sv.len (fun i sl h => sv.slot i sl h) sv.gh
    exact PSs.run (h ⟨G, H, none⟩ S0 rfl f0 (sv.tb t)) pins s σ H D I ⟨G, sv.scope l0 a0, fun S' G' σ' H' ⟨R, b, hp⟩ sv' => k.nx R G σ' H' hp (Ex.refl G) (sv.unscope a0 sv' b), fun _ _ _ _ _ _ h => h.elim, fun _ _ _ _ _ _ _ h => h.elim, fun _ _ _ _ h => h.elim, fun _ _ _ _ h => h.elim, fun _ _ _ _ _ _ h => h.elim⟩⟩
end
/-! ### the law -/
def gnd (H : Hp) : Hp := fun a => match H a with
  | some (.tbl _) => none
  | o => o
theorem gnd_ex (H : Hp) : Ex (gnd H) H := fun a o h => by
  unfold gnd at h
  split at h
  · cases h
  · exact h
theorem gnd_nt {H : Hp} {a : Addr} {o : HO} (h : H a = some o) (nt : NT o) : gnd H a = some o := by
  unfold gnd
  split
  · rename_i ps e
    rw [h] at e; cases e
    exact absurd rfl (nt ps)
  · exact h
theorem gnd_tbl {H : Hp} {a : Addr} {ps : Array Value} (h : H a = some (.tbl ps)) : gnd H a = none := by
  unfold gnd
  rw [h]
theorem gnd_none {H : Hp} {a : Addr} (h : H a = none) : gnd H a = none := by
  unfold gnd
  rw [h]
def spLawT (K : PySem.W.Frag) : Sp := fun vs H Q _ => LamX.Tabs Tb.T H ∧ ∃ (a : Addr) (ns : List Int), vs = [.ref a] ∧ SqL K H a (ns.map V.int) ∧ ns.length ≤ 63 ∧ ∀ H', Q (.bl true) H'
section
variable {P : Program} {w : World} {K : PySem.W.Frag} {mg : Str → Option Value} {base : Heap}
theorem fn_lawT {st s0 : Stmt} {rest : List Stmt} {f : Addr} {fd : FuncData} {N : List Str} {k n : Nat} (F : Fun K "law" "law" st f fd) (S : FnScope N ["_law_script"] (defScope st)) (hbd : defBody st = s0 :: rest) (hN : N.length = n + 2)
    (h0 : ∀ (cdv : Value) (A : Around) (outer : List Env) (s : Shared) (H : Hp) (E : XK), PS (cxOf CX0 P w K mg base N "law" (defScope st) f cdv A outer s H E).nox s0 tRow)
    (hb : ∀ (cdv : Value) (A : Around) (outer : List Env) (s : Shared) (H : Hp) (E : XK) (Fm : Fr), TbOk Fm.B Fm.H0 → Room k (A.deeper (envOfC "law" (defScope st) s.heap.objs.size f cdv)) →
      DB (cxOf CX0 P w K mg base N "law" (defScope st) f cdv A outer s H E).nox Fm (.unk :: .row :: List.replicate n .unk) rest postL) : FnOk P w K mg base CX0 (k + 1) f fd ["_law_script"] (spLawT K) := by
  refine F.ok S (fun vs H Q E h => ?_) (fun cdv A outer s H vs Q E hr h => ?_)
  · obtain ⟨_, a, ns, rfl, _⟩ := h; rfl
  · obtain ⟨tT, a, ns, rfl, hS, hlen, q⟩ := h
    refine ⟨tSeq tRow (tSsA (cxOf CX0 P w K mg base N "law" (defScope st) f cdv A outer s H E).nox rest), ?_, ?_⟩
    · rw [hbd]; exact pss_cons (h0 cdv A outer s H E) pss_anyA
    · refine ⟨.ref a, rfl, by show 4 ≤ sizeLine; decide, fun p hp => ?_⟩
      have e1 : Ex H (upd H p (.lst [.ref a, .int 0, .int 0, .int 0])) := Ex.upd hp
      have tb : TbOk (gnd H) (upd H p (.lst [.ref a, .int 0, .int 0, .int 0])) := ⟨tT.ext fun b o h => e1 b o h, fun x hx => by
        obtain ⟨ps, h, _⟩ := tT x hx
        exact gnd_tbl h⟩
      refine ⟨⟨gnd H, upd H p (.lst [.ref a, .int 0, .int 0, .int 0]), some p⟩, _, _, hb cdv A outer s H E _ tb hr, gnd H, ?_, ?_⟩
      · have hst : (L2.start N [.ref a]).set 1 (some (.ref p)) = some (.ref a) :: some (.ref p) :: List.replicate n none := by
          unfold L2.start
          have : N.length - [V.ref a].length = n + 1 := by rw [hN]; rfl
          rw [this, List.replicate_succ]
          rfl
        have only : ∀ {x j}, MutAt (.unk :: .row :: List.replicate n .unk) (some (.ref a) :: some (.ref p) :: List.replicate n none) x j → j = 1 := fun {x j} ⟨⟨t, h1, h2⟩, _⟩ => by
          match j, h1 with
          | 0, h1 => simp at h1; subst h1; cases h2
          | 1, _ => rfl
          | j + 2, h1 =>
            exfalso
            have h1' : (List.replicate n Sl.unk)[j]? = some t := h1
            have := getElem?_replicate_unk h1'
            subst this; cases h2
        have hS' : SqL K (gnd H) a (ns.map V.int) := by
          rcases hS with (h | ⟨o, h⟩) | h
          · exact .inl (.inl (gnd_nt h nt_lst))
          · exact .inl (.inr ⟨o, gnd_nt h fun _ z => by cases z⟩)
          · exact .inr h
        show SV K _ _ (gnd H) ((L2.start N [.ref a]).set 1 (some (.ref p))) _
        rw [hst]
        refine ⟨Ex.refl _, (gnd_ex H).trans e1, fun x o _ h _ => h, ⟨fun r hr => (by cases hr; exact ⟨_, upd_same⟩), fun a o h => ⟨o, h⟩, TabG.refl _⟩, fun x o _ h => .inl h, fun i sl h => ?_, fun i j x ne ma mb => ne ((only ma).trans (only mb).symm), fun i es x h _ => ?_, ?_, (gnd_ex H).trans e1⟩
        · match i, h with
          | 0, h => simp at h; subst h; trivial
          | 1, h => simp at h; subst h; exact ⟨p, rfl, rfl, gnd_none hp, a, ns, 0, 0, 0, upd_same, hS', ⟨hlen, by decide, by decide, by decide, by decide⟩⟩
          | i + 2, h =>
            have h1' : (List.replicate n Sl.unk)[i]? = some sl := h
            have := getElem?_replicate_unk h1'
            subst this; trivial
        · exfalso
          match i, h with
          | 0, h => simp at h
          | 1, h => simp at h
          | i + 2, h =>
            have h1' : (List.replicate n Sl.unk)[i]? = some (.own es) := h
            have := getElem?_replicate_unk h1'
            cases this
        · simp
      · exact ⟨fun _ _ _ _ h => h.elim, fun d S' G' σ' v H' hd ex sv r => by
          have hd : d = .bool true := hd
          subst hd
          cases r
          exact q H', fun _ _ _ _ _ _ _ h => h.elim, fun _ _ _ _ h => h.elim, fun _ _ _ _ h => h.elim, fun _ _ _ _ _ _ h => h.elim⟩
end
end FW

namespace FW
open PySem PySem.Spec PyProof.Rows L2
variable [Tb]
/-! ### lambdas without parameters as data: called -/
open Classical in
/-- a heap without a lambda's cells -/
noncomputable def cutC (cl : List (Str × Addr)) (H : Hp) : Hp := fun a => if ∃ y, cl.lookup y = some a then none else H a
open Classical in
/-- .. with them again -/
noncomputable def putC (cl : List (Str × Addr)) (H H' : Hp) : Hp := fun a => if ∃ y, cl.lookup y = some a then H a else H' a
section
variable {cl : List (Str × Addr)} {H H' : Hp} {a : Addr}
theorem cut_in (h : ∃ y, cl.lookup y = some a) : cutC cl H a = none := if_pos h
theorem cut_out (h : ¬ ∃ y, cl.lookup y = some a) : cutC cl H a = H a := if_neg h
theorem put_in (h : ∃ y, cl.lookup y = some a) : putC cl H H' a = H a := if_pos h
theorem put_out (h : ¬ ∃ y, cl.lookup y = some a) : putC cl H H' a = H' a := if_neg h
theorem cut_none (h : H a = none) : cutC cl H a = none := by
  by_cases z : ∃ y, cl.lookup y = some a
  · exact cut_in z
  · rw [cut_out z]; exact h
theorem cut_some {o : HO} (h : cutC cl H a = some o) : H a = some o ∧ ¬ ∃ y, cl.lookup y = some a := by
  by_cases z : ∃ y, cl.lookup y = some a
  · rw [cut_in z] at h; cases h
  · rw [cut_out z] at h; exact ⟨h, z⟩
variable {l : LF} {ws : List V}
theorem Clo.cell (k : Clo H l cl ws) (h : ∃ y, cl.lookup y = some a) : ∃ v, H a = some (CelO a v) := by
  obtain ⟨y, hy⟩ := h
  obtain ⟨i, hi⟩ := List.mem_iff_getElem?.mp (k.dom y a hy)
  obtain ⟨c, v, h1, _, h3⟩ := k.has i y hi
  rw [hy] at h1; cases h1
  exact ⟨v, h3⟩
theorem Clo.nc (k : Clo H l cl ws) {o : HO} (h : H a = some o) (nc : NC o) : ¬ ∃ y, cl.lookup y = some a := fun z => by
  obtain ⟨v, hv⟩ := k.cell z
  rw [h] at hv
  cases hv
  exact nc _ rfl
theorem cut_nc (k : Clo H l cl ws) {o : HO} (h : H a = some o) (nc : NC o) : cutC cl H a = some o := by rw [cut_out (k.nc h nc)]; exact h
end
theorem nc_own {x : Addr} : NC (.own x) := fun _ z => by cases z
theorem nc_tup {xs : List V} : NC (.tup xs) := fun _ z => by cases z
theorem nc_frz {o : Obj} {u : HO} : NC (.frz o u) := fun _ z => by cases z
section
variable {P : Program} {w : World} {K : PySem.W.Frag} {mg : Str → Option Value} {base : Heap} {A : Around} {outer : List Env} {s : Shared} {H : Hp} {l : LF} {cl : List (Str × Addr)} {ws : List V}
theorem cel_at {h : Heap} {a : Addr} {v : V} (hok : HOk P w H h) (e : H a = some (CelO a v)) : ∃ u, RelV v u ∧ h.IsCell a (some u) := (show ObjOk P w H h a (CelO a v) from hok a _ e).1
theorem code_at {h : Heap} {c : Addr} {q : Str} (hok : HOk P w H h) (e : H c = some (LamX.CodeO c q)) : ∃ (oc : Obj) (vs : Array Value) (t : Tok), h.get? c = some oc ∧ oc.data = .fields vs ∧ vs[1]? = some (.str q t) := (show ObjOk P w H h c (LamX.CodeO c q) from hok c _ e).1
theorem lam_at {h : Heap} {a c : Addr} {cl : List (Str × Addr)} (hok : HOk P w H h) (e : H a = some (LamO a l cl c)) : ∃ pm ctv : Value, h.get? a = some (PySem.W.kla_obj "<lambda>" l.q l.params l.body l.scope cl pm c ctv) := (show ObjOk P w H h a (LamO a l cl c) from hok a _ e).1
theorem Env0.cut (e : Env0 P w K mg base A outer s H) (k : Clo H l cl ws) : Env0 P w K mg base A outer s (cutC cl H) :=
  ⟨e.frames, e.mod, fun b o h => ⟨(e.bs b o h).1, cut_none (e.bs b o h).2⟩, e.bsz, e.funs, fun b h => cut_none (e.frf b h), fun a o h => by
    obtain ⟨h1, h2⟩ := cut_some h
    exact (e.hok a o h1).stay (fun _ _ _ q => q) (fun b q => cut_nc k q nc_own) fun b xs q => cut_nc k q nc_tup, e.bare⟩
theorem Clo.cells {h : Heap} (k : Clo H l cl ws) (hok : HOk P w H h) : NdefX.CellsAt cl l.fr (ws.map some) h (cutC cl H) :=
  ⟨by rw [List.length_map]; exact k.len, fun y c e => ⟨cut_in ⟨y, e⟩, by
    obtain ⟨v, hv⟩ := k.cell ⟨y, e⟩
    obtain ⟨u, _, hu⟩ := cel_at hok hv
    exact ⟨_, hu⟩⟩, k.inj, fun i y e => by
    obtain ⟨c, v, h1, h2, h3⟩ := k.has i y e
    refine ⟨c, h1, fun v' hv => ?_⟩
    rw [List.getElem?_map, h2] at hv
    cases hv
    exact cel_at hok h3⟩
/-- an exception: the cells stand again -/
theorem cx_put {E : XK} {u : Value} {s' : Shared} (k : Clo H l cl ws) (hok : HOk P w H s.heap) (frf : ∀ b ∈ frs outer, H b = none)
    (c : L2.CX P w outer (cutC cl H) s (fun cls d H' => (∀ a, (∃ y, cl.lookup y = some a) → H' a = none) → E cls d (putC cl H H')) u s') : L2.CX P w outer H s E u s' := by
  obtain ⟨a, B, H', cls, d, rfl, fl, hokB, ub, na, os, ag, hE⟩ := c
  have cl0 : ∀ b, (∃ y, cl.lookup y = some b) → H' b = none ∧ ∀ o, s.heap.get? b = some o → B.get? b = some o := fun b hb => by
    obtain ⟨v, hv⟩ := k.cell hb
    obtain ⟨uu, _, o, ho, _⟩ := cel_at hok hv
    refine ⟨ub.free b o ho (cut_in hb), fun o q => ub.keep b o q (cut_in hb) fun z => ?_⟩
    rw [frf b z] at hv; cases hv
  have nap : ¬ ∃ y, cl.lookup y = some a := fun hb => by
    obtain ⟨v, hv⟩ := k.cell hb
    obtain ⟨uu, _, o, ho, _⟩ := cel_at hok hv
    have z := (cl0 a hb).2 o ho
    rw [fl.2.1] at z; cases z
  have tr : ∀ b o, H' b = some o → putC cl H H' b = some o := fun b o q => by
    rw [put_out (fun hb => by rw [(cl0 b hb).1] at q; cases q)]; exact q
  refine ⟨a, B, putC cl H H', cls, d, rfl, fl, fun b o q => ?_, ⟨fun b o q n hf => ub.keep b o q (cut_none n) hf, ub.slot, fun b o q n => ?_, ub.there, fun b xs q => tr b _ (ub.tups b xs (cut_nc k q nc_tup)), fun b o xs q => tr b _ (ub.frzs b o xs (cut_nc k q nc_frz)), fun b ps q => ?_⟩, by rw [put_out nap]; exact na, os, ag, hE fun b hb => (cl0 b hb).1⟩
  · by_cases hb : ∃ y, cl.lookup y = some b
    · rw [put_in hb] at q
      obtain ⟨v, hv⟩ := k.cell hb
      rw [hv] at q; cases q
      obtain ⟨p, ⟨o, e⟩, st⟩ := (show ObjOk P w H s.heap b (CelO b v) from hok b _ hv)
      exact ⟨st _ _ p fun o q => (cl0 b hb).2 o q, ⟨o, (cl0 b hb).2 o e⟩, st⟩
    · rw [put_out hb] at q
      exact (hokB b o q).stay (fun _ _ _ q => q) (fun c q => tr c _ q) fun c xs q => tr c _ q
  · have nb : ¬ ∃ y, cl.lookup y = some b := fun hb => by
      obtain ⟨v, hv⟩ := k.cell hb
      rw [n] at hv; cases hv
    rw [put_out nb]
    exact ub.free b o q (cut_none n)
  · obtain ⟨more, e⟩ := ub.tbls b ps (cut_nc k q nc_tbl)
    exact ⟨more, tr b _ e⟩
abbrev nfL (l : LF) (cl : List (Str × Addr)) (c : Addr) : NdefX.NF := ⟨"<lambda>", l.q, l.params, [], l.scope, cl, c⟩
/-- the lambda at f is called; it lets an exception out -/
theorem run_thk {k : Nat} {f c : Addr} {E : XK} (hf : H f = some (LamO f l cl c)) (hc : H c = some (LamX.CodeO c l.q)) (hk : Clo H l cl ws) (hr : Room (k + 1) A) (e0 : Env0 P w K mg base A outer s H) (S : NdefX.NScope l.fr [] l.fr l.scope)
    (hb : ∀ pm ctv, bindArgs (PySem.W.kla_fn "<lambda>" l.q l.params l.body l.scope cl pm (.ref c) ctv) ⟨[], []⟩ = pure [])
    (hbody : Room k (A.deeper (NdefX.envF (nfL l cl c) f s.heap.objs.size)) → ∃ t, PE (NdefX.ncx (L2.CX P w) P w K mg base l.fr (nfL l cl c) f A outer s (cutC cl H) (fun cls d H' => (∀ a, (∃ y, cl.lookup y = some a) → H' a = none) → E cls d (putC cl H H'))) l.body t ∧ t (NdefX.startF l.fr [] (ws.map some)) (cutC cl H) fun _ _ => False)
    {Q : VK} : codeAny (model P w) A (.call (.ref f) ⟨[], []⟩) (CR (L2.CX P w) outer P w H s Q E) s := by
  have e1 := Env0.cut e0 hk
  have lim : s.heap.NoLimit := e0.mod.nolimit.keeps fun b o e => (e0.bs b o e).1
  obtain ⟨pm, ctv, ho⟩ := lam_at e0.hok hf
  obtain ⟨oc, vs', t, hoc, hdc, hvc⟩ := code_at e0.hok hc
  have main : codeAny (model P w) A (.call (.ref f) ⟨[], []⟩) (CR (L2.CX P w) outer P w (cutC cl H) s (fun _ _ => False) (fun cls d H' => (∀ a, (∃ y, cl.lookup y = some a) → H' a = none) → E cls d (putC cl H H'))) s := by
    refine PySem.W.kla_callFunE hr.depth ho rfl S.co S.gen rfl ⟨c, oc, vs', t, rfl, hoc, hdc, hvc⟩ ?_
    rw [hb]
    refine wpAny_pure (wpAny_newFunctionEnv S.nocell (fun y hy => absurd hy (by simp)) (fun h₁ hns hsb => ⟨lim.fresh _ hsb, ?_⟩) S.kind)
    show codeAny _ _ (.expr l.body (NdefX.envF (nfL l cl c) f s.heap.objs.size)) _ _
    have kp : ∀ b o, s.heap.get? b = some o → h₁.get? b = some o := fun b o e => hsb.extBut b o (Nat.ne_of_lt (Heap.lt_size e)) (Heap.get?_push_of_some _ e)
    obtain ⟨t, ht, hq⟩ := hbody (hr.deeper _)
    have I := NdefX.inv_startN (CX := L2.CX P w) (F := nfL l cl c) (f := f) (E := fun cls d H' => (∀ a, (∃ y, cl.lookup y = some a) → H' a = none) → E cls d (putC cl H H')) (us := []) (vs := []) (tk := s.toks + ([] : List (Str × Value)).length) S hr.hd e1 rfl .nil (hk.cells e0.hok) hns kp
    refine PySem.W.kla_codeExpr (wpAny_mono (ht.run [] _ (NdefX.startF l.fr [] (ws.map some)) (cutC cl H) _ I hq) (fun u s' hs => ?_) fun e s' hs => hs)
    obtain ⟨v, H', J, rv, q⟩ := hs
    exact q.elim
  refine codeAny_mono main fun r s' hq => ?_
  cases r with
  | error e => exact cx_put hk e0.hok e0.frf hq
  | ok fl =>
    cases fl with
    | ret u =>
      obtain ⟨_, _, _, _, _, _, _, q⟩ := hq
      exact q.elim
    | next => exact False.elim hq
    | brk => exact False.elim hq
    | cont => exact False.elim hq
/-- the lambda l, having captured cs, lets xk out -/
structure ThL (P : Program) (w : World) (K : PySem.W.Frag) (mg : Str → Option Value) (base : Heap) (k : Nat) (l : LF) (cs : List FW.D) (xk : Xk) : Prop where
  sc : NdefX.NScope l.fr [] l.fr l.scope
  bind : ∀ (cl : List (Str × Addr)) (c : Addr) (pm ctv : Value), bindArgs (PySem.W.kla_fn "<lambda>" l.q l.params l.body l.scope cl pm (.ref c) ctv) ⟨[], []⟩ = pure []
  lay : PyData.canLayAll0 cs = true
  run : ∀ (cl : List (Str × Addr)) (c f : Addr) (A : Around) (outer : List Env) (s : Shared) (H : Hp) (E : XK) (Fm : Fr), Room k (A.deeper (NdefX.envF (nfL l cl c) f s.heap.objs.size)) → Fm.r = none → (∀ dd H', Keep Fm H' → XSh xk dd Fm.H0 H' → E (.ref xk.1) dd H') →
    DE (NdefX.ncx (L2.CX P w) P w K mg base l.fr (nfL l cl c) f A outer s H E) Fm (sl0 l.fr cs) l.body (fun _ _ => False)
end
section
variable {X : Cx} {F : Fr} {S : List Sl} {pos p : Pos} {x : Str} {k j : Nat} {cs : List FW.D} {xk : Xk} {W : WX} {RX : Xk → List Sl → Prop}
theorem tabs_cut {P : Program} {w : World} {H H' : Hp} {h : Heap} {l : LF} {cl : List (Str × Addr)} {ws : List V} (k : Clo H l cl ws) (hok : HOk P w H h) (t : TabG (cutC cl H) H') (n : ∀ a, (∃ y, cl.lookup y = some a) → H' a = none) : TabG H (putC cl H H') := fun q => by
  have q1 : LamX.Tabs Tb.T (cutC cl H) := fun p hp => by
    obtain ⟨ps, h1, h2, h3⟩ := q p hp
    refine ⟨ps, cut_nc k h1 nc_tbl, h2, fun pos cv hc => ?_⟩
    obtain ⟨c, e1, e2⟩ := h3 pos cv hc
    refine ⟨c, e1, ?_⟩
    rw [cut_out (fun z => ?_)]
    · exact e2
    · obtain ⟨v, hv⟩ := k.cell z
      obtain ⟨_, _, o, ho, hd⟩ := cel_at hok hv
      obtain ⟨oc, vs, _, h1, h2, _⟩ := code_at hok e2
      rw [ho] at h1; cases h1
      rw [hd] at h2; cases h2
  have tr : ∀ b o, H' b = some o → putC cl H H' b = some o := fun b o q => by
    rw [put_out (fun hb => by rw [n b hb] at q; cases q)]; exact q
  exact LamX.Tabs.ext (t q1) tr
/-- x(), x a lambda that lets an exception out -/
theorem de_thk (i : Nat) (tk : Takes X W) (hw : ∀ xk dd S1 G1 σ1 H1, RX xk S1 → SV X.K F S1 G1 σ1 H1 → XSh xk dd F.H0 H1 → W (.ref xk.1) dd σ1 H1) (hr : Room (k + 1) X.A) (th : ThL X.prog X.w X.K X.mg X.base k (Tb.L j) cs xk) (hR : RX xk S)
    (hS : S[i]? = some (.val (thD j cs))) (hN : X.N[i]? = some x := by rfl) (hv : Vis X.env.scope x := by first | exact Or.inl rfl | exact Or.inr (Or.inl rfl) | exact Or.inr (Or.inr rfl)) (hd : (x == ("__debug__" : Str)) = false := by decide) (hcd : (x == ("__classdict__" : Str)) = false := by decide) :
    DE X F S (.Call (.Name x p) [] [] pos) (fun _ _ => False) := by
  refine ⟨fun pins s σ H Q I ⟨G, sv, _⟩ => ?_⟩
  obtain ⟨v, hs, r⟩ := sv.slot i _ hS
  have r : Rp G v (.dict [(.int (j : Nat), .tuple cs)]) := r
  cases r with
  | @thk f c _ cl ws _ hf hc hk rs =>
  refine wpAny_Call_Name_kw (thn ((pe_var (pos := p) (i := i) hN hv hd hcd).run pins s σ H (fun v H1 => v = .ref f ∧ H1 = H) I ⟨.ref f, hs, rfl, rfl⟩) fun u s1 ⟨v, H1, I1, r1, q1⟩ => ?_)
  obtain ⟨ev, eH⟩ := q1
  subst ev; subst eH
  obtain rfl : u = Value.ref f := r1
  have hkH := hk.mono sv.gh
  obtain ⟨pm, ctv, of1⟩ := lam_at I1.hok (sv.gh _ _ hf)
  refine PySem.W.callWith_F0 ⟨_, _, _, _, of1⟩ ?_
  have rc := run_thk (k := k) (E := fun cls d H' => W cls d σ H') (Q := Q) (sv.gh _ _ hf) (sv.gh _ _ hc) hkH hr I1.env0 th.sc (fun pm ctv => th.bind cl c pm ctv) fun hr2 => by
    have eg : Ex (cutC cl G) (cutC cl H1) := fun a o h => by
      obtain ⟨h1, h2⟩ := cut_some h
      rw [cut_out h2]; exact sv.gh a o h1
    have rs2 : Rps (cutC cl G) ws cs := rs.sub (fun a o h nc => cut_nc hk h nc) th.lay
    have hl : cs.length ≤ (Tb.L j).fr.length := by rw [← rs.length, hk.len]; exact Nat.le_refl _
    refine ⟨_, th.run cl c f _ _ _ _ _ ⟨cutC cl G, cutC cl H1, none⟩ hr2 rfl (fun dd H' kp sh n => ?_), cutC cl G, ?_, fun _ _ _ _ _ h => h.elim⟩
    · have ps : PSt G H1 G (putC cl H1 H') := ⟨Ex.refl G, fun a o h => by
        by_cases z : ∃ y, cl.lookup y = some a
        · rw [put_in z]; exact sv.gh a o h
        · rw [put_out z]; exact kp.b a o ((cut_out z).trans h), ⟨fun a o h nt => by
        by_cases z : ∃ y, cl.lookup y = some a
        · rw [put_in z]; exact h
        · rw [put_out z]; exact kp.k a o (fun z => nomatch z) ((cut_out z).trans h) nt, fun a o h => by
        by_cases z : ∃ y, cl.lookup y = some a
        · exact ⟨o, by rw [put_in z]; exact h⟩
        · obtain ⟨o', h'⟩ := kp.l.2.1 a o ((cut_out z).trans h)
          exact ⟨o', by rw [put_out z]; exact h'⟩, tabs_cut hkH I1.hok kp.l.2.2 n⟩, fun a o _ h => .inl h⟩
      refine hw xk dd S G σ _ hR (stp_of sv ps).sv ?_
      obtain ⟨xc, num⟩ := xk
      cases num with
      | none => exact sh
      | some m =>
        obtain ⟨d, h1, h2, h3⟩ := sh
        have nd : ¬ ∃ y, cl.lookup y = some d := fun z => by rw [n d z] at h3; cases h3
        have h2 : H1 d = none := (cut_out nd).symm.trans h2
        exact ⟨d, h1, sv.h0 h2, by rw [put_out nd]; exact h3⟩
    · have e : NdefX.startF (Tb.L j).fr [] (ws.map some) = L2.start (Tb.L j).fr ws := by
        unfold NdefX.startF L2.start
        simp
      rw [e]
      exact sv_start hl eg rs2
  refine wpAny_call (codeAny_mono rc fun r s' hq => ?_)
  cases r with
  | error e => exact passAt tk σ pins H1 s1 e s' I1 hq
  | ok fl =>
    cases fl with
    | ret u => exact I1.after hq
    | next => exact False.elim hq
    | brk => exact False.elim hq
    | cont => exact False.elim hq
end
end FW

namespace FW
open PySem PySem.Spec PyProof.Rows L2
variable [Tb]
/-! ### a def that makes a list of lambdas -/
theorem lamO_ok {P : Program} {w : World} {H : Hp} {h : Heap} {a c : Addr} {l : LF} {cl : List (Str × Addr)} {pm ctv : Value} (e : h.get? a = some (PySem.W.kla_obj "<lambda>" l.q l.params l.body l.scope cl pm c ctv)) : ObjOk P w H h a (LamO a l cl c) :=
  ⟨⟨pm, ctv, e⟩, ⟨_, e⟩, fun h1 h2 ⟨pm, ctv, z⟩ st => ⟨pm, ctv, st _ z⟩⟩
section
variable {X : Cx} {pins : List (Addr × Obj)} {σ : L2.St} {H : Hp} {s : Shared}
/-- a lambda is made, and known from then on -/
theorem lam_make4 {c P : Addr} {l : LF} {pos : Pos} {E : Value → Shared → Prop} {Q : Value → Shared → Prop} (I : Inv X pins σ H s) (TB : LamX.TabB X.base X.mg c P) (hcode : X.env.code = .ref c) (hq : X.env.qual ++ "<lambda>" = l.q)
    (tS : LamX.TabS H P l.q) (hdef : defaultsOf l.params X.env = ([], [])) (hfree : ∀ y ∈ l.scope.names, y.2 = .free → ∃ c, X.env.cells.lookup y.1 = some c)
    (h : ∀ (f c' : Addr) (H1 : Hp) (s' : Shared), Made H P l.q H1 → H1 c' = some (LamX.CodeO c' l.q) → H1 f = none → Inv X pins σ (upd H1 f (LamO f l (cloFrom X.env.cells l.scope.names []) c')) s' → Q (.ref f) s') :
    wpAny (model X.prog X.w) X.A (eval (.Lambda l.params l.body l.scope pos) X.env) Q E s := by
  obtain ⟨ps, hP, ht, ha⟩ := tS
  refine PySem.W.kla_eval hdef ?_
  have gP := I.hok P _ hP
  have gP : s.heap.get? P = some { cls := .none, data := .fields ps } := gP
  have bP := TB.bm.keeps I.bk
  have cP := TB.code.keeps I.bk
  have gG := I.mod.glob.keeps I.bk
  rw [hq]
  cases am : codeAmong pos ps.toList with
  | none =>
    refine PySem.W.kla_makeFunction (c := c) (P := P) (ps := ps) (closure_ok hfree) I.ok.glob gG hcode cP gP ht am TB.gP bP fun k ctv h1 tk hx hge hlt hrec htb => ?_
    obtain ⟨k2, oc, vs, t, e2, hoc, hd, hv⟩ := hrec
    injection e2 with e2
    subst e2
    have hk : H k = none := I.hok.fresh hge
    have J := LamX.inv_table (q := l.q) (t' := tk) (more := #[rawInt pos.line, rawInt pos.col, .ref k]) (h' := h1) I hP (fun b o hb e => hx b o hb e) htb hge ⟨oc, vs, t, hoc, hd, hv⟩
    have fr := J.hok.fresh (Nat.le_refl _)
    have J2 := J.laid (t' := tk) (a := h1.objs.size) (o := LamO h1.objs.size l (cloFrom X.env.cells l.scope.names []) k) (h' := h1.push (PySem.W.kla_obj "<lambda>" l.q l.params l.body l.scope (cloFrom X.env.cells l.scope.names []) ((X.mg "__name__").getD .none) k ctv)) (fun b u e => Heap.get?_push_of_some _ e) (Nat.le_refl _) (lamO_ok (Heap.get?_push_size _ rfl))
    exact h _ k _ _ (.inr ⟨ps, pos, k, hP, hk, rfl⟩) upd_same fr J2
  | some cv =>
    obtain ⟨k, e, hco⟩ := ha pos cv am
    subst e
    refine PySem.W.kla_makeFunctionHit (c := c) (P := P) (ps := ps) (closure_ok hfree) I.ok.glob gG hcode cP gP ht am bP fun ctv h1 tk hx hz => ?_
    have J := I.kept (h' := h1) (t' := tk) fun b o e => hx b o e
    have fr := J.hok.fresh (Nat.le_refl _)
    have J2 := J.laid (t' := tk) (a := h1.objs.size) (o := LamO h1.objs.size l (cloFrom X.env.cells l.scope.names []) k) (h' := h1.push (PySem.W.kla_obj "<lambda>" l.q l.params l.body l.scope (cloFrom X.env.cells l.scope.names []) ((X.mg "__name__").getD .none) k ctv)) (fun b u e => Heap.get?_push_of_some _ e) (Nat.le_refl _) (lamO_ok (Heap.get?_push_size _ rfl))
    exact h _ k H _ (.inl rfl) hco fr J2
/-- the reading of such a lambda -/
def tLm (P : Addr) (l : LF) (cl : List (Str × Addr)) : TE := fun _ H Q => LamX.TabS H P l.q ∧ ∀ (f c' : Addr) (H1 : Hp), Made H P l.q H1 → H1 c' = some (LamX.CodeO c' l.q) → H1 f = none → Q (.ref f) (upd H1 f (LamO f l cl c'))
theorem pe_lm {c P : Addr} {l : LF} {pos : Pos} (TB : LamX.TabB X.base X.mg c P) (hcode : X.env.code = .ref c) (hq : X.env.qual ++ "<lambda>" = l.q) (hdef : defaultsOf l.params X.env = ([], [])) (hfree : ∀ y ∈ l.scope.names, y.2 = .free → X.env.scope.names.lookup y.1 = some .cell) :
    PE X (.Lambda l.params l.body l.scope pos) (tLm P l (cloFrom X.env.cells l.scope.names [])) :=
  ⟨fun pins s σ H Q I ⟨tS, h⟩ => lam_make4 I TB hcode hq tS hdef (fun y hy z => I.ok.has _ (.inl (hfree y hy z))) fun f c' H1 s' m hc hf J => ⟨.ref f, _, J, rfl, h f c' H1 m hc hf⟩⟩
end
/-- behind some lambdas: the list at p of them, by their index, their place, their code's place -/
structure MkI (P : Addr) (q : Str) (cl : Nat → List (Str × Addr)) (H0 H : Hp) (p : Addr) (us : List (Nat × Addr × Addr)) : Prop where
  keep : ∀ a o, H0 a = some o → a ≠ P → H a = some o
  lv : ∀ a o, H0 a = some o → ∃ o', H a = some o'
  tab : TabG H0 H
  lst : H p = some (.lst (us.map fun u => .ref u.2.1))
  pf : H0 p = none
  fn : ∀ u ∈ us, H u.2.1 = some (LamO u.2.1 (Tb.L u.1) (cl u.1) u.2.2) ∧ H u.2.2 = some (LamX.CodeO u.2.2 q) ∧ H0 u.2.1 = none
section
variable {P p f c : Addr} {q : Str} {cl : Nat → List (Str × Addr)} {H0 H H1 : Hp} {us : List (Nat × Addr × Addr)} {j : Nat}
theorem Made.lv (m : Made H P q H1) {a : Addr} {o : HO} (h : H a = some o) : ∃ o', H1 a = some o' := by
  rcases m with rfl | ⟨ps, u, k, _, hk, rfl⟩
  · exact ⟨o, h⟩
  · rw [upd_ne (ne_of_none h hk)]
    by_cases z : a = P
    · subst z; exact ⟨_, upd_same⟩
    · exact ⟨o, by rw [upd_ne z]; exact h⟩
theorem tabs_upd {b : Addr} {o : HO} (hb : H b = none) : TabG H (upd H b o) := fun t => t.ext fun _ _ h => Ex.upd hb _ _ h
theorem mk_first (m : Made H0 P q H1) (hu : ∀ p ∈ Tb.T, p.1 = P → p.2 = q) (hc : H1 c = some (LamX.CodeO c q)) (hf : H1 f = none) (hp : upd H1 f (LamO f (Tb.L j) (cl j) c) p = none) : MkI P q cl H0 (upd (upd H1 f (LamO f (Tb.L j) (cl j) c)) p (.lst [.ref f])) p [(j, f, c)] := by
  have up : ∀ a o, H1 a = some o → upd (upd H1 f (LamO f (Tb.L j) (cl j) c)) p (.lst [.ref f]) a = some o := fun a o h => Ex.upd hp _ _ (Ex.upd hf _ _ h)
  have n0 : ∀ a, H1 a = none → H0 a = none := fun a h => by
    cases z : H0 a with
    | none => rfl
    | some o => obtain ⟨o', h'⟩ := m.lv z; rw [h] at h'; cases h'
  have pf : p ≠ f := fun z => by rw [z, upd_same] at hp; cases hp
  refine ⟨fun a o h ne => up a o (m.keep h ne), fun a o h => ?_, fun t => ((m.tabs hu t).ext fun _ _ h => up _ _ h), upd_same, n0 p (by rw [upd_ne pf] at hp; exact hp), fun u hu => ?_⟩
  · obtain ⟨o', h'⟩ := m.lv h
    exact ⟨o', up a o' h'⟩
  · rw [List.mem_singleton] at hu
    subst hu
    exact ⟨by rw [upd_ne (Ne.symm pf)]; exact upd_same, up _ _ hc, n0 f hf⟩
theorem mk_next (I : MkI P q cl H0 H p us) {ps0 : Array Value} (hP0 : H P = some (.tbl ps0)) (m : Made H P q H1) (hu : ∀ p ∈ Tb.T, p.1 = P → p.2 = q) (hc : H1 c = some (LamX.CodeO c q)) (hf : H1 f = none) :
    upd H1 f (LamO f (Tb.L j) (cl j) c) p = some (.lst (us.map fun u => .ref u.2.1)) ∧ MkI P q cl H0 (upd (upd H1 f (LamO f (Tb.L j) (cl j) c)) p (.lst ((us.map fun u => .ref u.2.1) ++ [.ref f]))) p (us ++ [(j, f, c)]) := by
  have nP : ∀ a o, H a = some o → NT o → a ≠ P := fun a o h nt z => by rw [z, hP0] at h; cases h; exact nt ps0 rfl
  have k1 : ∀ a o, H a = some o → a ≠ P → upd H1 f (LamO f (Tb.L j) (cl j) c) a = some o := fun a o h ne => Ex.upd hf _ _ (m.keep h ne)
  have hp := k1 p _ I.lst (nP p _ I.lst nt_lst)
  have pf : f ≠ p := fun z => by
    have := m.keep I.lst (nP p _ I.lst nt_lst)
    rw [← z, hf] at this; cases this
  have k2 : ∀ a o, upd H1 f (LamO f (Tb.L j) (cl j) c) a = some o → a ≠ p → upd (upd H1 f (LamO f (Tb.L j) (cl j) c)) p (.lst ((us.map fun u => .ref u.2.1) ++ [.ref f])) a = some o := fun a o h ne => by rw [upd_ne ne]; exact h
  have p0 : ∀ a o, H0 a = some o → a ≠ p := fun a o h z => by rw [z, I.pf] at h; cases h
  have nl : ∀ {a : Addr} {φ : Heap → Prop}, H a = some (.ext φ) → a ≠ p := fun {a φ} h z => by rw [z, I.lst] at h; cases h
  refine ⟨hp, fun a o h ne => k2 a o (k1 a o (I.keep a o h ne) ne) (p0 a o h), fun a o h => ?_, fun t => ?_, by rw [upd_same, List.map_append]; rfl, I.pf, fun u hu => ?_⟩
  · obtain ⟨o1, h1⟩ := I.lv a o h
    obtain ⟨o2, h2⟩ := m.lv h1
    exact ⟨o2, k2 a o2 (Ex.upd hf _ _ h2) (p0 a o h)⟩
  · have t1 : LamX.Tabs Tb.T (upd H1 f (LamO f (Tb.L j) (cl j) c)) := (m.tabs hu (I.tab t)).ext fun _ _ h => Ex.upd hf _ _ h
    intro x hx
    obtain ⟨ps, h1, h2, h3⟩ := t1 x hx
    refine ⟨ps, k2 _ _ h1 (fun z => by rw [z, hp] at h1; cases h1), h2, fun pos cv hcv => ?_⟩
    obtain ⟨c0, e1, e2⟩ := h3 pos cv hcv
    exact ⟨c0, e1, k2 _ _ e2 fun z => by rw [z, hp] at e2; cases e2⟩
  · rcases List.mem_append.mp hu with hu | hu
    · obtain ⟨a1, a2, a3⟩ := I.fn u hu
      exact ⟨k2 _ _ (k1 _ _ a1 (nP _ _ a1 fun _ z => by unfold LamO at z; cases z)) (nl a1), k2 _ _ (k1 _ _ a2 (nP _ _ a2 fun _ z => by unfold LamX.CodeO at z; cases z)) (nl a2), a3⟩
    · rw [List.mem_singleton] at hu
      subst hu
      refine ⟨k2 _ _ upd_same pf, k2 _ _ (Ex.upd hf _ _ hc) fun z => ?_, ?_⟩
      · have z : c = p := z
        have h1 := m.keep I.lst (nP p _ I.lst nt_lst)
        rw [z] at hc
        rw [h1] at hc
        have hc := Option.some.inj hc
        unfold LamX.CodeO at hc
        cases hc
      · cases z : H0 f with
        | none => rfl
        | some o =>
          obtain ⟨o1, h1⟩ := I.lv f o z
          obtain ⟨o2, h2⟩ := m.lv h1
          rw [hf] at h2; cases h2
end
/-! ### its end: the cells are known from then on -/
def pick {α : Type} (ix : List Nat) (xs : List α) : List α := ix.filterMap fun i => xs[i]?
theorem pick_get {α : Type} {xs : List α} : ∀ {ix : List Nat} {k i : Nat}, (∀ i ∈ ix, i < xs.length) → ix[k]? = some i → (pick ix xs)[k]? = xs[i]?
  | [], k, i, _, h => by simp at h
  | j :: ix, 0, i, hi, h => by
    simp at h; subst h
    have := hi j List.mem_cons_self
    unfold pick
    rw [List.filterMap_cons, List.getElem?_eq_getElem this]
    rfl
  | j :: ix, k + 1, i, hi, h => by
    have := hi j List.mem_cons_self
    unfold pick
    rw [List.filterMap_cons, List.getElem?_eq_getElem this]
    exact pick_get (ix := ix) (k := k) (fun x hx => hi x (List.mem_cons_of_mem _ hx)) (by simpa using h)
theorem pick_len {α : Type} {xs : List α} : ∀ {ix : List Nat}, (∀ i ∈ ix, i < xs.length) → (pick ix xs).length = ix.length
  | [], _ => rfl
  | j :: ix, hi => by
    have := hi j List.mem_cons_self
    unfold pick
    rw [List.filterMap_cons, List.getElem?_eq_getElem this]
    have r := pick_len (xs := xs) (ix := ix) fun x hx => hi x (List.mem_cons_of_mem _ hx)
    unfold pick at r
    simpa using r
theorem pick_rps {G : Hp} {vs : List V} {ds : List FW.D} (r : Rps G vs ds) : ∀ ix : List Nat, Rps G (pick ix vs) (pick ix ds)
  | [] => .nil
  | j :: ix => by
    unfold pick
    rw [List.filterMap_cons, List.filterMap_cons]
    have t := pick_rps r ix
    unfold pick at t
    cases h : vs[j]? with
    | none =>
      have h2 : ds[j]? = none := List.getElem?_eq_none_iff.mpr (by rw [← r.length]; exact List.getElem?_eq_none_iff.mp h)
      rw [h2]; exact t
    | some v =>
      obtain ⟨d, hd, rd⟩ := r.get' h
      rw [hd]; exact .cons rd t
/-- a lambda fits the names of the def that makes it; ix: where they stand -/
structure LFit (N : List Str) (n : Nat) (sc : Scope) (l : LF) (ix : List Nat) : Prop where
  len : l.fr.length = ix.length
  nm : ∀ (i : Nat) (y : Str), l.fr[i]? = some y → ∃ i', ix[i]? = some i' ∧ N[i']? = some y ∧ sc.names.lookup y = some .cell
  lt : ∀ i ∈ ix, i < n
  free : ∀ y ∈ l.scope.names, y.2 = .free → y.1 ∈ l.fr
  frk : ∀ x ∈ l.fr, l.scope.names.lookup x = some .free
def lfitB (N : List Str) (n : Nat) (sc : Scope) (l : LF) (ix : List Nat) : Bool :=
  decide (l.fr.length = ix.length) && ((List.range l.fr.length).all fun i => (l.fr[i]?).any fun y => (ix[i]?).any fun i' => decide (N[i']? = some y) && decide (sc.names.lookup y = some .cell)) && ix.all (fun i => decide (i < n)) && l.scope.names.all (fun y => !decide (y.2 = .free) || decide (y.1 ∈ l.fr)) && l.fr.all fun x => decide (l.scope.names.lookup x = some .free)
theorem lfit_by {N : List Str} {n : Nat} {sc : Scope} {l : LF} {ix : List Nat} (h : lfitB N n sc l ix = true) : LFit N n sc l ix := by
  unfold lfitB at h
  simp only [Bool.and_eq_true, decide_eq_true_eq, List.all_eq_true, Bool.or_eq_true, Bool.not_eq_true', decide_eq_false_iff_not] at h
  obtain ⟨⟨⟨⟨h1, h2⟩, h3⟩, h4⟩, h5⟩ := h
  refine ⟨h1, fun i y hy => ?_, h3, fun y hy e => (h4 y hy).elim (fun z => absurd e z) id, h5⟩
  have hi := (List.getElem?_eq_some_iff.mp hy).1
  have := h2 i (List.mem_range.mpr hi)
  rw [hy] at this
  cases hx : ix[i]? with
  | none => rw [hx] at this; simp at this
  | some i' => rw [hx] at this; simp at this; exact ⟨i', rfl, this⟩
/-- what the cell at a holds: the argument of a name -/
def CellV (X : Cx) (vs : List V) (a : Addr) (v : V) : Prop := ∃ (y : Str) (i : Nat), X.env.cells.lookup y = some a ∧ X.N[i]? = some y ∧ vs[i]? = some v ∧ X.env.scope.names.lookup y = some .cell
open Classical in
/-- the heap with the cells known -/
noncomputable def celC (X : Cx) (vs : List V) (H : Hp) : Hp := fun a => if h : ∃ v, CellV X vs a v then some (CelO a h.choose) else H a
open Classical in
/-- the ground with all that was made -/
noncomputable def celG (G H' : Hp) (M : Addr → Prop) : Hp := fun a => match G a with
  | some o => some o
  | none => if M a then H' a else none
section
variable {X : Cx} {pins : List (Addr × Obj)} {σ : L2.St} {H H' G : Hp} {s : Shared} {vs : List V} {a : Addr} {v : V} {M : Addr → Prop}
theorem CellV.uniq (ok : X.Ok) (nd : X.N.Nodup) {v' : V} (h : CellV X vs a v) (h' : CellV X vs a v') : v = v' := by
  obtain ⟨y, i, h1, h2, h3, _⟩ := h
  obtain ⟨z, j, k1, k2, k3, _⟩ := h'
  have := ok.inj _ _ _ h1 k1
  subst this
  have := nodup_ix nd h2 k2
  subst this
  rw [h3] at k3
  exact Option.some.inj k3
theorem cel_in (ok : X.Ok) (nd : X.N.Nodup) (h : CellV X vs a v) : celC X vs H a = some (CelO a v) := by
  have hx : ∃ v, CellV X vs a v := ⟨v, h⟩
  unfold celC
  rw [dif_pos hx, CellV.uniq ok nd hx.choose_spec h]
theorem cel_out (h : H a ≠ none) (I : Inv X pins σ H s) : celC X vs H a = H a := by
  unfold celC
  rw [dif_neg]
  rintro ⟨v, y, i, h1, _⟩
  exact h (I.freeC y a h1)
theorem cel_som {o : HO} (I : Inv X pins σ H s) (h : H a = some o) : celC X vs H a = some o := by
  rw [cel_out (by rw [h]; simp) I]; exact h
theorem cel_cases {o : HO} (h : celC X vs H a = some o) : (∃ v, CellV X vs a v ∧ o = CelO a v) ∨ H a = some o := by
  unfold celC at h
  by_cases hx : ∃ v, CellV X vs a v
  · rw [dif_pos hx] at h
    exact .inl ⟨_, hx.choose_spec, (Option.some.inj h).symm⟩
  · rw [dif_neg hx] at h; exact .inr h
theorem cel_cell (I : Inv X pins σ H s) (hσ : ∀ (i : Nat) (v : V), vs[i]? = some v → σ[i]? = some (some v)) (h : CellV X vs a v) : ∃ u, RelV v u ∧ s.heap.IsCell a (some u) := by
  obtain ⟨y, i, h1, h2, h3, h4⟩ := h
  obtain ⟨m, _, hl⟩ := I.loc
  obtain ⟨u, r, q⟩ := hl i y v h2 (hσ i v h3) (.inr (.inl h4))
  refine ⟨u, r, ?_⟩
  rcases q with ⟨k, _⟩ | ⟨_, c, e, z⟩
  · have k : X.env.scope.names.lookup y = some .local := k
    rw [h4] at k; cases k
  · rw [h1] at e; cases e; exact z
theorem celG_ex (eg : Ex G H') : Ex (celG G H' M) H' := fun a o h => by
  unfold celG at h
  cases g : G a with
  | some o' => rw [g] at h; exact eg a o (by rw [g]; exact h)
  | none =>
    rw [g] at h
    by_cases m : M a
    · simp only [if_pos m] at h; exact h
    · simp only [if_neg m] at h; cases h
theorem celG_in (eg : Ex G H') {o : HO} (m : M a) (h : H' a = some o) : celG G H' M a = some o := by
  unfold celG
  cases g : G a with
  | some o' => have := eg a o' g; rw [h] at this; exact this.symm
  | none => simp only [if_pos m]; exact h
theorem celG_old : Ex G (celG G H' M) := fun a o h => by
  unfold celG
  rw [h]
theorem celG_cases {o : HO} (h : celG G H' M a = some o) : G a = some o ∨ (M a ∧ H' a = some o) := by
  unfold celG at h
  cases g : G a with
  | some o' => rw [g] at h; exact .inl h
  | none =>
    rw [g] at h
    by_cases m : M a
    · simp only [if_pos m] at h; exact .inr ⟨m, h⟩
    · simp only [if_neg m] at h; cases h
theorem celO_ok {P : Program} {w : World} {H : Hp} {h : Heap} {u : Value} (r : RelV v u) (c : h.IsCell a (some u)) : ObjOk P w H h a (CelO a v) := by
  have c' := c
  obtain ⟨o, ho, hd⟩ := c'
  refine ⟨⟨u, r, c⟩, ⟨o, ho⟩, fun h1 h2 ⟨u, r, o, ho, hd⟩ st => ⟨u, r, o, st _ ho, hd⟩⟩
end
/-- the list is handed back -/
theorem mk_fin {P : Program} {w : World} {K : PySem.W.Frag} {mg : Str → Option Value} {base : Heap} {N : List Str} {qual q : Str} {scope : Scope} {f c T p : Addr} {A : Around} {outer : List Env} {s s' : Shared} {H0 H G : Hp} {E : XK} {σ : L2.St} {us : List (Nat × Addr × Addr)} {js : List (Nat × List Nat)} {vs : List V} {ds : List FW.D} {Q : VK}
    (I : Inv (cxOf CX0 P w K mg base N qual scope f (.ref c) A outer s H0 E) [] σ H s') (nd : N.Nodup) (hσ : ∀ (i : Nat) (v : V), vs[i]? = some v → σ[i]? = some (some v))
    (M : MkI T q (fun j => cloFrom (cxOf CX0 P w K mg base N qual scope f (.ref c) A outer s H0 E).env.cells (Tb.L j).scope.names []) H0 H p us) (hus : us.map (·.1) = js.map (·.1)) (fits : ∀ u ∈ js, LFit N vs.length scope (Tb.L u.1) u.2 ∧ (Tb.L u.1).q = q)
    (t : TbOk G H0) (hT : (T, q) ∈ Tb.T) (eg : Ex G H0) (rs : Rps G vs ds) (out : ∀ G' H', PSt G H0 G' H' → Rp G' (.ref p) (.list (js.map fun u => thD u.1 (pick u.2 ds))) → Q (.ref p) H') : CE outer P w H0 s Q (.ref p) s' := by
  have ok := I.ok
  obtain ⟨ps0, hP0⟩ := t.at hT
  generalize hX : cxOf CX0 P w K mg base N qual scope f (.ref c) A outer s H0 E = X at I M ok
  have hN : X.N = N := by rw [← hX]; rfl
  have hsc : X.env.scope = scope := by rw [← hX]; rfl
  have hfn : X.fn = fun _ => true := by rw [← hX]; rfl
  have hs0 : X.s_0 = s := by rw [← hX]; rfl
  have hH0 : X.H_0 = H0 := by rw [← hX]; rfl
  have hex : X.ex = [] := by rw [← hX]; rfl
  have hou : X.fs = frs outer := by rw [← hX]; rfl
  have hpr : X.prog = P := by rw [← hX]; rfl
  have hw : X.w = w := by rw [← hX]; rfl
  have ndX : X.N.Nodup := by rw [hN]; exact nd
  have som : ∀ a o, H a = some o → celC X vs H a = some o := fun a o h => cel_som I h
  have cab : ∀ a v, CellV X vs a v → ∀ o, s.heap.get? a ≠ some o := fun a v ⟨y, i, h1, _⟩ o e => by
    have h2 := ok.cab y a (by rw [hfn]) h1
    rw [hs0] at h2
    exact Nat.lt_irrefl _ (Nat.lt_of_lt_of_le (Heap.lt_size e) h2)
  have old : ∀ a o, H0 a = some o → a ≠ T → celC X vs H a = some o := fun a o h ne => som a o (M.keep a o h ne)
  have eg2 : Ex G (celC X vs H) := fun a o h => old a o (eg a o h) fun z => by
    subst z
    rw [t.g (a, q) hT] at h; cases h
  generalize hMd : (fun a => a = p ∨ (∃ u ∈ us, a = u.2.1 ∨ a = u.2.2) ∨ ∃ v, CellV X vs a v) = Md
  have mp : Md p := by rw [← hMd]; exact .inl rfl
  have mf : ∀ u ∈ us, Md u.2.1 := fun u hu => by rw [← hMd]; exact .inr (.inl ⟨u, hu, .inl rfl⟩)
  have mc : ∀ u ∈ us, Md u.2.2 := fun u hu => by rw [← hMd]; exact .inr (.inl ⟨u, hu, .inr rfl⟩)
  have mv : ∀ a v, CellV X vs a v → Md a := fun a v h => by rw [← hMd]; exact .inr (.inr ⟨v, h⟩)
  have ps : PSt G H0 (celG G (celC X vs H) Md) (celC X vs H) := ⟨celG_old, celG_ex eg2, ⟨fun a o h nt => old a o h fun z => (by subst z; rw [hP0] at h; cases h; exact nt ps0 rfl), fun a o h => by
      obtain ⟨o', h'⟩ := M.lv a o h
      exact ⟨o', som a o' h'⟩, fun t0 => (M.tab t0).ext som⟩, fun a o nc h => by
    rcases celG_cases h with h | ⟨m, h⟩
    · exact .inl h
    · rw [← hMd] at m
      rcases m with m | ⟨u, hu, m⟩ | ⟨v, m⟩
      · subst m; exact .inr M.pf
      · obtain ⟨a1, a2, _⟩ := M.fn u hu
        rcases m with m | m
        · subst m
          rw [som _ _ a1] at h; cases h
          exact absurd rfl (nc _)
        · subst m
          rw [som _ _ a2] at h; cases h
          exact absurd rfl (nc _)
      · rw [cel_in ok ndX m] at h; cases h
        exact absurd rfl (nc _)⟩
  have rp : Rp (celG G (celC X vs H) Md) (.ref p) (.list (js.map fun u => thD u.1 (pick u.2 ds))) := by
    refine .lst (celG_in eg2 mp (som _ _ M.lst)) ?_
    have rs' := rs.mono (celG_old (G := G) (H' := celC X vs H) (M := Md))
    have key : ∀ (us' : List (Nat × Addr × Addr)) (js' : List (Nat × List Nat)), us'.map (·.1) = js'.map (·.1) → (∀ u ∈ us', u ∈ us) → (∀ u ∈ js', u ∈ js) → Rps (celG G (celC X vs H) Md) (us'.map fun u => V.ref u.2.1) (js'.map fun u => thD u.1 (pick u.2 ds)) := by
      intro us'
      induction us' with
      | nil => intro js' e _ _; cases js' with | nil => exact .nil | cons _ _ => cases e
      | cons u us' ih =>
        intro js' e hu hj
        cases js' with
        | nil => cases e
        | cons g js' =>
          rw [List.map_cons, List.map_cons] at e
          injection e with e1 e2
          rw [List.map_cons, List.map_cons]
          refine .cons ?_ (ih js' e2 (fun x hx => hu x (List.mem_cons_of_mem _ hx)) fun x hx => hj x (List.mem_cons_of_mem _ hx))
          have mu := hu u List.mem_cons_self
          obtain ⟨a1, a2, _⟩ := M.fn u mu
          obtain ⟨fit, hq⟩ := fits g (hj g List.mem_cons_self)
          rw [← e1] at fit hq
          rw [← e1]
          refine .thk (celG_in eg2 (mf u mu) (som _ _ a1)) (by rw [hq]; exact celG_in eg2 (mc u mu) (som _ _ a2)) ?_ (pick_rps rs' g.2)
          have hfree : ∀ y ∈ (Tb.L u.1).scope.names, y.2 = .free → ∃ c, X.env.cells.lookup y.1 = some c := fun y hy z => by
            obtain ⟨i, hi⟩ := List.mem_iff_getElem?.mp (fit.free y hy z)
            obtain ⟨i', _, _, h3⟩ := fit.nm i _ hi
            rw [← hsc] at h3
            exact ok.has _ (.inl h3)
          have cm : ∀ {y c}, (cloFrom X.env.cells (Tb.L u.1).scope.names []).lookup y = some c → X.env.cells.lookup y = some c := fun {y c} e => NdefX.clo_cm hfree e
          refine ⟨by rw [pick_len fit.lt, fit.len], fun x y c h1 h2 => ok.inj x y c (cm h1) (cm h2), fun y c h => ?_, fun i y h => ?_⟩
          · rcases cloFrom_mem (PySem.mem_of_lookup h) with hm | ⟨h1, _⟩
            · cases hm
            · exact fit.free _ h1 rfl
          · obtain ⟨i', h1, h2, h3⟩ := fit.nm i y h
            have hi' := fit.lt i' (List.mem_of_getElem? h1)
            have hy := PySem.mem_of_lookup (fit.frk y (List.mem_of_getElem? h))
            obtain ⟨c', hc'⟩ := mem_lookup (cloFrom_has (cells := X.env.cells) (acc := []) hy)
            have cv : CellV X vs c' vs[i'] := ⟨y, i', cm hc', by rw [hN]; exact h2, List.getElem?_eq_getElem hi', by rw [hsc]; exact h3⟩
            refine ⟨c', vs[i'], hc', ?_, celG_in eg2 (mv _ _ cv) (cel_in ok ndX cv)⟩
            rw [pick_get fit.lt h1, List.getElem?_eq_getElem hi']
    exact key us js hus (fun _ h => h) fun _ h => h
  have un := I.base
  rw [hou, hex, hH0, hs0] at un
  refine ⟨.ref p, celC X vs H, by rw [← hs0]; exact I.os, I.bare, ⟨un.keep, un.slot, fun b o e n hx => ?_, un.there, fun b xs q => som _ _ (un.tups b xs q), fun b o xs q => som _ _ (un.frzs b o xs q), fun b ps q => ?_⟩, fun a o h => ?_, rfl, out _ _ ps rp⟩
  · have h1 := un.free b o e n hx
    unfold celC
    rw [dif_neg (fun ⟨v, hv⟩ => cab b v hv o e)]
    exact h1
  · obtain ⟨more, e⟩ := un.tbls b ps q
    exact ⟨more, som _ _ e⟩
  · rcases cel_cases h with ⟨v, hv, e⟩ | h
    · subst e
      obtain ⟨u, r, z⟩ := cel_cell I hσ hv
      exact celO_ok r z
    · have := I.hok a o h
      rw [hpr, hw] at this
      exact this.stay (fun _ _ _ q => q) (fun b q => som _ _ q) fun b xs q => som _ _ q
end FW

namespace FW
open PySem PySem.Spec PyProof.Rows L2
variable [Tb]
/-! ### the steps of a def that makes a list of lambdas -/
abbrev clX (X : Cx) : Nat → List (Str × Addr) := fun j => cloFrom X.env.cells (Tb.L j).scope.names []
structure MkC (X : Cx) (T : Addr) (q : Str) (c : Addr) (H0 : Hp) (σ0 : L2.St) (js : List Nat) (R : Value → Shared → Prop) : Prop where
  TB : LamX.TabB X.base X.mg c T
  hc : X.env.code = .ref c
  hq : X.env.qual ++ "<lambda>" = q
  hT : (T, q) ∈ Tb.T
  hu : ∀ p ∈ Tb.T, p.1 = T → p.2 = q
  t : LamX.Tabs Tb.T H0
  fin : ∀ s' H σ us p, Inv X [] σ H s' → MkI T q (clX X) H0 H p us → us.map (·.1) = js → (∀ (i : Nat) (v : V), σ0[i]? = some (some v) → σ[i]? = some (some v)) → R (.ref p) s'
def RR (R : Value → Shared → Prop) (fl : Flow) (s' : Shared) : Prop := match fl with
  | .ret u => R u s'
  | _ => False
section
variable {X : Cx} {T c p : Addr} {q : Str} {H0 H : Hp} {σ0 : L2.St} {js : List Nat} {R : Value → Shared → Prop} {s : Shared} {us : List (Nat × Addr × Addr)} {rest : List Stmt} {x : Str} {px p1 p2 p3 lpos pos : Pos}
/-- return xs -/
theorem mkb_ret (n : Nat) (C : MkC X T q c H0 σ0 js R) (I : Inv X [] (σ0.set n (some (.ref p))) H s) (M : MkI T q (clX X) H0 H p us) (hj : us.map (·.1) = js) (hn : ∀ v, σ0[n]? ≠ some (some v)) (hN : X.N[n]? = some x := by rfl)
    (hv : Vis X.env.scope x := by first | exact Or.inl rfl | exact Or.inr (Or.inl rfl) | exact Or.inr (Or.inr rfl)) (hd : (x == ("__debug__" : Str)) = false := by decide) (hcd : (x == ("__classdict__" : Str)) = false := by decide) :
    wpAny (model X.prog X.w) X.A (execs [.Return (some (.Name x px)) pos] X.env) (RR R) X.xe s := by
  have hl : n < σ0.length := by
    have := I.len
    rw [List.length_set] at this
    rw [this]; exact (List.getElem?_eq_some_iff.mp hN).1
  have hs : (σ0.set n (some (.ref p)))[n]? = some (some (.ref p)) := List.getElem?_set_self hl
  refine wpAny_execs_cons (thn (wpAny_Return_some (Q := RR R) (thn ((pe_var (pos := px) (i := n) hN hv hd hcd).run [] s _ H (fun v H1 => v = .ref p ∧ H1 = H) I ⟨.ref p, hs, rfl, rfl⟩) fun u s1 ⟨v, H1, I1, r1, e1, e2⟩ => ?_)) fun fl s1 h => ?_)
  · subst e1; subst e2
    obtain rfl : u = Value.ref p := r1
    refine C.fin s1 _ _ us p I1 M hj fun i v hi => ?_
    rw [List.getElem?_set_ne (fun z => by subst z; exact hn v hi)]
    exact hi
  · cases fl with
    | ret u => exact h
    | next => exact False.elim h
    | brk => exact False.elim h
    | cont => exact False.elim h
/-- xs = [lambda: ..] -/
theorem mkb_first (n j : Nat) {params : Arguments} {body : Expr} {scope : Scope} {fr : List Str} (hl : Tb.L j = ⟨q, params, body, scope, fr⟩) (C : MkC X T q c H0 σ0 js R) (I : Inv X [] σ0 H0 s) (hND : X.N.Nodup) (hdef : defaultsOf params X.env = ([], [])) (hfree : ∀ y ∈ scope.names, y.2 = .free → X.env.scope.names.lookup y.1 = some .cell)
    (k : ∀ s' H p f c', Inv X [] (σ0.set n (some (.ref p))) H s' → MkI T q (clX X) H0 H p [(j, f, c')] → wpAny (model X.prog X.w) X.A (execs rest X.env) (RR R) X.xe s')
    (hN : X.N[n]? = some x := by rfl) (hx : Loc X.env.scope x := by first | exact .inl rfl | exact .inr rfl) (he : starEach [.Lambda params body scope lpos] X.env = (false, eval (.Lambda params body scope lpos) X.env) :: starEach [] X.env := by rfl)
    (hs : swapsWith (.List [.Lambda params body scope lpos] p1) (some (.Name x px)) pos.line X.env = pure false := by rfl) (hf : X.fn x = true ∨ X.env.scope.names.lookup x = some .local := by first | exact .inl rfl | exact .inr rfl) :
    wpAny (model X.prog X.w) X.A (execs (.Assign [.Name x px] (.List [.Lambda params body scope lpos] p1) pos :: rest) X.env) (RR R) X.xe s := by
  have ps := ps_set (X := X) (pos := pos) (pos' := px) (i := n) hND hN hx (pe_lst (pos := p1) (pa_cons (pe_lm (l := ⟨q, params, body, scope, fr⟩) (pos := lpos) C.TB C.hc C.hq hdef hfree) pa_nil he)) hs hf
  refine wpAny_execs_cons (thn (ps.run [] s σ0 H0 { nx := fun σ H => ∃ p f c', σ = σ0.set n (some (.ref p)) ∧ MkI T q (clX X) H0 H p [(j, f, c')], rt := fun _ _ => False } I ⟨C.t _ C.hT, fun f c' H1 md hc hf1 => ⟨by show 1 ≤ sizeLine; decide, fun p hp => ⟨p, f, c', rfl, ?_⟩⟩⟩) fun fl s1 h => ?_)
  · have := mk_first (j := j) (cl := clX X) md C.hu hc hf1 (p := p) (by rw [hl]; unfold clX; rw [hl]; exact hp)
    unfold clX at this
    rw [hl] at this
    unfold clX
    exact this
  · cases fl with
    | next =>
      obtain ⟨σ', H', J, p, f, c', e, M⟩ := h
      subst e
      exact k s1 H' p f c' J M
    | ret u =>
      obtain ⟨_, _, _, _, _, q⟩ := h
      exact q.elim
    | brk =>
      obtain ⟨_, _, _, q⟩ := h
      exact q.elim
    | cont =>
      obtain ⟨_, _, _, q⟩ := h
      exact q.elim
/-- xs.append(lambda: ..) -/
theorem mkb_app (n j : Nat) {params : Arguments} {body : Expr} {scope : Scope} {fr : List Str} (hl : Tb.L j = ⟨q, params, body, scope, fr⟩) (C : MkC X T q c H0 σ0 js R) (I : Inv X [] (σ0.set n (some (.ref p))) H s) (M : MkI T q (clX X) H0 H p us) (hlen : us.length < 900) (hdef : defaultsOf params X.env = ([], [])) (hfree : ∀ y ∈ scope.names, y.2 = .free → X.env.scope.names.lookup y.1 = some .cell)
    (k : ∀ s' H f c', Inv X [] (σ0.set n (some (.ref p))) H s' → MkI T q (clX X) H0 H p (us ++ [(j, f, c')]) → wpAny (model X.prog X.w) X.A (execs rest X.env) (RR R) X.xe s')
    (hN : X.N[n]? = some x := by rfl) (hv : Vis X.env.scope x := by first | exact Or.inl rfl | exact Or.inr (Or.inl rfl) | exact Or.inr (Or.inr rfl)) (hd : (x == ("__debug__" : Str)) = false := by decide) (hcd : (x == ("__classdict__" : Str)) = false := by decide)
    (hs1 : starEach (.Lambda params body scope lpos :: []) X.env = (false, eval (.Lambda params body scope lpos) X.env) :: starEach [] X.env := by rfl) (hs : swapsWith (.Call (.Attribute (.Name x p1) "append" p2) [.Lambda params body scope lpos] [] p3) none pos.line X.env = pure false := by rfl)
    (hbase : attributeBase (.Name x p1) "append" X.env (eval (.Name x p1) X.env) = eval (.Name x p1) X.env := by rfl)
    (hfew : ((backTo p3 (starEach (.Lambda params body scope lpos :: []) X.env)).all (fun x => !x.1) && (backToKw p3 (keywordEach [] X.env)).all (fun x => x.1.isSome)
      && decide (((.Lambda params body scope lpos) :: ([] : List Expr)).length + ([] : List Keyword).length + (if ([] : List Keyword).isEmpty then 0 else 1) < 30)) = true := by rfl)
    (hline : (p2.endLine == p3.line) = true := by rfl) :
    wpAny (model X.prog X.w) X.A (execs (.Expr (.Call (.Attribute (.Name x p1) "append" p2) [.Lambda params body scope lpos] [] p3) pos :: rest) X.env) (RR R) X.xe s := by
  have hlt : n < σ0.length := by
    have := I.len
    rw [List.length_set] at this
    rw [this]; exact (List.getElem?_eq_some_iff.mp hN).1
  have hse : (σ0.set n (some (.ref p)))[n]? = some (some (.ref p)) := List.getElem?_set_self hlt
  obtain ⟨ps0, hP0, _⟩ := M.tab C.t _ C.hT
  have ps := ps_expr (X := X) (pos := pos) (pe_bm (cpos := p3) (apos := p2) PySem.F.plainAttrs_list PySem.F.slot_list_append PySem.F.type_list_append mt_append (pe_var (i := n) (pos := p1) hN hv hd hcd) (pa_cons (pe_lm (l := ⟨q, params, body, scope, fr⟩) (pos := lpos) C.TB C.hc C.hq hdef hfree) pa_nil hs1) hbase hfew hline hs1) hs
  refine wpAny_execs_cons (thn (ps.run [] s _ H { nx := fun σ H => ∃ f c', σ = σ0.set n (some (.ref p)) ∧ MkI T q (clX X) H0 H p (us ++ [(j, f, c')]), rt := fun _ _ => False } I ⟨.ref p, hse, .inl ⟨rfl, _, SqL.of M.lst⟩, M.tab C.t _ C.hT, fun f c' H1 md hc hf1 => ?_⟩) fun fl s1 h => ?_)
  · have := mk_next (j := j) (cl := clX X) M hP0 md C.hu hc hf1
    unfold clX at this
    rw [hl] at this
    refine ⟨p, _, _, rfl, rfl, this.1, by rw [List.length_map]; show us.length < sizeLine; rw [sizeLine_eq]; omega, f, c', rfl, ?_⟩
    unfold clX
    exact this.2
  · cases fl with
    | next =>
      obtain ⟨σ', H', J, f, c', e, M⟩ := h
      subst e
      exact k s1 H' f c' J M
    | ret u =>
      obtain ⟨_, _, _, _, _, q⟩ := h
      exact q.elim
    | brk =>
      obtain ⟨_, _, _, q⟩ := h
      exact q.elim
    | cont =>
      obtain ⟨_, _, _, q⟩ := h
      exact q.elim
end
section
variable {P : Program} {w : World} {K : PySem.W.Frag} {mg : Str → Option Value} {base : Heap}
/-- what such a def promises -/
def zMk (n : Nat) (js : List (Nat × List Nat)) : Zp := fun ds kt _ _ => ds.length = n ∧ kt (.list (js.map fun u => thD u.1 (pick u.2 ds)))
theorem fn_okMk {x qual q : Str} {st : Stmt} {f c : Addr} {fd : FuncData} {N ps : List Str} {k : Nat} {js : List (Nat × List Nat)} (F : FunC K x qual st f fd c) (S : FnScope N ps (defScope st)) (M : Mk base mg c q) (fits : ∀ u ∈ js, LFit N ps.length (defScope st) (Tb.L u.1) u.2 ∧ (Tb.L u.1).q = q)
    (hq : qual ++ ".<locals>." ++ "<lambda>" = q)
    (hb : ∀ (A : Around) (outer : List Env) (s : Shared) (H : Hp) (E : XK) (T : Addr) (vs : List V) (R : Value → Shared → Prop) (s1 : Shared), vs.length = ps.length → MkC (cxOf CX0 P w K mg base N qual (defScope st) f (.ref c) A outer s H E) T q c H (L2.start N vs) (js.map (·.1)) R → Inv (cxOf CX0 P w K mg base N qual (defScope st) f (.ref c) A outer s H E) [] (L2.start N vs) H s1 →
      wpAny (model P w) (A.deeper (envOfC qual (defScope st) s.heap.objs.size f (.ref c))) (execs (defBody st) (envOfC qual (defScope st) s.heap.objs.size f (.ref c))) (RR R) (cxOf CX0 P w K mg base N qual (defScope st) f (.ref c) A outer s H E).xe s1) : FnOk P w K mg base CX0 (k + 1) f fd ps (spPT (zMk ps.length js)) := by
  obtain ⟨oc, od, kV, doc, pm, an, ct, osl, rfl, lk, hcd⟩ := F.ex
  obtain ⟨T, TB, hT, hu⟩ := M
  refine ⟨fun vs H Q E h => ?_, fun A outer s H args us vs Q E hr e0 hbn r hsp => ?_⟩
  · obtain ⟨G, ds, kt, ko, ke, _, e, r, z, _⟩ := h
    rw [r.length]; exact z.1
  obtain ⟨G, ds, kt, ko, ke, t, eg, rs, ⟨zl, zk⟩, h1, _, _⟩ := hsp
  have hl : vs.length = ps.length := by rw [rs.length]; exact zl
  have KX : K.In s.heap := e0.mod.kin.keeps fun b o e => (e0.bs b o e).1
  have lim : s.heap.NoLimit := e0.mod.nolimit.keeps fun b o e => (e0.bs b o e).1
  have hkind : ∀ y ∈ ps.zip us, (defScope st).names.lookup y.1 = some .local ∨ ((defScope st).names.lookup y.1 = some .cell ∧ ((cellsFrom (s.heap.objs.size + 1) (defScope st).names []).lookup y.1).isSome = true) := fun ⟨n, v⟩ hy => by
    rcases S.par n (List.of_mem_zip hy).1 with q | q
    · exact .inl q
    · exact .inr ⟨q, PySem.W.cellsFrom_some _ _ _ (.inl q)⟩
  refine codeAny_call_function hr.depth (KX _ _ lk) rfl S.co S.gen rfl (PySem.W.codeRec_of KX hcd) (hbn _ _ _ _ ?_)
  refine wpAny_newFunctionEnv_cells S.kind hkind fun env he s1 x => ?_
  subst he
  refine ⟨lim.keeps x.toInCall.keep, codeAny_func ?_⟩
  have I : Inv (cxOf CX0 P w K mg base N qual (defScope st) f (.ref c) A outer s H E) [] (L2.start N vs) H s1 := inv_start S hr.hd e0 hl r x
  refine wpAny_mono (hb A outer s H E T vs (fun u s' => CE outer P w H s Q u s') s1 hl ⟨TB, rfl, hq, hT, hu, t.t, fun s' H' σ us p J M hj hσ => ?_⟩ I) (fun fl s' hs => ?_) fun e s' hs => hs
  · refine mk_fin J S.nd (fun i v hi => hσ i v ?_) M hj (by rw [hl]; exact fits) t hT eg rs fun G' H' ps rp => h1 _ G' _ H' zk ps rp
    unfold L2.start
    have hlt := (List.getElem?_eq_some_iff.mp hi).1
    rw [List.getElem?_append_left (by rw [List.length_map]; exact hlt), List.getElem?_map, hi]; rfl
  · cases fl with
    | ret u => exact hs
    | next => exact False.elim hs
    | brk => exact False.elim hs
    | cont => exact False.elim hs
end
end FW

namespace FW
open PySem PySem.Spec PyProof.Rows L2
variable [Tb]
/-! ### errors that bear a number -/
/-- isinstance(e, c), e the exception that the suite holds, its dict at dd -/
def rIsD (K : PySem.W.Frag) (D a dd : Addr) : List V → Hp → VK → Prop := fun xs H Q => (∃ fs, H dd = some (.xd fs)) ∧ rIsE K D a xs H Q
theorem call_isD {X : Cx} {a D dd : Addr} {oe : Obj} {pn : List (Addr × Obj)} (C : ExcC X.K D) (hz : Zc (.ref D) (some dd) oe) (hf : ∃ vs, oe.data = .fields vs) : CallR (X.suite a ((a, oe) :: pn)) (.builtin "isinstance") (rIsD X.K D a dd) := by
  intro pins s σ H xs us Q I r h
  obtain ⟨⟨fs, hd⟩, c, cv, b, rfl, hcv, e, q⟩ := h
  cases r with
  | cons rx rr =>
    cases rr with
    | cons rt rr =>
      cases rr
      cases rx
      have ec := hcv _ rt
      subst ec
      obtain ⟨hget, _⟩ := I.pin (a, oe) (List.mem_append.mpr (.inl List.mem_cons_self))
      obtain ⟨vs, hv⟩ := hf
      have hx : ObjOk X.prog X.w H s.heap dd (.xd fs) := I.hok dd _ hd
      obtain ⟨mA, ⟨od, es, ep, ho, _⟩, _⟩ := hx
      have J : PySem.W.InstAt s.heap a oe D (some od) := by
        obtain ⟨oc, od', oda, osl⟩ := oe
        obtain ⟨h1, h2⟩ := hz
        dsimp only at h1 h2 hv
        subst h1 h2 hv
        exact ⟨hget, rfl, rfl, ho⟩
      exact PySem.W.kia_one (PySem.W.kitx_exc (by obtain ⟨cd, hc, _⟩ := PySem.W.any_some C.hd; rw [hc]; rfl) C.hg C.hk C.hs C.ha C.hn C.ht C.hm) I.kIn J e (fun z => nomatch z) fun tk => ⟨.bl b, H, I.kept (t' := tk) fun _ _ z => z, rfl, q⟩
section
variable {X : Cx} {F : Fr} {S : List Sl} {P : Post} {pos p p2 pos2 : Pos} {NE : Addr} {EA : Ec → Addr}
theorem suf_d {xk : Xk} {a d : Addr} (h : xk.2.isSome = (some d).isSome) : ∃ n, xk.2 = some n ∧ sufSl xk a (some d) = .hld (.ref a) d (.xd [(("number" : Str), .int n)]) := by
  obtain ⟨c, n⟩ := xk
  cases n with
  | none => cases h
  | some n => exact ⟨n, rfl, rfl⟩
/-- isinstance(e, T) in a suite, the error with or without a number -/
theorem ep_isX (i : Nat) {a D C : Addr} {oe : Obj} {pn : List (Addr × Obj)} {xk : Xk} {dd : Option Addr} {x y : Str} {b : Bool} {p1 p3 : Pos} (B : BT X.mg) (hC : ExcC X.K D) (hdd : xk.2.isSome = dd.isSome) (hz : Zc (.ref D) dd oe) (hf : ∃ vs, oe.data = .fields vs) (hm : X.mg y = some (.ref C)) (hk : PySem.W.kitOne X.K (.ref D) (.ref C) = some b) (hS : S[i]? = some (sufSl xk a dd) := by rfl) (hN : X.N[i]? = some x := by rfl)
    (hv : Vis X.env.scope x := by first | exact Or.inl rfl | exact Or.inr (Or.inl rfl) | exact Or.inr (Or.inr rfl)) (hg : Gl X "isinstance" := by rfl) (hgT : Gl X y := by rfl) (hd : (x == ("__debug__" : Str)) = false := by decide) (hcd : (x == ("__classdict__" : Str)) = false := by decide) (hdy : (y == ("__debug__" : Str)) = false := by decide)
    (hs : starEach [.Name x p1, .Name y p3] X.env = (false, eval (.Name x p1) X.env) :: starEach [.Name y p3] X.env := by rfl) (hs2 : starEach [.Name y p3] X.env = (false, eval (.Name y p3) X.env) :: starEach [] X.env := by rfl) (hpl : (backTo pos (starEach [.Name y p3] X.env)).any (·.1) = false := by rfl) :
    Ep (X.suite a ((a, oe) :: pn)) F S (.Call (.Name "isinstance" p) [.Name x p1, .Name y p3] [] pos) (.bool b) := by
  cases dd with
  | none => exact ep_isE i B hC hz hf hm hk hS hN hv hg hgT hd hcd hdy hs hs2 hpl
  | some d =>
    obtain ⟨n, _, e⟩ := suf_d (a := a) hdd
    rw [e] at hS
    exact de_mk (pe_callB (X := X.suite a ((a, oe) :: pn)) (call_isD hC hz hf) hg B.isinstance (by decide +kernel) (pa_cons (pe_var (X := X.suite a ((a, oe) :: pn)) hN hv hd hcd) (pa_cons (pe_glob (X := X.suite a ((a, oe) :: pn)) (v := .ref C) hgT hm rfl hdy) pa_nil hs2) hs) (by decide) (by decide) hs hpl) fun σ H Q ⟨G, sv, k⟩ => by
      have q := sv.slot i _ hS
      exact ⟨.ref a, q.1, ⟨_, sv.gh _ _ q.2⟩, .ref C, .ref C, b, rfl, fun u ru => ru, hk, k _ S G _ H ⟨rfl, rfl⟩ (.refl sv) (.bl b)⟩
theorem ep_isXV (i : Nat) {a D : Addr} {oe : Obj} {pn : List (Addr × Obj)} {xk : Xk} {dd : Option Addr} {x : Str} {b : Bool} {p1 p3 : Pos} (B : BT X.mg) (hC : ExcC X.K D) (hdd : xk.2.isSome = dd.isSome) (hz : Zc (.ref D) dd oe) (hf : ∃ vs, oe.data = .fields vs) (hm : X.mg "ValueError" = none) (hk : PySem.W.kitOne X.K (.ref D) (.type "ValueError") = some b) (hS : S[i]? = some (sufSl xk a dd) := by rfl) (hN : X.N[i]? = some x := by rfl)
    (hv : Vis X.env.scope x := by first | exact Or.inl rfl | exact Or.inr (Or.inl rfl) | exact Or.inr (Or.inr rfl)) (hg : Gl X "isinstance" := by rfl) (hgT : Gl X "ValueError" := by rfl) (hd : (x == ("__debug__" : Str)) = false := by decide) (hcd : (x == ("__classdict__" : Str)) = false := by decide)
    (hs : starEach [.Name x p1, .Name "ValueError" p3] X.env = (false, eval (.Name x p1) X.env) :: starEach [.Name "ValueError" p3] X.env := by rfl) (hs2 : starEach [.Name "ValueError" p3] X.env = (false, eval (.Name "ValueError" p3) X.env) :: starEach [] X.env := by rfl) (hpl : (backTo pos (starEach [.Name "ValueError" p3] X.env)).any (·.1) = false := by rfl) :
    Ep (X.suite a ((a, oe) :: pn)) F S (.Call (.Name "isinstance" p) [.Name x p1, .Name "ValueError" p3] [] pos) (.bool b) := by
  cases dd with
  | none => exact ep_isV i B hC hz hf hm hk hS hN hv hg hgT hd hcd hs hs2 hpl
  | some d =>
    obtain ⟨n, _, e⟩ := suf_d (a := a) hdd
    rw [e] at hS
    exact de_mk (pe_callB (X := X.suite a ((a, oe) :: pn)) (call_isD hC hz hf) hg B.isinstance (by decide +kernel) (pa_cons (pe_var (X := X.suite a ((a, oe) :: pn)) hN hv hd hcd) (pa_cons (pe_bltn (X := X.suite a ((a, oe) :: pn)) (v := .ty "ValueError") hgT hm (by decide +kernel) rfl (by decide) (by decide)) pa_nil hs2) hs) (by decide) (by decide) hs hpl) fun σ H Q ⟨G, sv, k⟩ => by
      have q := sv.slot i _ hS
      exact ⟨.ref a, q.1, ⟨_, sv.gh _ _ q.2⟩, .ty "ValueError", .type "ValueError", b, rfl, fun u ru => ru, hk, k _ S G _ H ⟨rfl, rfl⟩ (.refl sv) (.bl b)⟩
/-- e.number -/
theorem ep_num (i : Nat) {a D : Addr} {oe : Obj} {pn : List (Addr × Obj)} {xk : Xk} {dd : Option Addr} {x : Str} {n : Int} {p1 : Pos} (T : XfC X.K D) (hno : PySem.W.findIn X.K (.ref D) "number" = some none) (hxn : xk.2 = some n) (hdd : xk.2.isSome = dd.isSome) (hz : Zc (.ref D) dd oe) (hf : ∃ vs, oe.data = .fields vs) (hS : S[i]? = some (sufSl xk a dd) := by rfl) (hN : X.N[i]? = some x := by rfl)
    (hv : Vis X.env.scope x := by first | exact Or.inl rfl | exact Or.inr (Or.inl rfl) | exact Or.inr (Or.inr rfl)) (hd : (x == ("__debug__" : Str)) = false := by decide) (hcd : (x == ("__classdict__" : Str)) = false := by decide) (hb : attributeBase (.Name x p1) "number" X.env (eval (.Name x p1) X.env) = eval (.Name x p1) X.env := by rfl) :
    Ep (X.suite a ((a, oe) :: pn)) F S (.Attribute (.Name x p1) "number" pos) (.int n) := by
  cases dd with
  | none => rw [hxn] at hdd; cases hdd
  | some d =>
    obtain ⟨m, e1, e⟩ := suf_d (a := a) hdd
    rw [hxn] at e1; cases e1
    rw [e] at hS
    exact de_mk (pe_xf (X := X) T hno hz hf (pe_var (X := X.suite a ((a, oe) :: pn)) hN hv hd hcd) hb) fun σ H Q ⟨G, sv, k⟩ => by
      have q := sv.slot i _ hS
      exact ⟨.ref a, q.1, rfl, rfl, d, _, .int n, rfl, sv.gh _ _ q.2, rfl, k _ S G _ H ⟨rfl, rfl⟩ (.refl sv) (.int n)⟩
/-! ### the class with an __init__ -/
/-- C.__init__(self, ..), C a class over ValueError without an __init__ -/
theorem pe_ninit {C : Addr} {x : Str} {e : Expr} {es : List Expr} {ta : TA} {pl : Sem Bool} {p1 : Pos} (hg : Gl X x) (hm : X.mg x = some (.ref C)) (r : ClX.CRead X.K C (.type "type")) (vC : PySem.W.findCls X.K (.ref C) (.type "type") "__init__" = some (.val (.builtin "ValueError.__init__"))) (ha : PA X (e :: es) ta)
    (hc : eval (.Call (.Attribute (.Name x p1) "__init__" p2) (e :: es) [] pos) X.env = (do
      let ov ← eval (.Name x p1) X.env
      standAt p2.atName
      let (f, first) ← holding [ov] (getMethod ov "__init__" pl)
      callWith pos f first (backTo pos (starEach (e :: es) X.env)) (backToKw pos (keywordEach [] X.env))) := by rfl)
    (he : starEach (e :: es) X.env = (false, eval e X.env) :: starEach es X.env := by rfl) (hpl : (backTo pos (starEach es X.env)).any (·.1) = false := by rfl) (hdb : (x == ("__debug__" : Str)) = false := by decide) :
    PE X (.Call (.Attribute (.Name x p1) "__init__" p2) (e :: es) [] pos) (tVeI X.K ta) := by
  refine ⟨fun pins s σ H Q I h => ?_⟩
  refine PySem.W.methodCall_KW (ld_glob I hg hm ?_ hdb) hc
  refine PySem.W.method_cls I.kIn r.ga (PySem.W.cls_value I.kIn r.rd vC (by decide +kernel) ?_)
  show wpAny _ _ (callWith pos (Value.builtin "ValueError.__init__") [] (backTo pos (starEach (e :: es) X.env)) []) _ _ _
  refine PyProof.Rows.callWith_method1 (thn (ha.run pos pins _ σ H _ (I.tok _) h) fun us s1 ⟨vs, H1, I1, r1, a, C, ws, ev, hl, T, ea, q⟩ => ?_) he hpl
  subst ev
  cases r1 with
  | @cons _ u0 _ ur ra rw' =>
    obtain rfl : u0 = Value.ref a := ra
    have hlen : ur.length ≤ sizeLine := by
      rw [← Paired.length rw', sizeLine_eq]
      omega
    exact oinit_ok T I1 ea hlen fun s' J => ⟨.non, H1, J, rfl, q⟩
/-- what __init__(self, number) of the class at C promises -/
def spIn (C : Addr) : Sp := fun vs H Q _ => ∃ (a : Addr) (n : Int), vs = [.ref a, .int n] ∧ H a = some (exo a C none) ∧ ∀ dx, H dx = none → dx ≠ a → Q .non (upd (upd H dx (exd dx [(("number" : Str), .int n)])) a (exo a C (some dx)))
/-- the class at C, made with a number -/
structure InOk (P : Program) (w : World) (K : PySem.W.Frag) (mg : Str → Option Value) (base : Heap) (k : Nat) (C : Addr) : Prop where
  T : OexC K C
  f : XfC K C
  no : PySem.W.findIn K (.ref C) "number" = some none
  ex : ∃ fI fd, PySem.W.findIn K (.ref C) "__init__" = some (some (.ref fI)) ∧ PySem.W.typeIn K (.ref fI) = some (.type "function") ∧ FnOk P w K mg base CX0 k fI fd ["self", "number"] (spIn C) ∧ Binds K fd ["self", "number"] []
theorem upd_del {H : Hp} {a d : Addr} {o1 o2 o3 o4 : HO} (ha : H a = none) (hda : d ≠ a) : upd (del (upd (upd (upd H a o1) d o2) a o3) a) d o4 = upd H d o4 := by
  funext b
  by_cases hb : b = d
  · subst hb; rw [upd_same, upd_same]
  · rw [upd_ne hb, upd_ne hb]
    by_cases hba : b = a
    · subst hba; rw [del_same, ha]
    · rw [del_ne hba, upd_ne hba, upd_ne hb, upd_ne hba]
/-- raise C(n) -/
theorem ds_raiseN {W : WX} {k : Nat} {e : Expr} {n : Int} {c : Addr} {x : Str} (IC : InOk X.prog X.w X.K X.mg X.base k c) (hm : X.mg x = some (.ref c)) (hc : X.calm = true) (tk : Takes X W) (hr : Room (k + 1) X.A) (he : Ep X F S e (.int n)) (hw : ∀ (dd : Option Addr) (σ : L2.St) (H' : Hp), Keep F H' → XSh (c, some n) dd F.H0 H' → W (.ref c) dd σ H') (hg : Gl X x := by rfl) (hdb : (x == ("__debug__" : Str)) = false := by decide)
    (hst : starEach (e :: []) X.env = (false, eval e X.env) :: starEach [] X.env := by rfl) (hpl : (backTo pos (starEach [] X.env)).any (·.1) = false := by rfl) :
    DS X F S (.Raise (some (.Call (.Name x p) [e] [] pos)) none pos2) P := by
  obtain ⟨fI, fd, iC, tI, F1, hb⟩ := IC.ex
  refine ds_mk (ps_raise hc tk (pmk_oex IC.T iC tI F1 hr hb .nil (CX := CX0) pass0 hg hm (pa_cons he pa_nil hst) hdb hst hpl)) fun D σ H ⟨G, sv, k⟩ => ⟨G, sv, fun d S' G' v H1 ⟨hd, hS'⟩ st r => ?_⟩
  subst hd; subst hS'
  cases r
  refine ⟨by show 1 ≤ 1000; decide, fun a ha => ⟨a, n, rfl, upd_same, fun dx hdx hne => ⟨rfl, dx, [(("number" : Str), .int n)], upd_same, ?_, ?_⟩⟩⟩
  · rw [upd_ne hne, upd_same]
  · rw [upd_ne hne] at hdx
    refine ⟨hdx, ?_⟩
    rw [upd_del ha hne]
    have e1 : Ex H1 (upd H1 dx (.xd [(("number" : Str), .int n)])) := Ex.upd hdx
    exact hw (some dx) σ _ (st.sv.keptX (fun a o h => e1 a o (st.sv.gh a o h)) (.of e1)) ⟨dx, rfl, st.sv.h0 hdx, upd_same⟩
end
section
variable {X : Cx} {F : Fr} {S : List Sl} {P : PD} {a : Expr} {pos p : Pos}
/-- tuple(range(e)) -/
theorem de_tupRg1 {p2 pos2 : Pos} (B : BT X.mg) (hc : X.calm = true) (h : DE X F S a (fun d1 S1 => ∃ j, d1 = .int j ∧ RgOk 0 j ∧ P (.tuple (rgD 0 (j - 0).toNat)) S1)) (hg : Gl X "tuple" := by rfl) (hg2 : Gl X "range" := by rfl)
    (na : starEach [a] X.env = (false, eval a X.env) :: starEach [] X.env := by rfl)
    (nc : starEach [.Call (.Name "range" p2) [a] [] pos2] X.env = (false, eval (.Call (.Name "range" p2) [a] [] pos2) X.env) :: starEach [] X.env := by rfl) : DE X F S (.Call (.Name "tuple" p) [.Call (.Name "range" p2) [a] [] pos2] [] pos) P :=
  de_mk (pe_tupRg hc hg B.tuple (prg_1 hg2 B.range h na) nc) fun σ H Q ⟨G, sv, k⟩ => ⟨G, sv, fun d1 S1 G1 x H1 ⟨j, e1, ok, hp⟩ st1 r1 => by
    subst e1; cases r1
    refine ⟨j, rfl, ok, fun q hn => ?_⟩
    exact k _ S1 _ _ _ hp (st1.trans (.alloc st1.sv hn)) (.tup upd_same ((rps_rg 0 j G1).mono (Ex.upd (st1.sv.gh.none hn))))⟩
theorem ep_tupRg1 {p2 pos2 : Pos} {j : Int} (B : BT X.mg) (hc : X.calm = true) (h : Ep X F S a (.int j)) (ok : RgOk 0 j) (hg : Gl X "tuple" := by rfl) (hg2 : Gl X "range" := by rfl)
    (na : starEach [a] X.env = (false, eval a X.env) :: starEach [] X.env := by rfl)
    (nc : starEach [.Call (.Name "range" p2) [a] [] pos2] X.env = (false, eval (.Call (.Name "range" p2) [a] [] pos2) X.env) :: starEach [] X.env := by rfl) : Ep X F S (.Call (.Name "tuple" p) [.Call (.Name "range" p2) [a] [] pos2] [] pos) (.tuple (rgD 0 (j - 0).toNat)) :=
  de_tupRg1 B hc (h.to ⟨j, rfl, ok, rfl, rfl⟩) hg hg2 na nc
end
section
variable {X : Cx} {F : Fr} {S : List Sl} {pos p1 p2 p3 : Pos} {a b : Expr} {ds : List FW.D} {d z : FW.D} {n : Nat}
/-- xs.index(x), data of any depth -/
theorem ep_indexD (j : Nat) (hr : Room n X.A) (h : Ep X F S a (.list ds)) (hb : Ep X F S b d) (hs1 : Sh (.list ds)) (hs2 : Sh d) (hz : ds[j]? = some z) (he : PyData.eqv z d = true) (hn : ∀ (m : Nat) (z' : PyData), m < j → ds[m]? = some z' → PyData.eqv z' d = false)
    (ha1 : starEach (b :: []) X.env = (false, eval b X.env) :: starEach [] X.env := by rfl)
    (hbase : attributeBase a "index" X.env (eval a X.env) = eval a X.env := by rfl)
    (hfew : ((backTo p3 (starEach (b :: []) X.env)).all (fun x => !x.1) && (backToKw p3 (keywordEach [] X.env)).all (fun x => x.1.isSome)
      && decide ((b :: ([] : List Expr)).length + ([] : List Keyword).length + (if ([] : List Keyword).isEmpty then 0 else 1) < 30)) = true := by rfl)
    (hline : (p2.endLine == p3.line) = true := by rfl) : Ep X F S (.Call (.Attribute a "index" p2) [b] [] p3) (.int (j : Nat)) :=
  de_mk (pe_bm PySem.F.plainAttrs_list PySem.F.slot_list_index PySem.F.type_list_index (mt_indexD (by have := hr.un; omega)) h (pa_cons hb pa_nil ha1) hbase hfew hline ha1) fun σ H Q ⟨G, sv, k⟩ => ⟨G, sv, fun d1 S1 G1 x H1 ⟨e1, e2⟩ st1 r1 => by
    subst e1; subst e2
    cases r1 with
    | lst hp rs =>
      rename_i p vs
      refine ⟨.inl ⟨rfl, _, SqL.of (st1.sv.gh _ _ hp)⟩, G1, st1.sv, fun d2 S2 G2 y H2 ⟨e3, e4⟩ st2 r2 => ?_⟩
      subst e3; subst e4
      have rl : Rp G2 (.ref p) (.list ds) := (Rp.lst hp rs).mono st2.g
      exact ⟨p, y, d2, ds, j, z, rfl, rfl, (rl.mono st2.sv.gh).dp (SeqAt.canLay_of_shaped hs1), (r2.mono st2.sv.gh).dp (SeqAt.canLay_of_shaped hs2), hs1, hs2, hz, he, hn, k _ S2 G2 _ H2 ⟨rfl, rfl⟩ (st1.trans st2) (.int _)⟩⟩
end
end FW

namespace Q
open PySem PySem.Spec PyProof.Rows L2 FW
def topS (i : Nat) : Stmt := PySem.Challenge.pw_fretways_k12_refused_in_order.main.body.getD i (.Pass ⟨0, 0, 0, 0⟩)
abbrev s_need_neck : Stmt := topS 12
abbrev s_places_of : Stmt := topS 13
abbrev s_need_hand : Stmt := topS 19
abbrev s_is_chord : Stmt := topS 20
abbrev s_need_chord : Stmt := topS 21
abbrev s_is_laid : Stmt := topS 22
abbrev s_all_ways : Stmt := topS 23
abbrev s_ways : Stmt := topS 24
abbrev s_need_tune : Stmt := topS 28
abbrev s_need_reach : Stmt := topS 29
abbrev s_positions : Stmt := topS 30
abbrev s_place_in : Stmt := topS 31
abbrev s_numbers_behind : Stmt := topS 32
abbrev s_table_of : Stmt := topS 33
abbrev s_table : Stmt := topS 34
abbrev s_played : Stmt := topS 35
abbrev s_need_chords : Stmt := topS 39
abbrev s_size_of : Stmt := topS 40
abbrev s_all_retunings : Stmt := topS 41
abbrev s_first_without : Stmt := topS 42
abbrev s_retuned : Stmt := topS 43
abbrev s__law_taken : Stmt := topS 45
abbrev s__law_alike : Stmt := topS 46
abbrev s__law_neck : Stmt := topS 47
abbrev s__law_places : Stmt := topS 48
abbrev s__law_shape : Stmt := topS 49
abbrev s__law_hand : Stmt := topS 50
abbrev s__law_sounds : Stmt := topS 51
abbrev s__law_odd_notes : Stmt := topS 52
abbrev s__law_odd_chord : Stmt := topS 53
abbrev s__law_told : Stmt := topS 54
abbrev s__law_works : Stmt := topS 55
abbrev s__law_handed : Stmt := topS 56
abbrev s_law : Stmt := topS 57
structure Cn (mg : Str → Option Value) : Prop where
  MOST_STRINGS_necks : ∃ t, mg "MOST_STRINGS_necks" = some (.int 6 t)
  MOST_NOTE : ∃ t, mg "MOST_NOTE" = some (.int 60 t)
  MOST_FRETS : ∃ t, mg "MOST_FRETS" = some (.int 20 t)
  SILENT : ∃ t, mg "SILENT" = some (.int (-1) t)
  MOST_REACH : ∃ t, mg "MOST_REACH" = some (.int 6 t)
  MOST_CHORD : ∃ t, mg "MOST_CHORD" = some (.int 6 t)
  MOST_SOUND : ∃ t, mg "MOST_SOUND" = some (.int 80 t)
  MOST_TUNE : ∃ t, mg "MOST_TUNE" = some (.int 30 t)
  NEVER : ∃ t, mg "NEVER" = some (.int (-1) t)
  MOST_STRINGS_tunings : ∃ t, mg "MOST_STRINGS_tunings" = some (.int 4 t)
  MOST_CHANGE : ∃ t, mg "MOST_CHANGE" = some (.int 2 t)
end Q
namespace Q
open PySem PySem.Spec PyProof.Rows L2 FW
section
variable [Tb]
variable {P : Program} {w : World} {K : PySem.W.Frag} {mg : Str → Option Value} {base : Heap} {NE : Addr} {EA : Ec → Addr}
theorem sc__law_taken : FnScope ["_law_row", "_law_many", "_law_found", "_law_cell"] ["_law_row", "_law_many"] (defScope s__law_taken) := ⟨rfl, rfl, rfl, by decide +kernel, rfl, by decide +kernel, by decide +kernel⟩
theorem ok__law_taken {f : Addr} {fd : FuncData} (Fn : Fun K "_law_taken" "_law_taken" s__law_taken f fd) (B : BT mg) : FnOk P w K mg base CX0 1 f fd ["_law_row", "_law_many"] (spR K z_taken) := by
  refine fn_rawR Fn sc__law_taken (by rintro ds kt ko ke ⟨m, rfl, _⟩; rfl) fun cdv A outer s H vs Q E hr h => ?_
  obtain ⟨G, p, vs', ds, kt, ko, rfl, eg, gp, ra, rs, ⟨m, rfl, ⟨m0, m1⟩, hk⟩, h1, h2⟩ := h
  obtain ⟨v, rfl⟩ : ∃ v, vs' = [v] := by
    cases rs with
    | cons a b => cases b; exact ⟨_, rfl⟩
  cases rs with
  | cons rv _ =>
  cases rv
  obtain ⟨q, sc, a, b, c, hp, hq, ri⟩ := ra
  have nd := sc__law_taken.nd
  have gpH : ∀ (b' c' a' : Int), RowIn sc a' b' c' → RSt K p G H G (upd H p (.lst [.ref q, .int a', .int b', .int c'])) := fun b' c' a' r' =>
    ⟨Ex.refl G, eg.mut gp, gp, fun x o ne h _ => by rw [upd_ne ne]; exact h, fun x o h => (by
      by_cases z : x = p
      · subst z; exact ⟨_, upd_same⟩
      · exact ⟨o, by rw [upd_ne z]; exact h⟩), TabG.of fun x o h nl => (by rw [upd_ne (fun z => by subst z; rw [hp] at h; cases h; exact nl _ rfl)]; exact h), fun a o _ h => .inl h, ⟨q, sc, a', b', c', upd_same, hq, r'⟩⟩
  have fin : ∀ (b' c' a' r : Int), RowIn sc a' b' c' → 0 ≤ r → r < m → Q (.int r) (upd H p (.lst [.ref q, .int a', .int b', .int c'])) := fun b' c' a' r r' z0 z1 => h1 (.int r) G _ _ (hk r z0 z1) (gpH b' c' a' r') (.int r)
  have qq : ∀ a' b' c', SqL K (upd H p (.lst [.ref q, .int a', .int b', .int c'])) q (sc.map V.int) := fun a' b' c' => sqL_mono (eg.mut gp) hq
  have pp : ∀ a' b' c', SqL K (upd H p (.lst [.ref q, .int a', .int b', .int c'])) p [.ref q, .int a', .int b', .int c'] := fun a' b' c' => SqL.of upd_same
  have hgt : ∀ {X : Cx}, OpR X (compareOp .Gt) (rI0 fun i j => .bl (decide (j < i))) := OrdOp.gt.op
  have hge : ∀ {X : Cx}, OpR X (compareOp .GtE) (rI0 fun i j => .bl (decide (j ≤ i))) := OrdOp.ge.op
  refine ⟨_, pss_cons (ps_if (pt_cmpR hgt (pe_ix ix_list (pv 0) pe_int (fun _ _ => rfl)) pe_int (nomark _))
      (pss_cons (ps_set (i := 2) nd rfl (.inl rfl) (pe_op op_mod (pe_ix ix_list (pv 0) pe_int (fun _ _ => rfl)) (pv 1)))
        (pss_cons (ps_asg (pe_op op_fdiv (pe_ix ix_list (pv 0) pe_int (fun _ _ => rfl)) (pv 1)) (pg_sub (pv 0) pe_int set_list (by intro _; rfl)))
          (pss_one (ps_ret (pv 2))))) pss_nil)
    (pss_cons (ps_asg (pe_op op_add (pe_ix ix_list (pv 0) pe_int (fun _ _ => rfl)) pe_int) (pg_sub (pv 0) pe_int set_list (by intro _; rfl)))
    (pss_cons (ps_if (pt_cmpR hgt (pe_ix ix_list (pv 0) pe_int (fun _ _ => rfl)) (pe_callB call_len_seq (by rfl) B.len PySem.boot_len (pa_cons (pe_ix ix_list (pv 0) pe_int (fun _ _ => rfl)) pa_nil)) (nomark _))
      (pss_cons (ps_asg (pe_op op_mod (pe_op op_add (pe_op op_mul (pe_ix ix_list (pv 0) pe_int (fun _ _ => rfl)) pe_int) pe_int) pe_int) (pg_sub (pv 0) pe_int set_list (by intro _; rfl)))
        (pss_one (ps_ret (pe_op op_mod (pe_op op_fdiv (pe_ix ix_list (pv 0) pe_int (fun _ _ => rfl)) pe_int) (pv 1))))) pss_nil)
    (pss_cons (ps_set (i := 3) nd rfl (.inl rfl) (pe_ix ix_list (pe_ix ix_list (pv 0) pe_int (fun _ _ => rfl)) (pe_op op_sub (pe_ix ix_list (pv 0) pe_int (fun _ _ => rfl)) pe_int) (fun _ _ => rfl)))
    (pss_cons (ps_asg (pe_op op_mod (pe_op op_add (pe_op op_add (pe_op op_mul (pe_ix ix_list (pv 0) pe_int (fun _ _ => rfl)) pe_int) (pv 3)) pe_int) pe_int) (pg_sub (pv 0) pe_int set_list (by intro _; rfl)))
    (pss_cons (ps_if (pt_cmpR hge (pv 3) (pe_op op_pow pe_int pe_int) (nomark _))
      (pss_one (ps_asg (pe_op op_fdiv (pv 3) (pv 1)) (pg_sub (pv 0) pe_int set_list (by intro _; rfl)))) pss_nil)
    (pss_one (ps_ret (pe_op op_mod (pv 3) (pv 1))))))))), ?_⟩
  have H0 : SqL K H p [.ref q, .int a, .int b, .int c] := SqL.of hp
  have hm0 : 0 ≤ ((0 : Int)) := by decide
  refine ⟨.ref p, rfl, p, _, 3, _, rfl, rfl, H0, rfl, c, 0, rfl, rfl, decide (0 < c), rfl, ?_⟩
  refine ite2 (fun hc => ?_) (fun hc => ?_)
  · have hc := of_decide_eq_true hc
    refine ⟨.ref p, rfl, p, _, 3, _, rfl, rfl, H0, rfl, .int m, rfl, c, m, rfl, rfl, m0, ?_⟩
    refine ⟨.ref p, rfl, p, _, 3, _, rfl, rfl, H0, rfl, .int m, rfl, c, m, rfl, rfl, ⟨m0, m1⟩, .ref p, rfl, p, _, 3, 3, rfl, rfl, hp, rfl, .int (c % m), rfl, ?_⟩
    exact fin b (c / m) a (c % m) ⟨ri.l, ri.a0, ri.b0, ri.b1, Int.ediv_nonneg ri.c0 (by omega)⟩ (Int.emod_nonneg _ (by omega)) (Int.emod_lt_of_pos _ m0)
  · refine ⟨.ref p, rfl, p, _, 1, _, rfl, rfl, H0, rfl, a, 1, rfl, rfl, .ref p, rfl, p, _, 1, 1, rfl, rfl, hp, rfl, ?_⟩
    refine ⟨.ref p, rfl, p, _, 1, _, rfl, rfl, pp (a + 1) b c, rfl, .ref p, rfl, p, _, 0, .ref q, rfl, rfl, pp (a + 1) b c, rfl, q, sc.map V.int, rfl, .inl (qq _ _ _), a + 1, ((sc.map V.int).length : Int), rfl, rfl, decide (((sc.map V.int).length : Int) < a + 1), rfl, ?_⟩
    refine ite2 (fun ha => ?_) (fun ha => ?_)
    · have ha := of_decide_eq_true ha
      refine ⟨.ref p, rfl, p, _, 2, _, rfl, rfl, pp (a + 1) b c, rfl, b, 48271, rfl, rfl, .inr ⟨by decide, by decide⟩, b * 48271, 11, rfl, rfl, b * 48271 + 11, 2147483647, rfl, rfl, (by decide : (0 : Int) < 2147483647), .ref p, rfl, p, _, 2, 2, rfl, rfl, upd_same, rfl, ?_⟩
      rw [upd_upd]
      refine ⟨.ref p, rfl, p, _, 2, _, rfl, rfl, pp (a + 1) ((b * 48271 + 11) % 2147483647) c, rfl, (b * 48271 + 11) % 2147483647, 7, rfl, rfl, ⟨by decide, by decide⟩, .int m, rfl, (b * 48271 + 11) % 2147483647 / 7, m, rfl, rfl, m0, ?_⟩
      exact fin _ c (a + 1) _ ⟨ri.l, by have := ri.a0; omega, Int.emod_nonneg _ (by decide), Int.emod_lt_of_pos _ (by decide), ri.c0⟩ (Int.emod_nonneg _ (by omega)) (Int.emod_lt_of_pos _ m0)
    · have ha : ¬ ((sc.map V.int).length : Int) < a + 1 := fun z => ha (decide_eq_true z)
      have ha2 : a + 1 ≤ (sc.length : Int) := by rw [List.length_map] at ha; omega
      have ha3 : a.toNat < sc.length := by have := ri.a0; omega
      have hat : atI (sc.map V.int) (a + 1 - 1) = some (.int sc[a.toNat]) := by
        have e1 : a + 1 - 1 = ((a.toNat : Nat) : Int) := by have := ri.a0; omega
        rw [e1]
        exact atI_nat (j := a.toNat) (by rw [List.getElem?_map, List.getElem?_eq_getElem ha3]; rfl)
      refine ⟨.ref p, rfl, p, _, 0, .ref q, rfl, rfl, pp (a + 1) b c, rfl, .ref p, rfl, p, _, 1, _, rfl, rfl, pp (a + 1) b c, rfl, a + 1, 1, rfl, rfl, q, _, a + 1 - 1, .int sc[a.toNat], rfl, rfl, qq _ _ _, hat, ?_⟩
      generalize sc[a.toNat] = cell
      refine ⟨.ref p, rfl, p, _, 2, _, rfl, rfl, pp (a + 1) b c, rfl, b, 48271, rfl, rfl, .inr ⟨by decide, by decide⟩, .int cell, rfl, b * 48271, cell, rfl, rfl, b * 48271 + cell, 11, rfl, rfl, b * 48271 + cell + 11, 2147483647, rfl, rfl, (by decide : (0 : Int) < 2147483647), .ref p, rfl, p, _, 2, 2, rfl, rfl, upd_same, rfl, ?_⟩
      rw [upd_upd]
      refine ⟨.int cell, rfl, 10, 18, rfl, rfl, ⟨by decide, by decide, by decide⟩, cell, 10 ^ 18, rfl, rfl, decide ((10 ^ 18 : Int) ≤ cell), rfl, ?_⟩
      have rw2 : 0 ≤ (b * 48271 + cell + 11) % 2147483647 := Int.emod_nonneg _ (by decide)
      have rw3 : (b * 48271 + cell + 11) % 2147483647 < 2147483647 := Int.emod_lt_of_pos _ (by decide)
      refine ite2 (fun hb => ?_) (fun hb => ?_)
      · have hb := of_decide_eq_true hb
        have hcell : 0 ≤ cell := Int.le_trans (by decide) hb
        refine ⟨.int cell, rfl, .int m, rfl, cell, m, rfl, rfl, ⟨m0, m1⟩, .ref p, rfl, p, _, 3, 3, rfl, rfl, upd_same, rfl, ?_⟩
        rw [upd_upd]
        refine ⟨.int cell, rfl, .int m, rfl, cell, m, rfl, rfl, m0, ?_⟩
        exact fin _ (cell / m) (a + 1) _ ⟨ri.l, by have := ri.a0; omega, rw2, rw3, Int.ediv_nonneg hcell (by omega)⟩ (Int.emod_nonneg _ (by omega)) (Int.emod_lt_of_pos _ m0)
      · refine ⟨.int cell, rfl, .int m, rfl, cell, m, rfl, rfl, m0, ?_⟩
        exact fin _ c (a + 1) _ ⟨ri.l, by have := ri.a0; omega, rw2, rw3, ri.c0⟩ (Int.emod_nonneg _ (by omega)) (Int.emod_lt_of_pos _ m0)

/-! ### the data -/
abbrev Tu (ns : List Int) : PyData := .tuple (ns.map .int)
abbrev Li (ns : List Int) : PyData := .list (ns.map .int)
abbrev Nk (t : List Int) (f c : Int) : PyData := .tuple [Tu t, .int f, .int c]
structure OkN (t : List Int) (f c : Int) : Prop where
  l1 : 1 ≤ t.length
  l2 : t.length ≤ 6
  n : ∀ x ∈ t, 0 ≤ x ∧ x ≤ 60
  c0 : 0 ≤ c
  cf : c ≤ f
  f2 : f ≤ 20
structure OkS (t : List Int) (f c : Int) (sh : List Int) : Prop where
  l : sh.length = t.length
  p : ∀ x ∈ sh, x = -1 ∨ c ≤ x ∧ x ≤ f
theorem get_int {ns : List Int} {i : Nat} {d : PyData} (h : (ns.map PyData.int)[i]? = some d) : ∃ p, ns[i]? = some p ∧ d = .int p := by
  rw [List.getElem?_map] at h
  cases e : ns[i]? with
  | none => rw [e] at h; cases h
  | some p => rw [e] at h; cases h; exact ⟨p, rfl, rfl⟩
theorem take_succ {α : Type} {ns : List α} {i : Nat} {p : α} (h : ns[i]? = some p) : ns.take (i + 1) = ns.take i ++ [p] := by
  rw [List.take_add_one, h]; rfl
theorem lt_of_get {α : Type} {ns : List α} {i : Nat} {p : α} (h : ns[i]? = some p) : i < ns.length := (List.getElem?_eq_some_iff.mp h).1

theorem sc__law_neck : FnScope ["_law_row", "_law_most", "_law_begin", "_law_tuning", "_law_k", "_law_note", "_law_frets", "_law_capo"] ["_law_row", "_law_most"] (defScope s__law_neck) := ⟨rfl, rfl, rfl, by decide +kernel, rfl, by decide +kernel, by decide +kernel⟩
def z__law_neck : Zp := fun ds kt _ _ => ∃ most : Int, ds = [.int most] ∧ 1 ≤ most ∧ most ≤ 6 ∧ ∀ t f c, OkN t f c → (t.length : Int) ≤ most → kt (Nk t f c)
theorem ok__law_neck {k : Nat} {f : Addr} {fd : FuncData} (Fn : Fun K "_law_neck" "_law_neck" s__law_neck f fd) (B : BT mg) (k__law_taken : Kn P w K mg base CX0 "_law_taken" k (spR K z_taken)) : FnOk P w K mg base CX0 (k + 1) f fd ["_law_row", "_law_most"] (spR K z__law_neck) := by
  refine fn_okR Fn sc__law_neck (by rintro ds kt ko ke ⟨m, rfl, _⟩; rfl) (by decide) fun cdv A outer s H E Fm ds kt ko hr hz => ?_
  obtain ⟨most, rfl, h1, h6, q⟩ := hz
  have nd := sc__law_neck.nd
  -- _law_begin = _law_taken(_law_row, 40)
  refine db_cons (ds_set 2 nd (de_takeP 0 k__law_taken hr ep_int ⟨by decide, by decide⟩ fun r1 a1 b1 => ?_))
  -- _law_tuning = [_law_begin]
  refine db_cons (ds_setOP 3 nd (op_lst (ap_cons (ep_v 2) ap_nil)) ?_)
  -- for _law_k in range(_law_taken(_law_row, _law_most)):
  refine db_mid (fun S => ∃ (t : List Int) (s4 : Sl), S = [.row, .val (.int most), .val (.int r1), .own (t.map .int), s4, .unk, .unk, .unk] ∧ 1 ≤ t.length ∧ (t.length : Int) ≤ most ∧ ∀ x ∈ t, 0 ≤ x ∧ x ≤ 60) (ds_for PassesOwn.never rfl (dg_name 4 nd) (di_range1 B.range (da_cons (de_takeP 0 k__law_taken hr (ep_v 1) ⟨by omega, by omega⟩ fun r2 a2 b2 => (da_nil ⟨_, rfl, ⟨by omega, by omega⟩,
    ⟨fun i S => ∃ (t : List Int) (s4 : Sl), S = [.row, .val (.int most), .val (.int r1), .own (t.map .int), s4, .unk, .unk, .unk] ∧ t.length = i + 1 ∧ ∀ x ∈ t, 0 ≤ x ∧ x ≤ 60, ⟨[r1], _, rfl, rfl, ?_⟩, fun i d Si hd hI => ?_, fun Sn hI => ?_⟩⟩)))))  ?_
  · intro x hx
    rw [List.mem_singleton.mp hx]
    omega
  · obtain ⟨t, s4, rfl, tl, tb⟩ := hI
    have hi : i < (rgD 0 r2.toNat).length := (List.getElem?_eq_some_iff.mp hd).1
    rw [rgD_length] at hi
    obtain ⟨tz, tl0, et⟩ : ∃ tz tl0, t = tl0 ++ [tz] := by
      rcases List.eq_nil_or_concat t with e | ⟨l, z, e⟩
      · subst e; cases tl
      · exact ⟨z, l, by rw [e, List.concat_eq_append]⟩
    refine db_cons (ds_append 3 ⟨_, rfl⟩ (de_min2 B rfl (da_cons (ep_int.to (da_cons (de_max2 B rfl (da_cons (ep_int.to (da_cons (de_add ((ep_ixO (d := .int tz) 3 (ep_neg ep_int) ?_).to (de_pickI (-5) 8 0 k__law_taken hr ⟨by decide, by decide⟩ (de_o (do_lst (da_cons (ep_int.to (da_cons (ep_int.to (da_cons (ep_int.to (da_cons (ep_int.to (da_cons (de_sub (de_takeP 0 k__law_taken hr ep_int ⟨by decide, by decide⟩ fun r4 a4 b4 => (ep_int.to (i2 (da_nil ⟨by show 5 ≤ sizeLine; decide, ⟨rfl, _, rfl, rfl, .cons (by omega) (by omega) (.cons (by omega) (by omega) (.cons (by omega) (by omega) (.cons (by omega) (by omega) (.cons (by omega) (by omega) .nil)))), fun v3 v3a v3b => (i2 (da_nil ⟨_, _, rfl, (da_nil ⟨_, _, rfl, ⟨_, rfl, ?_, ?_⟩⟩)⟩))⟩⟩))))))))))))))))))))))))))))
    · rw [et, List.map_append]; exact atI_last _ _
    · rw [List.length_map, tl]
      exact small1000 (by omega)
    · refine db_nil ⟨t ++ [_], _, by rw [List.map_append]; rfl, by rw [List.length_append, tl]; rfl, fun x hx => ?_⟩
      rcases List.mem_append.mp hx with hx | hx
      · exact tb x hx
      · rw [List.mem_singleton.mp hx]
        omega
  · obtain ⟨t, s4, rfl, tl, tb⟩ := hI
    rw [rgD_length] at tl
    exact ⟨t, s4, rfl, by omega, by omega, tb⟩
  rintro S ⟨t, s4, rfl, tl0, tl1, tb⟩
  -- if _law_taken(_law_row, 6) == 5:
  refine db_mid (fun S => ∃ (t : List Int) (s4 : Sl), S = [.row, .val (.int most), .val (.int r1), .val (Li t), s4, .unk, .unk, .unk] ∧ 1 ≤ t.length ∧ (t.length : Int) ≤ most ∧ ∀ x ∈ t, 0 ≤ x ∧ x ≤ 60) (ds_if (dt_eq hr (de_takeP 0 k__law_taken hr ep_int ⟨by decide, by decide⟩ fun r5 a5 b5 => (ep_int.to ⟨sh_int _, sh_int _, ⟨fun h => ?_, fun h => ?_⟩⟩)))) ?_
  · -- _law_tuning = [_law_taken(_law_row, 61) for _law_note in _law_tuning]
    refine db_freeze 3 rfl (db_cons (ds_setLc 3 [("_law_note", 5)] rfl nd (by decide) (fun _ _ _ _ _ => (dg_name 5 nd)) (di_list ((ep_v 3).to ⟨_, rfl, ⟨fun i Si acc => Si = [.row, .val (.int most), .val (.int r1), .val (Li t), s4, .unk, .unk, .unk] ∧ acc.length = i ∧ AI 0 60 acc, ⟨rfl, rfl, .nil⟩, fun i d Si acc hd hI => ?_, fun Sn acc hI => ?_⟩⟩)) (blkOk_by rfl) (sw_true rfl rfl rfl (by decide +kernel))))
    · obtain ⟨rfl, e2, e3⟩ := hI
      have hi : i < t.length := by have := (List.getElem?_eq_some_iff.mp hd).1; rwa [List.length_map] at this
      refine ⟨fun tt S' => tt = true ∧ S' = [.row, .val (.int most), .val (.int r1), .val (Li t), s4, .val d, .unk, .unk], fun _ _ _ _ _ => dts_nil ⟨rfl, rfl⟩, fun tt S3 hp => ?_⟩
      obtain ⟨rfl, rfl⟩ := hp
      refine ⟨fun _ => ⟨Nat.lt_of_lt_of_le (by omega : acc.length < 7) (by decide), fun s H C cl fp => de_takeP 0 k__law_taken hr ep_int ⟨by decide, by decide⟩ fun r6 a6 b6 => ⟨rfl, by rw [List.length_append, e2]; rfl, ?_⟩⟩, fun z => nomatch z⟩
      intro d hd
      rcases List.mem_append.mp hd with hd | hd
      · exact e3 d hd
      · rw [List.mem_singleton.mp hd]
        exact ⟨r6, rfl, a6, by omega⟩
    · obtain ⟨rfl, e2, e3⟩ := hI
      obtain ⟨ns, rfl, hn⟩ := e3.toInts
      rw [List.length_map, List.length_map] at e2
      exact db_freeze 3 rfl (db_nil ⟨ns, s4, rfl, by omega, by omega, hn⟩)
  · exact db_freeze 3 rfl (db_nil ⟨t, s4, rfl, tl0, tl1, tb⟩)
  rintro S ⟨t, s4, rfl, tl0, tl1, tb⟩
  -- _law_frets = [12, 5, 7, _law_taken(_law_row, 21)][_law_taken(_law_row, 4)]
  refine db_cons (ds_set 6 nd (de_pickI 0 20 0 k__law_taken hr ⟨by decide, by decide⟩ (de_o (do_lst (da_cons (ep_int.to (da_cons (ep_int.to (da_cons (ep_int.to (da_cons (de_takeP 0 k__law_taken hr ep_int ⟨by decide, by decide⟩ fun r8 a8 b8 => (da_nil ⟨by show 4 ≤ sizeLine; decide, ⟨rfl, _, rfl, rfl, .cons (by omega) (by omega) (.cons (by omega) (by omega) (.cons (by omega) (by omega) (.cons (by omega) (by omega) .nil))), fun fr f0 f1 => ?_⟩⟩)))))))))))))
  -- _law_capo = [0, 0, _law_taken(_law_row, _law_frets + 1)][_law_taken(_law_row, 3)]
  refine db_cons (ds_set 7 nd (de_pickI 0 fr 0 k__law_taken hr ⟨by decide, by decide⟩ (de_o (do_lst (da_cons (ep_int.to (da_cons (ep_int.to (da_cons (de_takeP 0 k__law_taken hr (ep_add (ep_v 6) ep_int) ⟨by omega, by omega⟩ fun r10 a10 b10 => (da_nil ⟨by show 3 ≤ sizeLine; decide, ⟨rfl, _, rfl, rfl, .cons (by omega) (by omega) (.cons (by omega) (by omega) (.cons (by omega) (by omega) .nil)), fun cp c0 c1 => ?_⟩⟩)))))))))))
  -- return (tuple(_law_tuning), _law_frets, _law_capo)
  exact db_cons (ds_retP (ep_tup (ap_cons (ep_tupOfV B (ep_v 3)) (ap_cons (ep_v 6) (ap_cons (ep_v 7) ap_nil)))) ⟨rfl, q t fr cp ⟨tl0, by omega, tb, c0, c1, f1⟩ tl1⟩)

theorem sc__law_alike : FnScope ["_law_found", "_law_due", "_law_k"] ["_law_found", "_law_due"] (defScope s__law_alike) := ⟨rfl, rfl, rfl, by decide +kernel, rfl, by decide +kernel, by decide +kernel⟩
/-- data that the look goes through, to a depth -/
def AlD : Nat → FW.D → Prop
  | 0, _ => False
  | n + 1, d => (match d with
    | .none => True
    | .bool _ => True
    | .int _ => True
    | .str z => PyData.strOk z = true
    | .tuple ds => ds.length ≤ 50000 ∧ ∀ x ∈ ds, AlD n x
    | .list ds => ds.length ≤ 50000 ∧ ∀ x ∈ ds, AlD n x
    | .dict _ => False)
def z__law_alike (n : Nat) : Zp := fun ds kt _ _ => ∃ d, ds = [d, d] ∧ AlD n d ∧ kt (.bool true)
theorem ok__law_alike {k n : Nat} {f : Addr} {fd : FuncData} (Fn : Fun K "_law_alike" "_law_alike" s__law_alike f fd) (B : BT mg) (k__law_alike : Kn P w K mg base CX0 "_law_alike" k (spP (z__law_alike n))) : FnOk P w K mg base CX0 (k + 1) f fd ["_law_found", "_law_due"] (spP (z__law_alike (n + 1))) := by
  refine fn_ok Fn sc__law_alike (by rintro ds kt ko ke ⟨d, rfl, _⟩; rfl) (by decide) fun cdv A outer s H E Fm ds kt ko ke hr hF hz => ?_
  obtain ⟨d, rfl, hd, q⟩ := hz
  have hnd : ∀ kvs, d ≠ .dict kvs := fun kvs z => by
    subst z
    exact hd
  have nd := sc__law_alike.nd
  have nB : ∀ b, Sh (.bool b) := fun b => sh_of (shD_bool 0 b)
  by_cases hT : (isT d || isL d) = true
  · obtain ⟨xs, sq, hx, hix⟩ : ∃ xs : List FW.D, Sq d xs ∧ (xs.length ≤ 50000 ∧ ∀ x ∈ xs, AlD n x) ∧ ∀ {X : Cx} {b : Nat} {S : List Sl} {a c : Expr} {pos : Pos}, Ep X Fm S a d → Ep X Fm S c (.int (0 + (b : Nat))) → b < xs.length → PlainIx c → Ep X Fm S (.Subscript a c pos) (xs.getD b .none) := by
      cases d with
      | tuple ds => exact ⟨ds, .t _, hd, fun ha hc hb hp => ep_ixT ha hc (atI_D hb) hp⟩
      | list ds => exact ⟨ds, .l _, hd, fun ha hc hb hp => ep_ixL ha hc (atI_D hb) hp⟩
      | none => cases hT
      | bool _ => cases hT
      | int _ => cases hT
      | str _ => cases hT
      | dict _ => cases hT
    refine db_cons (ds_ifP (tp_w (wp_or (tp_val (by intro _; rfl) (ep_isT B (ep_v 1))) fun h => (wp_or1 (tp_val (by intro _; rfl) (ep_isL B (ep_v 1)))))) (fun h => ?_) (fun h => ?_))
    · refine db_cons (ds_ifP (tp_w (wp_or (tp_ne hr (ep_isT B (ep_v 0)) (ep_isT B (ep_v 1)) (nB _) (nB _)) fun h => (wp_or1 (tp_not (tp_val (by intro _; rfl) (ep_isTL B (ep_v 0))))))) (fun h => ?_) (fun h => db_nil ?_))
      · exfalso
        rw [hT] at h
        simp [PyData.eqv] at h
      refine db_cons (ds_if (dt_ne hr (de_len B ((ep_v 0).to ⟨xs, sq, de_len B ((ep_v 1).to ⟨xs, sq, sh_int _, sh_int _, fun h => ?_, fun h => db_nil ?_⟩)⟩))))
      · exfalso
        simp [PyData.eqv] at h
      refine db_cons (ds_ret (de_eq hr (de_o (do_lc [("_law_k", 2)] rfl nd (by decide) (fun _ _ _ _ _ => (dg_name 2 nd)) (di_range1 B.range (da_cons (de_len B ((ep_v 1).to ⟨xs, sq, da_nil ⟨_, rfl, ⟨by omega, by omega⟩, (lcp 2 (fun b => .int (0 + (b : Nat))) (List.range xs.length) (fun _ => false) (fun b => .none) rfl (Nat.lt_of_le_of_lt (by rw [List.length_range]; exact hx.1) (by decide : 50000 < sizeLine)) (fun b hb s H C cl fp => ts_one (tp_not (tp_val (by intro _; rfl) (ep_call (d := .bool true) k__law_alike hr wish0 (ap_cons (hix (ep_v 0) (ep_v 2) (mem_range hb) (fun _ _ => rfl)) (ap_cons (hix (ep_v 1) (ep_v 2) (mem_range hb) (fun _ _ => rfl)) ap_nil)) ?_)))) (fun b hb hf s H C cl fp => nomatch hf) ?_)⟩⟩)))) (blkOk_by rfl)))))
      · have hb2 := mem_range hb
        rw [show xs.getD b .none = xs[b] from getD_lt hb2]
        exact ⟨_, rfl, hx.2 _ (List.getElem_mem hb2), rfl, rfl⟩
      · have e0 : ((List.range xs.length).filter fun _ => false).map (fun _ => PyData.none) = [] := by simp
        rw [e0]
        exact (ep_o (op_lst ap_nil)).to ⟨sh_nil, sh_nil, q⟩
    · exfalso
      rw [hT] at h; cases h
  · have h1 : isT d = false := by cases d <;> first | rfl | exact absurd rfl hT
    have h2 : isL d = false := by cases d <;> first | rfl | exact absurd rfl hT
    refine db_cons (ds_ifP (tp_w (wp_or (tp_val (by intro _; rfl) (ep_isT B (ep_v 1))) fun h => (wp_or1 (tp_val (by intro _; rfl) (ep_isL B (ep_v 1)))))) (fun h => absurd h hT) (fun h => db_nil ?_))
    refine db_cons (ds_ifP (tp_w (wp_or (tp_isN (ep_v 1)) fun h => (wp_or1 (tp_isN (ep_v 0))))) (fun h => ?_) (fun h => db_nil ?_))
    · refine db_cons (ds_retP (ep_and (ep_isN (ep_v 1)) fun h => (ep_one (ep_isN (ep_v 0)))) ?_)
      rw [Bool.or_self] at h
      rw [h]; exact q
    rw [Bool.or_self] at h
    refine db_cons (ds_ifP (tp_w (wp_or (tp_val (by intro _; rfl) (ep_isB B (ep_v 1))) fun h => (wp_or1 (tp_val (by intro _; rfl) (ep_isB B (ep_v 0)))))) (fun h3 => ?_) (fun h3 => db_nil ?_))
    · rw [Bool.or_self] at h3
      have hs : Sh d := by cases d <;> first | exact nB _ | cases h3
      have he : PyData.eqv d d = true := by cases d <;> first | (simp [PyData.eqv]; done) | cases h3
      refine db_cons (ds_retP (ep_and (ep_isB B (ep_v 1)) fun h => (ep_and (ep_isB B (ep_v 0)) fun h => (ep_one (ep_eq hr (ep_v 0) (ep_v 1) hs hs)))) ?_)
      rw [h3, he]; exact q
    rw [Bool.or_self] at h3
    refine db_cons (ds_ifP (tp_val (by intro _; rfl) (ep_isS B (ep_v 1))) (fun h4 => ?_) (fun h4 => db_nil ?_))
    · have hs : Sh d := by cases d <;> first | exact sh_of (shD_str 0 hd) | cases h4
      have he : PyData.eqv d d = true := by cases d <;> first | (simp [PyData.eqv]; done) | cases h4
      refine db_cons (ds_retP (ep_and (ep_isS B (ep_v 0)) fun h => (ep_one (ep_eq hr (ep_v 0) (ep_v 1) hs hs))) ?_)
      rw [h4, he]; exact q
    obtain ⟨i, rfl⟩ : ∃ i, d = .int i := by
      cases d with
      | none => cases h
      | bool _ => cases h3
      | int i => exact ⟨i, rfl⟩
      | str _ => cases h4
      | tuple _ => cases h1
      | list _ => cases h2
      | dict _ => exact hd.elim
    refine db_cons (ds_retP (ep_and (ep_isI B (ep_v 0)) fun h => (ep_one (ep_eq hr (ep_v 0) (ep_v 1) (sh_int i) (sh_int i)))) ?_)
    have he : PyData.eqv (.int i) (.int i) = true := by rw [eqv_int]; exact beq_self_eq_true i
    rw [he]; exact q
theorem kn__law_alike {f : Addr} {fd : FuncData} (Fn : Fun K "_law_alike" "_law_alike" s__law_alike f fd) (B : BT mg) (hm : mg "_law_alike" = some (.ref f)) (hk : PySem.W.keepIn K (.ref f) = true) (hb : Binds K fd ["_law_found", "_law_due"] []) : ∀ n, Kn P w K mg base CX0 "_law_alike" n (spP (z__law_alike n))
  | 0 => ⟨f, fd, _, ⟨fun vs H Q E h => (by obtain ⟨_, _, _, _, _, _, _, ⟨_, _, hf, _⟩, _⟩ := h; exact hf.elim), fun A outer s H args us vs Q E hr _ _ _ h => (by obtain ⟨_, _, _, _, _, _, _, ⟨_, _, hf, _⟩, _⟩ := h; exact hf.elim)⟩, hm, hk, hb⟩
  | n + 1 => ⟨f, fd, _, ok__law_alike Fn B (kn__law_alike Fn B hm hk hb n), hm, hk, hb⟩

theorem ds_alikeP {X : Cx} {F : Fr} {S : List Sl} {e1 e2 : Expr} {body : List Stmt} {P : Post} {d : PyData} {j n : Nat} {p1 p2 p3 pos : Pos} (c : Kn X.prog X.w X.K X.mg X.base CX0 "_law_alike" j (spP (z__law_alike n))) (hr : Room j X.A) (ha : Ep X F S e1 d) (hb : Ep X F S e2 d) (hd : AlD n d) (k : P.nx S) (hg : Gl X "_law_alike" := by rfl)
    (he : starEach (e1 :: [e2]) X.env = (false, eval e1 X.env) :: starEach [e2] X.env := by rfl) (he2 : starEach [e2] X.env = (false, eval e2 X.env) :: starEach [] X.env := by rfl) (hpl : (backTo p2 (starEach [e2] X.env)).any (·.1) = false := by rfl)
    (hv : ∀ whole, isTrue (.Call (.Name "_law_alike" p1) (e1 :: [e2]) [] p2) X.env whole = (do let v ← whole; standAt (Expr.Call (.Name "_law_alike" p1) (e1 :: [e2]) [] p2).pos; holding [v] (truthy v)) := by intro _; rfl) :
    DS X F S (.If (.UnaryOp .Not (.Call (.Name "_law_alike" p1) (e1 :: [e2]) [] p2) p3) body [] pos) P :=
  ds_ifP (tp_not (tp_val hv (ep_call c hr wish0 (ap_cons ha (da_cons (hb.to (da_nil ⟨rfl, rfl⟩)) he2) he) ⟨d, rfl, hd, rfl, rfl⟩ hg (by decide) he hpl))) (fun h => nomatch h) (fun _ => db_nil k)
theorem tp_alikeP {X : Cx} {F : Fr} {S : List Sl} {e1 e2 : Expr} {d : PyData} {j n : Nat} {p1 p2 : Pos} (c : Kn X.prog X.w X.K X.mg X.base CX0 "_law_alike" j (spP (z__law_alike n))) (hr : Room j X.A) (ha : Ep X F S e1 d) (hb : Ep X F S e2 d) (hd : AlD n d) (hg : Gl X "_law_alike" := by rfl)
    (he : starEach (e1 :: [e2]) X.env = (false, eval e1 X.env) :: starEach [e2] X.env := by rfl) (he2 : starEach [e2] X.env = (false, eval e2 X.env) :: starEach [] X.env := by rfl) (hpl : (backTo p2 (starEach [e2] X.env)).any (·.1) = false := by rfl)
    (hv : ∀ whole, isTrue (.Call (.Name "_law_alike" p1) (e1 :: [e2]) [] p2) X.env whole = (do let v ← whole; standAt (Expr.Call (.Name "_law_alike" p1) (e1 :: [e2]) [] p2).pos; holding [v] (truthy v)) := by intro _; rfl) :
    Tp X F S (.Call (.Name "_law_alike" p1) (e1 :: [e2]) [] p2) true :=
  tp_val hv (ep_call c hr wish0 (ap_cons ha (da_cons (hb.to (da_nil ⟨rfl, rfl⟩)) he2) he) ⟨d, rfl, hd, rfl, rfl⟩ hg (by decide) he hpl)
theorem al_int (n : Nat) (i : Int) : AlD (n + 1) (.int i) := trivial
theorem al_none (n : Nat) : AlD (n + 1) .none := trivial
theorem al_bool (n : Nat) (b : Bool) : AlD (n + 1) (.bool b) := trivial
theorem al_tup {n : Nat} {ds : List PyData} (h1 : ds.length ≤ 1000) (h : ∀ x ∈ ds, AlD n x) : AlD (n + 1) (.tuple ds) := ⟨by omega, h⟩
theorem al_lst {n : Nat} {ds : List PyData} (h1 : ds.length ≤ 1000) (h : ∀ x ∈ ds, AlD n x) : AlD (n + 1) (.list ds) := ⟨by omega, h⟩
theorem al_tu (n : Nat) {ns : List Int} (h : ns.length ≤ 1000) : AlD (n + 2) (Tu ns) := al_tup (by rw [List.length_map]; exact h) fun x hx => by
  obtain ⟨i, _, rfl⟩ := List.mem_map.mp hx
  trivial
theorem al_li (n : Nat) {ns : List Int} (h : ns.length ≤ 1000) : AlD (n + 2) (Li ns) := al_lst (by rw [List.length_map]; exact h) fun x hx => by
  obtain ⟨i, _, rfl⟩ := List.mem_map.mp hx
  trivial
theorem cutD_take {ds : List FW.D} {k : Int} (h0 : 0 ≤ k) (h1 : k ≤ ds.length) : FW.cutD ds none (some k) = ds.take k.toNat := by
  unfold FW.cutD HT.sIx
  simp only [List.drop_zero, Nat.sub_zero]
  congr 1
  rw [if_neg (by omega)]
  omega
theorem cutD_drop {ds : List FW.D} {k : Int} (h0 : 0 ≤ k) (h1 : k ≤ ds.length) : FW.cutD ds (some k) none = ds.drop k.toNat := by
  unfold FW.cutD HT.sIx
  simp only
  rw [if_neg (by omega)]
  have : min k.toNat ds.length = k.toNat := by omega
  rw [this]
  exact List.take_of_length_le (by rw [List.length_drop]; exact Nat.le_refl _)
/-- .. the first a list of one's own -/
theorem ds_alikeO {X : Cx} {F : Fr} {S : List Sl} {e2 : Expr} {body : List Stmt} {P : Post} {ds : List PyData} (i : Nat) {j n : Nat} {x0 : Str} {p0 p1 p2 p3 pos : Pos} (c : Kn X.prog X.w X.K X.mg X.base CX0 "_law_alike" j (spP (z__law_alike n))) (hr : Room j X.A) (hO : S[i]? = some (.own ds)) (hb : Ep X F S e2 (.list ds)) (hd : AlD n (.list ds)) (k : P.nx S) (hg : Gl X "_law_alike" := by rfl)
    (hN : X.N[i]? = some x0 := by rfl) (hv0 : Vis X.env.scope x0 := by first | exact Or.inl rfl | exact Or.inr (Or.inl rfl) | exact Or.inr (Or.inr rfl)) (hd0 : (x0 == ("__debug__" : Str)) = false := by decide) (hcd : (x0 == ("__classdict__" : Str)) = false := by decide)
    (he : starEach (.Name x0 p0 :: [e2]) X.env = (false, eval (.Name x0 p0) X.env) :: starEach [e2] X.env := by rfl) (he2 : starEach [e2] X.env = (false, eval e2 X.env) :: starEach [] X.env := by rfl) (hpl : (backTo p2 (starEach [e2] X.env)).any (·.1) = false := by rfl)
    (hv : ∀ whole, isTrue (.Call (.Name "_law_alike" p1) (.Name x0 p0 :: [e2]) [] p2) X.env whole = (do let v ← whole; standAt (Expr.Call (.Name "_law_alike" p1) (.Name x0 p0 :: [e2]) [] p2).pos; holding [v] (truthy v)) := by intro _; rfl) :
    DS X F S (.If (.UnaryOp .Not (.Call (.Name "_law_alike" p1) (.Name x0 p0 :: [e2]) [] p2) p3) body [] pos) P := by
  obtain ⟨f, fd, ps, F1, hm, hk, hbd⟩ := c.ex
  have call : DE X F S (.Call (.Name "_law_alike" p1) (.Name x0 p0 :: [e2]) [] p2) fun d S' => d = .bool true ∧ S' = S :=
    de_mk (pe_call F1 hr hg hm hk hbd .nil (E := E0) pass0 (pa_cons (pe_var hN hv0 hd0 hcd) (pa_cons hb pa_nil he2) he) (by decide) he hpl) fun σ H Q ⟨G, sv, kk⟩ => by
      obtain ⟨p, vs, ep, gp, hp, rs⟩ := sv.slot i _ hO
      refine ⟨.ref p, ep, G, sv, fun d' S' G' v2 H' ⟨ed, eS⟩ st r2 => ?_⟩
      subst ed; subst eS
      obtain ⟨p', vs', ep', gp', hp', rs'⟩ := st.sv.slot i _ hO
      rw [ep] at ep'; cases ep'
      have eg : Ex G' (upd G' p (.lst vs')) := Ex.upd gp'
      have rfound : Rp (upd G' p (.lst vs')) (.ref p) (.list ds) := .lst upd_same (rs'.mono eg)
      have gh2 : Ex (upd G' p (.lst vs')) H' := fun a o h => by
        by_cases z : a = p
        · subst z; rw [upd_same] at h; cases h; exact hp'
        · rw [upd_ne z] at h; exact st.sv.gh a o h
      refine ⟨upd G' p (.lst vs'), [.list ds, .list ds], fun d => d = .bool true, fun _ => False, fun _ => False, gh2, .cons rfound (.cons (r2.mono eg) .nil), ⟨_, rfl, hd, rfl⟩, fun d G2 v H2 hk2 ps2 r3 => ?_, fun _ _ _ _ _ h => h.elim, fun _ _ _ h => h.elim⟩
      subst hk2
      cases r3
      exact kk _ S' G' _ H2 ⟨rfl, rfl⟩ (st.trans (stp_of st.sv ⟨Ex.refl G', ((Ex.upd gp').trans ps2.g).trans ps2.gh, ps2.h, fun a o _ h => .inl h⟩)) (.bl true)
  exact ds_ifP (x := false) (dt_not (dt_val hv (DE.imp call fun d S' ⟨e1, e2⟩ => by subst e1; subst e2; exact b1 ⟨rfl, rfl⟩))) (fun h => nomatch h) (fun _ => db_nil k)

structure OkC (ch : List Int) : Prop where
  l1 : 1 ≤ ch.length
  l6 : ch.length ≤ 6
  n : ∀ x ∈ ch, 0 ≤ x ∧ x ≤ 80
  s : ch.Pairwise (· < ·)
theorem OkC.nd {ch : List Int} (h : OkC ch) : ch.Nodup := h.s.imp fun {a b} z => by omega
structure OkH (r g : Int) : Prop where
  r0 : 0 ≤ r
  r6 : r ≤ 6
  g0 : 0 ≤ g
  g6 : g ≤ 6

structure OkT (tu : List Int) : Prop where
  l1 : 1 ≤ tu.length
  l30 : tu.length ≤ 30
  n : ∀ x ∈ tu, 0 ≤ x ∧ x ≤ 80
abbrev encT (s : List Int) : PyData := .tuple (s.map .int)

theorem sc_need_neck : FnScope ["neck", "tuning", "frets", "capo", "note"] ["neck"] (defScope s_need_neck) := ⟨rfl, rfl, rfl, by decide +kernel, rfl, by decide +kernel, by decide +kernel⟩
def z_need_neck : Zp := fun ds kt _ _ => ∃ t f c, ds = [Nk t f c] ∧ OkN t f c ∧ kt .none
theorem need_neck_notes {t : List Int} (h : ∀ x ∈ t, 0 ≤ x ∧ x ≤ 60) : t.filter (fun b => !(decide ((0 : Int) ≤ b) && decide (b ≤ 60))) = [] := by
  rw [List.filter_eq_nil_iff]
  intro x hx
  have := h x hx
  simp [this.1, this.2]
theorem ok_need_neck {k : Nat} {f : Addr} {fd : FuncData} (Fn : Fun K "need_neck" "need_neck" s_need_neck f fd) (B : BT mg) (C : Cn mg) : FnOk P w K mg base CX0 (k + 1) f fd ["neck"] (spP z_need_neck) := by
  refine fn_ok Fn sc_need_neck (by rintro ds kt ko ke ⟨t, f, c, rfl, _⟩; rfl) (by decide) fun cdv A outer s H E Fm ds kt ko ke hr hF hz => ?_
  obtain ⟨t, f, c, rfl, ok, q⟩ := hz
  have nd := sc_need_neck.nd
  have l1 := ok.l1
  have l2 := ok.l2
  have c0 := ok.c0
  have cf := ok.cf
  have f2 := ok.f2
  -- tuning, frets, capo = neck
  refine db_cons (ds_asg (dg_tup rfl (dgs_cons (dg_name 1 nd) (dgs_cons (dg_name 2 nd) (dgs_cons (dg_name 3 nd) dgs_nil)))) ((ep_v 0).to ⟨_, rfl, rfl, _, _, rfl, _, _, rfl, _, _, rfl, rfl, ?_⟩))
  -- if not 1 <= len(tuning) <= MOST_STRINGS or not 0 <= capo <= frets <= MOST_FRETS:
  refine db_cons (ds_ifP (tp_w (wp_or (tp_not (tp_ch2 .le .le ep_int (ep_lenT B (ep_v 1)) (ep_gi C.MOST_STRINGS_necks))) fun h => (wp_or1 (tp_not (tp_ch3 .le .le .le ep_int (ep_v 3) (ep_v 2) (ep_gi C.MOST_FRETS)))))) (fun h => ?_) (fun h => db_nil ?_))
  · exfalso
    rw [List.length_map] at h
    simp only [Bool.or_eq_true, Bool.not_eq_true', Bool.and_eq_false_iff, decide_eq_false_iff_not] at h
    omega
  -- if [note for note in tuning if not 0 <= note <= MOST_NOTE] != []:
  refine db_cons (ds_ifP (tp_ne hr (ep_o (do_lc [("note", 4)] rfl nd (by decide) (fun _ _ _ _ _ => (dg_name 4 nd)) (di_tup ((ep_v 1).to ⟨_, rfl, (lcp 4 (fun b => .int b) t (fun b => !(decide ((0 : Int) ≤ b) && decide (b ≤ 60))) (fun b => .int b) rfl (small1000 (by omega)) (fun b hb s H C' cl fp => ts_one (tp_not (tp_ch2 .le .le ep_int (ep_v 4) (ep_gi C.MOST_NOTE)))) (fun b hb hf s H C' cl fp => (ep_v 4)) ⟨rfl, rfl⟩)⟩)) (blkOk_by rfl))) (ep_o (op_lst ap_nil)) (sh_lints _) sh_nil) (fun h => ?_) (fun h => db_nil (db_nil q)))
  exfalso
  rw [need_neck_notes ok.n] at h
  simp [PyData.eqv, PyData.eqvAll] at h

theorem sc_need_hand : FnScope ["hand", "number"] ["hand"] (defScope s_need_hand) := ⟨rfl, rfl, rfl, by decide +kernel, rfl, by decide +kernel, by decide +kernel⟩
def z_need_hand : Zp := fun ds kt _ _ => ∃ r g, ds = [Tu [r, g]] ∧ OkH r g ∧ kt .none
theorem ok_need_hand {k : Nat} {f : Addr} {fd : FuncData} (Fn : Fun K "need_hand" "need_hand" s_need_hand f fd) (B : BT mg) (C : Cn mg) : FnOk P w K mg base CX0 (k + 1) f fd ["hand"] (spP z_need_hand) := by
  refine fn_ok Fn sc_need_hand (by rintro ds kt ko ke ⟨r, g, rfl, _⟩; rfl) (by decide) fun cdv A outer s H E Fm ds kt ko ke hr hF hz => ?_
  obtain ⟨r, g, rfl, ⟨r0, r6, g0, g6⟩, q⟩ := hz
  have nd := sc_need_hand.nd
  refine db_cons (ds_ifP (tp_w (wp_or (tp_ne hr (ep_lenT B (ep_v 0)) ep_int (sh_int _) (sh_int _)) fun h => (wp_or1 (tp_ne hr (ep_o (do_lc [("number", 1)] rfl nd (by decide) (fun _ _ _ _ _ => (dg_name 1 nd)) (di_tup ((ep_v 0).to ⟨_, rfl, (lcp 1 (fun b => .int b) [r, g] (fun b => !(decide ((0 : Int) ≤ b) && decide (b ≤ 6))) (fun b => .int b) rfl (small1000 (by show 2 ≤ 1000; omega)) (fun b hb s H C' cl fp => ts_one (tp_not (tp_ch2 .le .le ep_int (ep_v 1) (ep_gi C.MOST_REACH)))) (fun b hb hf s H C' cl fp => (ep_v 1)) ⟨rfl, rfl⟩)⟩)) (blkOk_by rfl))) (ep_o (op_lst ap_nil)) (sh_lints _) sh_nil)))) (fun h => ?_) (fun h => db_nil (db_nil q)))
  exfalso
  have e : [r, g].filter (fun b => !(decide ((0 : Int) ≤ b) && decide (b ≤ 6))) = [] := by
    rw [List.filter_eq_nil_iff]
    intro x hx
    simp only [List.mem_cons, List.not_mem_nil, or_false] at hx
    rcases hx with rfl | rfl <;> simp <;> omega
  rw [e] at h
  simp [PyData.eqv, PyData.eqvAll] at h

theorem sc_is_chord : FnScope ["chord", "note", "k"] ["chord"] (defScope s_is_chord) := ⟨rfl, rfl, rfl, by decide +kernel, rfl, by decide +kernel, by decide +kernel⟩
def isC (ch : List Int) : Bool := (decide (1 ≤ ch.length) && decide (ch.length ≤ 6)) && (ch.all (fun b => decide ((0 : Int) ≤ b) && decide (b ≤ 80)) && (List.range (ch.length - 1)).all fun i => decide (ch.getD i 0 < ch.getD (i + 1) 0))
theorem pair_step : ∀ {l : List Int}, (∀ i, i + 1 < l.length → l.getD i 0 < l.getD (i + 1) 0) → l.Pairwise (· < ·)
  | [], _ => List.Pairwise.nil
  | [_], _ => List.pairwise_singleton ..
  | a :: b :: l, h => by
    have ih : (b :: l).Pairwise (· < ·) := pair_step fun i hi => by
      have := h (i + 1) (by simpa using hi)
      simpa using this
    refine List.pairwise_cons.mpr ⟨fun x hx => ?_, ih⟩
    have h0 : a < b := h 0 (by simp)
    rcases List.mem_cons.mp hx with rfl | hx
    · exact h0
    · have := (List.pairwise_cons.mp ih).1 x hx
      omega
theorem isC_ok {ch : List Int} : isC ch = true ↔ OkC ch := by
  unfold isC
  simp only [Bool.and_eq_true, decide_eq_true_eq, List.all_eq_true, List.mem_range]
  constructor
  · rintro ⟨⟨h1, h2⟩, h3, h4⟩
    exact ⟨h1, h2, h3, pair_step fun i hi => h4 i (by omega)⟩
  · intro h
    refine ⟨⟨h.l1, h.l6⟩, h.n, fun i hi => ?_⟩
    rw [getD_lt (by omega), getD_lt (by omega)]
    exact List.pairwise_iff_getElem.mp h.s i (i + 1) (by omega) (by omega) (by omega)
def z_is_chord : Zp := fun ds kt _ _ => ∃ ch, ds = [Tu ch] ∧ ch.length ≤ 1000 ∧ kt (.bool (isC ch))
theorem ok_is_chord {k : Nat} {f : Addr} {fd : FuncData} (Fn : Fun K "is_chord" "is_chord" s_is_chord f fd) (B : BT mg) (C : Cn mg) : FnOk P w K mg base CX0 (k + 1) f fd ["chord"] (spP z_is_chord) := by
  refine fn_ok Fn sc_is_chord (by rintro ds kt ko ke ⟨ch, rfl, _⟩; rfl) (by decide) fun cdv A outer s H E Fm ds kt ko ke hr hF hz => ?_
  obtain ⟨ch, rfl, l1000, q⟩ := hz
  have nd := sc_is_chord.nd
  have e1 : PyData.eqv (.list ((ch.filter fun b => !(decide ((0 : Int) ≤ b) && decide (b ≤ 80))).map fun b => PyData.int b)) (.list []) = ch.all (fun b => decide ((0 : Int) ≤ b) && decide (b ≤ 80)) := by
    rw [eqv_nilL]
    cases h : ch.all (fun b => decide ((0 : Int) ≤ b) && decide (b ≤ 80)) with
    | true =>
      rw [List.filter_eq_nil_iff.mpr (fun x hx => by rw [List.all_eq_true.mp h x hx]; decide)]; rfl
    | false =>
      rw [List.isEmpty_eq_false_iff]
      intro z
      have z := List.filter_eq_nil_iff.mp (List.map_eq_nil_iff.mp z)
      have : ch.all (fun b => decide ((0 : Int) ≤ b) && decide (b ≤ 80)) = true := List.all_eq_true.mpr fun x hx => by simpa using z x hx
      rw [this] at h; cases h
  refine db_cons (ds_ifP (tp_w (wp_or (tp_not (tp_ch2 .le .le ep_int (ep_lenT B (ep_v 0)) (ep_gi C.MOST_CHORD))) fun h => (wp_or1 ((tp_ne hr (ep_o (do_lc [("note", 1)] rfl nd (by decide) (fun _ _ _ _ _ => (dg_name 1 nd)) (di_tup ((ep_v 0).to ⟨_, rfl, (lcp 1 (fun b => .int b) ch (fun b => !(decide ((0 : Int) ≤ b) && decide (b ≤ 80))) (fun b => .int b) rfl (small1000 l1000) (fun b hb s H C' cl fp => ts_one (tp_not (tp_ch2 .le .le ep_int (ep_v 1) (ep_gi C.MOST_SOUND)))) (fun b hb hf s H C' cl fp => (ep_v 1)) ⟨rfl, rfl⟩)⟩)) (blkOk_by rfl))) (ep_o (op_lst ap_nil)) (sh_lints _) sh_nil).cast (congrArg (!·) e1))))) (fun h => ?_) (fun h => db_nil ?_))
  · refine db_cons (ds_retP ep_bl ?_)
    have : isC ch = false := by
      rw [List.length_map] at h
      unfold isC
      cases h2 : ch.all (fun b => decide ((0 : Int) ≤ b) && decide (b ≤ 80)) with
      | false => simp
      | true =>
        rw [h2] at h
        simp only [Bool.or_eq_true, Bool.not_eq_true', Bool.and_eq_false_iff, decide_eq_false_iff_not, Bool.not_true, Bool.false_eq_true, or_false] at h
        have : ¬ (1 ≤ ch.length ∧ ch.length ≤ 6) := by omega
        simp only [Bool.and_eq_false_iff, decide_eq_false_iff_not]
        exact .inl (by omega)
    rw [this] at q; exact q
  · rw [List.length_map] at h
    simp only [Bool.or_eq_false_iff, Bool.not_eq_false', Bool.and_eq_true, decide_eq_true_eq] at h
    obtain ⟨⟨h1, h2⟩, h3⟩ := h
    refine db_cons (ds_retP (ep_eq hr (ep_o (do_lc [("k", 2)] rfl nd (by decide) (fun _ _ _ _ _ => (dg_name 2 nd)) (di_range2 B.range (da_cons (ep_int.to (da_cons ((ep_lenT B (ep_v 0)).to (da_nil ⟨_, _, rfl, by rw [List.length_map]; omega, (lcp 2 (fun b => .int (1 + (b : Nat))) (List.range (ch.length - 1)) (fun b => decide (ch.getD (b + 1) 0 ≤ ch.getD b 0)) (fun b => .int (1 + (b : Nat))) (by
      rw [List.length_map]
      have e : ((ch.length : Nat) - 1 : Int).toNat = ch.length - 1 := by omega
      rw [e]; rfl) (small1000 (by rw [List.length_range]; omega)) (fun b hb s H C cl fp => ts_one (tp_ord .ge (ep_ixT (ep_v 0) (ep_sub (ep_v 2) ep_int) ?_) (ep_ixT (ep_v 0) (ep_v 2) ?_))) (fun b hb hf s H C cl fp => (ep_v 2)) ⟨rfl, rfl⟩)⟩)))))) (blkOk_by rfl))) (ep_o (op_lst ap_nil)) ?_ sh_nil) ?_)
    · have hb := mem_range hb
      have e : (1 + (b : Int) - 1) = ((b : Nat) : Int) := by omega
      rw [e]; exact atI_ints (by omega)
    · have hb := mem_range hb
      have e : (1 + (b : Int)) = ((b + 1 : Nat) : Int) := by omega
      rw [e]; exact atI_ints (by omega)
    · refine sh_of (n := 1) (shD_lst fun d hd => ?_)
      obtain ⟨b, _, rfl⟩ := List.mem_map.mp hd
      exact shD_int 0 _
    · show kt (.bool _)
      rw [eqv_nilL]
      have : isC ch = (((List.range (ch.length - 1)).filter fun b => decide (ch.getD (b + 1) 0 ≤ ch.getD b 0)).map fun b => PyData.int (1 + (b : Nat))).isEmpty := by
        unfold isC
        rw [decide_eq_true (by omega : 1 ≤ ch.length), decide_eq_true (by omega : ch.length ≤ 6), h3]
        simp only [Bool.and_self, Bool.true_and]
        cases h5 : (((List.range (ch.length - 1)).filter fun b => decide (ch.getD (b + 1) 0 ≤ ch.getD b 0)).map fun b => PyData.int (1 + (b : Nat))).isEmpty with
        | true =>
          rw [List.isEmpty_iff, List.map_eq_nil_iff, List.filter_eq_nil_iff] at h5
          rw [List.all_eq_true]
          intro x hx
          have := h5 x hx
          simp only [decide_eq_true_eq] at this ⊢
          omega
        | false =>
          rw [List.all_eq_false]
          rw [List.isEmpty_eq_false_iff] at h5
          obtain ⟨x, hx⟩ := List.exists_mem_of_ne_nil _ h5
          obtain ⟨y, hy, _⟩ := List.mem_map.mp hx
          obtain ⟨h6, h7⟩ := List.mem_filter.mp hy
          refine ⟨y, h6, ?_⟩
          simp only [decide_eq_true_eq] at h7 ⊢
          omega
      rw [← this]; exact q

theorem sc_need_chord : FnScope ["chord"] ["chord"] (defScope s_need_chord) := ⟨rfl, rfl, rfl, by decide +kernel, rfl, by decide +kernel, by decide +kernel⟩
def z_need_chord : Zp := fun ds kt _ _ => ∃ ch, ds = [Tu ch] ∧ OkC ch ∧ kt .none
theorem ok_need_chord {k : Nat} {f : Addr} {fd : FuncData} (Fn : Fun K "need_chord" "need_chord" s_need_chord f fd) (k_is_chord : Kn P w K mg base CX0 "is_chord" k (spP z_is_chord)) : FnOk P w K mg base CX0 (k + 1) f fd ["chord"] (spP z_need_chord) := by
  refine fn_ok Fn sc_need_chord (by rintro ds kt ko ke ⟨ch, rfl, _⟩; rfl) (by decide) fun cdv A outer s H E Fm ds kt ko ke hr hF hz => ?_
  obtain ⟨ch, rfl, ok, q⟩ := hz
  have h6 := ok.l6
  refine db_cons (ds_ifP (tp_not (tp_val (by intro _; rfl) (ep_call (d := .bool true) k_is_chord hr wish0 (ap_cons (ep_v 0) ap_nil) ⟨ch, rfl, by omega, by rw [isC_ok.mpr ok], rfl⟩))) (fun h => nomatch h) (fun h => db_nil (db_nil q)))

theorem sc_need_chords : FnScope ["chords", "number"] ["chords"] (defScope s_need_chords) := ⟨rfl, rfl, rfl, by decide +kernel, rfl, by decide +kernel, by decide +kernel⟩
def z_need_chords : Zp := fun ds kt _ _ => ∃ chs : List (List Int), ds = [.list (chs.map encT)] ∧ chs.length ≤ 6 ∧ (∀ ch ∈ chs, OkC ch) ∧ kt .none
theorem rg_num {n i : Nat} {d : PyData} (h : (rgD 0 ((n : Int)).toNat)[i]? = some d) : i < n ∧ d = .int (0 + (i : Int)) := by
  have hi := (List.getElem?_eq_some_iff.mp h).1
  rw [rgD_length] at hi
  rw [rgD_get hi] at h
  rw [Int.toNat_natCast] at hi
  exact ⟨hi, (Option.some.inj h).symm⟩
theorem atI_chs {chs : List (List Int)} {i : Nat} (h : i < chs.length) : atI (chs.map encT) (0 + (i : Int)) = some (encT (chs.getD i [])) := by
  rw [Int.zero_add]
  refine atI_nat (j := i) ?_
  rw [List.getElem?_map, List.getElem?_eq_getElem h, getD_lt h]; rfl
theorem chs_mem {chs : List (List Int)} {i : Nat} (h : i < chs.length) : chs.getD i [] ∈ chs := by
  rw [getD_lt h]; exact List.getElem_mem h
theorem ok_need_chords {k : Nat} {f : Addr} {fd : FuncData} (Fn : Fun K "need_chords" "need_chords" s_need_chords f fd) (B : BT mg) (C : Cn mg) (k_is_chord : Kn P w K mg base CX0 "is_chord" k (spP z_is_chord)) : FnOk P w K mg base CX0 (k + 1) f fd ["chords"] (spP z_need_chords) := by
  refine fn_ok Fn sc_need_chords (by rintro ds kt ko ke ⟨chs, rfl, _⟩; rfl) (by decide) fun cdv A outer s H E Fm ds kt ko ke hr hF hz => ?_
  obtain ⟨chs, rfl, l6, oc, q⟩ := hz
  have nd := sc_need_chords.nd
  -- if len(chords) > MOST_CHORD:
  refine db_cons (ds_ifP (x := false) ((tp_ord .gt (ep_lenL B (ep_v 0)) (ep_gi C.MOST_CHORD)).cast (decide_eq_false (by rw [List.length_map]; omega))) (fun h => nomatch h) (fun h => db_nil ?_))
  -- for number in range(len(chords)):
  refine db_cons (ds_for PassesOwn.never rfl (dg_name 1 nd) (di_range1 B.range (da_cons ((ep_lenL B (ep_v 0)).to (da_nil ⟨_, rfl, by rw [List.length_map]; omega, ⟨fun i S => ∃ s1, S = [.val (.list (chs.map encT)), s1], ⟨_, rfl⟩, fun i d Si hd hI => ?_, fun Sn hI => db_nil q⟩⟩)))))
  obtain ⟨s1, rfl⟩ := hI
  rw [List.length_map] at hd
  obtain ⟨hi, rfl⟩ := rg_num hd
  -- if not is_chord(chords[number]):
  exact db_one (ds_ifP (tp_not (tp_val (by intro _; rfl) (ep_call (d := .bool true) k_is_chord hr wish0 (ap_cons (ep_ixL (ep_v 0) (ep_v 1) (atI_chs hi)) ap_nil) ⟨_, rfl, by have := (oc _ (chs_mem hi)).l6; omega, by rw [isC_ok.mpr (oc _ (chs_mem hi))], rfl⟩))) (fun h => nomatch h) (fun h => db_nil ⟨_, rfl⟩))

theorem sc_need_tune : FnScope ["tune", "note"] ["tune"] (defScope s_need_tune) := ⟨rfl, rfl, rfl, by decide +kernel, rfl, by decide +kernel, by decide +kernel⟩
def z_need_tune : Zp := fun ds kt _ _ => ∃ tu, ds = [Li tu] ∧ OkT tu ∧ kt .none
theorem ok_need_tune {k : Nat} {f : Addr} {fd : FuncData} (Fn : Fun K "need_tune" "need_tune" s_need_tune f fd) (B : BT mg) (C : Cn mg) : FnOk P w K mg base CX0 (k + 1) f fd ["tune"] (spP z_need_tune) := by
  refine fn_ok Fn sc_need_tune (by rintro ds kt ko ke ⟨tu, rfl, _⟩; rfl) (by decide) fun cdv A outer s H E Fm ds kt ko ke hr hF hz => ?_
  obtain ⟨tu, rfl, ⟨l1, l30, hn⟩, q⟩ := hz
  have nd := sc_need_tune.nd
  refine db_cons (ds_ifP (tp_w (wp_or (tp_not (tp_ch2 .le .le ep_int (ep_lenL B (ep_v 0)) (ep_gi C.MOST_TUNE))) fun h => (wp_or1 (tp_ne hr (ep_o (do_lc [("note", 1)] rfl nd (by decide) (fun _ _ _ _ _ => (dg_name 1 nd)) (di_list ((ep_v 0).to ⟨_, rfl, (lcp 1 (fun b => .int b) tu (fun b => !(decide ((0 : Int) ≤ b) && decide (b ≤ 80))) (fun b => .int b) rfl (small1000 (by omega)) (fun b hb s H C' cl fp => ts_one (tp_not (tp_ch2 .le .le ep_int (ep_v 1) (ep_gi C.MOST_SOUND)))) (fun b hb hf s H C' cl fp => (ep_v 1)) ⟨rfl, rfl⟩)⟩)) (blkOk_by rfl))) (ep_o (op_lst ap_nil)) (sh_lints _) sh_nil)))) (fun h => ?_) (fun h => db_nil (db_nil q)))
  exfalso
  have e : tu.filter (fun b => !(decide ((0 : Int) ≤ b) && decide (b ≤ 80))) = [] := by
    rw [List.filter_eq_nil_iff]
    intro x hx
    have := hn x hx
    simp [this.1, this.2]
  rw [e, List.length_map] at h
  simp [PyData.eqv, PyData.eqvAll] at h
  omega

theorem sc_need_reach : FnScope ["reach"] ["reach"] (defScope s_need_reach) := ⟨rfl, rfl, rfl, by decide +kernel, rfl, by decide +kernel, by decide +kernel⟩
def z_need_reach : Zp := fun ds kt _ _ => ∃ r : Int, ds = [.int r] ∧ 0 ≤ r ∧ r ≤ 6 ∧ kt .none
theorem ok_need_reach {k : Nat} {f : Addr} {fd : FuncData} (Fn : Fun K "need_reach" "need_reach" s_need_reach f fd) (C : Cn mg) : FnOk P w K mg base CX0 (k + 1) f fd ["reach"] (spP z_need_reach) := by
  refine fn_ok Fn sc_need_reach (by rintro ds kt ko ke ⟨r, rfl, _⟩; rfl) (by decide) fun cdv A outer s H E Fm ds kt ko ke hr hF hz => ?_
  obtain ⟨r, rfl, r0, r6, q⟩ := hz
  refine db_cons (ds_ifP (tp_not (tp_ch2 .le .le ep_int (ep_v 0) (ep_gi C.MOST_REACH))) (fun h => ?_) (fun h => db_nil (db_nil q)))
  exfalso
  simp only [Bool.not_eq_true', Bool.and_eq_false_iff, decide_eq_false_iff_not] at h
  omega

def zx_need_neck (D : Addr) : Zp := fun ds _ _ ke => ∃ t f c, ds = [Nk t f c] ∧ t.length ≤ 900 ∧ ¬ OkN t f c ∧ ke (D, none)
theorem okx_need_neck {k : Nat} {f : Addr} {fd : FuncData} (Fn : Fun K "need_neck" "need_neck" s_need_neck f fd) (B : BT mg) (C : Cn mg) (E : XcOk K mg NE EA) : FnOk P w K mg base (L2.CX P w) (k + 1) f fd ["neck"] (spP (zx_need_neck (EA .neck))) := by
  refine fn_okX Fn sc_need_neck (by rintro ds kt ko ke ⟨t, f, c, rfl, _⟩; rfl) (by decide) fun cdv A outer s H Ek Fm ds kt ko ke hr hF hz hE => ?_
  obtain ⟨t, f, c, rfl, l9, hbad, q⟩ := hz
  have nd := sc_need_neck.nd
  have hw : ∀ (dd : Option Addr) (σ : L2.St) (H' : Hp), Keep Fm H' → dd = none → Ek (.ref (EA .neck)) dd H' := fun dd _ H' kp hd => hE (EA .neck, none) dd H' q kp hd
  -- tuning, frets, capo = neck
  refine db_cons (ds_asg (dg_tup rfl (dgs_cons (dg_name 1 nd) (dgs_cons (dg_name 2 nd) (dgs_cons (dg_name 3 nd) dgs_nil)))) ((ep_v 0).to ⟨_, rfl, rfl, _, _, rfl, _, _, rfl, _, _, rfl, rfl, ?_⟩))
  -- if not 1 <= len(tuning) <= MOST_STRINGS or not 0 <= capo <= frets <= MOST_FRETS:
  refine db_cons (ds_ifP (tp_w (wp_or (tp_not (tp_ch2 .le .le ep_int (ep_lenT B (ep_v 1)) (ep_gi C.MOST_STRINGS_necks))) fun h => (wp_or1 (tp_not (tp_ch3 .le .le .le ep_int (ep_v 3) (ep_v 2) (ep_gi C.MOST_FRETS)))))) (fun h => db_one (ds_raise .neck E rfl (takes_of rfl rfl rfl rfl) hw)) (fun h1 => db_nil ?_))
  -- if [note for note in tuning if not 0 <= note <= MOST_NOTE] != []:
  refine db_cons (ds_ifP (tp_ne hr (ep_o (do_lc [("note", 4)] rfl nd (by decide) (fun _ _ _ _ _ => (dg_name 4 nd)) (di_tup ((ep_v 1).to ⟨_, rfl, (lcp 4 (fun b => .int b) t (fun b => !(decide ((0 : Int) ≤ b) && decide (b ≤ 60))) (fun b => .int b) rfl (small1000 (by omega)) (fun b hb s H C' cl fp => ts_one (tp_not (tp_ch2 .le .le ep_int (ep_v 4) (ep_gi C.MOST_NOTE)))) (fun b hb hf s H C' cl fp => (ep_v 4)) ⟨rfl, rfl⟩)⟩)) (blkOk_by rfl))) (ep_o (op_lst ap_nil)) (sh_lints _) sh_nil) (fun h => db_one (ds_raise .neck E rfl (takes_of rfl rfl rfl rfl) hw)) (fun h => ?_))
  exfalso
  rw [List.length_map] at h1
  simp only [Bool.or_eq_false_iff, Bool.not_eq_false', Bool.and_eq_true, decide_eq_true_eq] at h1
  rw [eqv_nilL, Bool.not_eq_false', List.isEmpty_iff, List.map_eq_nil_iff, List.filter_eq_nil_iff] at h
  refine hbad ⟨by omega, by omega, fun x hx => ?_, by omega, by omega, by omega⟩
  have := h x hx
  simpa using this

def HdOk (hd : List Int) : Prop := ∃ r g, hd = [r, g] ∧ OkH r g
def zx_need_hand (D : Addr) : Zp := fun ds _ _ ke => ∃ hd, ds = [Tu hd] ∧ hd.length ≤ 900 ∧ ¬ HdOk hd ∧ ke (D, none)
theorem okx_need_hand {k : Nat} {f : Addr} {fd : FuncData} (Fn : Fun K "need_hand" "need_hand" s_need_hand f fd) (B : BT mg) (C : Cn mg) (E : XcOk K mg NE EA) : FnOk P w K mg base (L2.CX P w) (k + 1) f fd ["hand"] (spP (zx_need_hand (EA .hand))) := by
  refine fn_okX Fn sc_need_hand (by rintro ds kt ko ke ⟨hd, rfl, _⟩; rfl) (by decide) fun cdv A outer s H Ek Fm ds kt ko ke hr hF hz hE => ?_
  obtain ⟨hd, rfl, l9, hbad, q⟩ := hz
  have nd := sc_need_hand.nd
  have hw : ∀ (dd : Option Addr) (σ : L2.St) (H' : Hp), Keep Fm H' → dd = none → Ek (.ref (EA .hand)) dd H' := fun dd _ H' kp hd => hE (EA .hand, none) dd H' q kp hd
  refine db_cons (ds_ifP (tp_w (wp_or (tp_ne hr (ep_lenT B (ep_v 0)) ep_int (sh_int _) (sh_int _)) fun h => (wp_or1 (tp_ne hr (ep_o (do_lc [("number", 1)] rfl nd (by decide) (fun _ _ _ _ _ => (dg_name 1 nd)) (di_tup ((ep_v 0).to ⟨_, rfl, (lcp 1 (fun b => .int b) hd (fun b => !(decide ((0 : Int) ≤ b) && decide (b ≤ 6))) (fun b => .int b) rfl (small1000 (by omega)) (fun b hb s H C' cl fp => ts_one (tp_not (tp_ch2 .le .le ep_int (ep_v 1) (ep_gi C.MOST_REACH)))) (fun b hb hf s H C' cl fp => (ep_v 1)) ⟨rfl, rfl⟩)⟩)) (blkOk_by rfl))) (ep_o (op_lst ap_nil)) (sh_lints _) sh_nil)))) (fun h => db_one (ds_raise .hand E rfl (takes_of rfl rfl rfl rfl) hw)) (fun h => ?_))
  exfalso
  rw [Bool.or_eq_false_iff, eqv_nilL, Bool.not_eq_false', Bool.not_eq_false', List.isEmpty_iff, List.map_eq_nil_iff, List.filter_eq_nil_iff, eqv_int, List.length_map] at h
  obtain ⟨h1, h2⟩ := h
  have h1 : hd.length = 2 := by
    simp at h1
    omega
  match hd, h1 with
  | [r, g], _ =>
    have a := h2 r (by simp)
    have b := h2 g (by simp)
    simp at a b
    exact hbad ⟨r, g, rfl, by omega, by omega, by omega, by omega⟩

/-! ### what is refused first -/
/-- no chords: which number -/
def BadCs (chs : List (List Int)) (n : Int) : Prop := (6 < chs.length ∧ n = 6) ∨ (chs.length ≤ 6 ∧ ∃ i : Nat, i < chs.length ∧ n = (i : Int) ∧ ¬ OkC (chs.getD i []) ∧ ∀ j : Nat, j < i → OkC (chs.getD j []))
def RWays (t : List Int) (f c : Int) (ch hd : List Int) : Ec → Option Int → Prop
  | .neck, none => ¬ OkN t f c
  | .chord, some n => OkN t f c ∧ ¬ OkC ch ∧ n = 0
  | .hand, none => OkN t f c ∧ OkC ch ∧ ¬ HdOk hd
  | _, _ => False
def RRet (t : List Int) (f c : Int) (chs : List (List Int)) (hd : List Int) : Ec → Option Int → Prop
  | .neck, none => ¬ OkN t f c ∨ (OkN t f c ∧ 4 < t.length)
  | .chord, some n => OkN t f c ∧ t.length ≤ 4 ∧ BadCs chs n
  | .hand, none => OkN t f c ∧ t.length ≤ 4 ∧ chs.length ≤ 6 ∧ (∀ ch ∈ chs, OkC ch) ∧ ¬ HdOk hd
  | _, _ => False
def RTune (t : List Int) (f c : Int) (tu : List Int) (r : Int) : Ec → Option Int → Prop
  | .neck, none => ¬ OkN t f c
  | .tune, none => OkN t f c ∧ ¬ OkT tu
  | .hand, none => OkN t f c ∧ OkT tu ∧ ¬ (0 ≤ r ∧ r ≤ 6)
  | _, _ => False
theorem isC_no {ch : List Int} (h : ¬ OkC ch) : isC ch = false := by
  cases e : isC ch with
  | false => rfl
  | true => exact absurd (isC_ok.mp e) h

def zx_need_chord (D : Addr) : Zp := fun ds _ _ ke => ∃ ch, ds = [Tu ch] ∧ ch.length ≤ 900 ∧ ¬ OkC ch ∧ ke (D, some 0)
theorem okx_need_chord {k : Nat} {f : Addr} {fd : FuncData} (Fn : Fun K "need_chord" "need_chord" s_need_chord f fd) (E : XcOk K mg NE EA) (I : InOk P w K mg base 1 (EA .chord)) (k_is_chord : Kn P w K mg base CX0 "is_chord" k (spP z_is_chord)) : FnOk P w K mg base (L2.CX P w) (k + 3) f fd ["chord"] (spP (zx_need_chord (EA .chord))) := by
  refine fn_okX Fn sc_need_chord (by rintro ds kt ko ke ⟨ch, rfl, _⟩; rfl) (by decide) fun cdv A outer s H Ek Fm ds kt ko ke hr hF hz hE => ?_
  obtain ⟨ch, rfl, l9, hbad, q⟩ := hz
  exact db_cons (ds_ifP (tp_not (tp_val (by intro _; rfl) (ep_call (d := .bool false) k_is_chord (hr.mono (by omega)) wish0 (ap_cons (ep_v 0) ap_nil) ⟨ch, rfl, by omega, by rw [isC_no hbad], rfl⟩))) (fun h => db_one (ds_raiseN I (E.x .chord).g rfl (takes_of rfl rfl rfl rfl) (hr.mono (by omega)) ep_int fun dd _ H' kp sh => hE (EA .chord, some 0) dd H' q kp sh)) (fun h => nomatch h))

def zx_need_chords (D : Addr) : Zp := fun ds _ _ ke => ∃ (chs : List (List Int)) (n : Int), ds = [.list (chs.map encT)] ∧ chs.length ≤ 900 ∧ (∀ ch ∈ chs, ch.length ≤ 900) ∧ BadCs chs n ∧ ke (D, some n)
theorem okx_need_chords {k : Nat} {f : Addr} {fd : FuncData} (Fn : Fun K "need_chords" "need_chords" s_need_chords f fd) (B : BT mg) (C : Cn mg) (E : XcOk K mg NE EA) (I : InOk P w K mg base 1 (EA .chord)) (k_is_chord : Kn P w K mg base CX0 "is_chord" k (spP z_is_chord)) : FnOk P w K mg base (L2.CX P w) (k + 3) f fd ["chords"] (spP (zx_need_chords (EA .chord))) := by
  refine fn_okX Fn sc_need_chords (by rintro ds kt ko ke ⟨chs, n, rfl, _⟩; rfl) (by decide) fun cdv A outer s H Ek Fm ds kt ko ke hr hF hz hE => ?_
  obtain ⟨chs, n, rfl, l9, c9, hbad, q⟩ := hz
  have nd := sc_need_chords.nd
  have hw : ∀ (dd : Option Addr) (σ : L2.St) (H' : Hp), Keep Fm H' → XSh (EA .chord, some n) dd Fm.H0 H' → Ek (.ref (EA .chord)) dd H' := fun dd _ H' kp sh => hE (EA .chord, some n) dd H' q kp sh
  rcases hbad with ⟨l6, e⟩ | ⟨l6, i, hi, e, hno, hok⟩
  · -- if len(chords) > MOST_CHORD:
    subst e
    exact db_cons (ds_ifP (x := true) ((tp_ord .gt (ep_lenL B (ep_v 0)) (ep_gi C.MOST_CHORD)).cast (decide_eq_true (by rw [List.length_map]; omega))) (fun h => db_one (ds_raiseN I (E.x .chord).g rfl (takes_of rfl rfl rfl rfl) (hr.mono (by omega)) (ep_gi C.MOST_CHORD) hw)) (fun h => nomatch h))
  · refine db_cons (ds_ifP (x := false) ((tp_ord .gt (ep_lenL B (ep_v 0)) (ep_gi C.MOST_CHORD)).cast (decide_eq_false (by rw [List.length_map]; omega))) (fun h => nomatch h) (fun h => db_nil ?_))
    -- for number in range(len(chords)):
    refine db_cons (ds_for (passes_of rfl) rfl (dg_name 1 nd) (di_range1 B.range (da_cons ((ep_lenL B (ep_v 0)).to (da_nil ⟨_, rfl, by rw [List.length_map]; omega, ⟨fun j S => j ≤ i ∧ ∃ s1, S = [.val (.list (chs.map encT)), s1], ⟨by omega, _, rfl⟩, fun j d Si hd hI => ?_, fun Sn hI => ?_⟩⟩)))))
    · obtain ⟨hj, s1, rfl⟩ := hI
      rw [List.length_map] at hd
      obtain ⟨hjl, rfl⟩ := rg_num hd
      by_cases hji : j = i
      · subst hji
        exact db_one (ds_ifP (tp_not (tp_val (by intro _; rfl) (ep_call (d := .bool false) k_is_chord (hr.mono (by omega)) wish0 (ap_cons (ep_ixL (ep_v 0) (ep_v 1) (atI_chs hjl)) ap_nil) ⟨_, rfl, by have := c9 _ (chs_mem hjl); omega, by rw [isC_no hno], rfl⟩))) (fun h => db_one (ds_raiseN I (E.x .chord).g rfl (takes_of rfl rfl rfl rfl) (hr.mono (by omega)) ((ep_v (d := .int (0 + (j : Int))) 1).cast (by rw [e, Int.zero_add])) hw)) (fun h => nomatch h))
      · have oc := hok j (by omega)
        exact db_one (ds_ifP (tp_not (tp_val (by intro _; rfl) (ep_call (d := .bool true) k_is_chord (hr.mono (by omega)) wish0 (ap_cons (ep_ixL (ep_v 0) (ep_v 1) (atI_chs hjl)) ap_nil) ⟨_, rfl, by have := c9 _ (chs_mem hjl); omega, by rw [isC_ok.mpr oc], rfl⟩))) (fun h => nomatch h) (fun h => db_nil ⟨by omega, _, rfl⟩))
    · exfalso
      rw [rgD_length, List.length_map, Int.toNat_natCast] at hI
      have := hI.1
      omega

def zx_need_tune (D : Addr) : Zp := fun ds _ _ ke => ∃ tu, ds = [Li tu] ∧ tu.length ≤ 900 ∧ ¬ OkT tu ∧ ke (D, none)
theorem okx_need_tune {k : Nat} {f : Addr} {fd : FuncData} (Fn : Fun K "need_tune" "need_tune" s_need_tune f fd) (B : BT mg) (C : Cn mg) (E : XcOk K mg NE EA) : FnOk P w K mg base (L2.CX P w) (k + 1) f fd ["tune"] (spP (zx_need_tune (EA .tune))) := by
  refine fn_okX Fn sc_need_tune (by rintro ds kt ko ke ⟨tu, rfl, _⟩; rfl) (by decide) fun cdv A outer s H Ek Fm ds kt ko ke hr hF hz hE => ?_
  obtain ⟨tu, rfl, l9, hbad, q⟩ := hz
  have nd := sc_need_tune.nd
  have hw : ∀ (dd : Option Addr) (σ : L2.St) (H' : Hp), Keep Fm H' → dd = none → Ek (.ref (EA .tune)) dd H' := fun dd _ H' kp hd => hE (EA .tune, none) dd H' q kp hd
  refine db_cons (ds_ifP (tp_w (wp_or (tp_not (tp_ch2 .le .le ep_int (ep_lenL B (ep_v 0)) (ep_gi C.MOST_TUNE))) fun h => (wp_or1 (tp_ne hr (ep_o (do_lc [("note", 1)] rfl nd (by decide) (fun _ _ _ _ _ => (dg_name 1 nd)) (di_list ((ep_v 0).to ⟨_, rfl, (lcp 1 (fun b => .int b) tu (fun b => !(decide ((0 : Int) ≤ b) && decide (b ≤ 80))) (fun b => .int b) rfl (small1000 (by omega)) (fun b hb s H C' cl fp => ts_one (tp_not (tp_ch2 .le .le ep_int (ep_v 1) (ep_gi C.MOST_SOUND)))) (fun b hb hf s H C' cl fp => (ep_v 1)) ⟨rfl, rfl⟩)⟩)) (blkOk_by rfl))) (ep_o (op_lst ap_nil)) (sh_lints _) sh_nil)))) (fun h => db_one (ds_raise .tune E rfl (takes_of rfl rfl rfl rfl) hw)) (fun h => ?_))
  exfalso
  rw [Bool.or_eq_false_iff, eqv_nilL, Bool.not_eq_false', Bool.not_eq_false', List.isEmpty_iff, List.map_eq_nil_iff, List.filter_eq_nil_iff, List.length_map] at h
  obtain ⟨h1, h2⟩ := h
  rw [Bool.and_eq_true, decide_eq_true_eq, decide_eq_true_eq] at h1
  refine hbad ⟨by omega, by omega, fun x hx => ?_⟩
  have := h2 x hx
  simpa using this

def zx_need_reach (D : Addr) : Zp := fun ds _ _ ke => ∃ r : Int, ds = [.int r] ∧ ¬ (0 ≤ r ∧ r ≤ 6) ∧ ke (D, none)
theorem okx_need_reach {k : Nat} {f : Addr} {fd : FuncData} (Fn : Fun K "need_reach" "need_reach" s_need_reach f fd) (C : Cn mg) (E : XcOk K mg NE EA) : FnOk P w K mg base (L2.CX P w) (k + 1) f fd ["reach"] (spP (zx_need_reach (EA .hand))) := by
  refine fn_okX Fn sc_need_reach (by rintro ds kt ko ke ⟨r, rfl, _⟩; rfl) (by decide) fun cdv A outer s H Ek Fm ds kt ko ke hr hF hz hE => ?_
  obtain ⟨r, rfl, hbad, q⟩ := hz
  have hw : ∀ (dd : Option Addr) (σ : L2.St) (H' : Hp), Keep Fm H' → dd = none → Ek (.ref (EA .hand)) dd H' := fun dd _ H' kp hd => hE (EA .hand, none) dd H' q kp hd
  refine db_cons (ds_ifP (tp_not (tp_ch2 .le .le ep_int (ep_v 0) (ep_gi C.MOST_REACH))) (fun h => db_one (ds_raise .hand E rfl (takes_of rfl rfl rfl rfl) hw)) (fun h => ?_))
  exfalso
  rw [Bool.not_eq_false', Bool.and_eq_true, decide_eq_true_eq, decide_eq_true_eq] at h
  exact hbad h

def zx_ways (A : Ec → Addr) : Zp := fun ds _ _ ke => ∃ e n t f c ch hd, ds = [Nk t f c, Tu ch, Tu hd] ∧ t.length ≤ 900 ∧ ch.length ≤ 900 ∧ hd.length ≤ 900 ∧ RWays t f c ch hd e n ∧ ke (A e, n)
theorem sc_ways : FnScope ["neck", "chord", "hand"] ["neck", "chord", "hand"] (defScope s_ways) := ⟨rfl, rfl, rfl, by decide +kernel, rfl, by decide +kernel, by decide +kernel⟩
theorem okx_ways {k : Nat} {f : Addr} {fd : FuncData} (Fn : Fun K "ways" "ways" s_ways f fd) (k_need_neck : Kn P w K mg base CX0 "need_neck" k (spP z_need_neck)) (kx_need_neck : Kn P w K mg base (L2.CX P w) "need_neck" k (spP (zx_need_neck (EA .neck)))) (k_need_chord : Kn P w K mg base CX0 "need_chord" k (spP z_need_chord)) (kx_need_chord : Kn P w K mg base (L2.CX P w) "need_chord" k (spP (zx_need_chord (EA .chord)))) (kx_need_hand : Kn P w K mg base (L2.CX P w) "need_hand" k (spP (zx_need_hand (EA .hand)))) : FnOk P w K mg base (L2.CX P w) (k + 1) f fd ["neck", "chord", "hand"] (spP (zx_ways EA)) := by
  refine fn_okX Fn sc_ways (by rintro ds kt ko ke ⟨e, n, t, f, c, ch, hd, rfl, _⟩; rfl) (by decide) fun cdv A outer s H Ek Fm ds kt ko ke hr hF hz hE => ?_
  obtain ⟨e, n, t, f, c, ch, hd, rfl, l9, s9, h9, hbad, q⟩ := hz
  match e, n, hbad, q with
  | .neck, none, hbad, q => exact db_cons (ds_expr (de_call kx_need_neck hr (wishX (takes_of rfl rfl rfl rfl) hE) ((ap_cons (ep_v 0) ap_nil).to ⟨t, f, c, rfl, l9, hbad, q⟩)))
  | .chord, some _, ⟨ok, hbad, e0⟩, q =>
    subst e0
    refine db_cons (ds_expr (de_call k_need_neck hr wish0 ((ap_cons (ep_v 0) ap_nil).to ⟨t, f, c, rfl, ok, ?_⟩)))
    exact db_cons (ds_expr (de_call kx_need_chord hr (wishX (takes_of rfl rfl rfl rfl) hE) ((ap_cons (ep_v 1) ap_nil).to ⟨ch, rfl, s9, hbad, q⟩)))
  | .hand, none, ⟨ok, oc, hbad⟩, q =>
    refine db_cons (ds_expr (de_call k_need_neck hr wish0 ((ap_cons (ep_v 0) ap_nil).to ⟨t, f, c, rfl, ok, ?_⟩)))
    refine db_cons (ds_expr (de_call k_need_chord hr wish0 ((ap_cons (ep_v 1) ap_nil).to ⟨ch, rfl, oc, ?_⟩)))
    exact db_cons (ds_expr (de_call kx_need_hand hr (wishX (takes_of rfl rfl rfl rfl) hE) ((ap_cons (ep_v 2) ap_nil).to ⟨hd, rfl, h9, hbad, q⟩)))

def zx_retuned (A : Ec → Addr) : Zp := fun ds _ _ ke => ∃ e n t f c, ∃ chs : List (List Int), ∃ hd, ds = [Nk t f c, .list (chs.map encT), Tu hd] ∧ t.length ≤ 900 ∧ chs.length ≤ 900 ∧ (∀ ch ∈ chs, ch.length ≤ 900) ∧ hd.length ≤ 900 ∧ RRet t f c chs hd e n ∧ ke (A e, n)
theorem sc_retuned : FnScope ["neck", "chords", "hand", "reasons", "retuning", "tuning", "note", "change", "number"] ["neck", "chords", "hand"] (defScope s_retuned) := ⟨rfl, rfl, rfl, by decide +kernel, rfl, by decide +kernel, by decide +kernel⟩
theorem okx_retuned {k : Nat} {f : Addr} {fd : FuncData} (Fn : Fun K "retuned" "retuned" s_retuned f fd) (B : BT mg) (C : Cn mg) (E : XcOk K mg NE EA) (k_need_neck : Kn P w K mg base CX0 "need_neck" k (spP z_need_neck)) (kx_need_neck : Kn P w K mg base (L2.CX P w) "need_neck" k (spP (zx_need_neck (EA .neck)))) (k_need_chords : Kn P w K mg base CX0 "need_chords" k (spP z_need_chords)) (kx_need_chords : Kn P w K mg base (L2.CX P w) "need_chords" k (spP (zx_need_chords (EA .chord)))) (kx_need_hand : Kn P w K mg base (L2.CX P w) "need_hand" k (spP (zx_need_hand (EA .hand)))) : FnOk P w K mg base (L2.CX P w) (k + 1) f fd ["neck", "chords", "hand"] (spP (zx_retuned EA)) := by
  refine fn_okX Fn sc_retuned (by rintro ds kt ko ke ⟨e, n, t, f, c, chs, hd, rfl, _⟩; rfl) (by decide) fun cdv A outer s H Ek Fm ds kt ko ke hr hF hz hE => ?_
  obtain ⟨e, n, t, f, c, chs, hd, rfl, l9, s9, c9, h9, hbad, q⟩ := hz
  match e, n, hbad, q with
  | .neck, none, .inl hbad, q => exact db_cons (ds_expr (de_call kx_need_neck hr (wishX (takes_of rfl rfl rfl rfl) hE) ((ap_cons (ep_v 0) ap_nil).to ⟨t, f, c, rfl, l9, hbad, q⟩)))
  | .neck, none, .inr ⟨ok, l4⟩, q =>
    have hw : ∀ (dd : Option Addr) (σ : L2.St) (H' : Hp), Keep Fm H' → dd = none → Ek (.ref (EA .neck)) dd H' := fun dd _ H' kp hd => hE (EA .neck, none) dd H' q kp hd
    refine db_cons (ds_expr (de_call k_need_neck hr wish0 ((ap_cons (ep_v 0) ap_nil).to ⟨t, f, c, rfl, ok, ?_⟩)))
    exact db_cons (ds_ifP (x := true) ((tp_ord .gt (ep_lenT B (ep_ixT (d := Tu t) (ep_v 0) ep_int rfl)) (ep_gi C.MOST_STRINGS_tunings)).cast (decide_eq_true (by rw [List.length_map]; omega))) (fun h => db_one (ds_raise .neck E rfl (takes_of rfl rfl rfl rfl) hw)) (fun h => nomatch h))
  | .chord, some n, ⟨ok, l4, hbad⟩, q =>
    refine db_cons (ds_expr (de_call k_need_neck hr wish0 ((ap_cons (ep_v 0) ap_nil).to ⟨t, f, c, rfl, ok, ?_⟩)))
    refine db_cons (ds_ifP (x := false) ((tp_ord .gt (ep_lenT B (ep_ixT (d := Tu t) (ep_v 0) ep_int rfl)) (ep_gi C.MOST_STRINGS_tunings)).cast (decide_eq_false (by rw [List.length_map]; omega))) (fun h => nomatch h) (fun h => db_nil ?_))
    exact db_cons (ds_expr (de_call kx_need_chords hr (wishX (takes_of rfl rfl rfl rfl) hE) ((ap_cons (ep_v 1) ap_nil).to ⟨chs, n, rfl, s9, c9, hbad, q⟩)))
  | .hand, none, ⟨ok, l4, l6, oc, hbad⟩, q =>
    refine db_cons (ds_expr (de_call k_need_neck hr wish0 ((ap_cons (ep_v 0) ap_nil).to ⟨t, f, c, rfl, ok, ?_⟩)))
    refine db_cons (ds_ifP (x := false) ((tp_ord .gt (ep_lenT B (ep_ixT (d := Tu t) (ep_v 0) ep_int rfl)) (ep_gi C.MOST_STRINGS_tunings)).cast (decide_eq_false (by rw [List.length_map]; omega))) (fun h => nomatch h) (fun h => db_nil ?_))
    refine db_cons (ds_expr (de_call k_need_chords hr wish0 ((ap_cons (ep_v 1) ap_nil).to ⟨chs, rfl, l6, oc, ?_⟩)))
    exact db_cons (ds_expr (de_call kx_need_hand hr (wishX (takes_of rfl rfl rfl rfl) hE) ((ap_cons (ep_v 2) ap_nil).to ⟨hd, rfl, h9, hbad, q⟩)))

def zx_played (A : Ec → Addr) : Zp := fun ds _ _ ke => ∃ e n t f c tu r, ds = [Nk t f c, Li tu, .int r] ∧ t.length ≤ 900 ∧ tu.length ≤ 900 ∧ RTune t f c tu r e n ∧ ke (A e, n)
theorem sc_played : FnScope ["neck", "tune", "reach", "known", "some", "number", "there", "least", "position", "found", "left", "at", "rows", "pair"] ["neck", "tune", "reach"] (defScope s_played) := ⟨rfl, rfl, rfl, by decide +kernel, rfl, by decide +kernel, by decide +kernel⟩
theorem okx_played {k : Nat} {f : Addr} {fd : FuncData} (Fn : Fun K "played" "played" s_played f fd) (k_need_neck : Kn P w K mg base CX0 "need_neck" k (spP z_need_neck)) (kx_need_neck : Kn P w K mg base (L2.CX P w) "need_neck" k (spP (zx_need_neck (EA .neck)))) (k_need_tune : Kn P w K mg base CX0 "need_tune" k (spP z_need_tune)) (kx_need_tune : Kn P w K mg base (L2.CX P w) "need_tune" k (spP (zx_need_tune (EA .tune)))) (kx_need_reach : Kn P w K mg base (L2.CX P w) "need_reach" k (spP (zx_need_reach (EA .hand)))) : FnOk P w K mg base (L2.CX P w) (k + 1) f fd ["neck", "tune", "reach"] (spP (zx_played EA)) := by
  refine fn_okX Fn sc_played (by rintro ds kt ko ke ⟨e, n, t, f, c, tu, r, rfl, _⟩; rfl) (by decide) fun cdv A outer s H Ek Fm ds kt ko ke hr hF hz hE => ?_
  obtain ⟨e, n, t, f, c, tu, r, rfl, l9, u9, hbad, q⟩ := hz
  match e, n, hbad, q with
  | .neck, none, hbad, q => exact db_cons (ds_expr (de_call kx_need_neck hr (wishX (takes_of rfl rfl rfl rfl) hE) ((ap_cons (ep_v 0) ap_nil).to ⟨t, f, c, rfl, l9, hbad, q⟩)))
  | .tune, none, ⟨ok, hbad⟩, q =>
    refine db_cons (ds_expr (de_call k_need_neck hr wish0 ((ap_cons (ep_v 0) ap_nil).to ⟨t, f, c, rfl, ok, ?_⟩)))
    exact db_cons (ds_expr (de_call kx_need_tune hr (wishX (takes_of rfl rfl rfl rfl) hE) ((ap_cons (ep_v 1) ap_nil).to ⟨tu, rfl, u9, hbad, q⟩)))
  | .hand, none, ⟨ok, oc, hbad⟩, q =>
    refine db_cons (ds_expr (de_call k_need_neck hr wish0 ((ap_cons (ep_v 0) ap_nil).to ⟨t, f, c, rfl, ok, ?_⟩)))
    refine db_cons (ds_expr (de_call k_need_tune hr wish0 ((ap_cons (ep_v 1) ap_nil).to ⟨tu, rfl, oc, ?_⟩)))
    exact db_cons (ds_expr (de_call kx_need_reach hr (wishX (takes_of rfl rfl rfl rfl) hE) ((ap_cons (ep_v 2) ap_nil).to ⟨r, rfl, hbad, q⟩)))

theorem sc_table : FnScope ["neck", "tune", "reach"] ["neck", "tune", "reach"] (defScope s_table) := ⟨rfl, rfl, rfl, by decide +kernel, rfl, by decide +kernel, by decide +kernel⟩
theorem okx_table {k : Nat} {f : Addr} {fd : FuncData} (Fn : Fun K "table" "table" s_table f fd) (k_need_neck : Kn P w K mg base CX0 "need_neck" k (spP z_need_neck)) (kx_need_neck : Kn P w K mg base (L2.CX P w) "need_neck" k (spP (zx_need_neck (EA .neck)))) (k_need_tune : Kn P w K mg base CX0 "need_tune" k (spP z_need_tune)) (kx_need_tune : Kn P w K mg base (L2.CX P w) "need_tune" k (spP (zx_need_tune (EA .tune)))) (kx_need_reach : Kn P w K mg base (L2.CX P w) "need_reach" k (spP (zx_need_reach (EA .hand)))) : FnOk P w K mg base (L2.CX P w) (k + 1) f fd ["neck", "tune", "reach"] (spP (zx_played EA)) := by
  refine fn_okX Fn sc_table (by rintro ds kt ko ke ⟨e, n, t, f, c, tu, r, rfl, _⟩; rfl) (by decide) fun cdv A outer s H Ek Fm ds kt ko ke hr hF hz hE => ?_
  obtain ⟨e, n, t, f, c, tu, r, rfl, l9, u9, hbad, q⟩ := hz
  match e, n, hbad, q with
  | .neck, none, hbad, q => exact db_cons (ds_expr (de_call kx_need_neck hr (wishX (takes_of rfl rfl rfl rfl) hE) ((ap_cons (ep_v 0) ap_nil).to ⟨t, f, c, rfl, l9, hbad, q⟩)))
  | .tune, none, ⟨ok, hbad⟩, q =>
    refine db_cons (ds_expr (de_call k_need_neck hr wish0 ((ap_cons (ep_v 0) ap_nil).to ⟨t, f, c, rfl, ok, ?_⟩)))
    exact db_cons (ds_expr (de_call kx_need_tune hr (wishX (takes_of rfl rfl rfl rfl) hE) ((ap_cons (ep_v 1) ap_nil).to ⟨tu, rfl, u9, hbad, q⟩)))
  | .hand, none, ⟨ok, oc, hbad⟩, q =>
    refine db_cons (ds_expr (de_call k_need_neck hr wish0 ((ap_cons (ep_v 0) ap_nil).to ⟨t, f, c, rfl, ok, ?_⟩)))
    refine db_cons (ds_expr (de_call k_need_tune hr wish0 ((ap_cons (ep_v 1) ap_nil).to ⟨tu, rfl, oc, ?_⟩)))
    exact db_cons (ds_expr (de_call kx_need_reach hr (wishX (takes_of rfl rfl rfl rfl) hE) ((ap_cons (ep_v 2) ap_nil).to ⟨r, rfl, hbad, q⟩)))

def clsBody (s : Stmt) : List Stmt := match s with
  | .ClassDef _ _ _ b _ _ _ _ _ _ _ => b
  | _ => []
abbrev s_init : Stmt := (clsBody (topS 5)).getD 0 (.Pass ⟨0, 0, 0, 0⟩)
theorem sc_init : FnScope ["self", "number"] ["self", "number"] (defScope s_init) := ⟨rfl, rfl, rfl, by decide +kernel, rfl, by decide +kernel, by decide +kernel⟩
theorem in_ok {f c : Addr} {fd : FuncData} (Fn : Fun K "__init__" "BadChord.__init__" s_init f fd) (hb : Binds K fd ["self", "number"] []) (T : OexC K c) (xf : XfC K c) (no : PySem.W.findIn K (.ref c) "number" = some none) (iC : PySem.W.findIn K (.ref c) "__init__" = some (some (.ref f))) (tI : PySem.W.typeIn K (.ref f) = some (.type "function"))
    (hm : mg "NeckError" = some (.ref NE)) (r : ClX.CRead K NE (.type "type")) (vC : PySem.W.findCls K (.ref NE) (.type "type") "__init__" = some (.val (.builtin "ValueError.__init__"))) : InOk P w K mg base 1 c := by
  refine ⟨T, xf, no, f, fd, iC, tI, ?_, hb⟩
  refine Fn.ok (k := 0) sc_init (fun vs H Q E h => ?_) (fun cdv A outer s H vs Q E hr h => ?_)
  · obtain ⟨a, n, rfl, _⟩ := h; rfl
  · obtain ⟨a, n, rfl, ha, hq⟩ := h
    have v0 : ∀ {p : Pos}, PE (cxOf CX0 P w K mg base ["self", "number"] "BadChord.__init__" (defScope s_init) f cdv A outer s H E).nox (.Name "self" p) (tVar 0) := pe_var (i := 0) rfl (Or.inl rfl) (by decide) (by decide)
    have v1 : ∀ {p : Pos}, PE (cxOf CX0 P w K mg base ["self", "number"] "BadChord.__init__" (defScope s_init) f cdv A outer s H E).nox (.Name "number" p) (tVar 1) := pe_var (i := 1) rfl (Or.inl rfl) (by decide) (by decide)
    refine ⟨_, pss_cons (ps_expr (pe_ninit rfl hm r vC (pa_cons v0 (pa_cons v1 pa_nil)))) (pss_one (ps_ost v0 v1)), ?_⟩
    exact ⟨.ref a, rfl, .int n, rfl, a, c, [.int n], rfl, (by show 1 ≤ 1000; decide), T, ha, .int n, rfl, .ref a, rfl, a, c, rfl, T, no, .inl ⟨ha, fun dx h1 h2 => hq dx h1 h2⟩⟩

theorem sc__law_odd_notes : FnScope ["_law_row", "_law_most", "_law_far", "_law_some"] ["_law_row", "_law_most"] (defScope s__law_odd_notes) := ⟨rfl, rfl, rfl, by decide +kernel, rfl, by decide +kernel, by decide +kernel⟩
/-- no notes, one too many, or one out of reach -/
def OddN (m : Int) (ns : List Int) : Prop := ns.length ≤ 900 ∧ (ns = [] ∨ (ns.length : Int) = m + 1 ∨ ∃ x ∈ ns, x < 0 ∨ 80 < x)
theorem OddN.c {ns : List Int} (h : OddN 6 ns) : ¬ OkC ns := fun ok => by
  have a := ok.l1
  have b := ok.l6
  rcases h.2 with h | h | ⟨x, hx, h⟩
  · subst h; simp at a
  · omega
  · have := ok.n x hx
    omega
theorem OddN.t {ns : List Int} (h : OddN 30 ns) : ¬ OkT ns := fun ok => by
  have a := ok.l1
  have b := ok.l30
  rcases h.2 with h | h | ⟨x, hx, h⟩
  · subst h; simp at a
  · omega
  · have := ok.n x hx
    omega
def z__law_odd_notes : Zp := fun ds kt _ _ => ∃ m : Int, ds = [.int m] ∧ 0 ≤ m ∧ m ≤ 100 ∧ ∀ ns, OddN m ns → kt (Tu ns)
theorem rgD_tu (n : Nat) : rgD 0 n = ((List.range n).map fun i : Nat => (0 + (i : Int))).map PyData.int := by
  unfold rgD
  rw [List.map_map]; rfl
theorem ok__law_odd_notes {k : Nat} {f : Addr} {fd : FuncData} (Fn : Fun K "_law_odd_notes" "_law_odd_notes" s__law_odd_notes f fd) (B : BT mg) (k__law_taken : Kn P w K mg base CX0 "_law_taken" k (spR K z_taken)) : FnOk P w K mg base CX0 (k + 1) f fd ["_law_row", "_law_most"] (spR K z__law_odd_notes) := by
  refine fn_okR Fn sc__law_odd_notes (by rintro ds kt ko ke ⟨m, rfl, _⟩; rfl) (by decide) fun cdv A outer s H E Fm ds kt ko hr hz => ?_
  obtain ⟨m, rfl, m0, m1, q⟩ := hz
  have nd := sc__law_odd_notes.nd
  -- _law_far = _law_taken(_law_row, 10 ** 6)
  refine db_cons (ds_set 2 nd (de_takeP 0 k__law_taken hr (ep_pow ep_int ep_int ⟨by decide, by decide, by decide⟩) ⟨by decide, by decide⟩ fun r1 a1 b1 => ?_))
  -- _law_some = [..]
  refine db_cons (ds_setP 3 nd (ep_o (op_lst (ap_cons (ep_tup ap_nil) (ap_cons (ep_tupRg1 B rfl (ep_add (ep_v (d := .int m) 1) ep_int) (RgOk.of_le (by decide) (by omega) (by decide) (by omega))) (ap_cons (ep_tup (ap_cons ep_int (ap_cons (ep_add ep_int (ep_v (d := .int r1) 2)) ap_nil))) (ap_cons (ep_tup (ap_cons (ep_sub (ep_sub ep_int ep_int) (ep_v (d := .int r1) 2)) (ap_cons ep_int ap_nil))) (ap_cons (ep_tup (ap_cons (ep_add ep_int (ep_v (d := .int r1) 2)) ap_nil)) ap_nil))))))) ?_)
  -- return _law_some[_law_taken(_law_row, 5)]
  refine db_cons (ds_ret (de_pick 0 k__law_taken hr ⟨by decide, by decide⟩ ((ep_v 3).to ⟨rfl, _, rfl, rfl, fun d hd => ?_⟩)))
  refine ⟨rfl, ?_⟩
  simp only [List.mem_cons, List.not_mem_nil, or_false] at hd
  rcases hd with rfl | rfl | rfl | rfl | rfl
  · exact q [] ⟨by decide, .inl rfl⟩
  · rw [rgD_tu]
    exact q _ ⟨by rw [List.length_map, List.length_range]; omega, .inr (.inl (by rw [List.length_map, List.length_range]; omega))⟩
  · exact q [3, 81 + r1] ⟨by show 2 ≤ 900; decide, .inr (.inr ⟨81 + r1, by simp, .inr (by omega)⟩)⟩
  · exact q [0 - 1 - r1, 3] ⟨by show 2 ≤ 900; decide, .inr (.inr ⟨0 - 1 - r1, by simp, .inl (by omega)⟩)⟩
  · exact q [81 + r1] ⟨by show 1 ≤ 900; decide, .inr (.inr ⟨81 + r1, by simp, .inr (by omega)⟩)⟩

theorem sc__law_odd_chord : FnScope ["_law_row"] ["_law_row"] (defScope s__law_odd_chord) := ⟨rfl, rfl, rfl, by decide +kernel, rfl, by decide +kernel, by decide +kernel⟩
def z__law_odd_chord : Zp := fun ds kt _ _ => ds = [] ∧ ∀ ch, ¬ OkC ch → ch.length ≤ 900 → kt (Tu ch)
theorem ok__law_odd_chord {k : Nat} {f : Addr} {fd : FuncData} (Fn : Fun K "_law_odd_chord" "_law_odd_chord" s__law_odd_chord f fd) (k__law_taken : Kn P w K mg base CX0 "_law_taken" k (spR K z_taken)) (k__law_odd_notes : Kn P w K mg base CX0 "_law_odd_notes" k (spR K z__law_odd_notes)) : FnOk P w K mg base CX0 (k + 1) f fd ["_law_row"] (spR K z__law_odd_chord) := by
  refine fn_okR Fn sc__law_odd_chord (by rintro ds kt ko ke ⟨rfl, _⟩; rfl) (by decide) fun cdv A outer s H E Fm ds kt ko hr hz => ?_
  obtain ⟨rfl, q⟩ := hz
  have sorted2 : ∀ {a b : Int}, ¬ a < b → ¬ OkC [a, b] := fun {a b} h ok => h ((List.pairwise_cons.mp ok.s).1 b (by simp))
  -- return [(5, 5), (7, 3), _law_odd_notes(_law_row, 6)][_law_taken(_law_row, 3)]
  refine db_cons (ds_ret (de_pick 0 k__law_taken hr ⟨by decide, by decide⟩ (de_o (do_lst (da_cons ((ep_tup (ap_cons ep_int (ap_cons ep_int ap_nil))).to (da_cons ((ep_tup (ap_cons ep_int (ap_cons ep_int ap_nil))).to (da_cons (de_callR 0 k__law_odd_notes hr wish0 (da_cons (ep_int.to (da_nil ⟨rfl, 6, rfl, by decide, by decide, fun ns hn => da_nil ⟨by show 3 ≤ sizeLine; decide, rfl, _, rfl, rfl, fun d hd => ?_⟩⟩)))))))))))))
  refine ⟨rfl, ?_⟩
  simp only [List.mem_cons, List.not_mem_nil, or_false] at hd
  rcases hd with rfl | rfl | rfl
  · exact q [5, 5] (sorted2 (by decide)) (by decide)
  · exact q [7, 3] (sorted2 (by decide)) (by decide)
  · exact q ns hn.c hn.1

/-! ### the lambdas that are handed on -/
def lamAt (st : Stmt) (i : Nat) : Expr := match (defBody st).getD i (.Pass ⟨0, 0, 0, 0⟩) with
  | .Assign _ (.List [e] _) _ => e
  | .Expr (.Call _ [e] _ _) _ => e
  | _ => .Constant .none 0 ⟨0, 0, 0, 0⟩
def lamOf (q : Str) (fr : List Str) (e : Expr) : LF := match e with
  | .Lambda a b sc _ => ⟨q, a, b, sc, fr⟩
  | _ => ⟨q, { posonlyargs := [], args := [], vararg := none, kwonlyargs := [], kw_defaults := [], kwarg := none, defaults := [] }, .Constant .none 0 ⟨0, 0, 0, 0⟩, { kind := .function, names := [], isGenerator := false, isCoroutine := false }, fr⟩
abbrev qW : Str := "_law_works" ++ ".<locals>." ++ "<lambda>"
abbrev qH : Str := "_law_handed" ++ ".<locals>." ++ "<lambda>"
def lamTab : Nat → LF
  | 0 => lamOf qW ["_law_neck_here", "_law_chord", "_law_hand_here"] (lamAt s__law_works 0)
  | 1 => lamOf qW ["_law_neck_here", "_law_chords", "_law_hand_here"] (lamAt s__law_works 1)
  | 2 => lamOf qW ["_law_neck_here", "_law_tune", "_law_hand_here"] (lamAt s__law_works 2)
  | 3 => lamOf qW ["_law_neck_here", "_law_tune", "_law_hand_here"] (lamAt s__law_works 3)
  | 4 => lamOf qH ["_law_neck_here", "_law_chord", "_law_hand_here"] (lamAt s__law_handed 0)
  | _ => lamOf qH ["_law_neck_here", "_law_chord", "_law_hand_here"] (lamAt s__law_handed 1)
theorem sc__law_works : FnScope ["_law_neck_here", "_law_chord", "_law_chords", "_law_tune", "_law_hand_here", "_law_works_here"] ["_law_neck_here", "_law_chord", "_law_chords", "_law_tune", "_law_hand_here"] (defScope s__law_works) := ⟨rfl, rfl, rfl, by decide +kernel, rfl, by decide +kernel, by decide +kernel⟩
abbrev jsW : List (Nat × List Nat) := [(0, [0, 1, 4]), (1, [0, 2, 4]), (2, [0, 3, 4]), (3, [0, 3, 4])]
theorem fitW : ∀ u ∈ jsW, LFit ["_law_neck_here", "_law_chord", "_law_chords", "_law_tune", "_law_hand_here", "_law_works_here"] 5 (defScope s__law_works) (lamTab u.1) u.2 ∧ (lamTab u.1).q = qW := fun u hu => by
  simp only [jsW, List.mem_cons, List.not_mem_nil, or_false] at hu
  rcases hu with rfl | rfl | rfl | rfl <;> exact ⟨lfit_by (by decide +kernel), by decide +kernel⟩
theorem ok__law_works {k : Nat} {f c : Addr} {fd : FuncData} (Fn : FunC K "_law_works" "_law_works" s__law_works f fd c) (L : Tb.L = lamTab) (M : Mk base mg c ("_law_works" ++ ".<locals>." ++ "<lambda>")) : FnOk P w K mg base CX0 (k + 1) f fd ["_law_neck_here", "_law_chord", "_law_chords", "_law_tune", "_law_hand_here"] (spPT (zMk 5 jsW)) := by
  refine fn_okMk (ps := ["_law_neck_here", "_law_chord", "_law_chords", "_law_tune", "_law_hand_here"]) (js := jsW) Fn sc__law_works M (by rw [L]; exact fitW) rfl fun A outer s H E T vs R s1 hl C I => ?_
  match vs, hl with
  | [v0, v1, v2, v3, v4], _ =>
  have nd := sc__law_works.nd
  have ne : ∀ v, (L2.start ["_law_neck_here", "_law_chord", "_law_chords", "_law_tune", "_law_hand_here", "_law_works_here"] [v0, v1, v2, v3, v4])[5]? ≠ some (some v) := fun v h => by cases h
  exact mkb_first 5 0 (fr := ["_law_neck_here", "_law_chord", "_law_hand_here"]) (by rw [L]; rfl) C I nd rfl (by show ∀ y ∈ (_ : List (Str × NameKind)), y.2 = NameKind.free → (defScope s__law_works).names.lookup y.1 = some NameKind.cell; decide +kernel) fun s2 H2 p f0 c0 I2 M2 => mkb_app 5 1 (fr := ["_law_neck_here", "_law_chords", "_law_hand_here"]) (by rw [L]; rfl) C I2 M2 (by show 1 < 900; decide) rfl (by show ∀ y ∈ (_ : List (Str × NameKind)), y.2 = NameKind.free → (defScope s__law_works).names.lookup y.1 = some NameKind.cell; decide +kernel) fun s3 H3 f1 c1 I3 M3 => mkb_app 5 2 (fr := ["_law_neck_here", "_law_tune", "_law_hand_here"]) (by rw [L]; rfl) C I3 M3 (by show 2 < 900; decide) rfl (by show ∀ y ∈ (_ : List (Str × NameKind)), y.2 = NameKind.free → (defScope s__law_works).names.lookup y.1 = some NameKind.cell; decide +kernel) fun s4 H4 f2 c2 I4 M4 => mkb_app 5 3 (fr := ["_law_neck_here", "_law_tune", "_law_hand_here"]) (by rw [L]; rfl) C I4 M4 (by show 3 < 900; decide) rfl (by show ∀ y ∈ (_ : List (Str × NameKind)), y.2 = NameKind.free → (defScope s__law_works).names.lookup y.1 = some NameKind.cell; decide +kernel) fun s5 H5 f3 c3 I5 M5 => mkb_ret 5 C I5 M5 rfl ne

theorem sc__law_handed : FnScope ["_law_neck_here", "_law_chord", "_law_hand_here", "_law_works_here"] ["_law_neck_here", "_law_chord", "_law_hand_here"] (defScope s__law_handed) := ⟨rfl, rfl, rfl, by decide +kernel, rfl, by decide +kernel, by decide +kernel⟩
abbrev jsH : List (Nat × List Nat) := [(4, [0, 1, 2]), (5, [0, 1, 2])]
theorem fitH : ∀ u ∈ jsH, LFit ["_law_neck_here", "_law_chord", "_law_hand_here", "_law_works_here"] 3 (defScope s__law_handed) (lamTab u.1) u.2 ∧ (lamTab u.1).q = qH := fun u hu => by
  simp only [jsH, List.mem_cons, List.not_mem_nil, or_false] at hu
  rcases hu with rfl | rfl <;> exact ⟨lfit_by (by decide +kernel), by decide +kernel⟩
theorem ok__law_handed {k : Nat} {f c : Addr} {fd : FuncData} (Fn : FunC K "_law_handed" "_law_handed" s__law_handed f fd c) (L : Tb.L = lamTab) (M : Mk base mg c ("_law_handed" ++ ".<locals>." ++ "<lambda>")) : FnOk P w K mg base CX0 (k + 1) f fd ["_law_neck_here", "_law_chord", "_law_hand_here"] (spPT (zMk 3 jsH)) := by
  refine fn_okMk (ps := ["_law_neck_here", "_law_chord", "_law_hand_here"]) (js := jsH) Fn sc__law_handed M (by rw [L]; exact fitH) rfl fun A outer s H E T vs R s1 hl C I => ?_
  match vs, hl with
  | [v0, v1, v2], _ =>
  have nd := sc__law_handed.nd
  have ne : ∀ v, (L2.start ["_law_neck_here", "_law_chord", "_law_hand_here", "_law_works_here"] [v0, v1, v2])[3]? ≠ some (some v) := fun v h => by cases h
  exact mkb_first 3 4 (fr := ["_law_neck_here", "_law_chord", "_law_hand_here"]) (by rw [L]; rfl) C I nd rfl (by show ∀ y ∈ (_ : List (Str × NameKind)), y.2 = NameKind.free → (defScope s__law_handed).names.lookup y.1 = some NameKind.cell; decide +kernel) fun s2 H2 p f0 c0 I2 M2 => mkb_app 3 5 (fr := ["_law_neck_here", "_law_chord", "_law_hand_here"]) (by rw [L]; rfl) C I2 M2 (by show 1 < 900; decide) rfl (by show ∀ y ∈ (_ : List (Str × NameKind)), y.2 = NameKind.free → (defScope s__law_handed).names.lookup y.1 = some NameKind.cell; decide +kernel) fun s3 H3 f1 c1 I3 M3 => mkb_ret 3 C I3 M3 rfl ne

theorem sc__law_told : FnScope ["_law_work", "e", "_law_kinds"] ["_law_work"] (defScope s__law_told) := ⟨rfl, rfl, rfl, by decide +kernel, rfl, by decide +kernel, by decide +kernel⟩
def placeE : Ec → Nat
  | .neck => 0
  | .chord => 1
  | .tune => 2
  | .hand => 3
  | .shape => 4
  | .text => 5
def kindsE (e : Ec) : List Bool := [e.eq .neck, e.eq .chord, e.eq .tune, e.eq .hand, e.eq .shape, e.eq .text]
theorem kindsE_one (e : Ec) : (kindsE e).count true = 1 := by cases e <;> rfl
theorem kindsE_at (e : Ec) : (kindsE e)[placeE e]? = some true := by cases e <;> rfl
theorem kindsE_before (e : Ec) : ∀ m, m < placeE e → (kindsE e)[m]? ≠ some true := by
  cases e <;> decide
theorem hu_ofR {k : Nat} {A : Around} (hr : Room k A) : A.units + 64 < cLine := by have := hr.un; omega
/-- how a refusal is told -/
def toldE : Ec → Option Int → PyData
  | .neck, _ => .str "neck"
  | .chord, some n => .tuple [.str "chord", .int n]
  | .tune, _ => .str "tune"
  | .hand, _ => .str "hand"
  | _, _ => .none
/-- a number with a chord alone -/
def OkX : Ec → Option Int → Prop
  | .neck, none => True
  | .chord, some _ => True
  | .tune, none => True
  | .hand, none => True
  | _, _ => False
/-- what the lambda j refuses first -/
def RsL (j : Nat) (cs : List PyData) (e : Ec) (n : Option Int) : Prop :=
  ((j = 0 ∨ j = 4) ∧ ∃ t f c ch hd, cs = [Nk t f c, Tu ch, Tu hd] ∧ t.length ≤ 900 ∧ ch.length ≤ 900 ∧ hd.length ≤ 900 ∧ RWays t f c ch hd e n) ∨
  (j = 1 ∧ ∃ t f c, ∃ chs : List (List Int), ∃ hd, cs = [Nk t f c, .list (chs.map encT), Tu hd] ∧ t.length ≤ 900 ∧ chs.length ≤ 900 ∧ (∀ ch ∈ chs, ch.length ≤ 900) ∧ hd.length ≤ 900 ∧ RRet t f c chs hd e n) ∨
  ((j = 2 ∨ j = 3) ∧ ∃ t f c tu r g, cs = [Nk t f c, Li tu, Tu [r, g]] ∧ t.length ≤ 900 ∧ tu.length ≤ 900 ∧ RTune t f c tu r e n) ∨
  (j = 5 ∧ ∃ t f c ch hd, cs = [Nk t f c, Tu ch, Tu hd] ∧ t.length ≤ 900 ∧ ch.length ≤ 900 ∧ hd.length ≤ 900 ∧ RRet t f c [ch] hd e n)
theorem rsL_ok {j : Nat} {cs : List PyData} {e : Ec} {n : Option Int} (h : RsL j cs e n) : OkX e n := by
  rcases h with ⟨_, t, f, c, ch, hd, _, _, _, _, h⟩ | ⟨_, t, f, c, chs, hd, _, _, _, _, _, h⟩ | ⟨_, t, f, c, tu, r, g, _, _, _, h⟩ | ⟨_, t, f, c, ch, hd, _, _, _, _, h⟩ <;> cases e <;> cases n <;> first | trivial | exact h.elim
theorem lay_ints (ns : List Int) : PyData.canLayAll0 (ns.map PyData.int) = true := (shD_all (n := 0) (shD_ints 0 ns)).1
theorem lay_nk (t : List Int) (f c : Int) : (Nk t f c).canLay0 = true := by
  simp only [Nk, Tu, PyData.canLay0, PyData.canLayAll0, lay_ints, Bool.and_self]
theorem lay_tu (t : List Int) : (Tu t).canLay0 = true := by simp only [Tu, PyData.canLay0, lay_ints]
theorem lay_li (t : List Int) : (Li t).canLay0 = true := by simp only [Li, PyData.canLay0, lay_ints]
theorem lay_chs : ∀ chs : List (List Int), PyData.canLayAll0 (chs.map encT) = true
  | [] => rfl
  | ch :: chs => by
    rw [List.map_cons]
    simp only [PyData.canLayAll0, lay_chs chs, Bool.and_true]
    exact lay_tu ch
theorem th_all {k j : Nat} {cs : List PyData} {e : Ec} {n : Option Int} (L : Tb.L = lamTab) (kx_ways : Kn P w K mg base (L2.CX P w) "ways" k (spP (zx_ways EA))) (kx_retuned : Kn P w K mg base (L2.CX P w) "retuned" k (spP (zx_retuned EA))) (kx_played : Kn P w K mg base (L2.CX P w) "played" k (spP (zx_played EA))) (kx_table : Kn P w K mg base (L2.CX P w) "table" k (spP (zx_played EA))) (h : RsL j cs e n) : ThL P w K mg base k (Tb.L j) cs (EA e, n) := by
  rw [L]
  rcases h with ⟨hj, t, f, c, ch, hd, rfl, l1, l2, l3, h⟩ | ⟨rfl, t, f, c, chs, hd, rfl, l1, l2, l3, l4, h⟩ | ⟨hj, t, f, c, tu, r, g, rfl, l1, l2, h⟩ | ⟨rfl, t, f, c, ch, hd, rfl, l1, l2, l3, h⟩
  · rcases hj with rfl | rfl
    · exact ⟨NdefX.nscope_by (by decide +kernel), fun _ _ _ _ => rfl, by simp only [PyData.canLayAll0, lay_nk, lay_tu, Bool.and_self], fun cl c0 f0 A outer s H Ek Fm hr hF hE => de_call kx_ways hr (wishX (ex := fun x => x = (EA e, n)) (takes_of rfl rfl rfl rfl) fun x dd H' hx => by subst hx; exact hE dd H') ((ap_cons (ep_v 0) (ap_cons (ep_v 1) (ap_cons (ep_v 2) ap_nil))).to ⟨e, n, t, f, c, ch, hd, rfl, l1, l2, l3, h, rfl⟩)⟩
    · exact ⟨NdefX.nscope_by (by decide +kernel), fun _ _ _ _ => rfl, by simp only [PyData.canLayAll0, lay_nk, lay_tu, Bool.and_self], fun cl c0 f0 A outer s H Ek Fm hr hF hE => de_call kx_ways hr (wishX (ex := fun x => x = (EA e, n)) (takes_of rfl rfl rfl rfl) fun x dd H' hx => by subst hx; exact hE dd H') ((ap_cons (ep_v 0) (ap_cons (ep_v 1) (ap_cons (ep_v 2) ap_nil))).to ⟨e, n, t, f, c, ch, hd, rfl, l1, l2, l3, h, rfl⟩)⟩
  · exact ⟨NdefX.nscope_by (by decide +kernel), fun _ _ _ _ => rfl, by simp only [PyData.canLayAll0, PyData.canLay0, lay_nk, lay_tu, lay_chs, lay_ints, Bool.and_self], fun cl c0 f0 A outer s H Ek Fm hr hF hE => de_call kx_retuned hr (wishX (ex := fun x => x = (EA e, n)) (takes_of rfl rfl rfl rfl) fun x dd H' hx => by subst hx; exact hE dd H') ((ap_cons (ep_v 0) (ap_cons (ep_v 1) (ap_cons (ep_v 2) ap_nil))).to ⟨e, n, t, f, c, chs, hd, rfl, l1, l2, l3, l4, h, rfl⟩)⟩
  · rcases hj with rfl | rfl
    · exact ⟨NdefX.nscope_by (by decide +kernel), fun _ _ _ _ => rfl, by simp only [PyData.canLayAll0, PyData.canLay0, lay_nk, lay_tu, lay_li, lay_ints, Bool.and_self], fun cl c0 f0 A outer s H Ek Fm hr hF hE => de_call kx_played hr (wishX (ex := fun x => x = (EA e, n)) (takes_of rfl rfl rfl rfl) fun x dd H' hx => by subst hx; exact hE dd H') ((ap_cons (ep_v 0) (ap_cons (ep_v 1) (ap_cons (ep_ixT (d := .int r) (ep_v (d := Tu [r, g]) 2) ep_int rfl) ap_nil))).to ⟨e, n, t, f, c, tu, r, rfl, l1, l2, h, rfl⟩)⟩
    · exact ⟨NdefX.nscope_by (by decide +kernel), fun _ _ _ _ => rfl, by simp only [PyData.canLayAll0, PyData.canLay0, lay_nk, lay_tu, lay_li, lay_ints, Bool.and_self], fun cl c0 f0 A outer s H Ek Fm hr hF hE => de_call kx_table hr (wishX (ex := fun x => x = (EA e, n)) (takes_of rfl rfl rfl rfl) fun x dd H' hx => by subst hx; exact hE dd H') ((ap_cons (ep_v 0) (ap_cons (ep_v 1) (ap_cons (ep_ixT (d := .int r) (ep_v (d := Tu [r, g]) 2) ep_int rfl) ap_nil))).to ⟨e, n, t, f, c, tu, r, rfl, l1, l2, h, rfl⟩)⟩
  · exact ⟨NdefX.nscope_by (by decide +kernel), fun _ _ _ _ => rfl, by simp only [PyData.canLayAll0, lay_nk, lay_tu, Bool.and_self], fun cl c0 f0 A outer s H Ek Fm hr hF hE => de_call kx_retuned hr (wishX (ex := fun x => x = (EA e, n)) (takes_of rfl rfl rfl rfl) fun x dd H' hx => by subst hx; exact hE dd H') ((ap_cons (ep_v 0) (ap_cons (ep_o (op_lst (ap_cons (ep_v (d := Tu ch) 1) ap_nil))) (ap_cons (ep_v 2) ap_nil))).to ⟨e, n, t, f, c, [ch], hd, rfl, l1, (by show 1 ≤ 900; decide), fun x hx => (by rw [List.mem_singleton.mp hx]; exact l2), l3, h, rfl⟩)⟩
def z__law_told : Zp := fun ds kt _ _ => ∃ j cs e n, ds = [thD j cs] ∧ RsL j cs e n ∧ kt (toldE e n)
theorem ok__law_told {k : Nat} {f : Addr} {fd : FuncData} (Fn : Fun K "_law_told" "_law_told" s__law_told f fd) (B : BT mg) (E : XcOk K mg NE EA) (I : InOk P w K mg base 1 (EA .chord)) (L : Tb.L = lamTab) (kx_ways : Kn P w K mg base (L2.CX P w) "ways" k (spP (zx_ways EA))) (kx_retuned : Kn P w K mg base (L2.CX P w) "retuned" k (spP (zx_retuned EA))) (kx_played : Kn P w K mg base (L2.CX P w) "played" k (spP (zx_played EA))) (kx_table : Kn P w K mg base (L2.CX P w) "table" k (spP (zx_played EA))) : FnOk P w K mg base CX0 (k + 2) f fd ["_law_work"] (spP z__law_told) := by
  refine fn_ok0 Fn sc__law_told (by rintro ds kt ko ke ⟨j, cs, e, n, rfl, _⟩; rfl) (by decide) fun cdv A outer s H Ek Fm ds kt ko ke hr hF hz => ?_
  obtain ⟨j, cs, e, n, rfl, hRs, q⟩ := hz
  have nd := sc__law_told.nd
  have okx := rsL_ok hRs
  have th := th_all (EA := EA) L kx_ways kx_retuned kx_played kx_table hRs
  refine db0_cons (ds0_tryAs 1 (fun xk S1 => xk = (EA e, n) ∧ S1 = [.val (thD j cs), .unk, .unk]) rfl rfl nd ⟨rfl, by decide, .inl E.ne⟩ (fun W pn xe tk hW => ?_) (fun xk S1 hR => ?_))
  · exact db0_one (ds0_of (ds_expr (DE.imp (de_thk 0 tk hW hr th ⟨rfl, rfl⟩ rfl) fun _ _ h => h.elim)))
  · obtain ⟨rfl, rfl⟩ := hR
    refine ⟨E.exm e, fun a oe dd pn hd hz hf => ?_⟩
    have x := (E.x e).c
    -- _law_kinds = [..]
    refine db0_c (ds_setP (d := .list ([e.eq .neck, e.eq .chord, e.eq .tune, e.eq .hand].map .bool)) 2 nd (ep_o (op_lst (ap_cons (ep_isX 1 B x hd hz hf (E.x .neck).g (E.kit e .neck)) (ap_cons (ep_isX 1 B x hd hz hf (E.x .chord).g (E.kit e .chord)) (ap_cons (ep_isX 1 B x hd hz hf (E.x .tune).g (E.kit e .tune)) (ap_cons (ep_isX 1 B x hd hz hf (E.x .hand).g (E.kit e .hand)) ap_nil)))))) ?_)
    -- _law_kinds = _law_kinds + [..]
    refine db0_c (ds_setP (d := .list ((kindsE e).map .bool)) 2 nd (ep_o (op_addL (xs := [e.eq .neck, e.eq .chord, e.eq .tune, e.eq .hand].map .bool) (ys := [e.eq .shape, e.eq .text].map .bool) (ep_v 2) (ep_o (op_lst (ap_cons (ep_isX 1 B x hd hz hf (E.x .shape).g (E.kit e .shape)) (ap_cons (ep_isX 1 B x hd hz hf (E.x .text).g (E.kit e .text)) ap_nil)))) (by show 6 ≤ sizeLine; decide))) ?_)
    have hu := hu_ofR hr
    -- if ..: return 'other'
    refine db0_c (ds_ifP (x := false) ((tp_w (wp_or (x := false) (y := false) ((tp_neU (by exact hu) (ep_countB (bs := kindsE e) (c := true) (ep_v 2) ep_bl) ep_int (sh_int _) (sh_int _)).cast ?_) fun h => (wp_or1 ((tp_not (tp_val (by intro _; rfl) (ep_isXV 1 B x hd hz hf E.vn (E.kitV e)))).cast rfl)))).cast rfl) (fun h => nomatch h) (fun h => db_nil ?_))
    · rw [kindsE_one, eqv_int]; rfl
    -- if _law_kinds[1]:
    refine db0_c (ds_ifP (x := e.eq .chord) (tp_val (by intro _; rfl) (ep_ixL (xs := (kindsE e).map .bool) (ep_v 2) ep_int (atI_nat (j := 1) rfl))) (fun h => ?_) (fun h => db_nil ?_))
    · cases e with
      | chord =>
        cases n with
        | none => exact okx.elim
        | some n => exact db_one (ds_retP (d := .tuple [.str "chord", .int n]) (ep_tup (ap_cons ep_str (ap_cons (ep_num 1 I.f I.no rfl hd hz hf) ap_nil))) q)
      | neck => cases h
      | shape => cases h
      | hand => cases h
      | tune => cases h
      | text => cases h
    -- return [..][..]
    have q2 : kt (([.str "neck", .str "", .str "tune", .str "hand", .str "other", .str "other"] : List PyData).getD (placeE e) .none) := by
      cases e <;> cases n <;> first | exact q | exact okx.elim | cases h
    exact db0_c (ds_retP (ep_ixL (xs := [.str "neck", .str "", .str "tune", .str "hand", .str "other", .str "other"]) (ep_o (op_lst (ap_cons ep_str (ap_cons ep_str (ap_cons ep_str (ap_cons ep_str (ap_cons ep_str (ap_cons ep_str ap_nil)))))))) (ep_indexB (bs := kindsE e) (c := true) (placeE e) (ep_v 2) ep_bl (kindsE_at e) (kindsE_before e)) (by cases e <;> exact atI_nat rfl)) q2)

theorem sc_law : FnScope ["_law_script", "_law_row", "_law_turn", "_law_tuning", "_law_frets", "_law_capo", "_law_neck_here", "_law_hand_here", "_law_good", "_law_chord", "_law_chords", "_law_due", "_law_tune", "_law_told_here", "_law_work", "_law_odd", "_law_bad", "_law_five"] ["_law_script"] (defScope s_law) := ⟨rfl, rfl, rfl, by decide +kernel, rfl, by decide +kernel, by decide +kernel⟩
/-- a lambda, what it captured, what it refuses -/
abbrev Bt := Nat × List PyData × Ec × Option Int
def encB (b : Bt) : PyData := thD b.1 b.2.1
def tolB (b : Bt) : PyData := toldE b.2.2.1 b.2.2.2
def okB (b : Bt) : Prop := RsL b.1 b.2.1 b.2.2.1 b.2.2.2
theorem rep_one {n : Nat} {a : List Int} : (List.replicate n [Tu a]).flatten = (List.replicate n a).map encT := by
  induction n with
  | zero => rfl
  | succ n ih => rw [List.replicate_succ, List.flatten_cons, ih, List.replicate_succ, List.map_cons]; rfl
theorem chs_e {n : Nat} {a b : List Int} : (List.replicate n [Tu a]).flatten ++ [Tu b, .tuple []] = (List.replicate n a ++ [b, []]).map encT := by
  rw [rep_one, List.map_append]; rfl
theorem chs_at {m : Nat} {a b : List Int} : (List.replicate m a ++ [b, []]).getD m [] = b := by
  rw [List.getD_eq_getElem?_getD, List.getElem?_append_right (by simp)]; simp
theorem chs_pre {m j : Nat} {a b : List Int} (h : j < m) : (List.replicate m a ++ [b, []]).getD j [] = a := by
  rw [List.getD_eq_getElem?_getD, List.getElem?_append_left (by simpa using h), List.getElem?_replicate, if_pos h]; rfl
theorem chs_len {m : Nat} {a b : List Int} : (List.replicate m a ++ [b, []]).length = m + 2 := by simp
theorem sh_Ts (l : List (List Int)) : Sh (.list (l.map encT)) := sh_of (n := 2) (shD_lst fun d hd => by
  obtain ⟨x, _, rfl⟩ := List.mem_map.mp hd
  exact shD_tup (shD_ints 0 x))
theorem al_str {n : Nat} {z : Str} (h : PyData.strOk z = true) : AlD (n + 1) (.str z) := h
theorem al_chord (i : Int) : AlD 2 (.tuple [.str "chord", .int i]) := al_tup (by show 2 ≤ 1000; decide) fun x hx => by
  simp only [List.mem_cons, List.not_mem_nil, or_false] at hx
  rcases hx with rfl | rfl
  · exact al_str (by decide +kernel)
  · exact al_int 0 i
theorem al_rep {z : Str} (h : PyData.strOk z = true) {l : List PyData} (hl : l.length ≤ 1000) (hm : ∀ x ∈ l, x = .str z) : AlD 3 (.list l) := al_lst hl fun x hx => by
  rw [hm x hx]; exact al_str h
theorem cutD_pre {ds : List FW.D} {k : Int} (h0 : 0 ≤ k) : FW.cutD ds none (some k) = ds.take k.toNat := by
  unfold FW.cutD HT.sIx
  simp only [List.drop_zero, Nat.sub_zero]
  rw [if_neg (by omega)]
  by_cases h : k.toNat ≤ ds.length
  · rw [Nat.min_eq_left h]
  · rw [Nat.min_eq_right (by omega), List.take_of_length_le (Nat.le_refl _), List.take_of_length_le (by omega)]
/-- five strings of a tuning again and again -/
def five (t : List Int) : List Int := (List.replicate 5 t).flatten.take 5
theorem five_cut (t : List Int) : cutD (List.replicate 5 (t.map PyData.int)).flatten none (some 5) = (five t).map PyData.int := by
  unfold five
  rw [cutD_pre (by decide), List.map_take, List.map_flatten, List.map_replicate]; rfl
theorem five_len {t : List Int} (h : 1 ≤ t.length) : (five t).length = 5 := by
  unfold five
  rw [List.length_take]
  simp only [List.length_flatten, List.map_replicate, List.sum_replicate_nat]
  omega
theorem five_mem {t : List Int} {x : Int} (h : x ∈ five t) : x ∈ t := by
  obtain ⟨l, h1, h2⟩ := List.mem_flatten.mp (List.mem_of_mem_take h)
  rw [(List.mem_replicate.mp h1).2] at h2
  exact h2
set_option maxHeartbeats 20000000 in
theorem ok_law {k : Nat} {f : Addr} {fd : FuncData} (Fn : Fun K "law" "law" s_law f fd) (B : BT mg) (k__law_taken : Kn P w K mg base CX0 "_law_taken" k (spR K z_taken)) (k__law_neck : Kn P w K mg base CX0 "_law_neck" k (spR K z__law_neck)) (k__law_odd_chord : Kn P w K mg base CX0 "_law_odd_chord" k (spR K z__law_odd_chord)) (k__law_odd_notes : Kn P w K mg base CX0 "_law_odd_notes" k (spR K z__law_odd_notes)) (k__law_works : Kn P w K mg base CX0 "_law_works" k (spPT (zMk 5 jsW))) (k__law_handed : Kn P w K mg base CX0 "_law_handed" k (spPT (zMk 3 jsH))) (k__law_told : Kn P w K mg base CX0 "_law_told" k (spP z__law_told)) (k__law_alike : Kn P w K mg base CX0 "_law_alike" k (spP (z__law_alike 4))) : FnOk P w K mg base CX0 (k + 1) f fd ["_law_script"] (spLawT K) := by
  have nd := sc_law.nd
  refine fn_lawT (n := 16) Fn sc_law rfl rfl (fun cdv A outer s H E => ps_asg (pe_lst (pa_cons (pv 0) (pa_cons pe_int (pa_cons pe_int (pa_cons pe_int pa_nil))))) (pg_name nd rfl (.inl rfl))) fun cdv A outer s H E Fm hT hr => ?_
  -- for _law_turn in range(4):
  refine db_cons (ds_for PassesOwn.never rfl (dg_name 2 nd) (di_range1 B.range (da_cons (ep_int.to (da_nil ⟨_, rfl, ⟨by decide, by decide⟩, ⟨fun _ S => ∃ s2 s3 s4 s5 s6 s7 s8 s9 s10 s11 s12 s13 s14 s15 s16 s17, S = [.unk, .row, s2, s3, s4, s5, s6, s7, s8, s9, s10, s11, s12, s13, s14, s15, s16, s17], ⟨_, _, _, _, _, _, _, _, _, _, _, _, _, _, _, _, rfl⟩, fun i d Si hd hI => ?_, fun Sn hI => ?_⟩⟩)))))
  · obtain ⟨s2, s3, s4, s5, s6, s7, s8, s9, s10, s11, s12, s13, s14, s15, s16, s17, rfl⟩ := hI
    -- _law_tuning, _law_frets, _law_capo = _law_neck(_law_row, 4)
    refine db_cons (ds_asg (dg_tup rfl (dgs_cons (dg_name 3 nd) (dgs_cons (dg_name 4 nd) (dgs_cons (dg_name 5 nd) dgs_nil)))) (de_callR 1 k__law_neck hr wish0 (da_cons (ep_int.to (da_nil ⟨rfl, 4, rfl, by decide, by decide, fun t f c ok l4 => ⟨_, rfl, rfl, _, _, rfl, _, _, rfl, _, _, rfl, rfl, ?_⟩⟩)))))
    have l4 : t.length ≤ 4 := by omega
    have l1 := ok.l1
    show DB _ _ [.unk, .row, _, .val (Tu t), .val (.int f), .val (.int c), _, _, _, _, _, _, _, _, _, _, _, _] _ _
    -- _law_neck_here = (_law_tuning[:4], _law_frets, _law_capo)
    refine db_cons (ds_setP (d := Nk t f c) 6 nd ((ep_tup (ap_cons (ep_slT (ep_v (d := Tu t) 3) pp_none (pp_some ep_int)) (ap_cons (ep_v (d := .int f) 4) (ap_cons (ep_v (d := .int c) 5) ap_nil)))).cast ?_) ?_)
    · have : cutD (t.map PyData.int) none (some 4) = t.map PyData.int := cutD_whole ⟨rfl, by
        have : HT.sIx (t.map PyData.int).length (t.map PyData.int).length (some 4) = (t.map PyData.int).length := by
          rw [List.length_map]
          unfold HT.sIx
          simp
          omega
        exact this⟩
      rw [this]
    -- _law_hand_here = ..
    refine db_cons (ds_set 7 nd (de_pick 1 k__law_taken hr ⟨by decide, by decide⟩ (de_o (do_lst (da_cons (de_tup (da_cons (de_add (ep_int.to (de_takeP 1 k__law_taken hr ep_int ⟨by decide, by decide⟩ fun r2 a2 b2 => (i2 (da_cons (ep_int.to (da_nil ⟨by show 2 ≤ sizeLine; decide, (da_cons ((ep_tup (ap_cons (ep_sub ep_int ep_int) (ap_cons ep_int ap_nil))).to (da_nil ⟨by show 2 ≤ sizeLine; decide, rfl, _, rfl, rfl, fun d hd => ?_⟩)))⟩))))))))))))))
    obtain ⟨r, g, rfl, hno⟩ : ∃ r g : Int, d = Tu [r, g] ∧ ¬ (0 ≤ r ∧ r ≤ 6) := by
      simp only [List.mem_cons, List.not_mem_nil, or_false] at hd
      rcases hd with rfl | rfl
      · exact ⟨7 + r2, 1, rfl, by omega⟩
      · exact ⟨0 - 1, 2, rfl, by decide⟩
    show DB _ _ [.unk, .row, _, .val (Tu t), .val (.int f), .val (.int c), .val (Nk t f c), .val (Tu [r, g]), _, _, _, _, _, _, _, _, _, _] _ _
    -- _law_good = ..
    refine db_cons (ds_set 8 nd (de_pick 1 k__law_taken hr ⟨by decide, by decide⟩ ((ep_o (op_lst (ap_cons (ep_tup (ap_cons ep_int ap_nil)) (ap_cons (ep_tup (ap_cons ep_int (ap_cons ep_int ap_nil))) (ap_cons (ep_tup (ap_cons ep_int (ap_cons ep_int ap_nil))) ap_nil))))).to ⟨rfl, _, rfl, rfl, fun d hd => ?_⟩)))
    obtain ⟨gd, rfl, og⟩ : ∃ gd : List Int, d = Tu gd ∧ OkC gd := by
      simp only [List.mem_cons, List.not_mem_nil, or_false] at hd
      rcases hd with rfl | rfl | rfl
      · exact ⟨[3], rfl, by decide, by decide, by decide, by decide⟩
      · exact ⟨[3, 4], rfl, by decide, by decide, by decide, by decide⟩
      · exact ⟨[0, 80], rfl, by decide, by decide, by decide, by decide⟩
    have g6 := og.l6
    show DB _ _ [.unk, .row, _, .val (Tu t), .val (.int f), .val (.int c), .val (Nk t f c), .val (Tu [r, g]), .val (Tu gd), _, _, _, _, _, _, _, _, _] _ _
    -- _law_chord = _law_odd_chord(_law_row)
    refine db_cons (ds_set 9 nd (de_callR 1 k__law_odd_chord hr wish0 (da_nil ⟨rfl, rfl, fun ch oc ch9 => ?_⟩)))
    -- _law_chords = [_law_good] * _law_taken(_law_row, 6) + [_law_chord, ()]
    refine db_cons (ds_set 10 nd (de_o (do_addL (de_o (do_mulL ((ep_o (op_lst (ap_cons (ep_v (d := Tu gd) 8) ap_nil))).to (de_takeP 1 k__law_taken hr ep_int ⟨by decide, by decide⟩ fun r4 a4 b4 => ⟨_, r4, rfl, rfl, ⟨by omega, by omega⟩, by show 1 * r4.toNat ≤ sizeLine; rw [sizeLine_eq]; omega, ((ep_o (op_lst (ap_cons (ep_v (d := Tu ch) 9) (ap_cons (ep_tup ap_nil) ap_nil)))).to ⟨_, _, rfl, rfl, ?_, ?_⟩)⟩)))))))
    · rw [rep_one, List.length_map, List.length_replicate]
      show r4.toNat + 2 ≤ sizeLine
      rw [sizeLine_eq]; omega
    rw [chs_e]
    obtain ⟨m, rfl⟩ : ∃ m : Nat, r4 = (m : Int) := ⟨r4.toNat, by omega⟩
    rw [Int.toNat_natCast]
    have m5 : m ≤ 5 := by omega
    have hlen : (List.replicate m gd ++ [ch, []]).length = m + 2 := chs_len
    have c9 : ∀ x ∈ List.replicate m gd ++ [ch, []], x.length ≤ 900 := fun x hx => by
      rcases List.mem_append.mp hx with hx | hx
      · rw [(List.mem_replicate.mp hx).2]; omega
      · simp only [List.mem_cons, List.not_mem_nil, or_false] at hx
        rcases hx with rfl | rfl
        · exact ch9
        · decide
    have hbad : BadCs (List.replicate m gd ++ [ch, []]) (if m = 5 then 6 else (m : Int)) := by
      by_cases h5 : m = 5
      · rw [if_pos h5]; exact .inl ⟨by rw [hlen]; omega, rfl⟩
      · rw [if_neg h5]
        exact .inr ⟨by rw [hlen]; omega, m, by rw [hlen]; omega, rfl, by rw [chs_at]; exact oc, fun j hj => by rw [chs_pre hj]; exact og⟩
    have hix : ∀ (j : Nat) (z : PyData), j < m → ((List.replicate m gd ++ [ch, []]).map encT)[j]? = some z → PyData.eqv z (Tu ch) = false := fun j z hj hz => by
      rw [List.getElem?_map, List.getElem?_append_left (by simpa using hj), List.getElem?_replicate, if_pos hj] at hz
      have hz : encT gd = z := Option.some.inj hz
      subst hz
      rw [eqv_tints]
      exact decide_eq_false fun e => oc (e ▸ og)
    have hat : ((List.replicate m gd ++ [ch, []]).map encT)[m]? = some (Tu ch) := by
      rw [List.getElem?_map, List.getElem?_append_right (by simp)]; simp
    generalize hchs : List.replicate m gd ++ [ch, []] = chs at hlen c9 hbad hix hat ⊢
    show DB _ _ [.unk, .row, _, .val (Tu t), .val (.int f), .val (.int c), .val (Nk t f c), .val (Tu [r, g]), .val (Tu gd), .val (Tu ch), .val (.list (chs.map encT)), _, _, _, _, _, _, _] _ _
    -- _law_due = ('chord', ..)
    refine db_cons (ds_setP (d := .tuple [.str "chord", .int (if m = 5 then 6 else (m : Int))]) 11 nd (ep_tup (ap_cons ep_str (ap_cons ((ep_if (d1 := .int 6) (d2 := .int (m : Int)) (tp_ord .gt (ep_lenL B (ep_v (d := .list (chs.map encT)) 10)) ep_int) (fun h => ep_int) (fun h => ep_indexD m hr (ep_v (d := .list (chs.map encT)) 10) (ep_v (d := Tu ch) 9) (sh_Ts chs) (sh_tints ch) hat (by rw [eqv_tints]; exact decide_eq_true rfl) hix)).cast ?_) ap_nil))) ?_)
    · rw [List.length_map, hlen]
      by_cases h5 : m = 5
      · subst h5; rfl
      · rw [if_neg h5, if_neg]
        simp only [decide_eq_true_eq]
        omega
    generalize (if m = 5 then 6 else (m : Int)) = due at hbad ⊢
    show DB _ _ [.unk, .row, _, .val (Tu t), .val (.int f), .val (.int c), .val (Nk t f c), .val (Tu [r, g]), .val (Tu gd), .val (Tu ch), .val (.list (chs.map encT)), .val (.tuple [.str "chord", .int due]), _, _, _, _, _, _] _ _
    -- _law_tune = list(_law_odd_notes(_law_row, 30))
    refine db_cons (ds_set 12 nd (de_o (do_listOf B (de_callR 1 k__law_odd_notes hr wish0 (da_cons (ep_int.to (da_nil ⟨rfl, 30, rfl, by decide, by decide, fun tu hu => ⟨_, .t _, ?_⟩⟩)))))))
    have tu9 := hu.1
    have ot := hu.t
    show DB _ _ [.unk, .row, _, .val (Tu t), .val (.int f), .val (.int c), .val (Nk t f c), .val (Tu [r, g]), .val (Tu gd), .val (Tu ch), .val (.list (chs.map encT)), .val (.tuple [.str "chord", .int due]), .val (Li tu), _, _, _, _, _] _ _
    -- _law_told_here = [..] of what is none
    have hb1 : ∀ b ∈ ([(0, [Nk t f c, Tu ch, Tu [r, g]], .chord, some 0), (1, [Nk t f c, .list (chs.map encT), Tu [r, g]], .chord, some due), (2, [Nk t f c, Li tu, Tu [r, g]], .tune, none), (3, [Nk t f c, Li tu, Tu [r, g]], .tune, none)] : List Bt), okB b := fun b hb => by
      simp only [List.mem_cons, List.not_mem_nil, or_false] at hb
      rcases hb with rfl | rfl | rfl | rfl
      · exact .inl ⟨.inl rfl, t, f, c, ch, [r, g], rfl, by omega, ch9, by show 2 ≤ 900; decide, ok, oc, rfl⟩
      · exact .inr (.inl ⟨rfl, t, f, c, chs, [r, g], rfl, by omega, by omega, c9, by show 2 ≤ 900; decide, ok, l4, hbad⟩)
      · exact .inr (.inr (.inl ⟨.inl rfl, t, f, c, tu, r, g, rfl, by omega, tu9, ok, ot⟩))
      · exact .inr (.inr (.inl ⟨.inr rfl, t, f, c, tu, r, g, rfl, by omega, tu9, ok, ot⟩))
    refine db_cons (ds_setLc 13 [("_law_work", 14)] rfl nd (by decide) (fun _ _ _ _ _ => (dg_name 14 nd)) (di_list ((ep_callT (d := .list [thD 0 [Nk t f c, Tu ch, Tu [r, g]], thD 1 [Nk t f c, .list (chs.map encT), Tu [r, g]], thD 2 [Nk t f c, Li tu, Tu [r, g]], thD 3 [Nk t f c, Li tu, Tu [r, g]]]) hT k__law_works hr wish0 (ap_cons (ep_v (d := Nk t f c) 6) (ap_cons (ep_v (d := Tu ch) 9) (ap_cons (ep_v (d := .list (chs.map encT)) 10) (ap_cons (ep_v (d := Li tu) 12) (ap_cons (ep_v (d := Tu [r, g]) 7) ap_nil))))) ⟨rfl, rfl, rfl⟩).to ⟨_, rfl, (lcp 14 encB [(0, [Nk t f c, Tu ch, Tu [r, g]], .chord, some 0), (1, [Nk t f c, .list (chs.map encT), Tu [r, g]], .chord, some due), (2, [Nk t f c, Li tu, Tu [r, g]], .tune, none), (3, [Nk t f c, Li tu, Tu [r, g]], .tune, none)] (fun _ => true) tolB rfl (small1000 (by show 4 ≤ 1000; decide)) (fun b hb s H C cl fp => ts_nil) (fun b hb hf s H C cl fp => (ep_call (d := tolB b) k__law_told hr wish0 (ap_cons (ep_v (d := encB b) 14) ap_nil) ⟨b.1, b.2.1, b.2.2.1, b.2.2.2, rfl, hb1 b hb, rfl, rfl⟩)) ?_)⟩)) (blkOk_by rfl) (sw_true rfl rfl rfl (by decide +kernel)))
    refine db_freeze 13 rfl ?_
    show DB _ _ [.unk, .row, _, .val (Tu t), .val (.int f), .val (.int c), .val (Nk t f c), .val (Tu [r, g]), .val (Tu gd), .val (Tu ch), .val (.list (chs.map encT)), .val (.tuple [.str "chord", .int due]), .val (Li tu), .val (.list [.tuple [.str "chord", .int 0], .tuple [.str "chord", .int due], .str "tune", .str "tune"]), _, _, _, _] _ _
    -- if not _law_alike(_law_told_here, [..]):
    refine db_cons (ds_alikeP (d := .list [.tuple [.str "chord", .int 0], .tuple [.str "chord", .int due], .str "tune", .str "tune"]) k__law_alike hr (ep_v 13) (ep_o (op_lst (ap_cons (ep_tup (ap_cons ep_str (ap_cons ep_int ap_nil))) (ap_cons (ep_v (d := .tuple [.str "chord", .int due]) 11) (ap_cons ep_str (ap_cons ep_str ap_nil)))))) (al_lst (by show 4 ≤ 1000; decide) fun x hx => ?_) ?_)
    · simp only [List.mem_cons, List.not_mem_nil, or_false] at hx
      rcases hx with rfl | rfl | rfl | rfl
      · exact ⟨by decide, fun y hy => by
          simp only [List.mem_cons, List.not_mem_nil, or_false] at hy
          rcases hy with rfl | rfl
          · exact (by decide +kernel : PyData.strOk "chord" = true)
          · trivial⟩
      · exact ⟨by show 2 ≤ 50000; decide, fun y hy => by
          simp only [List.mem_cons, List.not_mem_nil, or_false] at hy
          rcases hy with rfl | rfl
          · exact (by decide +kernel : PyData.strOk "chord" = true)
          · trivial⟩
      · exact (by decide +kernel : PyData.strOk "tune" = true)
      · exact (by decide +kernel : PyData.strOk "tune" = true)
    show DB _ _ [.unk, .row, _, .val (Tu t), .val (.int f), .val (.int c), .val (Nk t f c), .val (Tu [r, g]), .val (Tu gd), .val (Tu ch), .val (.list (chs.map encT)), .val (.tuple [.str "chord", .int due]), .val (Li tu), .val (.list [.tuple [.str "chord", .int 0], .tuple [.str "chord", .int due], .str "tune", .str "tune"]), _, _, _, _] _ _
    have hnoH : ¬ HdOk [r, g] := fun ⟨r', g', e, oh⟩ => by
      cases e
      exact hno ⟨oh.r0, oh.r6⟩
    -- _law_told_here = [..] of a hand that is none
    have hb2 : ∀ r5 : Int, 0 ≤ r5 → r5 < 7 → ∀ b ∈ ([(0, [Nk t f c, Tu gd, Tu [r, g]], .hand, none), (1, [Nk t f c, .list (List.replicate r5.toNat [Tu gd]).flatten, Tu [r, g]], .hand, none), (2, [Nk t f c, Li [3, 80], Tu [r, g]], .hand, none), (3, [Nk t f c, Li [3, 80], Tu [r, g]], .hand, none)] : List Bt), okB b := fun r5 a5 b5 b hb => by
      rw [rep_one] at hb
      simp only [List.mem_cons, List.not_mem_nil, or_false] at hb
      have ot2 : OkT [3, 80] := ⟨by decide, by decide, by decide⟩
      rcases hb with rfl | rfl | rfl | rfl
      · exact .inl ⟨.inl rfl, t, f, c, gd, [r, g], rfl, by omega, by omega, by show 2 ≤ 900; decide, ok, og, hnoH⟩
      · exact .inr (.inl ⟨rfl, t, f, c, List.replicate r5.toNat gd, [r, g], rfl, by omega, by rw [List.length_replicate]; omega, fun x hx => (by rw [(List.mem_replicate.mp hx).2]; omega), by show 2 ≤ 900; decide, ok, l4, by rw [List.length_replicate]; omega, fun x hx => (by rw [(List.mem_replicate.mp hx).2]; exact og), hnoH⟩)
      · exact .inr (.inr (.inl ⟨.inl rfl, t, f, c, [3, 80], r, g, rfl, by omega, by decide, ok, ot2, hno⟩))
      · exact .inr (.inr (.inl ⟨.inr rfl, t, f, c, [3, 80], r, g, rfl, by omega, by decide, ok, ot2, hno⟩))
    refine db_cons (ds_setLc 13 [("_law_work", 14)] rfl nd (by decide) (fun _ _ _ _ _ => (dg_name 14 nd)) (di_list (de_callTb hT k__law_works hr wish0 (da_cons ((ep_v (d := Nk t f c) 6).to (da_cons ((ep_v (d := Tu gd) 8).to (da_cons (de_o (do_mulL ((ep_o (op_lst (ap_cons (ep_v (d := Tu gd) 8) ap_nil))).to (de_takeP 1 k__law_taken hr ep_int ⟨by decide, by decide⟩ fun r5 a5 b5 => ⟨_, r5, rfl, rfl, ⟨by omega, by omega⟩, by show 1 * r5.toNat ≤ sizeLine; rw [sizeLine_eq]; omega, (da_cons ((ep_o (op_lst (ap_cons ep_int (ap_cons ep_int ap_nil)))).to (da_cons ((ep_v (d := Tu [r, g]) 7).to (da_nil ⟨rfl, _, rfl, (lcp 14 encB [(0, [Nk t f c, Tu gd, Tu [r, g]], .hand, none), (1, [Nk t f c, .list (List.replicate r5.toNat [Tu gd]).flatten, Tu [r, g]], .hand, none), (2, [Nk t f c, Li [3, 80], Tu [r, g]], .hand, none), (3, [Nk t f c, Li [3, 80], Tu [r, g]], .hand, none)] (fun _ => true) tolB rfl (small1000 (by show 4 ≤ 1000; decide)) (fun b hb s H C cl fp => ts_nil) (fun b hb hf s H C cl fp => (ep_call (d := tolB b) k__law_told hr wish0 (ap_cons (ep_v (d := encB b) 14) ap_nil) ⟨b.1, b.2.1, b.2.2.1, b.2.2.2, rfl, hb2 r5 a5 b5 b hb, rfl, rfl⟩)) ?_)⟩)))))⟩))))))))))) (blkOk_by rfl) (sw_true rfl rfl rfl (by decide +kernel)))
    refine db_freeze 13 rfl ?_
    show DB _ _ [.unk, .row, _, .val (Tu t), .val (.int f), .val (.int c), .val (Nk t f c), .val (Tu [r, g]), .val (Tu gd), .val (Tu ch), .val (.list (chs.map encT)), .val (.tuple [.str "chord", .int due]), .val (Li tu), .val (.list [.str "hand", .str "hand", .str "hand", .str "hand"]), _, _, _, _] _ _
    refine db_cons (ds_alikeP (d := .list [.str "hand", .str "hand", .str "hand", .str "hand"]) k__law_alike hr (ep_v 13) (ep_o (op_mulL (n := 4) (ep_o (op_lst (ap_cons ep_str ap_nil))) ep_int ⟨by decide, by decide⟩ (by show 1 * 4 ≤ sizeLine; decide))) (al_lst (by show 4 ≤ 1000; decide) fun x hx => ?_) ?_)
    · simp only [List.mem_cons, List.not_mem_nil, or_false] at hx
      rcases hx with rfl | rfl | rfl | rfl <;> exact (by decide +kernel : PyData.strOk "hand" = true)
    show DB _ _ [.unk, .row, _, .val (Tu t), .val (.int f), .val (.int c), .val (Nk t f c), .val (Tu [r, g]), .val (Tu gd), .val (Tu ch), .val (.list (chs.map encT)), .val (.tuple [.str "chord", .int due]), .val (Li tu), _, _, _, _, _] _ _
    -- _law_odd = ..
    refine db_cons (ds_set 15 nd (de_pick 1 k__law_taken hr ⟨by decide, by decide⟩ ((ep_o (op_lst (ap_cons (ep_tup (ap_cons ep_int ap_nil)) (ap_cons (ep_tup (ap_cons ep_int (ap_cons ep_int ap_nil))) (ap_cons (ep_tup (ap_cons ep_int (ap_cons ep_int (ap_cons ep_int ap_nil)))) (ap_cons (ep_tup (ap_cons ep_int (ap_cons (ep_sub ep_int ep_int) ap_nil))) (ap_cons (ep_tup ap_nil) (ap_cons (ep_tup (ap_cons ep_int (ap_cons ep_int ap_nil))) ap_nil)))))))).to ⟨rfl, _, rfl, rfl, fun d hd => ?_⟩)))
    obtain ⟨od, rfl, ho, od9⟩ : ∃ od : List Int, d = Tu od ∧ ¬ HdOk od ∧ od.length ≤ 900 := by
      simp only [List.mem_cons, List.not_mem_nil, or_false] at hd
      rcases hd with rfl | rfl | rfl | rfl | rfl | rfl
      · exact ⟨[3], rfl, fun ⟨_, _, e, oh⟩ => (by cases e), by decide⟩
      · exact ⟨[3, 7], rfl, fun ⟨_, _, e, oh⟩ => (by cases e; exact absurd oh.g6 (by decide)), by decide⟩
      · exact ⟨[3, 3, 3], rfl, fun ⟨_, _, e, oh⟩ => (by cases e), by decide⟩
      · exact ⟨[3, 0 - 1], rfl, fun ⟨_, _, e, oh⟩ => (by cases e; exact absurd oh.g0 (by decide)), by decide⟩
      · exact ⟨[], rfl, fun ⟨_, _, e, oh⟩ => (by cases e), by decide⟩
      · exact ⟨[7, 3], rfl, fun ⟨_, _, e, oh⟩ => (by cases e; exact absurd oh.r6 (by decide)), by decide⟩
    show DB _ _ [.unk, .row, _, .val (Tu t), .val (.int f), .val (.int c), .val (Nk t f c), .val (Tu [r, g]), .val (Tu gd), .val (Tu ch), .val (.list (chs.map encT)), .val (.tuple [.str "chord", .int due]), .val (Li tu), _, _, .val (Tu od), _, _] _ _
    -- _law_told_here = [..] of no hand
    have hb3 : ∀ b ∈ ([(4, [Nk t f c, Tu gd, Tu od], .hand, none), (5, [Nk t f c, Tu gd, Tu od], .hand, none)] : List Bt), okB b := fun b hb => by
      simp only [List.mem_cons, List.not_mem_nil, or_false] at hb
      rcases hb with rfl | rfl
      · exact .inl ⟨.inr rfl, t, f, c, gd, od, rfl, by omega, by omega, od9, ok, og, ho⟩
      · exact .inr (.inr (.inr ⟨rfl, t, f, c, gd, od, rfl, by omega, by omega, od9, ok, l4, by show 1 ≤ 6; decide, fun x hx => (by rw [List.mem_singleton.mp hx]; exact og), ho⟩))
    refine db_cons (ds_setLc 13 [("_law_work", 14)] rfl nd (by decide) (fun _ _ _ _ _ => (dg_name 14 nd)) (di_list ((ep_callT (d := .list [thD 4 [Nk t f c, Tu gd, Tu od], thD 5 [Nk t f c, Tu gd, Tu od]]) hT k__law_handed hr wish0 (ap_cons (ep_v (d := Nk t f c) 6) (ap_cons (ep_v (d := Tu gd) 8) (ap_cons (ep_v (d := Tu od) 15) ap_nil))) ⟨rfl, rfl, rfl⟩).to ⟨_, rfl, (lcp 14 encB [(4, [Nk t f c, Tu gd, Tu od], .hand, none), (5, [Nk t f c, Tu gd, Tu od], .hand, none)] (fun _ => true) tolB rfl (small1000 (by show 2 ≤ 1000; decide)) (fun b hb s H C cl fp => ts_nil) (fun b hb hf s H C cl fp => (ep_call (d := tolB b) k__law_told hr wish0 (ap_cons (ep_v (d := encB b) 14) ap_nil) ⟨b.1, b.2.1, b.2.2.1, b.2.2.2, rfl, hb3 b hb, rfl, rfl⟩)) ?_)⟩)) (blkOk_by rfl) (sw_true rfl rfl rfl (by decide +kernel)))
    refine db_freeze 13 rfl ?_
    show DB _ _ [.unk, .row, _, .val (Tu t), .val (.int f), .val (.int c), .val (Nk t f c), .val (Tu [r, g]), .val (Tu gd), .val (Tu ch), .val (.list (chs.map encT)), .val (.tuple [.str "chord", .int due]), .val (Li tu), .val (.list [.str "hand", .str "hand"]), _, .val (Tu od), _, _] _ _
    refine db_cons (ds_alikeP (d := .list [.str "hand", .str "hand"]) k__law_alike hr (ep_v 13) (ep_o (op_mulL (n := 2) (ep_o (op_lst (ap_cons ep_str ap_nil))) ep_int ⟨by decide, by decide⟩ (by show 1 * 2 ≤ sizeLine; decide))) (al_lst (by show 2 ≤ 1000; decide) fun x hx => ?_) ?_)
    · simp only [List.mem_cons, List.not_mem_nil, or_false] at hx
      rcases hx with rfl | rfl <;> exact (by decide +kernel : PyData.strOk "hand" = true)
    show DB _ _ [.unk, .row, _, .val (Tu t), .val (.int f), .val (.int c), .val (Nk t f c), .val (Tu [r, g]), .val (Tu gd), .val (Tu ch), .val (.list (chs.map encT)), .val (.tuple [.str "chord", .int due]), .val (Li tu), _, _, .val (Tu od), _, _] _ _
    -- _law_bad = ..
    refine db_cons (ds_set 16 nd (de_pick 1 k__law_taken hr ⟨by decide, by decide⟩ ((ep_o (op_lst (ap_cons (ep_tup (ap_cons (ep_tup ap_nil) (ap_cons (ep_v (d := .int f) 4) (ap_cons (ep_v (d := .int c) 5) ap_nil)))) (ap_cons (ep_tup (ap_cons (ep_v (d := Tu t) 3) (ap_cons (ep_v (d := .int f) 4) (ap_cons (ep_add (ep_v (d := .int f) 4) ep_int) ap_nil)))) (ap_cons (ep_tup (ap_cons (ep_v (d := Tu t) 3) (ap_cons ep_int (ap_cons ep_int ap_nil)))) ap_nil))))).to ⟨rfl, _, rfl, rfl, fun d hd => ?_⟩)))
    obtain ⟨t', f', c', rfl, t9, hno'⟩ : ∃ (t' : List Int) (f' c' : Int), d = Nk t' f' c' ∧ t'.length ≤ 900 ∧ ¬ OkN t' f' c' := by
      simp only [List.mem_cons, List.not_mem_nil, or_false] at hd
      rcases hd with rfl | rfl | rfl
      · exact ⟨[], f, c, rfl, by decide, fun o => absurd o.l1 (by decide)⟩
      · exact ⟨t, f, f + 1, rfl, by omega, fun o => by have := o.cf; omega⟩
      · exact ⟨t, 21, 0, rfl, by omega, fun o => absurd o.f2 (by decide)⟩
    show DB _ _ [.unk, .row, _, .val (Tu t), .val (.int f), .val (.int c), .val (Nk t f c), .val (Tu [r, g]), .val (Tu gd), .val (Tu ch), .val (.list (chs.map encT)), .val (.tuple [.str "chord", .int due]), .val (Li tu), _, _, .val (Tu od), .val (Nk t' f' c'), _] _ _
    -- _law_told_here = [..] of no neck
    have hb4 : ∀ b ∈ ([(0, [Nk t' f' c', Tu ch, Tu [r, g]], .neck, none), (1, [Nk t' f' c', .list (chs.map encT), Tu [r, g]], .neck, none), (2, [Nk t' f' c', Li tu, Tu [r, g]], .neck, none), (3, [Nk t' f' c', Li tu, Tu [r, g]], .neck, none)] : List Bt), okB b := fun b hb => by
      simp only [List.mem_cons, List.not_mem_nil, or_false] at hb
      rcases hb with rfl | rfl | rfl | rfl
      · exact .inl ⟨.inl rfl, t', f', c', ch, [r, g], rfl, t9, ch9, by show 2 ≤ 900; decide, hno'⟩
      · exact .inr (.inl ⟨rfl, t', f', c', chs, [r, g], rfl, t9, by omega, c9, by show 2 ≤ 900; decide, .inl hno'⟩)
      · exact .inr (.inr (.inl ⟨.inl rfl, t', f', c', tu, r, g, rfl, t9, tu9, hno'⟩))
      · exact .inr (.inr (.inl ⟨.inr rfl, t', f', c', tu, r, g, rfl, t9, tu9, hno'⟩))
    refine db_cons (ds_setLc 13 [("_law_work", 14)] rfl nd (by decide) (fun _ _ _ _ _ => (dg_name 14 nd)) (di_list ((ep_callT (d := .list [thD 0 [Nk t' f' c', Tu ch, Tu [r, g]], thD 1 [Nk t' f' c', .list (chs.map encT), Tu [r, g]], thD 2 [Nk t' f' c', Li tu, Tu [r, g]], thD 3 [Nk t' f' c', Li tu, Tu [r, g]]]) hT k__law_works hr wish0 (ap_cons (ep_v (d := Nk t' f' c') 16) (ap_cons (ep_v (d := Tu ch) 9) (ap_cons (ep_v (d := .list (chs.map encT)) 10) (ap_cons (ep_v (d := Li tu) 12) (ap_cons (ep_v (d := Tu [r, g]) 7) ap_nil))))) ⟨rfl, rfl, rfl⟩).to ⟨_, rfl, (lcp 14 encB [(0, [Nk t' f' c', Tu ch, Tu [r, g]], .neck, none), (1, [Nk t' f' c', .list (chs.map encT), Tu [r, g]], .neck, none), (2, [Nk t' f' c', Li tu, Tu [r, g]], .neck, none), (3, [Nk t' f' c', Li tu, Tu [r, g]], .neck, none)] (fun _ => true) tolB rfl (small1000 (by show 4 ≤ 1000; decide)) (fun b hb s H C cl fp => ts_nil) (fun b hb hf s H C cl fp => (ep_call (d := tolB b) k__law_told hr wish0 (ap_cons (ep_v (d := encB b) 14) ap_nil) ⟨b.1, b.2.1, b.2.2.1, b.2.2.2, rfl, hb4 b hb, rfl, rfl⟩)) ?_)⟩)) (blkOk_by rfl) (sw_true rfl rfl rfl (by decide +kernel)))
    refine db_freeze 13 rfl ?_
    show DB _ _ [.unk, .row, _, .val (Tu t), .val (.int f), .val (.int c), .val (Nk t f c), .val (Tu [r, g]), .val (Tu gd), .val (Tu ch), .val (.list (chs.map encT)), .val (.tuple [.str "chord", .int due]), .val (Li tu), .val (.list [.str "neck", .str "neck", .str "neck", .str "neck"]), _, .val (Tu od), .val (Nk t' f' c'), _] _ _
    refine db_cons (ds_alikeP (d := .list [.str "neck", .str "neck", .str "neck", .str "neck"]) k__law_alike hr (ep_v 13) (ep_o (op_mulL (n := 4) (ep_o (op_lst (ap_cons ep_str ap_nil))) ep_int ⟨by decide, by decide⟩ (by show 1 * 4 ≤ sizeLine; decide))) (al_lst (by show 4 ≤ 1000; decide) fun x hx => ?_) ?_)
    · simp only [List.mem_cons, List.not_mem_nil, or_false] at hx
      rcases hx with rfl | rfl | rfl | rfl <;> exact (by decide +kernel : PyData.strOk "neck" = true)
    show DB _ _ [.unk, .row, _, .val (Tu t), .val (.int f), .val (.int c), .val (Nk t f c), .val (Tu [r, g]), .val (Tu gd), .val (Tu ch), .val (.list (chs.map encT)), .val (.tuple [.str "chord", .int due]), .val (Li tu), _, _, .val (Tu od), .val (Nk t' f' c'), _] _ _
    -- _law_five = ..
    have hfive : cutD (List.replicate 5 (t.map PyData.int)).flatten none (some 5) = (five t).map PyData.int := five_cut t
    have ok5 : OkN (five t) f c := ⟨by rw [five_len l1]; decide, by rw [five_len l1]; decide, fun x hx => ok.n x (five_mem hx), ok.c0, ok.cf, ok.f2⟩
    refine db_cons (ds_setP (d := Nk (five t) f c) 17 nd ((ep_tup (ap_cons (ep_slT (ep_mulT (n := 5) (ep_v (d := Tu t) 3) ep_int (fun z => by rw [List.map_eq_nil_iff] at z; subst z; simp at l1) ⟨by decide, by decide⟩ (by rw [List.length_map]; omega)) pp_none (pp_some ep_int)) (ap_cons (ep_v (d := .int f) 4) (ap_cons (ep_v (d := .int c) 5) ap_nil)))).cast ?_) ?_)
    · rw [show (5 : Int).toNat = 5 from rfl, hfive]
    -- if not _law_alike(_law_told(_law_works(..)[1]), 'neck'):
    show DB _ _ [.unk, .row, _, .val (Tu t), .val (.int f), .val (.int c), .val (Nk t f c), .val (Tu [r, g]), .val (Tu gd), .val (Tu ch), .val (.list (chs.map encT)), .val (.tuple [.str "chord", .int due]), .val (Li tu), _, _, .val (Tu od), .val (Nk t' f' c'), .val (Nk (five t) f c)] _ _
    have hr5 : RsL 1 [Nk (five t) f c, .list (chs.map encT), Tu [r, g]] .neck none := .inr (.inl ⟨rfl, five t, f, c, chs, [r, g], rfl, by rw [five_len l1]; decide, by omega, c9, by show 2 ≤ 900; decide, .inr ⟨ok5, by rw [five_len l1]; decide⟩⟩)
    exact db_one (ds_alikeP (d := .str "neck") k__law_alike hr (ep_call (d := .str "neck") k__law_told hr wish0 (ap_cons (ep_ixL (d := thD 1 [Nk (five t) f c, .list (chs.map encT), Tu [r, g]]) (ep_callT (d := .list [thD 0 [Nk (five t) f c, Tu ch, Tu [r, g]], thD 1 [Nk (five t) f c, .list (chs.map encT), Tu [r, g]], thD 2 [Nk (five t) f c, Li tu, Tu [r, g]], thD 3 [Nk (five t) f c, Li tu, Tu [r, g]]]) hT k__law_works hr wish0 (ap_cons (ep_v (d := Nk (five t) f c) 17) (ap_cons (ep_v (d := Tu ch) 9) (ap_cons (ep_v (d := .list (chs.map encT)) 10) (ap_cons (ep_v (d := Li tu) 12) (ap_cons (ep_v (d := Tu [r, g]) 7) ap_nil))))) ⟨rfl, rfl, rfl⟩) ep_int (atI_nat (j := 1) rfl)) ap_nil) ⟨1, _, .neck, none, rfl, hr5, rfl, rfl⟩) ep_str (by decide +kernel : PyData.strOk "neck" = true) ⟨_, _, _, _, _, _, _, _, _, _, _, _, _, _, _, _, rfl⟩)
  · obtain ⟨s2, s3, s4, s5, s6, s7, s8, s9, s10, s11, s12, s13, s14, s15, s16, s17, rfl⟩ := hI
    exact db_cons (ds_retP ep_bl rfl)
end
end Q
namespace Q
open PySem PySem.Spec PyProof.Rows L2 FW
theorem all_mk [Tb] {l : PySem.W.OpenLaw} {w : World} {K : PySem.W.Frag} {h : Heap} {mg : Str → Option Value} {fa : Addr} (X : K.In h) (G : h.Ns mainGlobals mg) (hfa : mg "law" = some (.ref fa))
    {f0 : Addr} {od0 an0 : Option Addr} {sl0 : Array (Option Value)} {oc0 kV0 dc0 pm0 ct0 : Value} {cd0 : Value}
    (a0 : PySem.W.nsIn K mainGlobals "_law_taken" = some (some (.ref f0))) (l0 : K.lookup f0 = some ⟨oc0, od0, .func (PySem.W.fnOf "_law_taken" "_law_taken" (defArgs s__law_taken) (defBody s__law_taken) (defScope s__law_taken) .none kV0 dc0 pm0 an0 cd0 ct0), sl0⟩) (c0c : PySem.W.codeIn K cd0 "_law_taken" = true) (k0 : PySem.W.keepIn K (.ref f0) = true)
    {f1 : Addr} {od1 an1 : Option Addr} {sl1 : Array (Option Value)} {oc1 kV1 dc1 pm1 ct1 : Value} {cd1 : Value}
    (a1 : PySem.W.nsIn K mainGlobals "_law_neck" = some (some (.ref f1))) (l1 : K.lookup f1 = some ⟨oc1, od1, .func (PySem.W.fnOf "_law_neck" "_law_neck" (defArgs s__law_neck) (defBody s__law_neck) (defScope s__law_neck) .none kV1 dc1 pm1 an1 cd1 ct1), sl1⟩) (c1c : PySem.W.codeIn K cd1 "_law_neck" = true) (k1 : PySem.W.keepIn K (.ref f1) = true)
    {f2 : Addr} {od2 an2 : Option Addr} {sl2 : Array (Option Value)} {oc2 kV2 dc2 pm2 ct2 : Value} {cd2 : Value}
    (a2 : PySem.W.nsIn K mainGlobals "_law_odd_notes" = some (some (.ref f2))) (l2 : K.lookup f2 = some ⟨oc2, od2, .func (PySem.W.fnOf "_law_odd_notes" "_law_odd_notes" (defArgs s__law_odd_notes) (defBody s__law_odd_notes) (defScope s__law_odd_notes) .none kV2 dc2 pm2 an2 cd2 ct2), sl2⟩) (c2c : PySem.W.codeIn K cd2 "_law_odd_notes" = true) (k2 : PySem.W.keepIn K (.ref f2) = true)
    {f3 : Addr} {od3 an3 : Option Addr} {sl3 : Array (Option Value)} {oc3 kV3 dc3 pm3 ct3 : Value} {cd3 : Value}
    (a3 : PySem.W.nsIn K mainGlobals "_law_odd_chord" = some (some (.ref f3))) (l3 : K.lookup f3 = some ⟨oc3, od3, .func (PySem.W.fnOf "_law_odd_chord" "_law_odd_chord" (defArgs s__law_odd_chord) (defBody s__law_odd_chord) (defScope s__law_odd_chord) .none kV3 dc3 pm3 an3 cd3 ct3), sl3⟩) (c3c : PySem.W.codeIn K cd3 "_law_odd_chord" = true) (k3 : PySem.W.keepIn K (.ref f3) = true)
    {f4 : Addr} {od4 an4 : Option Addr} {sl4 : Array (Option Value)} {oc4 kV4 dc4 pm4 ct4 : Value} {cc4 PP4 : Addr} {co4 : Value} {cp4 : Option Addr} {vs4 : Array Value} {cs4 : Array (Option Value)}
    (a4 : PySem.W.nsIn K mainGlobals "_law_works" = some (some (.ref f4))) (l4 : K.lookup f4 = some ⟨oc4, od4, .func (PySem.W.fnOf "_law_works" "_law_works" (defArgs s__law_works) (defBody s__law_works) (defScope s__law_works) .none kV4 dc4 pm4 an4 (.ref cc4) ct4), sl4⟩) (c4c : PySem.W.codeIn K (.ref cc4) "_law_works" = true) (k4 : PySem.W.keepIn K (.ref f4) = true)
    (lc4 : K.lookup cc4 = some ⟨co4, cp4, .fields vs4, cs4⟩) (lp4 : vs4[11]? = some (.ref PP4)) (lh4 : PySem.W.codeHdIn K cc4 PP4 = true) (ln4 : K.lookup PP4 = none) (lt4 : h.get? PP4 = some { cls := .none, data := .fields #[] })
    {f5 : Addr} {od5 an5 : Option Addr} {sl5 : Array (Option Value)} {oc5 kV5 dc5 pm5 ct5 : Value} {cc5 PP5 : Addr} {co5 : Value} {cp5 : Option Addr} {vs5 : Array Value} {cs5 : Array (Option Value)}
    (a5 : PySem.W.nsIn K mainGlobals "_law_handed" = some (some (.ref f5))) (l5 : K.lookup f5 = some ⟨oc5, od5, .func (PySem.W.fnOf "_law_handed" "_law_handed" (defArgs s__law_handed) (defBody s__law_handed) (defScope s__law_handed) .none kV5 dc5 pm5 an5 (.ref cc5) ct5), sl5⟩) (c5c : PySem.W.codeIn K (.ref cc5) "_law_handed" = true) (k5 : PySem.W.keepIn K (.ref f5) = true)
    (lc5 : K.lookup cc5 = some ⟨co5, cp5, .fields vs5, cs5⟩) (lp5 : vs5[11]? = some (.ref PP5)) (lh5 : PySem.W.codeHdIn K cc5 PP5 = true) (ln5 : K.lookup PP5 = none) (lt5 : h.get? PP5 = some { cls := .none, data := .fields #[] })
    {f6 : Addr} {od6 an6 : Option Addr} {sl6 : Array (Option Value)} {oc6 kV6 dc6 pm6 ct6 : Value} {cd6 : Value}
    (a6 : PySem.W.nsIn K mainGlobals "need_neck" = some (some (.ref f6))) (l6 : K.lookup f6 = some ⟨oc6, od6, .func (PySem.W.fnOf "need_neck" "need_neck" (defArgs s_need_neck) (defBody s_need_neck) (defScope s_need_neck) .none kV6 dc6 pm6 an6 cd6 ct6), sl6⟩) (c6c : PySem.W.codeIn K cd6 "need_neck" = true) (k6 : PySem.W.keepIn K (.ref f6) = true)
    {f7 : Addr} {od7 an7 : Option Addr} {sl7 : Array (Option Value)} {oc7 kV7 dc7 pm7 ct7 : Value} {cd7 : Value}
    (a7 : PySem.W.nsIn K mainGlobals "is_chord" = some (some (.ref f7))) (l7 : K.lookup f7 = some ⟨oc7, od7, .func (PySem.W.fnOf "is_chord" "is_chord" (defArgs s_is_chord) (defBody s_is_chord) (defScope s_is_chord) .none kV7 dc7 pm7 an7 cd7 ct7), sl7⟩) (c7c : PySem.W.codeIn K cd7 "is_chord" = true) (k7 : PySem.W.keepIn K (.ref f7) = true)
    {f8 : Addr} {od8 an8 : Option Addr} {sl8 : Array (Option Value)} {oc8 kV8 dc8 pm8 ct8 : Value} {cd8 : Value}
    (a8 : PySem.W.nsIn K mainGlobals "need_chord" = some (some (.ref f8))) (l8 : K.lookup f8 = some ⟨oc8, od8, .func (PySem.W.fnOf "need_chord" "need_chord" (defArgs s_need_chord) (defBody s_need_chord) (defScope s_need_chord) .none kV8 dc8 pm8 an8 cd8 ct8), sl8⟩) (c8c : PySem.W.codeIn K cd8 "need_chord" = true) (k8 : PySem.W.keepIn K (.ref f8) = true)
    {f9 : Addr} {od9 an9 : Option Addr} {sl9 : Array (Option Value)} {oc9 kV9 dc9 pm9 ct9 : Value} {cd9 : Value}
    (a9 : PySem.W.nsIn K mainGlobals "need_hand" = some (some (.ref f9))) (l9 : K.lookup f9 = some ⟨oc9, od9, .func (PySem.W.fnOf "need_hand" "need_hand" (defArgs s_need_hand) (defBody s_need_hand) (defScope s_need_hand) .none kV9 dc9 pm9 an9 cd9 ct9), sl9⟩) (c9c : PySem.W.codeIn K cd9 "need_hand" = true) (k9 : PySem.W.keepIn K (.ref f9) = true)
    {f10 : Addr} {od10 an10 : Option Addr} {sl10 : Array (Option Value)} {oc10 kV10 dc10 pm10 ct10 : Value} {cd10 : Value}
    (a10 : PySem.W.nsIn K mainGlobals "ways" = some (some (.ref f10))) (l10 : K.lookup f10 = some ⟨oc10, od10, .func (PySem.W.fnOf "ways" "ways" (defArgs s_ways) (defBody s_ways) (defScope s_ways) .none kV10 dc10 pm10 an10 cd10 ct10), sl10⟩) (c10c : PySem.W.codeIn K cd10 "ways" = true) (k10 : PySem.W.keepIn K (.ref f10) = true)
    {f11 : Addr} {od11 an11 : Option Addr} {sl11 : Array (Option Value)} {oc11 kV11 dc11 pm11 ct11 : Value} {cd11 : Value}
    (a11 : PySem.W.nsIn K mainGlobals "need_chords" = some (some (.ref f11))) (l11 : K.lookup f11 = some ⟨oc11, od11, .func (PySem.W.fnOf "need_chords" "need_chords" (defArgs s_need_chords) (defBody s_need_chords) (defScope s_need_chords) .none kV11 dc11 pm11 an11 cd11 ct11), sl11⟩) (c11c : PySem.W.codeIn K cd11 "need_chords" = true) (k11 : PySem.W.keepIn K (.ref f11) = true)
    {f12 : Addr} {od12 an12 : Option Addr} {sl12 : Array (Option Value)} {oc12 kV12 dc12 pm12 ct12 : Value} {cd12 : Value}
    (a12 : PySem.W.nsIn K mainGlobals "retuned" = some (some (.ref f12))) (l12 : K.lookup f12 = some ⟨oc12, od12, .func (PySem.W.fnOf "retuned" "retuned" (defArgs s_retuned) (defBody s_retuned) (defScope s_retuned) .none kV12 dc12 pm12 an12 cd12 ct12), sl12⟩) (c12c : PySem.W.codeIn K cd12 "retuned" = true) (k12 : PySem.W.keepIn K (.ref f12) = true)
    {f13 : Addr} {od13 an13 : Option Addr} {sl13 : Array (Option Value)} {oc13 kV13 dc13 pm13 ct13 : Value} {cd13 : Value}
    (a13 : PySem.W.nsIn K mainGlobals "need_tune" = some (some (.ref f13))) (l13 : K.lookup f13 = some ⟨oc13, od13, .func (PySem.W.fnOf "need_tune" "need_tune" (defArgs s_need_tune) (defBody s_need_tune) (defScope s_need_tune) .none kV13 dc13 pm13 an13 cd13 ct13), sl13⟩) (c13c : PySem.W.codeIn K cd13 "need_tune" = true) (k13 : PySem.W.keepIn K (.ref f13) = true)
    {f14 : Addr} {od14 an14 : Option Addr} {sl14 : Array (Option Value)} {oc14 kV14 dc14 pm14 ct14 : Value} {cd14 : Value}
    (a14 : PySem.W.nsIn K mainGlobals "need_reach" = some (some (.ref f14))) (l14 : K.lookup f14 = some ⟨oc14, od14, .func (PySem.W.fnOf "need_reach" "need_reach" (defArgs s_need_reach) (defBody s_need_reach) (defScope s_need_reach) .none kV14 dc14 pm14 an14 cd14 ct14), sl14⟩) (c14c : PySem.W.codeIn K cd14 "need_reach" = true) (k14 : PySem.W.keepIn K (.ref f14) = true)
    {f15 : Addr} {od15 an15 : Option Addr} {sl15 : Array (Option Value)} {oc15 kV15 dc15 pm15 ct15 : Value} {cd15 : Value}
    (a15 : PySem.W.nsIn K mainGlobals "played" = some (some (.ref f15))) (l15 : K.lookup f15 = some ⟨oc15, od15, .func (PySem.W.fnOf "played" "played" (defArgs s_played) (defBody s_played) (defScope s_played) .none kV15 dc15 pm15 an15 cd15 ct15), sl15⟩) (c15c : PySem.W.codeIn K cd15 "played" = true) (k15 : PySem.W.keepIn K (.ref f15) = true)
    {f16 : Addr} {od16 an16 : Option Addr} {sl16 : Array (Option Value)} {oc16 kV16 dc16 pm16 ct16 : Value} {cd16 : Value}
    (a16 : PySem.W.nsIn K mainGlobals "table" = some (some (.ref f16))) (l16 : K.lookup f16 = some ⟨oc16, od16, .func (PySem.W.fnOf "table" "table" (defArgs s_table) (defBody s_table) (defScope s_table) .none kV16 dc16 pm16 an16 cd16 ct16), sl16⟩) (c16c : PySem.W.codeIn K cd16 "table" = true) (k16 : PySem.W.keepIn K (.ref f16) = true)
    {f17 : Addr} {od17 an17 : Option Addr} {sl17 : Array (Option Value)} {oc17 kV17 dc17 pm17 ct17 : Value} {cd17 : Value}
    (a17 : PySem.W.nsIn K mainGlobals "_law_told" = some (some (.ref f17))) (l17 : K.lookup f17 = some ⟨oc17, od17, .func (PySem.W.fnOf "_law_told" "_law_told" (defArgs s__law_told) (defBody s__law_told) (defScope s__law_told) .none kV17 dc17 pm17 an17 cd17 ct17), sl17⟩) (c17c : PySem.W.codeIn K cd17 "_law_told" = true) (k17 : PySem.W.keepIn K (.ref f17) = true)
    {f18 : Addr} {od18 an18 : Option Addr} {sl18 : Array (Option Value)} {oc18 kV18 dc18 pm18 ct18 : Value} {cd18 : Value}
    (a18 : PySem.W.nsIn K mainGlobals "_law_alike" = some (some (.ref f18))) (l18 : K.lookup f18 = some ⟨oc18, od18, .func (PySem.W.fnOf "_law_alike" "_law_alike" (defArgs s__law_alike) (defBody s__law_alike) (defScope s__law_alike) .none kV18 dc18 pm18 an18 cd18 ct18), sl18⟩) (c18c : PySem.W.codeIn K cd18 "_law_alike" = true) (k18 : PySem.W.keepIn K (.ref f18) = true)
    {f19 : Addr} {od19 an19 : Option Addr} {sl19 : Array (Option Value)} {oc19 kV19 dc19 pm19 ct19 : Value} {cd19 : Value}
    (a19 : PySem.W.nsIn K mainGlobals "law" = some (some (.ref f19))) (l19 : K.lookup f19 = some ⟨oc19, od19, .func (PySem.W.fnOf "law" "law" (defArgs s_law) (defBody s_law) (defScope s_law) .none kV19 dc19 pm19 an19 cd19 ct19), sl19⟩) (c19c : PySem.W.codeIn K cd19 "law" = true) (k19 : PySem.W.keepIn K (.ref f19) = true)
    (z_len : PySem.W.nsIn K mainGlobals "len" = some none)
    (z_range : PySem.W.nsIn K mainGlobals "range" = some none)
    (z_sorted : PySem.W.nsIn K mainGlobals "sorted" = some none)
    (z_set : PySem.W.nsIn K mainGlobals "set" = some none)
    (z_tuple : PySem.W.nsIn K mainGlobals "tuple" = some none)
    (z_list : PySem.W.nsIn K mainGlobals "list" = some none)
    (z_min : PySem.W.nsIn K mainGlobals "min" = some none)
    (z_max : PySem.W.nsIn K mainGlobals "max" = some none)
    (z_abs : PySem.W.nsIn K mainGlobals "abs" = some none)
    (z_sum : PySem.W.nsIn K mainGlobals "sum" = some none)
    (z_int : PySem.W.nsIn K mainGlobals "int" = some none)
    (z_str : PySem.W.nsIn K mainGlobals "str" = some none)
    (z_bool : PySem.W.nsIn K mainGlobals "bool" = some none)
    (z_zip : PySem.W.nsIn K mainGlobals "zip" = some none)
    (z_reversed : PySem.W.nsIn K mainGlobals "reversed" = some none)
    (z_isinstance : PySem.W.nsIn K mainGlobals "isinstance" = some none)
    {t0 : _} (y_MOST_STRINGS_necks : PySem.W.nsIn K mainGlobals "MOST_STRINGS_necks" = some (some (.int 6 t0)))
    {t1 : _} (y_MOST_NOTE : PySem.W.nsIn K mainGlobals "MOST_NOTE" = some (some (.int 60 t1)))
    {t2 : _} (y_MOST_FRETS : PySem.W.nsIn K mainGlobals "MOST_FRETS" = some (some (.int 20 t2)))
    {t3 : _} (y_SILENT : PySem.W.nsIn K mainGlobals "SILENT" = some (some (.int (-1) t3)))
    {t4 : _} (y_MOST_REACH : PySem.W.nsIn K mainGlobals "MOST_REACH" = some (some (.int 6 t4)))
    {t5 : _} (y_MOST_CHORD : PySem.W.nsIn K mainGlobals "MOST_CHORD" = some (some (.int 6 t5)))
    {t6 : _} (y_MOST_SOUND : PySem.W.nsIn K mainGlobals "MOST_SOUND" = some (some (.int 80 t6)))
    {t7 : _} (y_MOST_TUNE : PySem.W.nsIn K mainGlobals "MOST_TUNE" = some (some (.int 30 t7)))
    {t8 : _} (y_NEVER : PySem.W.nsIn K mainGlobals "NEVER" = some (some (.int (-1) t8)))
    {t9 : _} (y_MOST_STRINGS_tunings : PySem.W.nsIn K mainGlobals "MOST_STRINGS_tunings" = some (some (.int 4 t9)))
    {t10 : _} (y_MOST_CHANGE : PySem.W.nsIn K mainGlobals "MOST_CHANGE" = some (some (.int 2 t10)))
    {cN : Addr} {c0 : Addr} {c1 : Addr} {c2 : Addr} {c3 : Addr} {c4 : Addr} {c5 : Addr} (xn : PySem.W.nsIn K mainGlobals "NeckError" = some (some (.ref cN))) (xnb : PySem.W.subIn K (.ref cN) (.type "BaseException") = some true) (xnt : PySem.W.typeIn K (.ref cN) = some (.type "type")) (xni : PySem.W.isClsIn K cN = true) (xvn : PySem.W.nsIn K mainGlobals "ValueError" = some none)
    (xcg : PySem.W.specialIn K (.builtin "object.__class__") "__get__" = some (some (.builtin "getset_descriptor.__get__"))) (xct : PySem.W.takesIn K (.builtin "object.__class__") = some true)
    (x0g : PySem.W.nsIn K mainGlobals "BadNeck" = some (some (.ref c0))) (x0k : PySem.W.keepIn K (.ref c0) = true) (x0b : PySem.W.subIn K (.ref c0) (.type "BaseException") = some true) (x0t : PySem.W.typeIn K (.ref c0) = some (.type "type")) (x0i : PySem.W.isClsIn K c0 = true) (x0hg : PySem.W.findIn K (.ref c0) "__getattribute__" = some (some (.builtin "BaseException.__getattribute__"))) (x0hk : PySem.W.findIn K (.ref c0) "__getattr__" = some none) (x0hd : PySem.W.hasDictIn K c0 = true) (x0ha : PySem.W.findIn K (.ref c0) "__class__" = some (some (.builtin "object.__class__"))) (x0hm : PySem.W.mroIn K c0 (.type "object") = some true) (x0n : PySem.W.subIn K (.ref c0) (.ref cN) = some true) (x0v : PySem.W.subIn K (.ref c0) (.type "ValueError") = some true)
    (x0o : PySem.W.excIn K c0 [.type "ValueError", .type "Exception", .type "BaseException", .type "object"] "ValueError.__new__" = true)
    (x0s0 : PySem.W.subIn K (.ref c0) (.ref c0) = some true) (x0s1 : PySem.W.subIn K (.ref c0) (.ref c1) = some false) (x0s2 : PySem.W.subIn K (.ref c0) (.ref c2) = some false) (x0s3 : PySem.W.subIn K (.ref c0) (.ref c3) = some false) (x0s4 : PySem.W.subIn K (.ref c0) (.ref c4) = some false) (x0s5 : PySem.W.subIn K (.ref c0) (.ref c5) = some false)
    (x1g : PySem.W.nsIn K mainGlobals "BadShape" = some (some (.ref c1))) (x1k : PySem.W.keepIn K (.ref c1) = true) (x1b : PySem.W.subIn K (.ref c1) (.type "BaseException") = some true) (x1t : PySem.W.typeIn K (.ref c1) = some (.type "type")) (x1i : PySem.W.isClsIn K c1 = true) (x1hg : PySem.W.findIn K (.ref c1) "__getattribute__" = some (some (.builtin "BaseException.__getattribute__"))) (x1hk : PySem.W.findIn K (.ref c1) "__getattr__" = some none) (x1hd : PySem.W.hasDictIn K c1 = true) (x1ha : PySem.W.findIn K (.ref c1) "__class__" = some (some (.builtin "object.__class__"))) (x1hm : PySem.W.mroIn K c1 (.type "object") = some true) (x1n : PySem.W.subIn K (.ref c1) (.ref cN) = some true) (x1v : PySem.W.subIn K (.ref c1) (.type "ValueError") = some true)
    (x1o : PySem.W.excIn K c1 [.type "ValueError", .type "Exception", .type "BaseException", .type "object"] "ValueError.__new__" = true)
    (x1s0 : PySem.W.subIn K (.ref c1) (.ref c0) = some false) (x1s1 : PySem.W.subIn K (.ref c1) (.ref c1) = some true) (x1s2 : PySem.W.subIn K (.ref c1) (.ref c2) = some false) (x1s3 : PySem.W.subIn K (.ref c1) (.ref c3) = some false) (x1s4 : PySem.W.subIn K (.ref c1) (.ref c4) = some false) (x1s5 : PySem.W.subIn K (.ref c1) (.ref c5) = some false)
    (x2g : PySem.W.nsIn K mainGlobals "BadHand" = some (some (.ref c2))) (x2k : PySem.W.keepIn K (.ref c2) = true) (x2b : PySem.W.subIn K (.ref c2) (.type "BaseException") = some true) (x2t : PySem.W.typeIn K (.ref c2) = some (.type "type")) (x2i : PySem.W.isClsIn K c2 = true) (x2hg : PySem.W.findIn K (.ref c2) "__getattribute__" = some (some (.builtin "BaseException.__getattribute__"))) (x2hk : PySem.W.findIn K (.ref c2) "__getattr__" = some none) (x2hd : PySem.W.hasDictIn K c2 = true) (x2ha : PySem.W.findIn K (.ref c2) "__class__" = some (some (.builtin "object.__class__"))) (x2hm : PySem.W.mroIn K c2 (.type "object") = some true) (x2n : PySem.W.subIn K (.ref c2) (.ref cN) = some true) (x2v : PySem.W.subIn K (.ref c2) (.type "ValueError") = some true)
    (x2o : PySem.W.excIn K c2 [.type "ValueError", .type "Exception", .type "BaseException", .type "object"] "ValueError.__new__" = true)
    (x2s0 : PySem.W.subIn K (.ref c2) (.ref c0) = some false) (x2s1 : PySem.W.subIn K (.ref c2) (.ref c1) = some false) (x2s2 : PySem.W.subIn K (.ref c2) (.ref c2) = some true) (x2s3 : PySem.W.subIn K (.ref c2) (.ref c3) = some false) (x2s4 : PySem.W.subIn K (.ref c2) (.ref c4) = some false) (x2s5 : PySem.W.subIn K (.ref c2) (.ref c5) = some false)
    (x3g : PySem.W.nsIn K mainGlobals "BadChord" = some (some (.ref c3))) (x3k : PySem.W.keepIn K (.ref c3) = true) (x3b : PySem.W.subIn K (.ref c3) (.type "BaseException") = some true) (x3t : PySem.W.typeIn K (.ref c3) = some (.type "type")) (x3i : PySem.W.isClsIn K c3 = true) (x3hg : PySem.W.findIn K (.ref c3) "__getattribute__" = some (some (.builtin "BaseException.__getattribute__"))) (x3hk : PySem.W.findIn K (.ref c3) "__getattr__" = some none) (x3hd : PySem.W.hasDictIn K c3 = true) (x3ha : PySem.W.findIn K (.ref c3) "__class__" = some (some (.builtin "object.__class__"))) (x3hm : PySem.W.mroIn K c3 (.type "object") = some true) (x3n : PySem.W.subIn K (.ref c3) (.ref cN) = some true) (x3v : PySem.W.subIn K (.ref c3) (.type "ValueError") = some true)
    (x3s0 : PySem.W.subIn K (.ref c3) (.ref c0) = some false) (x3s1 : PySem.W.subIn K (.ref c3) (.ref c1) = some false) (x3s2 : PySem.W.subIn K (.ref c3) (.ref c2) = some false) (x3s3 : PySem.W.subIn K (.ref c3) (.ref c3) = some true) (x3s4 : PySem.W.subIn K (.ref c3) (.ref c4) = some false) (x3s5 : PySem.W.subIn K (.ref c3) (.ref c5) = some false)
    (x4g : PySem.W.nsIn K mainGlobals "BadTune" = some (some (.ref c4))) (x4k : PySem.W.keepIn K (.ref c4) = true) (x4b : PySem.W.subIn K (.ref c4) (.type "BaseException") = some true) (x4t : PySem.W.typeIn K (.ref c4) = some (.type "type")) (x4i : PySem.W.isClsIn K c4 = true) (x4hg : PySem.W.findIn K (.ref c4) "__getattribute__" = some (some (.builtin "BaseException.__getattribute__"))) (x4hk : PySem.W.findIn K (.ref c4) "__getattr__" = some none) (x4hd : PySem.W.hasDictIn K c4 = true) (x4ha : PySem.W.findIn K (.ref c4) "__class__" = some (some (.builtin "object.__class__"))) (x4hm : PySem.W.mroIn K c4 (.type "object") = some true) (x4n : PySem.W.subIn K (.ref c4) (.ref cN) = some true) (x4v : PySem.W.subIn K (.ref c4) (.type "ValueError") = some true)
    (x4o : PySem.W.excIn K c4 [.type "ValueError", .type "Exception", .type "BaseException", .type "object"] "ValueError.__new__" = true)
    (x4s0 : PySem.W.subIn K (.ref c4) (.ref c0) = some false) (x4s1 : PySem.W.subIn K (.ref c4) (.ref c1) = some false) (x4s2 : PySem.W.subIn K (.ref c4) (.ref c2) = some false) (x4s3 : PySem.W.subIn K (.ref c4) (.ref c3) = some false) (x4s4 : PySem.W.subIn K (.ref c4) (.ref c4) = some true) (x4s5 : PySem.W.subIn K (.ref c4) (.ref c5) = some false)
    (x5g : PySem.W.nsIn K mainGlobals "BadText" = some (some (.ref c5))) (x5k : PySem.W.keepIn K (.ref c5) = true) (x5b : PySem.W.subIn K (.ref c5) (.type "BaseException") = some true) (x5t : PySem.W.typeIn K (.ref c5) = some (.type "type")) (x5i : PySem.W.isClsIn K c5 = true) (x5hg : PySem.W.findIn K (.ref c5) "__getattribute__" = some (some (.builtin "BaseException.__getattribute__"))) (x5hk : PySem.W.findIn K (.ref c5) "__getattr__" = some none) (x5hd : PySem.W.hasDictIn K c5 = true) (x5ha : PySem.W.findIn K (.ref c5) "__class__" = some (some (.builtin "object.__class__"))) (x5hm : PySem.W.mroIn K c5 (.type "object") = some true) (x5n : PySem.W.subIn K (.ref c5) (.ref cN) = some true) (x5v : PySem.W.subIn K (.ref c5) (.type "ValueError") = some true)
    (x5o : PySem.W.excIn K c5 [.type "ValueError", .type "Exception", .type "BaseException", .type "object"] "ValueError.__new__" = true)
    (x5s0 : PySem.W.subIn K (.ref c5) (.ref c0) = some false) (x5s1 : PySem.W.subIn K (.ref c5) (.ref c1) = some false) (x5s2 : PySem.W.subIn K (.ref c5) (.ref c2) = some false) (x5s3 : PySem.W.subIn K (.ref c5) (.ref c3) = some false) (x5s4 : PySem.W.subIn K (.ref c5) (.ref c4) = some false) (x5s5 : PySem.W.subIn K (.ref c5) (.ref c5) = some true)
    {nmC qC : Str} {NC : Addr} {bsC : List Value} {snC : List Str} {subC : List Value} {abC : Bool} {colC : Option Bool} {ddC : Option Addr} {mC0 mC1 mC2 mC3 mC5 : Option Value} {fI : Addr} {odI anI : Option Addr} {slI : Array (Option Value)} {ocI kVI dcI pmI cdI ctI : Value}
    (iL : K.lookup c3 = some (excClassObj nmC qC c3 NC bsC [.ref cN, .type "ValueError", .type "Exception", .type "BaseException", .type "object"] true snC subC abC colC ddC mC0 mC1 mC2 mC3 mC5 "ValueError.__new__"))
    (iS : PySem.W.findIn K (.ref c3) "__setattr__" = some (some (.builtin "object.__setattr__"))) (iN : PySem.W.findIn K (.ref c3) "number" = some none) (iC : PySem.W.findIn K (.ref c3) "__init__" = some (some (.ref fI))) (iT : PySem.W.typeIn K (.ref fI) = some (.type "function"))
    (iF : K.lookup fI = some ⟨ocI, odI, .func (PySem.W.fnOf "__init__" "BadChord.__init__" (defArgs s_init) (defBody s_init) (defScope s_init) .none kVI dcI pmI anI cdI ctI), slI⟩) (iD : PySem.W.codeIn K cdI "BadChord.__init__" = true) (iK : PySem.W.keepIn K (.ref fI) = true)
    (iR : PySem.W.readsIn K cN (.type "type") = true) (iG : PySem.W.specialIn K (.ref cN) "__getattribute__" = some (some (.builtin "type.__getattribute__"))) (iV : PySem.W.findCls K (.ref cN) (.type "type") "__init__" = some (.val (.builtin "ValueError.__init__")))
    (ne5_4 : Nat.beq PP5 PP4 = false)
    (tm4 : (PP4, ("_law_works" ++ ".<locals>." ++ "<lambda>" : Str)) ∈ Tb.T) (tu4 : ∀ p ∈ Tb.T, p.1 = PP4 → p.2 = ("_law_works" ++ ".<locals>." ++ "<lambda>" : Str))
    (tm5 : (PP5, ("_law_handed" ++ ".<locals>." ++ "<lambda>" : Str)) ∈ Tb.T) (tu5 : ∀ p ∈ Tb.T, p.1 = PP5 → p.2 = ("_law_handed" ++ ".<locals>." ++ "<lambda>" : Str))
    (L : Tb.L = lamTab)
    : ∃ fd : FuncData, (∀ (s : Shared) (v : Value), BindsTo s fd ⟨[v], []⟩ [("_law_script", v)]) ∧ ∀ base : Heap, K.In base → base.Ns mainGlobals mg → LamX.TabB base mg cc4 PP4 → LamX.TabB base mg cc5 PP5 → FnOk l.prog w K mg base CX0 9 fa fd ["_law_script"] (spLawT K) := by
  have e := hfa.symm.trans (PySem.W.mg_of X G a19)
  cases e
  have B : BT mg := ⟨PySem.W.mg_none_of X G z_len, PySem.W.mg_none_of X G z_range, PySem.W.mg_none_of X G z_sorted, PySem.W.mg_none_of X G z_set, PySem.W.mg_none_of X G z_tuple, PySem.W.mg_none_of X G z_list, PySem.W.mg_none_of X G z_min, PySem.W.mg_none_of X G z_max, PySem.W.mg_none_of X G z_abs, PySem.W.mg_none_of X G z_sum, PySem.W.mg_none_of X G z_int, PySem.W.mg_none_of X G z_str, PySem.W.mg_none_of X G z_bool, PySem.W.mg_none_of X G z_zip, PySem.W.mg_none_of X G z_reversed, PySem.W.mg_none_of X G z_isinstance⟩
  have C : Cn mg := ⟨⟨_, PySem.W.mg_of X G y_MOST_STRINGS_necks⟩, ⟨_, PySem.W.mg_of X G y_MOST_NOTE⟩, ⟨_, PySem.W.mg_of X G y_MOST_FRETS⟩, ⟨_, PySem.W.mg_of X G y_SILENT⟩, ⟨_, PySem.W.mg_of X G y_MOST_REACH⟩, ⟨_, PySem.W.mg_of X G y_MOST_CHORD⟩, ⟨_, PySem.W.mg_of X G y_MOST_SOUND⟩, ⟨_, PySem.W.mg_of X G y_MOST_TUNE⟩, ⟨_, PySem.W.mg_of X G y_NEVER⟩, ⟨_, PySem.W.mg_of X G y_MOST_STRINGS_tunings⟩, ⟨_, PySem.W.mg_of X G y_MOST_CHANGE⟩⟩
  have E : XcOk K mg cN (eaOf c0 c1 c2 c3 c4 c5) := ⟨PySem.W.mg_of X G xn, xnb, xnt, xni, PySem.W.mg_none_of X G xvn, fun e => match e with
    | .neck => ⟨PySem.W.mg_of X G x0g, x0k, x0b, x0t, x0i, ⟨x0hg, x0hk, x0b, x0hd, x0ha, xcg, xct, x0hm⟩, x0n, x0v⟩
    | .shape => ⟨PySem.W.mg_of X G x1g, x1k, x1b, x1t, x1i, ⟨x1hg, x1hk, x1b, x1hd, x1ha, xcg, xct, x1hm⟩, x1n, x1v⟩
    | .hand => ⟨PySem.W.mg_of X G x2g, x2k, x2b, x2t, x2i, ⟨x2hg, x2hk, x2b, x2hd, x2ha, xcg, xct, x2hm⟩, x2n, x2v⟩
    | .chord => ⟨PySem.W.mg_of X G x3g, x3k, x3b, x3t, x3i, ⟨x3hg, x3hk, x3b, x3hd, x3ha, xcg, xct, x3hm⟩, x3n, x3v⟩
    | .tune => ⟨PySem.W.mg_of X G x4g, x4k, x4b, x4t, x4i, ⟨x4hg, x4hk, x4b, x4hd, x4ha, xcg, xct, x4hm⟩, x4n, x4v⟩
    | .text => ⟨PySem.W.mg_of X G x5g, x5k, x5b, x5t, x5i, ⟨x5hg, x5hk, x5b, x5hd, x5ha, xcg, xct, x5hm⟩, x5n, x5v⟩, fun e h => match e, h with
    | .neck, h => x0o
    | .shape, h => x1o
    | .hand, h => x2o
    | .chord, h => absurd rfl h
    | .tune, h => x4o
    | .text, h => x5o, fun e e2 => match e, e2 with
    | .neck, .neck => x0s0
    | .neck, .shape => x0s1
    | .neck, .hand => x0s2
    | .neck, .chord => x0s3
    | .neck, .tune => x0s4
    | .neck, .text => x0s5
    | .shape, .neck => x1s0
    | .shape, .shape => x1s1
    | .shape, .hand => x1s2
    | .shape, .chord => x1s3
    | .shape, .tune => x1s4
    | .shape, .text => x1s5
    | .hand, .neck => x2s0
    | .hand, .shape => x2s1
    | .hand, .hand => x2s2
    | .hand, .chord => x2s3
    | .hand, .tune => x2s4
    | .hand, .text => x2s5
    | .chord, .neck => x3s0
    | .chord, .shape => x3s1
    | .chord, .hand => x3s2
    | .chord, .chord => x3s3
    | .chord, .tune => x3s4
    | .chord, .text => x3s5
    | .tune, .neck => x4s0
    | .tune, .shape => x4s1
    | .tune, .hand => x4s2
    | .tune, .chord => x4s3
    | .tune, .tune => x4s4
    | .tune, .text => x4s5
    | .text, .neck => x5s0
    | .text, .shape => x5s1
    | .text, .hand => x5s2
    | .text, .chord => x5s3
    | .text, .tune => x5s4
    | .text, .text => x5s5⟩
  have FI := fun_mk (st := s_init) iF iD iK
  have bI := FI.binds (ps := ["self", "number"]) fun _ _ _ _ _ _ us hl => match us, hl with | [_, _], _ => rfl
  have F0 := fun_mk (st := s__law_taken) l0 c0c k0
  have b0 := F0.binds (ps := ["_law_row", "_law_many"]) fun _ _ _ _ _ _ us hl => match us, hl with | [_, _], _ => rfl
  have F1 := fun_mk (st := s__law_neck) l1 c1c k1
  have b1 := F1.binds (ps := ["_law_row", "_law_most"]) fun _ _ _ _ _ _ us hl => match us, hl with | [_, _], _ => rfl
  have F2 := fun_mk (st := s__law_odd_notes) l2 c2c k2
  have b2 := F2.binds (ps := ["_law_row", "_law_most"]) fun _ _ _ _ _ _ us hl => match us, hl with | [_, _], _ => rfl
  have F3 := fun_mk (st := s__law_odd_chord) l3 c3c k3
  have b3 := F3.binds (ps := ["_law_row"]) fun _ _ _ _ _ _ us hl => match us, hl with | [_], _ => rfl
  have F4 := fun_mk (st := s__law_works) l4 c4c k4
  have D4 := funC_mk (st := s__law_works) l4 c4c
  have b4 := F4.binds (ps := ["_law_neck_here", "_law_chord", "_law_chords", "_law_tune", "_law_hand_here"]) fun _ _ _ _ _ _ us hl => match us, hl with | [_, _, _, _, _], _ => rfl
  have F5 := fun_mk (st := s__law_handed) l5 c5c k5
  have D5 := funC_mk (st := s__law_handed) l5 c5c
  have b5 := F5.binds (ps := ["_law_neck_here", "_law_chord", "_law_hand_here"]) fun _ _ _ _ _ _ us hl => match us, hl with | [_, _, _], _ => rfl
  have F6 := fun_mk (st := s_need_neck) l6 c6c k6
  have b6 := F6.binds (ps := ["neck"]) fun _ _ _ _ _ _ us hl => match us, hl with | [_], _ => rfl
  have F7 := fun_mk (st := s_is_chord) l7 c7c k7
  have b7 := F7.binds (ps := ["chord"]) fun _ _ _ _ _ _ us hl => match us, hl with | [_], _ => rfl
  have F8 := fun_mk (st := s_need_chord) l8 c8c k8
  have b8 := F8.binds (ps := ["chord"]) fun _ _ _ _ _ _ us hl => match us, hl with | [_], _ => rfl
  have F9 := fun_mk (st := s_need_hand) l9 c9c k9
  have b9 := F9.binds (ps := ["hand"]) fun _ _ _ _ _ _ us hl => match us, hl with | [_], _ => rfl
  have F10 := fun_mk (st := s_ways) l10 c10c k10
  have b10 := F10.binds (ps := ["neck", "chord", "hand"]) fun _ _ _ _ _ _ us hl => match us, hl with | [_, _, _], _ => rfl
  have F11 := fun_mk (st := s_need_chords) l11 c11c k11
  have b11 := F11.binds (ps := ["chords"]) fun _ _ _ _ _ _ us hl => match us, hl with | [_], _ => rfl
  have F12 := fun_mk (st := s_retuned) l12 c12c k12
  have b12 := F12.binds (ps := ["neck", "chords", "hand"]) fun _ _ _ _ _ _ us hl => match us, hl with | [_, _, _], _ => rfl
  have F13 := fun_mk (st := s_need_tune) l13 c13c k13
  have b13 := F13.binds (ps := ["tune"]) fun _ _ _ _ _ _ us hl => match us, hl with | [_], _ => rfl
  have F14 := fun_mk (st := s_need_reach) l14 c14c k14
  have b14 := F14.binds (ps := ["reach"]) fun _ _ _ _ _ _ us hl => match us, hl with | [_], _ => rfl
  have F15 := fun_mk (st := s_played) l15 c15c k15
  have b15 := F15.binds (ps := ["neck", "tune", "reach"]) fun _ _ _ _ _ _ us hl => match us, hl with | [_, _, _], _ => rfl
  have F16 := fun_mk (st := s_table) l16 c16c k16
  have b16 := F16.binds (ps := ["neck", "tune", "reach"]) fun _ _ _ _ _ _ us hl => match us, hl with | [_, _, _], _ => rfl
  have F17 := fun_mk (st := s__law_told) l17 c17c k17
  have b17 := F17.binds (ps := ["_law_work"]) fun _ _ _ _ _ _ us hl => match us, hl with | [_], _ => rfl
  have F18 := fun_mk (st := s__law_alike) l18 c18c k18
  have b18 := F18.binds (ps := ["_law_found", "_law_due"]) fun _ _ _ _ _ _ us hl => match us, hl with | [_, _], _ => rfl
  have F19 := fun_mk (st := s_law) l19 c19c k19
  have b19 := F19.binds (ps := ["_law_script"]) fun _ _ _ _ _ _ us hl => match us, hl with | [_], _ => rfl
  refine ⟨PySem.W.fnOf "law" "law" (defArgs s_law) (defBody s_law) (defScope s_law) .none kV19 dc19 pm19 an19 cd19 ct19, fun s v => .of_eq rfl, fun base _ _ tb4 tb5 => ?_⟩
  have I : InOk l.prog w K mg base 1 c3 := in_ok FI bI ⟨⟨_, _, _, _, _, _, _, _, _, _, _, _, _, _, _, iL, by rfl⟩, iS, x3b, x3t, x3k⟩ ⟨x3hg, x3hk, x3b, x3hd⟩ iN iC iT (PySem.W.mg_of X G xn) ⟨iR, iG⟩ iV
  have q__law_taken : Kn l.prog w K mg base CX0 "_law_taken" 1 (spR K z_taken) := kn_mk X G a0 k0 b0 (ok__law_taken F0 B)
  have q__law_neck : Kn l.prog w K mg base CX0 "_law_neck" 2 (spR K z__law_neck) := kn_mk X G a1 k1 b1 (ok__law_neck (k := 1) F1 B q__law_taken.up)
  have q__law_odd_notes : Kn l.prog w K mg base CX0 "_law_odd_notes" 2 (spR K z__law_odd_notes) := kn_mk X G a2 k2 b2 (ok__law_odd_notes (k := 1) F2 B q__law_taken.up)
  have q__law_odd_chord : Kn l.prog w K mg base CX0 "_law_odd_chord" 3 (spR K z__law_odd_chord) := kn_mk X G a3 k3 b3 (ok__law_odd_chord (k := 2) F3 q__law_taken.up q__law_odd_notes.up)
  have q__law_works : Kn l.prog w K mg base CX0 "_law_works" 1 (spPT (zMk 5 jsW)) := kn_mk X G a4 k4 b4 (ok__law_works (k := 0) D4 L ⟨_, tb4, tm4, tu4⟩)
  have q__law_handed : Kn l.prog w K mg base CX0 "_law_handed" 1 (spPT (zMk 3 jsH)) := kn_mk X G a5 k5 b5 (ok__law_handed (k := 0) D5 L ⟨_, tb5, tm5, tu5⟩)
  have q_need_neck : Kn l.prog w K mg base CX0 "need_neck" 1 (spP z_need_neck) := kn_mk X G a6 k6 b6 (ok_need_neck (k := 0) F6 B C)
  have qx_need_neck : Kn l.prog w K mg base (L2.CX l.prog w) "need_neck" 1 (spP (zx_need_neck ((eaOf c0 c1 c2 c3 c4 c5) .neck))) := kn_mk X G a6 k6 b6 (okx_need_neck (k := 0) F6 B C E)
  have q_is_chord : Kn l.prog w K mg base CX0 "is_chord" 1 (spP z_is_chord) := kn_mk X G a7 k7 b7 (ok_is_chord (k := 0) F7 B C)
  have q_need_chord : Kn l.prog w K mg base CX0 "need_chord" 2 (spP z_need_chord) := kn_mk X G a8 k8 b8 (ok_need_chord (k := 1) F8 q_is_chord.up)
  have qx_need_chord : Kn l.prog w K mg base (L2.CX l.prog w) "need_chord" 4 (spP (zx_need_chord ((eaOf c0 c1 c2 c3 c4 c5) .chord))) := kn_mk X G a8 k8 b8 (okx_need_chord (k := 1) F8 E I q_is_chord.up)
  have qx_need_hand : Kn l.prog w K mg base (L2.CX l.prog w) "need_hand" 1 (spP (zx_need_hand ((eaOf c0 c1 c2 c3 c4 c5) .hand))) := kn_mk X G a9 k9 b9 (okx_need_hand (k := 0) F9 B C E)
  have qx_ways : Kn l.prog w K mg base (L2.CX l.prog w) "ways" 5 (spP (zx_ways (eaOf c0 c1 c2 c3 c4 c5))) := kn_mk X G a10 k10 b10 (okx_ways (k := 4) F10 q_need_neck.up qx_need_neck.up q_need_chord.up qx_need_chord.up qx_need_hand.up)
  have q_need_chords : Kn l.prog w K mg base CX0 "need_chords" 2 (spP z_need_chords) := kn_mk X G a11 k11 b11 (ok_need_chords (k := 1) F11 B C q_is_chord.up)
  have qx_need_chords : Kn l.prog w K mg base (L2.CX l.prog w) "need_chords" 4 (spP (zx_need_chords ((eaOf c0 c1 c2 c3 c4 c5) .chord))) := kn_mk X G a11 k11 b11 (okx_need_chords (k := 1) F11 B C E I q_is_chord.up)
  have qx_retuned : Kn l.prog w K mg base (L2.CX l.prog w) "retuned" 5 (spP (zx_retuned (eaOf c0 c1 c2 c3 c4 c5))) := kn_mk X G a12 k12 b12 (okx_retuned (k := 4) F12 B C E q_need_neck.up qx_need_neck.up q_need_chords.up qx_need_chords.up qx_need_hand.up)
  have q_need_tune : Kn l.prog w K mg base CX0 "need_tune" 1 (spP z_need_tune) := kn_mk X G a13 k13 b13 (ok_need_tune (k := 0) F13 B C)
  have qx_need_tune : Kn l.prog w K mg base (L2.CX l.prog w) "need_tune" 1 (spP (zx_need_tune ((eaOf c0 c1 c2 c3 c4 c5) .tune))) := kn_mk X G a13 k13 b13 (okx_need_tune (k := 0) F13 B C E)
  have qx_need_reach : Kn l.prog w K mg base (L2.CX l.prog w) "need_reach" 1 (spP (zx_need_reach ((eaOf c0 c1 c2 c3 c4 c5) .hand))) := kn_mk X G a14 k14 b14 (okx_need_reach (k := 0) F14 C E)
  have qx_played : Kn l.prog w K mg base (L2.CX l.prog w) "played" 2 (spP (zx_played (eaOf c0 c1 c2 c3 c4 c5))) := kn_mk X G a15 k15 b15 (okx_played (k := 1) F15 q_need_neck.up qx_need_neck.up q_need_tune.up qx_need_tune.up qx_need_reach.up)
  have qx_table : Kn l.prog w K mg base (L2.CX l.prog w) "table" 2 (spP (zx_played (eaOf c0 c1 c2 c3 c4 c5))) := kn_mk X G a16 k16 b16 (okx_table (k := 1) F16 q_need_neck.up qx_need_neck.up q_need_tune.up qx_need_tune.up qx_need_reach.up)
  have q__law_told : Kn l.prog w K mg base CX0 "_law_told" 7 (spP z__law_told) := kn_mk X G a17 k17 b17 (ok__law_told (k := 5) F17 B E I L qx_ways.up qx_retuned.up qx_played.up qx_table.up)
  have q__law_alike : ∀ n, Kn l.prog w K mg base CX0 "_law_alike" n (spP (z__law_alike n)) := kn__law_alike F18 B (PySem.W.mg_of X G a18) k18 b18
  exact ok_law (k := 8) F19 B q__law_taken.up q__law_neck.up q__law_odd_chord.up q__law_odd_notes.up q__law_works.up q__law_handed.up q__law_told.up (q__law_alike 4).up
theorem law_at {l : PySem.W.OpenLaw} {w : World} {K : PySem.W.Frag} {h : Heap} {mg : Str → Option Value} {fa : Addr} (X : K.In h) (G : h.Ns mainGlobals mg) (hfa : mg "law" = some (.ref fa))
    {f0 : Addr} {od0 an0 : Option Addr} {sl0 : Array (Option Value)} {oc0 kV0 dc0 pm0 ct0 : Value} {cd0 : Value}
    (a0 : PySem.W.nsIn K mainGlobals "_law_taken" = some (some (.ref f0))) (l0 : K.lookup f0 = some ⟨oc0, od0, .func (PySem.W.fnOf "_law_taken" "_law_taken" (defArgs s__law_taken) (defBody s__law_taken) (defScope s__law_taken) .none kV0 dc0 pm0 an0 cd0 ct0), sl0⟩) (c0c : PySem.W.codeIn K cd0 "_law_taken" = true) (k0 : PySem.W.keepIn K (.ref f0) = true)
    {f1 : Addr} {od1 an1 : Option Addr} {sl1 : Array (Option Value)} {oc1 kV1 dc1 pm1 ct1 : Value} {cd1 : Value}
    (a1 : PySem.W.nsIn K mainGlobals "_law_neck" = some (some (.ref f1))) (l1 : K.lookup f1 = some ⟨oc1, od1, .func (PySem.W.fnOf "_law_neck" "_law_neck" (defArgs s__law_neck) (defBody s__law_neck) (defScope s__law_neck) .none kV1 dc1 pm1 an1 cd1 ct1), sl1⟩) (c1c : PySem.W.codeIn K cd1 "_law_neck" = true) (k1 : PySem.W.keepIn K (.ref f1) = true)
    {f2 : Addr} {od2 an2 : Option Addr} {sl2 : Array (Option Value)} {oc2 kV2 dc2 pm2 ct2 : Value} {cd2 : Value}
    (a2 : PySem.W.nsIn K mainGlobals "_law_odd_notes" = some (some (.ref f2))) (l2 : K.lookup f2 = some ⟨oc2, od2, .func (PySem.W.fnOf "_law_odd_notes" "_law_odd_notes" (defArgs s__law_odd_notes) (defBody s__law_odd_notes) (defScope s__law_odd_notes) .none kV2 dc2 pm2 an2 cd2 ct2), sl2⟩) (c2c : PySem.W.codeIn K cd2 "_law_odd_notes" = true) (k2 : PySem.W.keepIn K (.ref f2) = true)
    {f3 : Addr} {od3 an3 : Option Addr} {sl3 : Array (Option Value)} {oc3 kV3 dc3 pm3 ct3 : Value} {cd3 : Value}
    (a3 : PySem.W.nsIn K mainGlobals "_law_odd_chord" = some (some (.ref f3))) (l3 : K.lookup f3 = some ⟨oc3, od3, .func (PySem.W.fnOf "_law_odd_chord" "_law_odd_chord" (defArgs s__law_odd_chord) (defBody s__law_odd_chord) (defScope s__law_odd_chord) .none kV3 dc3 pm3 an3 cd3 ct3), sl3⟩) (c3c : PySem.W.codeIn K cd3 "_law_odd_chord" = true) (k3 : PySem.W.keepIn K (.ref f3) = true)
    {f4 : Addr} {od4 an4 : Option Addr} {sl4 : Array (Option Value)} {oc4 kV4 dc4 pm4 ct4 : Value} {cc4 PP4 : Addr} {co4 : Value} {cp4 : Option Addr} {vs4 : Array Value} {cs4 : Array (Option Value)}
    (a4 : PySem.W.nsIn K mainGlobals "_law_works" = some (some (.ref f4))) (l4 : K.lookup f4 = some ⟨oc4, od4, .func (PySem.W.fnOf "_law_works" "_law_works" (defArgs s__law_works) (defBody s__law_works) (defScope s__law_works) .none kV4 dc4 pm4 an4 (.ref cc4) ct4), sl4⟩) (c4c : PySem.W.codeIn K (.ref cc4) "_law_works" = true) (k4 : PySem.W.keepIn K (.ref f4) = true)
    (lc4 : K.lookup cc4 = some ⟨co4, cp4, .fields vs4, cs4⟩) (lp4 : vs4[11]? = some (.ref PP4)) (lh4 : PySem.W.codeHdIn K cc4 PP4 = true) (ln4 : K.lookup PP4 = none) (lt4 : h.get? PP4 = some { cls := .none, data := .fields #[] })
    {f5 : Addr} {od5 an5 : Option Addr} {sl5 : Array (Option Value)} {oc5 kV5 dc5 pm5 ct5 : Value} {cc5 PP5 : Addr} {co5 : Value} {cp5 : Option Addr} {vs5 : Array Value} {cs5 : Array (Option Value)}
    (a5 : PySem.W.nsIn K mainGlobals "_law_handed" = some (some (.ref f5))) (l5 : K.lookup f5 = some ⟨oc5, od5, .func (PySem.W.fnOf "_law_handed" "_law_handed" (defArgs s__law_handed) (defBody s__law_handed) (defScope s__law_handed) .none kV5 dc5 pm5 an5 (.ref cc5) ct5), sl5⟩) (c5c : PySem.W.codeIn K (.ref cc5) "_law_handed" = true) (k5 : PySem.W.keepIn K (.ref f5) = true)
    (lc5 : K.lookup cc5 = some ⟨co5, cp5, .fields vs5, cs5⟩) (lp5 : vs5[11]? = some (.ref PP5)) (lh5 : PySem.W.codeHdIn K cc5 PP5 = true) (ln5 : K.lookup PP5 = none) (lt5 : h.get? PP5 = some { cls := .none, data := .fields #[] })
    {f6 : Addr} {od6 an6 : Option Addr} {sl6 : Array (Option Value)} {oc6 kV6 dc6 pm6 ct6 : Value} {cd6 : Value}
    (a6 : PySem.W.nsIn K mainGlobals "need_neck" = some (some (.ref f6))) (l6 : K.lookup f6 = some ⟨oc6, od6, .func (PySem.W.fnOf "need_neck" "need_neck" (defArgs s_need_neck) (defBody s_need_neck) (defScope s_need_neck) .none kV6 dc6 pm6 an6 cd6 ct6), sl6⟩) (c6c : PySem.W.codeIn K cd6 "need_neck" = true) (k6 : PySem.W.keepIn K (.ref f6) = true)
    {f7 : Addr} {od7 an7 : Option Addr} {sl7 : Array (Option Value)} {oc7 kV7 dc7 pm7 ct7 : Value} {cd7 : Value}
    (a7 : PySem.W.nsIn K mainGlobals "is_chord" = some (some (.ref f7))) (l7 : K.lookup f7 = some ⟨oc7, od7, .func (PySem.W.fnOf "is_chord" "is_chord" (defArgs s_is_chord) (defBody s_is_chord) (defScope s_is_chord) .none kV7 dc7 pm7 an7 cd7 ct7), sl7⟩) (c7c : PySem.W.codeIn K cd7 "is_chord" = true) (k7 : PySem.W.keepIn K (.ref f7) = true)
    {f8 : Addr} {od8 an8 : Option Addr} {sl8 : Array (Option Value)} {oc8 kV8 dc8 pm8 ct8 : Value} {cd8 : Value}
    (a8 : PySem.W.nsIn K mainGlobals "need_chord" = some (some (.ref f8))) (l8 : K.lookup f8 = some ⟨oc8, od8, .func (PySem.W.fnOf "need_chord" "need_chord" (defArgs s_need_chord) (defBody s_need_chord) (defScope s_need_chord) .none kV8 dc8 pm8 an8 cd8 ct8), sl8⟩) (c8c : PySem.W.codeIn K cd8 "need_chord" = true) (k8 : PySem.W.keepIn K (.ref f8) = true)
    {f9 : Addr} {od9 an9 : Option Addr} {sl9 : Array (Option Value)} {oc9 kV9 dc9 pm9 ct9 : Value} {cd9 : Value}
    (a9 : PySem.W.nsIn K mainGlobals "need_hand" = some (some (.ref f9))) (l9 : K.lookup f9 = some ⟨oc9, od9, .func (PySem.W.fnOf "need_hand" "need_hand" (defArgs s_need_hand) (defBody s_need_hand) (defScope s_need_hand) .none kV9 dc9 pm9 an9 cd9 ct9), sl9⟩) (c9c : PySem.W.codeIn K cd9 "need_hand" = true) (k9 : PySem.W.keepIn K (.ref f9) = true)
    {f10 : Addr} {od10 an10 : Option Addr} {sl10 : Array (Option Value)} {oc10 kV10 dc10 pm10 ct10 : Value} {cd10 : Value}
    (a10 : PySem.W.nsIn K mainGlobals "ways" = some (some (.ref f10))) (l10 : K.lookup f10 = some ⟨oc10, od10, .func (PySem.W.fnOf "ways" "ways" (defArgs s_ways) (defBody s_ways) (defScope s_ways) .none kV10 dc10 pm10 an10 cd10 ct10), sl10⟩) (c10c : PySem.W.codeIn K cd10 "ways" = true) (k10 : PySem.W.keepIn K (.ref f10) = true)
    {f11 : Addr} {od11 an11 : Option Addr} {sl11 : Array (Option Value)} {oc11 kV11 dc11 pm11 ct11 : Value} {cd11 : Value}
    (a11 : PySem.W.nsIn K mainGlobals "need_chords" = some (some (.ref f11))) (l11 : K.lookup f11 = some ⟨oc11, od11, .func (PySem.W.fnOf "need_chords" "need_chords" (defArgs s_need_chords) (defBody s_need_chords) (defScope s_need_chords) .none kV11 dc11 pm11 an11 cd11 ct11), sl11⟩) (c11c : PySem.W.codeIn K cd11 "need_chords" = true) (k11 : PySem.W.keepIn K (.ref f11) = true)
    {f12 : Addr} {od12 an12 : Option Addr} {sl12 : Array (Option Value)} {oc12 kV12 dc12 pm12 ct12 : Value} {cd12 : Value}
    (a12 : PySem.W.nsIn K mainGlobals "retuned" = some (some (.ref f12))) (l12 : K.lookup f12 = some ⟨oc12, od12, .func (PySem.W.fnOf "retuned" "retuned" (defArgs s_retuned) (defBody s_retuned) (defScope s_retuned) .none kV12 dc12 pm12 an12 cd12 ct12), sl12⟩) (c12c : PySem.W.codeIn K cd12 "retuned" = true) (k12 : PySem.W.keepIn K (.ref f12) = true)
    {f13 : Addr} {od13 an13 : Option Addr} {sl13 : Array (Option Value)} {oc13 kV13 dc13 pm13 ct13 : Value} {cd13 : Value}
    (a13 : PySem.W.nsIn K mainGlobals "need_tune" = some (some (.ref f13))) (l13 : K.lookup f13 = some ⟨oc13, od13, .func (PySem.W.fnOf "need_tune" "need_tune" (defArgs s_need_tune) (defBody s_need_tune) (defScope s_need_tune) .none kV13 dc13 pm13 an13 cd13 ct13), sl13⟩) (c13c : PySem.W.codeIn K cd13 "need_tune" = true) (k13 : PySem.W.keepIn K (.ref f13) = true)
    {f14 : Addr} {od14 an14 : Option Addr} {sl14 : Array (Option Value)} {oc14 kV14 dc14 pm14 ct14 : Value} {cd14 : Value}
    (a14 : PySem.W.nsIn K mainGlobals "need_reach" = some (some (.ref f14))) (l14 : K.lookup f14 = some ⟨oc14, od14, .func (PySem.W.fnOf "need_reach" "need_reach" (defArgs s_need_reach) (defBody s_need_reach) (defScope s_need_reach) .none kV14 dc14 pm14 an14 cd14 ct14), sl14⟩) (c14c : PySem.W.codeIn K cd14 "need_reach" = true) (k14 : PySem.W.keepIn K (.ref f14) = true)
    {f15 : Addr} {od15 an15 : Option Addr} {sl15 : Array (Option Value)} {oc15 kV15 dc15 pm15 ct15 : Value} {cd15 : Value}
    (a15 : PySem.W.nsIn K mainGlobals "played" = some (some (.ref f15))) (l15 : K.lookup f15 = some ⟨oc15, od15, .func (PySem.W.fnOf "played" "played" (defArgs s_played) (defBody s_played) (defScope s_played) .none kV15 dc15 pm15 an15 cd15 ct15), sl15⟩) (c15c : PySem.W.codeIn K cd15 "played" = true) (k15 : PySem.W.keepIn K (.ref f15) = true)
    {f16 : Addr} {od16 an16 : Option Addr} {sl16 : Array (Option Value)} {oc16 kV16 dc16 pm16 ct16 : Value} {cd16 : Value}
    (a16 : PySem.W.nsIn K mainGlobals "table" = some (some (.ref f16))) (l16 : K.lookup f16 = some ⟨oc16, od16, .func (PySem.W.fnOf "table" "table" (defArgs s_table) (defBody s_table) (defScope s_table) .none kV16 dc16 pm16 an16 cd16 ct16), sl16⟩) (c16c : PySem.W.codeIn K cd16 "table" = true) (k16 : PySem.W.keepIn K (.ref f16) = true)
    {f17 : Addr} {od17 an17 : Option Addr} {sl17 : Array (Option Value)} {oc17 kV17 dc17 pm17 ct17 : Value} {cd17 : Value}
    (a17 : PySem.W.nsIn K mainGlobals "_law_told" = some (some (.ref f17))) (l17 : K.lookup f17 = some ⟨oc17, od17, .func (PySem.W.fnOf "_law_told" "_law_told" (defArgs s__law_told) (defBody s__law_told) (defScope s__law_told) .none kV17 dc17 pm17 an17 cd17 ct17), sl17⟩) (c17c : PySem.W.codeIn K cd17 "_law_told" = true) (k17 : PySem.W.keepIn K (.ref f17) = true)
    {f18 : Addr} {od18 an18 : Option Addr} {sl18 : Array (Option Value)} {oc18 kV18 dc18 pm18 ct18 : Value} {cd18 : Value}
    (a18 : PySem.W.nsIn K mainGlobals "_law_alike" = some (some (.ref f18))) (l18 : K.lookup f18 = some ⟨oc18, od18, .func (PySem.W.fnOf "_law_alike" "_law_alike" (defArgs s__law_alike) (defBody s__law_alike) (defScope s__law_alike) .none kV18 dc18 pm18 an18 cd18 ct18), sl18⟩) (c18c : PySem.W.codeIn K cd18 "_law_alike" = true) (k18 : PySem.W.keepIn K (.ref f18) = true)
    {f19 : Addr} {od19 an19 : Option Addr} {sl19 : Array (Option Value)} {oc19 kV19 dc19 pm19 ct19 : Value} {cd19 : Value}
    (a19 : PySem.W.nsIn K mainGlobals "law" = some (some (.ref f19))) (l19 : K.lookup f19 = some ⟨oc19, od19, .func (PySem.W.fnOf "law" "law" (defArgs s_law) (defBody s_law) (defScope s_law) .none kV19 dc19 pm19 an19 cd19 ct19), sl19⟩) (c19c : PySem.W.codeIn K cd19 "law" = true) (k19 : PySem.W.keepIn K (.ref f19) = true)
    (z_len : PySem.W.nsIn K mainGlobals "len" = some none)
    (z_range : PySem.W.nsIn K mainGlobals "range" = some none)
    (z_sorted : PySem.W.nsIn K mainGlobals "sorted" = some none)
    (z_set : PySem.W.nsIn K mainGlobals "set" = some none)
    (z_tuple : PySem.W.nsIn K mainGlobals "tuple" = some none)
    (z_list : PySem.W.nsIn K mainGlobals "list" = some none)
    (z_min : PySem.W.nsIn K mainGlobals "min" = some none)
    (z_max : PySem.W.nsIn K mainGlobals "max" = some none)
    (z_abs : PySem.W.nsIn K mainGlobals "abs" = some none)
    (z_sum : PySem.W.nsIn K mainGlobals "sum" = some none)
    (z_int : PySem.W.nsIn K mainGlobals "int" = some none)
    (z_str : PySem.W.nsIn K mainGlobals "str" = some none)
    (z_bool : PySem.W.nsIn K mainGlobals "bool" = some none)
    (z_zip : PySem.W.nsIn K mainGlobals "zip" = some none)
    (z_reversed : PySem.W.nsIn K mainGlobals "reversed" = some none)
    (z_isinstance : PySem.W.nsIn K mainGlobals "isinstance" = some none)
    {t0 : _} (y_MOST_STRINGS_necks : PySem.W.nsIn K mainGlobals "MOST_STRINGS_necks" = some (some (.int 6 t0)))
    {t1 : _} (y_MOST_NOTE : PySem.W.nsIn K mainGlobals "MOST_NOTE" = some (some (.int 60 t1)))
    {t2 : _} (y_MOST_FRETS : PySem.W.nsIn K mainGlobals "MOST_FRETS" = some (some (.int 20 t2)))
    {t3 : _} (y_SILENT : PySem.W.nsIn K mainGlobals "SILENT" = some (some (.int (-1) t3)))
    {t4 : _} (y_MOST_REACH : PySem.W.nsIn K mainGlobals "MOST_REACH" = some (some (.int 6 t4)))
    {t5 : _} (y_MOST_CHORD : PySem.W.nsIn K mainGlobals "MOST_CHORD" = some (some (.int 6 t5)))
    {t6 : _} (y_MOST_SOUND : PySem.W.nsIn K mainGlobals "MOST_SOUND" = some (some (.int 80 t6)))
    {t7 : _} (y_MOST_TUNE : PySem.W.nsIn K mainGlobals "MOST_TUNE" = some (some (.int 30 t7)))
    {t8 : _} (y_NEVER : PySem.W.nsIn K mainGlobals "NEVER" = some (some (.int (-1) t8)))
    {t9 : _} (y_MOST_STRINGS_tunings : PySem.W.nsIn K mainGlobals "MOST_STRINGS_tunings" = some (some (.int 4 t9)))
    {t10 : _} (y_MOST_CHANGE : PySem.W.nsIn K mainGlobals "MOST_CHANGE" = some (some (.int 2 t10)))
    {cN : Addr} {c0 : Addr} {c1 : Addr} {c2 : Addr} {c3 : Addr} {c4 : Addr} {c5 : Addr} (xn : PySem.W.nsIn K mainGlobals "NeckError" = some (some (.ref cN))) (xnb : PySem.W.subIn K (.ref cN) (.type "BaseException") = some true) (xnt : PySem.W.typeIn K (.ref cN) = some (.type "type")) (xni : PySem.W.isClsIn K cN = true) (xvn : PySem.W.nsIn K mainGlobals "ValueError" = some none)
    (xcg : PySem.W.specialIn K (.builtin "object.__class__") "__get__" = some (some (.builtin "getset_descriptor.__get__"))) (xct : PySem.W.takesIn K (.builtin "object.__class__") = some true)
    (x0g : PySem.W.nsIn K mainGlobals "BadNeck" = some (some (.ref c0))) (x0k : PySem.W.keepIn K (.ref c0) = true) (x0b : PySem.W.subIn K (.ref c0) (.type "BaseException") = some true) (x0t : PySem.W.typeIn K (.ref c0) = some (.type "type")) (x0i : PySem.W.isClsIn K c0 = true) (x0hg : PySem.W.findIn K (.ref c0) "__getattribute__" = some (some (.builtin "BaseException.__getattribute__"))) (x0hk : PySem.W.findIn K (.ref c0) "__getattr__" = some none) (x0hd : PySem.W.hasDictIn K c0 = true) (x0ha : PySem.W.findIn K (.ref c0) "__class__" = some (some (.builtin "object.__class__"))) (x0hm : PySem.W.mroIn K c0 (.type "object") = some true) (x0n : PySem.W.subIn K (.ref c0) (.ref cN) = some true) (x0v : PySem.W.subIn K (.ref c0) (.type "ValueError") = some true)
    (x0o : PySem.W.excIn K c0 [.type "ValueError", .type "Exception", .type "BaseException", .type "object"] "ValueError.__new__" = true)
    (x0s0 : PySem.W.subIn K (.ref c0) (.ref c0) = some true) (x0s1 : PySem.W.subIn K (.ref c0) (.ref c1) = some false) (x0s2 : PySem.W.subIn K (.ref c0) (.ref c2) = some false) (x0s3 : PySem.W.subIn K (.ref c0) (.ref c3) = some false) (x0s4 : PySem.W.subIn K (.ref c0) (.ref c4) = some false) (x0s5 : PySem.W.subIn K (.ref c0) (.ref c5) = some false)
    (x1g : PySem.W.nsIn K mainGlobals "BadShape" = some (some (.ref c1))) (x1k : PySem.W.keepIn K (.ref c1) = true) (x1b : PySem.W.subIn K (.ref c1) (.type "BaseException") = some true) (x1t : PySem.W.typeIn K (.ref c1) = some (.type "type")) (x1i : PySem.W.isClsIn K c1 = true) (x1hg : PySem.W.findIn K (.ref c1) "__getattribute__" = some (some (.builtin "BaseException.__getattribute__"))) (x1hk : PySem.W.findIn K (.ref c1) "__getattr__" = some none) (x1hd : PySem.W.hasDictIn K c1 = true) (x1ha : PySem.W.findIn K (.ref c1) "__class__" = some (some (.builtin "object.__class__"))) (x1hm : PySem.W.mroIn K c1 (.type "object") = some true) (x1n : PySem.W.subIn K (.ref c1) (.ref cN) = some true) (x1v : PySem.W.subIn K (.ref c1) (.type "ValueError") = some true)
    (x1o : PySem.W.excIn K c1 [.type "ValueError", .type "Exception", .type "BaseException", .type "object"] "ValueError.__new__" = true)
    (x1s0 : PySem.W.subIn K (.ref c1) (.ref c0) = some false) (x1s1 : PySem.W.subIn K (.ref c1) (.ref c1) = some true) (x1s2 : PySem.W.subIn K (.ref c1) (.ref c2) = some false) (x1s3 : PySem.W.subIn K (.ref c1) (.ref c3) = some false) (x1s4 : PySem.W.subIn K (.ref c1) (.ref c4) = some false) (x1s5 : PySem.W.subIn K (.ref c1) (.ref c5) = some false)
    (x2g : PySem.W.nsIn K mainGlobals "BadHand" = some (some (.ref c2))) (x2k : PySem.W.keepIn K (.ref c2) = true) (x2b : PySem.W.subIn K (.ref c2) (.type "BaseException") = some true) (x2t : PySem.W.typeIn K (.ref c2) = some (.type "type")) (x2i : PySem.W.isClsIn K c2 = true) (x2hg : PySem.W.findIn K (.ref c2) "__getattribute__" = some (some (.builtin "BaseException.__getattribute__"))) (x2hk : PySem.W.findIn K (.ref c2) "__getattr__" = some none) (x2hd : PySem.W.hasDictIn K c2 = true) (x2ha : PySem.W.findIn K (.ref c2) "__class__" = some (some (.builtin "object.__class__"))) (x2hm : PySem.W.mroIn K c2 (.type "object") = some true) (x2n : PySem.W.subIn K (.ref c2) (.ref cN) = some true) (x2v : PySem.W.subIn K (.ref c2) (.type "ValueError") = some true)
    (x2o : PySem.W.excIn K c2 [.type "ValueError", .type "Exception", .type "BaseException", .type "object"] "ValueError.__new__" = true)
    (x2s0 : PySem.W.subIn K (.ref c2) (.ref c0) = some false) (x2s1 : PySem.W.subIn K (.ref c2) (.ref c1) = some false) (x2s2 : PySem.W.subIn K (.ref c2) (.ref c2) = some true) (x2s3 : PySem.W.subIn K (.ref c2) (.ref c3) = some false) (x2s4 : PySem.W.subIn K (.ref c2) (.ref c4) = some false) (x2s5 : PySem.W.subIn K (.ref c2) (.ref c5) = some false)
    (x3g : PySem.W.nsIn K mainGlobals "BadChord" = some (some (.ref c3))) (x3k : PySem.W.keepIn K (.ref c3) = true) (x3b : PySem.W.subIn K (.ref c3) (.type "BaseException") = some true) (x3t : PySem.W.typeIn K (.ref c3) = some (.type "type")) (x3i : PySem.W.isClsIn K c3 = true) (x3hg : PySem.W.findIn K (.ref c3) "__getattribute__" = some (some (.builtin "BaseException.__getattribute__"))) (x3hk : PySem.W.findIn K (.ref c3) "__getattr__" = some none) (x3hd : PySem.W.hasDictIn K c3 = true) (x3ha : PySem.W.findIn K (.ref c3) "__class__" = some (some (.builtin "object.__class__"))) (x3hm : PySem.W.mroIn K c3 (.type "object") = some true) (x3n : PySem.W.subIn K (.ref c3) (.ref cN) = some true) (x3v : PySem.W.subIn K (.ref c3) (.type "ValueError") = some true)
    (x3s0 : PySem.W.subIn K (.ref c3) (.ref c0) = some false) (x3s1 : PySem.W.subIn K (.ref c3) (.ref c1) = some false) (x3s2 : PySem.W.subIn K (.ref c3) (.ref c2) = some false) (x3s3 : PySem.W.subIn K (.ref c3) (.ref c3) = some true) (x3s4 : PySem.W.subIn K (.ref c3) (.ref c4) = some false) (x3s5 : PySem.W.subIn K (.ref c3) (.ref c5) = some false)
    (x4g : PySem.W.nsIn K mainGlobals "BadTune" = some (some (.ref c4))) (x4k : PySem.W.keepIn K (.ref c4) = true) (x4b : PySem.W.subIn K (.ref c4) (.type "BaseException") = some true) (x4t : PySem.W.typeIn K (.ref c4) = some (.type "type")) (x4i : PySem.W.isClsIn K c4 = true) (x4hg : PySem.W.findIn K (.ref c4) "__getattribute__" = some (some (.builtin "BaseException.__getattribute__"))) (x4hk : PySem.W.findIn K (.ref c4) "__getattr__" = some none) (x4hd : PySem.W.hasDictIn K c4 = true) (x4ha : PySem.W.findIn K (.ref c4) "__class__" = some (some (.builtin "object.__class__"))) (x4hm : PySem.W.mroIn K c4 (.type "object") = some true) (x4n : PySem.W.subIn K (.ref c4) (.ref cN) = some true) (x4v : PySem.W.subIn K (.ref c4) (.type "ValueError") = some true)
    (x4o : PySem.W.excIn K c4 [.type "ValueError", .type "Exception", .type "BaseException", .type "object"] "ValueError.__new__" = true)
    (x4s0 : PySem.W.subIn K (.ref c4) (.ref c0) = some false) (x4s1 : PySem.W.subIn K (.ref c4) (.ref c1) = some false) (x4s2 : PySem.W.subIn K (.ref c4) (.ref c2) = some false) (x4s3 : PySem.W.subIn K (.ref c4) (.ref c3) = some false) (x4s4 : PySem.W.subIn K (.ref c4) (.ref c4) = some true) (x4s5 : PySem.W.subIn K (.ref c4) (.ref c5) = some false)
    (x5g : PySem.W.nsIn K mainGlobals "BadText" = some (some (.ref c5))) (x5k : PySem.W.keepIn K (.ref c5) = true) (x5b : PySem.W.subIn K (.ref c5) (.type "BaseException") = some true) (x5t : PySem.W.typeIn K (.ref c5) = some (.type "type")) (x5i : PySem.W.isClsIn K c5 = true) (x5hg : PySem.W.findIn K (.ref c5) "__getattribute__" = some (some (.builtin "BaseException.__getattribute__"))) (x5hk : PySem.W.findIn K (.ref c5) "__getattr__" = some none) (x5hd : PySem.W.hasDictIn K c5 = true) (x5ha : PySem.W.findIn K (.ref c5) "__class__" = some (some (.builtin "object.__class__"))) (x5hm : PySem.W.mroIn K c5 (.type "object") = some true) (x5n : PySem.W.subIn K (.ref c5) (.ref cN) = some true) (x5v : PySem.W.subIn K (.ref c5) (.type "ValueError") = some true)
    (x5o : PySem.W.excIn K c5 [.type "ValueError", .type "Exception", .type "BaseException", .type "object"] "ValueError.__new__" = true)
    (x5s0 : PySem.W.subIn K (.ref c5) (.ref c0) = some false) (x5s1 : PySem.W.subIn K (.ref c5) (.ref c1) = some false) (x5s2 : PySem.W.subIn K (.ref c5) (.ref c2) = some false) (x5s3 : PySem.W.subIn K (.ref c5) (.ref c3) = some false) (x5s4 : PySem.W.subIn K (.ref c5) (.ref c4) = some false) (x5s5 : PySem.W.subIn K (.ref c5) (.ref c5) = some true)
    {nmC qC : Str} {NC : Addr} {bsC : List Value} {snC : List Str} {subC : List Value} {abC : Bool} {colC : Option Bool} {ddC : Option Addr} {mC0 mC1 mC2 mC3 mC5 : Option Value} {fI : Addr} {odI anI : Option Addr} {slI : Array (Option Value)} {ocI kVI dcI pmI cdI ctI : Value}
    (iL : K.lookup c3 = some (excClassObj nmC qC c3 NC bsC [.ref cN, .type "ValueError", .type "Exception", .type "BaseException", .type "object"] true snC subC abC colC ddC mC0 mC1 mC2 mC3 mC5 "ValueError.__new__"))
    (iS : PySem.W.findIn K (.ref c3) "__setattr__" = some (some (.builtin "object.__setattr__"))) (iN : PySem.W.findIn K (.ref c3) "number" = some none) (iC : PySem.W.findIn K (.ref c3) "__init__" = some (some (.ref fI))) (iT : PySem.W.typeIn K (.ref fI) = some (.type "function"))
    (iF : K.lookup fI = some ⟨ocI, odI, .func (PySem.W.fnOf "__init__" "BadChord.__init__" (defArgs s_init) (defBody s_init) (defScope s_init) .none kVI dcI pmI anI cdI ctI), slI⟩) (iD : PySem.W.codeIn K cdI "BadChord.__init__" = true) (iK : PySem.W.keepIn K (.ref fI) = true)
    (iR : PySem.W.readsIn K cN (.type "type") = true) (iG : PySem.W.specialIn K (.ref cN) "__getattribute__" = some (some (.builtin "type.__getattribute__"))) (iV : PySem.W.findCls K (.ref cN) (.type "type") "__init__" = some (.val (.builtin "ValueError.__init__")))
    (ne5_4 : Nat.beq PP5 PP4 = false)
    : LamX.LawAtS l w K CX0 9 63 "_law_script" mg fa h := by
  have ch : ∀ {P : Addr × Addr → Prop}, P (cc4, PP4) → P (cc5, PP5) → ∀ p ∈ [(cc4, PP4), (cc5, PP5)], P p := fun {P} p4 p5 p hp => by
    simp only [List.mem_cons, List.not_mem_nil, or_false] at hp
    rcases hp with rfl | rfl
    · exact p4
    · exact p5
  have n5_4 : PP5 ≠ PP4 := fun z => by rw [z] at ne5_4; simp at ne5_4
  letI tb : Tb := ⟨([(PP4, ("_law_works" ++ ".<locals>." ++ "<lambda>" : Str)), (PP5, ("_law_handed" ++ ".<locals>." ++ "<lambda>" : Str))] : List (Addr × Str)), lamTab⟩
  have tm4 : (PP4, ("_law_works" ++ ".<locals>." ++ "<lambda>" : Str)) ∈ ([(PP4, ("_law_works" ++ ".<locals>." ++ "<lambda>" : Str)), (PP5, ("_law_handed" ++ ".<locals>." ++ "<lambda>" : Str))] : List (Addr × Str)) := by simp
  have tu4 : ∀ p ∈ ([(PP4, ("_law_works" ++ ".<locals>." ++ "<lambda>" : Str)), (PP5, ("_law_handed" ++ ".<locals>." ++ "<lambda>" : Str))] : List (Addr × Str)), p.1 = PP4 → p.2 = ("_law_works" ++ ".<locals>." ++ "<lambda>" : Str) := fun p hp e => by
    simp only [List.mem_cons, List.not_mem_nil, or_false] at hp
    rcases hp with rfl | rfl
    · rfl
    · exact absurd e (by first | exact n5_4 | exact fun z => False.elim z)
  have tm5 : (PP5, ("_law_handed" ++ ".<locals>." ++ "<lambda>" : Str)) ∈ ([(PP4, ("_law_works" ++ ".<locals>." ++ "<lambda>" : Str)), (PP5, ("_law_handed" ++ ".<locals>." ++ "<lambda>" : Str))] : List (Addr × Str)) := by simp
  have tu5 : ∀ p ∈ ([(PP4, ("_law_works" ++ ".<locals>." ++ "<lambda>" : Str)), (PP5, ("_law_handed" ++ ".<locals>." ++ "<lambda>" : Str))] : List (Addr × Str)), p.1 = PP5 → p.2 = ("_law_handed" ++ ".<locals>." ++ "<lambda>" : Str) := fun p hp e => by
    simp only [List.mem_cons, List.not_mem_nil, or_false] at hp
    rcases hp with rfl | rfl
    · exact absurd e (by first | exact False.elim | exact fun z => n5_4 z.symm)
    · rfl
  obtain ⟨fd, hb, hF⟩ := all_mk (l := l) (w := w) X G hfa a0 l0 c0c k0 a1 l1 c1c k1 a2 l2 c2c k2 a3 l3 c3c k3 a4 l4 c4c k4 lc4 lp4 lh4 ln4 lt4 a5 l5 c5c k5 lc5 lp5 lh5 ln5 lt5 a6 l6 c6c k6 a7 l7 c7c k7 a8 l8 c8c k8 a9 l9 c9c k9 a10 l10 c10c k10 a11 l11 c11c k11 a12 l12 c12c k12 a13 l13 c13c k13 a14 l14 c14c k14 a15 l15 c15c k15 a16 l16 c16c k16 a17 l17 c17c k17 a18 l18 c18c k18 a19 l19 c19c k19 z_len z_range z_sorted z_set z_tuple z_list z_min z_max z_abs z_sum z_int z_str z_bool z_zip z_reversed z_isinstance y_MOST_STRINGS_necks y_MOST_NOTE y_MOST_FRETS y_SILENT y_MOST_REACH y_MOST_CHORD y_MOST_SOUND y_MOST_TUNE y_NEVER y_MOST_STRINGS_tunings y_MOST_CHANGE xn xnb xnt xni xvn xcg xct x0g x0k x0b x0t x0i x0hg x0hk x0hd x0ha x0hm x0n x0v x0o x0s0 x0s1 x0s2 x0s3 x0s4 x0s5 x1g x1k x1b x1t x1i x1hg x1hk x1hd x1ha x1hm x1n x1v x1o x1s0 x1s1 x1s2 x1s3 x1s4 x1s5 x2g x2k x2b x2t x2i x2hg x2hk x2hd x2ha x2hm x2n x2v x2o x2s0 x2s1 x2s2 x2s3 x2s4 x2s5 x3g x3k x3b x3t x3i x3hg x3hk x3hd x3ha x3hm x3n x3v x3s0 x3s1 x3s2 x3s3 x3s4 x3s5 x4g x4k x4b x4t x4i x4hg x4hk x4hd x4ha x4hm x4n x4v x4o x4s0 x4s1 x4s2 x4s3 x4s4 x4s5 x5g x5k x5b x5t x5i x5hg x5hk x5hd x5ha x5hm x5n x5v x5o x5s0 x5s1 x5s2 x5s3 x5s4 x5s5 iL iS iN iC iT iF iD iK iR iG iV ne5_4 tm4 tu4 tm5 tu5 rfl
  refine ⟨fd, [(cc4, PP4), (cc5, PP5)], spLawT K, ch lt4 lt5, ch ln4 ln5, ch (PySem.W.codeHd_of_K X lh4) (PySem.W.codeHd_of_K X lh5), hb, fun H a ns hl _ hT hS => ⟨fun p hp => ?_, a, ns, rfl, hS, hl, fun _ => rfl⟩, fun base kb gb ht => hF base kb gb (ht (cc4, PP4) (by simp)) (ht (cc5, PP5) (by simp))⟩
  have hp : p ∈ ([(PP4, ("_law_works" ++ ".<locals>." ++ "<lambda>" : Str)), (PP5, ("_law_handed" ++ ".<locals>." ++ "<lambda>" : Str))] : List (Addr × Str)) := hp
  simp only [List.mem_cons, List.not_mem_nil, or_false] at hp
  rcases hp with rfl | rfl
  · exact LamX.TabS.nil (hT (cc4, PP4) (by simp))
  · exact LamX.TabS.nil (hT (cc5, PP5) (by simp))
end Q
open PySem PySem.W PyProof.Rows
set_option maxHeartbeats 0 in
theorem PySem.Challenge.cw_fretways_k12_refused_in_order_holds : PySem.Challenge.rw_fretways_k12_refused_in_order.Holds := by
  w_on; o_law; km_head; (case hw => w_witness2)
  k_fill
  refine LamX.walk_ofTs (l := PySem.Challenge.rw_fretways_k12_refused_in_order) (n := 63) (k := 9) (x := "_law_script") (CX := fun _ => L2.CX0) rfl (by decide) rfl ⟨rfl, by decide, by decide⟩ (fun w h Y => PySem.W.km_in_of Y) ?F (fun _ _ _ _ _ h => h)
  case F =>
    intro w mg fa h Y KX G hmg
    have hT := PySem.W.km_tabs_of Y
    refine' Q.law_at KX G hmg ?a0 ?l0 ?c0c ?k0 ?a1 ?l1 ?c1c ?k1 ?a2 ?l2 ?c2c ?k2 ?a3 ?l3 ?c3c ?k3 ?a4 ?l4 ?c4c ?k4 ?lc4 ?lp4 ?lh4 ?ln4 ?lt4 ?a5 ?l5 ?c5c ?k5 ?lc5 ?lp5 ?lh5 ?ln5 ?lt5 ?a6 ?l6 ?c6c ?k6 ?a7 ?l7 ?c7c ?k7 ?a8 ?l8 ?c8c ?k8 ?a9 ?l9 ?c9c ?k9 ?a10 ?l10 ?c10c ?k10 ?a11 ?l11 ?c11c ?k11 ?a12 ?l12 ?c12c ?k12 ?a13 ?l13 ?c13c ?k13 ?a14 ?l14 ?c14c ?k14 ?a15 ?l15 ?c15c ?k15 ?a16 ?l16 ?c16c ?k16 ?a17 ?l17 ?c17c ?k17 ?a18 ?l18 ?c18c ?k18 ?a19 ?l19 ?c19c ?k19 ?z_len ?z_range ?z_sorted ?z_set ?z_tuple ?z_list ?z_min ?z_max ?z_abs ?z_sum ?z_int ?z_str ?z_bool ?z_zip ?z_reversed ?z_isinstance ?y_MOST_STRINGS_necks ?y_MOST_NOTE ?y_MOST_FRETS ?y_SILENT ?y_MOST_REACH ?y_MOST_CHORD ?y_MOST_SOUND ?y_MOST_TUNE ?y_NEVER ?y_MOST_STRINGS_tunings ?y_MOST_CHANGE ?xn ?xnb ?xnt ?xni ?xvn ?xcg ?xct ?x0g ?x0k ?x0b ?x0t ?x0i ?x0hg ?x0hk ?x0hd ?x0ha ?x0hm ?x0n ?x0v ?x0o ?x0s0 ?x0s1 ?x0s2 ?x0s3 ?x0s4 ?x0s5 ?x1g ?x1k ?x1b ?x1t ?x1i ?x1hg ?x1hk ?x1hd ?x1ha ?x1hm ?x1n ?x1v ?x1o ?x1s0 ?x1s1 ?x1s2 ?x1s3 ?x1s4 ?x1s5 ?x2g ?x2k ?x2b ?x2t ?x2i ?x2hg ?x2hk ?x2hd ?x2ha ?x2hm ?x2n ?x2v ?x2o ?x2s0 ?x2s1 ?x2s2 ?x2s3 ?x2s4 ?x2s5 ?x3g ?x3k ?x3b ?x3t ?x3i ?x3hg ?x3hk ?x3hd ?x3ha ?x3hm ?x3n ?x3v ?x3s0 ?x3s1 ?x3s2 ?x3s3 ?x3s4 ?x3s5 ?x4g ?x4k ?x4b ?x4t ?x4i ?x4hg ?x4hk ?x4hd ?x4ha ?x4hm ?x4n ?x4v ?x4o ?x4s0 ?x4s1 ?x4s2 ?x4s3 ?x4s4 ?x4s5 ?x5g ?x5k ?x5b ?x5t ?x5i ?x5hg ?x5hk ?x5hd ?x5ha ?x5hm ?x5n ?x5v ?x5o ?x5s0 ?x5s1 ?x5s2 ?x5s3 ?x5s4 ?x5s5 ?iL ?iS ?iN ?iC ?iT ?iF ?iD ?iK ?iR ?iG ?iV ?ne5_4
    (case a0 => k_is)
    (case l0 => k_is)
    (case c0c => k_is)
    (case k0 => k_is)
    (case a1 => k_is)
    (case l1 => k_is)
    (case c1c => k_is)
    (case k1 => k_is)
    (case a2 => k_is)
    (case l2 => k_is)
    (case c2c => k_is)
    (case k2 => k_is)
    (case a3 => k_is)
    (case l3 => k_is)
    (case c3c => k_is)
    (case k3 => k_is)
    (case a4 => k_is)
    (case l4 => k_is)
    (case c4c => k_is)
    (case k4 => k_is)
    (case lc4 => k_is)
    (case lp4 => rfl)
    (case lh4 => kernel_rfl)
    (case ln4 => kernel_rfl)
    (case lt4 => exact hT _ (by simp))
    (case a5 => k_is)
    (case l5 => k_is)
    (case c5c => k_is)
    (case k5 => k_is)
    (case lc5 => k_is)
    (case lp5 => rfl)
    (case lh5 => kernel_rfl)
    (case ln5 => kernel_rfl)
    (case lt5 => exact hT _ (by simp))
    (case a6 => k_is)
    (case l6 => k_is)
    (case c6c => k_is)
    (case k6 => k_is)
    (case a7 => k_is)
    (case l7 => k_is)
    (case c7c => k_is)
    (case k7 => k_is)
    (case a8 => k_is)
    (case l8 => k_is)
    (case c8c => k_is)
    (case k8 => k_is)
    (case a9 => k_is)
    (case l9 => k_is)
    (case c9c => k_is)
    (case k9 => k_is)
    (case a10 => k_is)
    (case l10 => k_is)
    (case c10c => k_is)
    (case k10 => k_is)
    (case a11 => k_is)
    (case l11 => k_is)
    (case c11c => k_is)
    (case k11 => k_is)
    (case a12 => k_is)
    (case l12 => k_is)
    (case c12c => k_is)
    (case k12 => k_is)
    (case a13 => k_is)
    (case l13 => k_is)
    (case c13c => k_is)
    (case k13 => k_is)
    (case a14 => k_is)
    (case l14 => k_is)
    (case c14c => k_is)
    (case k14 => k_is)
    (case a15 => k_is)
    (case l15 => k_is)
    (case c15c => k_is)
    (case k15 => k_is)
    (case a16 => k_is)
    (case l16 => k_is)
    (case c16c => k_is)
    (case k16 => k_is)
    (case a17 => k_is)
    (case l17 => k_is)
    (case c17c => k_is)
    (case k17 => k_is)
    (case a18 => k_is)
    (case l18 => k_is)
    (case c18c => k_is)
    (case k18 => k_is)
    (case a19 => k_is)
    (case l19 => k_is)
    (case c19c => k_is)
    (case k19 => k_is)
    (case z_len => k_is)
    (case z_range => k_is)
    (case z_sorted => k_is)
    (case z_set => k_is)
    (case z_tuple => k_is)
    (case z_list => k_is)
    (case z_min => k_is)
    (case z_max => k_is)
    (case z_abs => k_is)
    (case z_sum => k_is)
    (case z_int => k_is)
    (case z_str => k_is)
    (case z_bool => k_is)
    (case z_zip => k_is)
    (case z_reversed => k_is)
    (case z_isinstance => k_is)
    (case y_MOST_STRINGS_necks => k_is)
    (case y_MOST_NOTE => k_is)
    (case y_MOST_FRETS => k_is)
    (case y_SILENT => k_is)
    (case y_MOST_REACH => k_is)
    (case y_MOST_CHORD => k_is)
    (case y_MOST_SOUND => k_is)
    (case y_MOST_TUNE => k_is)
    (case y_NEVER => k_is)
    (case y_MOST_STRINGS_tunings => k_is)
    (case y_MOST_CHANGE => k_is)
    (case xn => k_is)
    (case xnb => k_is)
    (case xnt => k_is)
    (case xni => k_is)
    (case xvn => k_is)
    (case xcg => k_is)
    (case xct => k_is)
    (case x0g => k_is)
    (case x0k => k_is)
    (case x0b => k_is)
    (case x0t => k_is)
    (case x0i => k_is)
    (case x0hg => k_is)
    (case x0hk => k_is)
    (case x0hd => k_is)
    (case x0ha => k_is)
    (case x0hm => k_is)
    (case x0n => k_is)
    (case x0v => k_is)
    (case x0o => k_exc)
    (case x1g => k_is)
    (case x1k => k_is)
    (case x1b => k_is)
    (case x1t => k_is)
    (case x1i => k_is)
    (case x1hg => k_is)
    (case x1hk => k_is)
    (case x1hd => k_is)
    (case x1ha => k_is)
    (case x1hm => k_is)
    (case x1n => k_is)
    (case x1v => k_is)
    (case x1o => k_exc)
    (case x2g => k_is)
    (case x2k => k_is)
    (case x2b => k_is)
    (case x2t => k_is)
    (case x2i => k_is)
    (case x2hg => k_is)
    (case x2hk => k_is)
    (case x2hd => k_is)
    (case x2ha => k_is)
    (case x2hm => k_is)
    (case x2n => k_is)
    (case x2v => k_is)
    (case x2o => k_exc)
    (case x3g => k_is)
    (case x3k => k_is)
    (case x3b => k_is)
    (case x3t => k_is)
    (case x3i => k_is)
    (case x3hg => k_is)
    (case x3hk => k_is)
    (case x3hd => k_is)
    (case x3ha => k_is)
    (case x3hm => k_is)
    (case x3n => k_is)
    (case x3v => k_is)
    (case x4g => k_is)
    (case x4k => k_is)
    (case x4b => k_is)
    (case x4t => k_is)
    (case x4i => k_is)
    (case x4hg => k_is)
    (case x4hk => k_is)
    (case x4hd => k_is)
    (case x4ha => k_is)
    (case x4hm => k_is)
    (case x4n => k_is)
    (case x4v => k_is)
    (case x4o => k_exc)
    (case x5g => k_is)
    (case x5k => k_is)
    (case x5b => k_is)
    (case x5t => k_is)
    (case x5i => k_is)
    (case x5hg => k_is)
    (case x5hk => k_is)
    (case x5hd => k_is)
    (case x5ha => k_is)
    (case x5hm => k_is)
    (case x5n => k_is)
    (case x5v => k_is)
    (case x5o => k_exc)
    (case iL => k_is)
    (case iS => k_is)
    (case iN => k_is)
    (case iC => k_is)
    (case iT => k_is)
    (case iF => k_is)
    (case iD => k_is)
    (case iK => k_is)
    (case iR => k_is)
    (case iG => k_is)
    (case iV => k_is)
    (case ne5_4 => rfl)
    (case x0s0 => first | rfl | k_is)
    (case x0s1 => first | rfl | k_is)
    (case x0s2 => first | rfl | k_is)
    (case x0s3 => first | rfl | k_is)
    (case x0s4 => first | rfl | k_is)
    (case x0s5 => first | rfl | k_is)
    (case x1s0 => first | rfl | k_is)
    (case x1s1 => first | rfl | k_is)
    (case x1s2 => first | rfl | k_is)
    (case x1s3 => first | rfl | k_is)
    (case x1s4 => first | rfl | k_is)
    (case x1s5 => first | rfl | k_is)
    (case x2s0 => first | rfl | k_is)
    (case x2s1 => first | rfl | k_is)
    (case x2s2 => first | rfl | k_is)
    (case x2s3 => first | rfl | k_is)
    (case x2s4 => first | rfl | k_is)
    (case x2s5 => first | rfl | k_is)
    (case x3s0 => first | rfl | k_is)
    (case x3s1 => first | rfl | k_is)
    (case x3s2 => first | rfl | k_is)
    (case x3s3 => first | rfl | k_is)
    (case x3s4 => first | rfl | k_is)
    (case x3s5 => first | rfl | k_is)
    (case x4s0 => first | rfl | k_is)
    (case x4s1 => first | rfl | k_is)
    (case x4s2 => first | rfl | k_is)
    (case x4s3 => first | rfl | k_is)
    (case x4s4 => first | rfl | k_is)
    (case x4s5 => first | rfl | k_is)
    (case x5s0 => first | rfl | k_is)
    (case x5s1 => first | rfl | k_is)
    (case x5s2 => first | rfl | k_is)
    (case x5s3 => first | rfl | k_is)
    (case x5s4 => first | rfl | k_is)
    (case x5s5 => first | rfl | k_is)

