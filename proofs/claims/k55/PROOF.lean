import PyProof.Rows.All
import HandS.ForMost
import HandS.Deep
import HandS.TupAny
import HandS.TupMul
import HandS.Flow
import HandS.Style
import HandS.Zip
import HandS.TupSets
import HandS.SortInts
import HandS.ExcOwn
import KE.SortData
import KE.SortKeyHeap
import HandS.Conv
import KE.GoesEnum
import PyProof.WalkInts
import PySem.Challenge.RW_noshorterplan_k55_whole_steps_with_durat
import Wide.All
import OpenK.AllK
import Wide.FinOn
set_option Elab.async false
set_option linter.all false
set_option maxRecDepth 100000
/-! DL: a layer of triples over plain data. Part 1: which value stands for which datum, and who owns what. -/
namespace DL
open PySem PySem.Spec L2

abbrev D := PyData
abbrev FK := PySem.W.Frag

def kD : Key → D
  | .inl i => .int i
  | .inr s => .str s
/-- an object that is a dict, its pairs: the key's datum, the value -/
inductive IsDct : HO → List (D × V) → Prop
  | k (kvs : List (Key × V)) : IsDct (.dK kvs) (kvs.map fun p => (kD p.1, p.2))
  | t (kvs : List (List Key × V)) : IsDct (.dT kvs) (kvs.map fun p => (.tuple (p.1.map kD), p.2))
def IsMut : HO → Bool
  | .lst _ => true
  | .dK _ => true
  | .dT _ => true
  | .ext _ => true
  | _ => false
theorem IsDct.mut {o : HO} {kvs : List (D × V)} (h : IsDct o kvs) : IsMut o = true := by cases h <;> rfl
def Em : Hp := fun _ => none

mutual
/-- v stands for the datum d; fp: the lists and dicts within that do not stand in the base B -/
inductive Own (K : FK) (B H : Hp) : V → D → List Addr → Prop
  | non : Own K B H .non .none []
  | bl (b : Bool) : Own K B H (.bl b) (.bool b) []
  | int (i : Int) : Own K B H (.int i) (.int i) []
  | str (x : Str) : Own K B H (.str x) (.str x) []
  | tup {a : Addr} {xs : List V} {ds : List D} {fp : List Addr} : SqT K H a xs → OwnAll K B H xs ds fp → Own K B H (.ref a) (.tuple ds) fp
  | lstB {a : Addr} {xs : List V} {ds : List D} : B a = some (.lst xs) → OwnAll K B H xs ds [] → Own K B H (.ref a) (.list ds) []
  | lst {a : Addr} {xs : List V} {ds : List D} {fp : List Addr} : H a = some (.lst xs) → OwnAll K B H xs ds fp → a ∉ fp → Own K B H (.ref a) (.list ds) (a :: fp)
  | dctB {a : Addr} {o : HO} {kvs : List (D × V)} {ds : List D} {kds : List (D × D)} : B a = some o → IsDct o kvs → OwnAll K B H (kvs.map (·.2)) ds [] → kds = (kvs.map (·.1)).zip ds → Own K B H (.ref a) (.dict kds) []
  | dct {a : Addr} {o : HO} {kvs : List (D × V)} {ds : List D} {kds : List (D × D)} {fp : List Addr} : H a = some o → IsDct o kvs → OwnAll K B H (kvs.map (·.2)) ds fp → a ∉ fp → kds = (kvs.map (·.1)).zip ds → Own K B H (.ref a) (.dict kds) (a :: fp)
inductive OwnAll (K : FK) (B H : Hp) : List V → List D → List Addr → Prop
  | nil : OwnAll K B H [] [] []
  | cons {v : V} {vs : List V} {d : D} {ds : List D} {fp fq : List Addr} : Own K B H v d fp → OwnAll K B H vs ds fq → (∀ a ∈ fp, a ∉ fq) → OwnAll K B H (v :: vs) (d :: ds) (fp ++ fq)
end

-- nothing in it changes: no list, no dict
mutual
def imm : D → Bool
  | .none => true
  | .bool _ => true
  | .int _ => true
  | .str _ => true
  | .tuple ds => immAll ds
  | .list _ => false
  | .dict _ => false
def immAll : List D → Bool
  | [] => true
  | d :: ds => imm d && immAll ds
end

section
variable {K : FK} {B B' H H' : Hp} {v : V} {vs : List V} {d : D} {ds : List D} {fp fq : List Addr}

/-- what can't change stays -/
def Stay (H H' : Hp) : Prop := ∀ a o, H a = some o → IsMut o = false → H' a = some o
def Keep (fp : List Addr) (H H' : Hp) : Prop := ∀ a ∈ fp, H' a = H a
theorem Stay.refl (H : Hp) : Stay H H := fun _ _ h _ => h
theorem Stay.trans {H1 H2 H3 : Hp} (a : Stay H1 H2) (b : Stay H2 H3) : Stay H1 H3 := fun c o h m => b c o (a c o h m) m
theorem Stay.of_same (h : Same H H') : Stay H H' := fun a o e _ => h a o e
theorem Stay.sqT {a : Addr} {xs : List V} (s : Stay H H') (h : SqT K H a xs) : SqT K H' a xs := by
  rcases h with (h | ⟨o, h⟩) | h
  · exact .inl (.inl (s _ _ h rfl))
  · exact .inl (.inr ⟨o, s _ _ h rfl⟩)
  · exact .inr h
theorem Keep.sub (h : Keep fp H H') (s : ∀ a ∈ fq, a ∈ fp) : Keep fq H H' := fun a ha => h a (s a ha)

mutual
theorem Own.mv (st : Stay H H') : ∀ {v : V} {d : D} {fp : List Addr}, Own K B H v d fp → Keep fp H H' → Own K B H' v d fp
  | _, _, _, .non, _ => .non
  | _, _, _, .bl b, _ => .bl b
  | _, _, _, .int i, _ => .int i
  | _, _, _, .str x, _ => .str x
  | _, _, _, .tup h t, k => .tup (st.sqT h) (OwnAll.mv st t k)
  | _, _, _, .lstB h t, k => .lstB h (OwnAll.mv st t k)
  | _, _, _, .lst h t n, k => .lst ((k _ List.mem_cons_self).trans h) (OwnAll.mv st t (k.sub fun _ q => List.mem_cons_of_mem _ q)) n
  | _, _, _, .dctB h i t e, k => .dctB h i (OwnAll.mv st t k) e
  | _, _, _, .dct h i t n e, k => .dct ((k _ List.mem_cons_self).trans h) i (OwnAll.mv st t (k.sub fun _ q => List.mem_cons_of_mem _ q)) n e
theorem OwnAll.mv (st : Stay H H') : ∀ {vs : List V} {ds : List D} {fp : List Addr}, OwnAll K B H vs ds fp → Keep fp H H' → OwnAll K B H' vs ds fp
  | _, _, _, .nil, _ => .nil
  | _, _, _, .cons h t n, k => .cons (Own.mv st h (k.sub fun _ q => List.mem_append_left _ q)) (OwnAll.mv st t (k.sub fun _ q => List.mem_append_right _ q)) n
end

mutual
theorem Own.tracked : ∀ {v : V} {d : D} {fp : List Addr}, Own K B H v d fp → ∀ a ∈ fp, ∃ o, H a = some o ∧ IsMut o = true
  | _, _, _, .non, _, h => nomatch h
  | _, _, _, .bl b, _, h => nomatch h
  | _, _, _, .int i, _, h => nomatch h
  | _, _, _, .str x, _, h => nomatch h
  | _, _, _, .tup _ t, a, h => OwnAll.tracked t a h
  | _, _, _, .lstB _ t, _, h => nomatch h
  | _, _, _, .lst e t n, a, h => by
    rcases List.mem_cons.mp h with rfl | h
    · exact ⟨_, e, rfl⟩
    · exact OwnAll.tracked t a h
  | _, _, _, .dctB _ _ t _, _, h => nomatch h
  | _, _, _, .dct e i t n _, a, h => by
    rcases List.mem_cons.mp h with rfl | h
    · exact ⟨_, e, i.mut⟩
    · exact OwnAll.tracked t a h
theorem OwnAll.tracked : ∀ {vs : List V} {ds : List D} {fp : List Addr}, OwnAll K B H vs ds fp → ∀ a ∈ fp, ∃ o, H a = some o ∧ IsMut o = true
  | _, _, _, .nil, _, h => nomatch h
  | _, _, _, .cons q t n, a, h => (List.mem_append.mp h).elim (Own.tracked q a) (OwnAll.tracked t a)
end

mutual
theorem Own.nodup : ∀ {v : V} {d : D} {fp : List Addr}, Own K B H v d fp → fp.Nodup
  | _, _, _, .non => List.nodup_nil
  | _, _, _, .bl b => List.nodup_nil
  | _, _, _, .int i => List.nodup_nil
  | _, _, _, .str x => List.nodup_nil
  | _, _, _, .tup _ t => OwnAll.nodup t
  | _, _, _, .lstB _ t => List.nodup_nil
  | _, _, _, .lst e t n => List.nodup_cons.mpr ⟨n, OwnAll.nodup t⟩
  | _, _, _, .dctB _ _ t _ => List.nodup_nil
  | _, _, _, .dct e i t n _ => List.nodup_cons.mpr ⟨n, OwnAll.nodup t⟩
theorem OwnAll.nodup : ∀ {vs : List V} {ds : List D} {fp : List Addr}, OwnAll K B H vs ds fp → fp.Nodup
  | _, _, _, .nil => List.nodup_nil
  | _, _, _, .cons q t n => List.nodup_append.mpr ⟨Own.nodup q, OwnAll.nodup t, fun a ha b hb e => n a ha (e ▸ hb)⟩
end

-- another base that has the lists of the first one
mutual
theorem Own.base (hb : Same B B') : ∀ {v : V} {d : D} {fp : List Addr}, Own K B H v d fp → Own K B' H v d fp
  | _, _, _, .non => .non
  | _, _, _, .bl b => .bl b
  | _, _, _, .int i => .int i
  | _, _, _, .str x => .str x
  | _, _, _, .tup h t => .tup h (OwnAll.base hb t)
  | _, _, _, .lstB h t => .lstB (hb _ _ h) (OwnAll.base hb t)
  | _, _, _, .lst h t n => .lst h (OwnAll.base hb t) n
  | _, _, _, .dctB h i t e => .dctB (hb _ _ h) i (OwnAll.base hb t) e
  | _, _, _, .dct h i t n e => .dct h i (OwnAll.base hb t) n e
theorem OwnAll.base (hb : Same B B') : ∀ {vs : List V} {ds : List D} {fp : List Addr}, OwnAll K B H vs ds fp → OwnAll K B' H vs ds fp
  | _, _, _, .nil => .nil
  | _, _, _, .cons h t n => .cons (Own.base hb h) (OwnAll.base hb t) n
end
theorem same_em : Same Em B := fun _ _ h => nomatch h

/-- what stands in H but in T is base -/
def hide (T : List Addr) (H : Hp) : Hp := fun a => if a ∈ T then none else H a
theorem hide_none {T : List Addr} {a : Addr} (h : a ∈ T) : hide T H a = none := if_pos h
theorem hide_some {T : List Addr} {a : Addr} (h : a ∉ T) : hide T H a = H a := if_neg h
theorem same_hide {T : List Addr} : Same (hide T H) H := fun a o e => by
  by_cases h : a ∈ T
  · rw [hide_none h] at e; cases e
  · rw [hide_some h] at e; exact e
mutual
theorem Own.rebase {T : List Addr} (hb : Same B (hide T H)) : ∀ {v : V} {d : D} {fp : List Addr}, Own K B H v d fp → (∀ a ∈ fp, a ∉ T) → Own K (hide T H) H v d []
  | _, _, _, .non, _ => .non
  | _, _, _, .bl b, _ => .bl b
  | _, _, _, .int i, _ => .int i
  | _, _, _, .str x, _ => .str x
  | _, _, _, .tup h t, k => .tup h (OwnAll.rebase hb t k)
  | _, _, _, .lstB h t, k => .lstB (hb _ _ h) (OwnAll.rebase hb t k)
  | _, _, _, .lst h t n, k => .lstB ((hide_some (k _ List.mem_cons_self)).trans h) (OwnAll.rebase hb t fun a q => k a (List.mem_cons_of_mem _ q))
  | _, _, _, .dctB h i t e, k => .dctB (hb _ _ h) i (OwnAll.rebase hb t k) e
  | _, _, _, .dct h i t n e, k => .dctB ((hide_some (k _ List.mem_cons_self)).trans h) i (OwnAll.rebase hb t fun a q => k a (List.mem_cons_of_mem _ q)) e
theorem OwnAll.rebase {T : List Addr} (hb : Same B (hide T H)) : ∀ {vs : List V} {ds : List D} {fp : List Addr}, OwnAll K B H vs ds fp → (∀ a ∈ fp, a ∉ T) → OwnAll K (hide T H) H vs ds []
  | _, _, _, .nil, _ => .nil
  | _, _, _, .cons h t n, k => by
    have := OwnAll.cons (Own.rebase hb h fun a q => k a (List.mem_append_left _ q)) (OwnAll.rebase hb t fun a q => k a (List.mem_append_right _ q)) (fun _ z => nomatch z)
    exact this
end

mutual
theorem Own.imm : ∀ {v : V} {d : D} {fp : List Addr}, Own K B H v d fp → DL.imm d = true → fp = [] ∧ Own K Em H v d []
  | _, _, _, .non, _ => ⟨rfl, .non⟩
  | _, _, _, .bl b, _ => ⟨rfl, .bl b⟩
  | _, _, _, .int i, _ => ⟨rfl, .int i⟩
  | _, _, _, .str x, _ => ⟨rfl, .str x⟩
  | _, _, _, .tup h t, e => by
    rw [DL.imm] at e
    obtain ⟨e1, e2⟩ := OwnAll.imm t e
    exact ⟨e1, .tup h e2⟩
  | _, _, _, .lstB _ _, e => by rw [DL.imm] at e; cases e
  | _, _, _, .lst _ _ _, e => by rw [DL.imm] at e; cases e
  | _, _, _, .dctB _ _ _ _, e => by rw [DL.imm] at e; cases e
  | _, _, _, .dct _ _ _ _ _, e => by rw [DL.imm] at e; cases e
theorem OwnAll.imm : ∀ {vs : List V} {ds : List D} {fp : List Addr}, OwnAll K B H vs ds fp → immAll ds = true → fp = [] ∧ OwnAll K Em H vs ds []
  | _, _, _, .nil, _ => ⟨rfl, .nil⟩
  | _, _, _, .cons h t n, e => by
    rw [immAll, Bool.and_eq_true] at e
    obtain ⟨e1, e2⟩ := Own.imm h e.1
    obtain ⟨e3, e4⟩ := OwnAll.imm t e.2
    subst e1; subst e3
    exact ⟨rfl, .cons e2 e4 fun _ z => nomatch z⟩
end

mutual
theorem Own.dp (hb : Same B H) : ∀ {v : V} {d : D} {fp : List Addr}, Own K B H v d fp → d.canLay0 = true → Dp K H v d
  | _, _, _, .non, _ => .non
  | _, _, _, .bl b, _ => .bl b
  | _, _, _, .int i, _ => .int i
  | _, _, _, .str x, _ => .str x
  | _, _, _, .tup h t, e => .tup h (OwnAll.dp hb t (by rw [PyData.canLay0] at e; exact e))
  | _, _, _, .lstB h t, e => .lst (.inl (.inl (hb _ _ h))) (OwnAll.dp hb t (by rw [PyData.canLay0] at e; exact e))
  | _, _, _, .lst h t n, e => .lst (.inl (.inl h)) (OwnAll.dp hb t (by rw [PyData.canLay0] at e; exact e))
  | _, _, _, .dctB _ _ _ _, e => by rw [PyData.canLay0] at e; cases e
  | _, _, _, .dct _ _ _ _ _, e => by rw [PyData.canLay0] at e; cases e
theorem OwnAll.dp (hb : Same B H) : ∀ {vs : List V} {ds : List D} {fp : List Addr}, OwnAll K B H vs ds fp → PyData.canLayAll0 ds = true → DpAll K H vs ds
  | _, _, _, .nil, _ => .nil
  | _, _, _, .cons h t n, e => by
    rw [PyData.canLayAll0, Bool.and_eq_true] at e
    exact .cons (Own.dp hb h e.1) (OwnAll.dp hb t e.2)
end

/-! lists of values, item by item -/
theorem OwnAll.length : ∀ {vs : List V} {ds : List D} {fp : List Addr}, OwnAll K B H vs ds fp → vs.length = ds.length
  | _, _, _, .nil => rfl
  | _, _, _, .cons _ t _ => congrArg (· + 1) (OwnAll.length t)
theorem OwnAll.get : ∀ {vs : List V} {ds : List D} {fp : List Addr} {i : Nat} {d : D}, OwnAll K B H vs ds fp → ds[i]? = some d → ∃ v fq, vs[i]? = some v ∧ Own K B H v d fq ∧ ∀ a ∈ fq, a ∈ fp
  | _, _, _, _, _, .nil, e => by simp at e
  | _, _, _, 0, _, .cons h t n, e => by
    simp at e; subst e
    exact ⟨_, _, rfl, h, fun a q => List.mem_append_left _ q⟩
  | _, _, _, i + 1, d, .cons h t n, e => by
    obtain ⟨v, fq, h1, h2, h3⟩ := OwnAll.get (i := i) (d := d) t (by simpa using e)
    exact ⟨v, fq, by simpa using h1, h2, fun a q => List.mem_append_right _ (h3 a q)⟩
theorem OwnAll.append : ∀ {vs ws : List V} {ds es : List D} {fp fq : List Addr}, OwnAll K B H vs ds fp → OwnAll K B H ws es fq → (∀ a ∈ fp, a ∉ fq) → OwnAll K B H (vs ++ ws) (ds ++ es) (fp ++ fq)
  | _, _, _, _, _, _, .nil, s, _ => s
  | _, _, _, _, _, _, .cons (fp := f1) (fq := f2) h t n, s, q => by
    rw [List.append_assoc]
    refine .cons h (OwnAll.append t s fun a m => q a (List.mem_append_right _ m)) fun a m z => ?_
    rcases List.mem_append.mp z with z | z
    · exact n a m z
    · exact q a (List.mem_append_left _ m) z
theorem OwnAll.one (h : Own K B H v d fp) : OwnAll K B H [v] [d] fp := by
  have := OwnAll.cons h (OwnAll.nil (K := K) (B := B) (H := H)) (fun _ _ z => nomatch z)
  rw [List.append_nil] at this
  exact this
theorem OwnAll.two {v w : V} {d e : D} (h : Own K B H v d fp) (g : Own K B H w e fq) (n : ∀ a ∈ fp, a ∉ fq) : OwnAll K B H [v, w] [d, e] (fp ++ fq) := .cons h (.one g) n
theorem OwnAll.nil_inv {vs : List V} (h : OwnAll K B H vs [] fp) : vs = [] ∧ fp = [] := by cases h; exact ⟨rfl, rfl⟩
theorem OwnAll.cons_inv {vs : List V} (h : OwnAll K B H vs (d :: ds) fp) : ∃ v ws f1 f2, vs = v :: ws ∧ fp = f1 ++ f2 ∧ Own K B H v d f1 ∧ OwnAll K B H ws ds f2 ∧ ∀ a ∈ f1, a ∉ f2 := by
  cases h with
  | cons h t n => exact ⟨_, _, _, _, rfl, rfl, h, t, n⟩
theorem OwnAll.ints : ∀ {ns : List Int} {vs : List V} {fp : List Addr}, OwnAll K B H vs (ns.map PyData.int) fp → vs = ns.map V.int ∧ fp = []
  | [], _, _, h => by cases h; exact ⟨rfl, rfl⟩
  | n :: ns, _, _, h => by
    obtain ⟨v, ws, f1, f2, rfl, rfl, h1, h2, _⟩ := OwnAll.cons_inv h
    cases h1
    obtain ⟨rfl, rfl⟩ := OwnAll.ints h2
    exact ⟨rfl, rfl⟩
theorem OwnAll.bools : ∀ {ns : List Bool} {vs : List V} {fp : List Addr}, OwnAll K B H vs (ns.map PyData.bool) fp → vs = ns.map V.bl ∧ fp = []
  | [], _, _, h => by cases h; exact ⟨rfl, rfl⟩
  | n :: ns, _, _, h => by
    obtain ⟨v, ws, f1, f2, rfl, rfl, h1, h2, _⟩ := OwnAll.cons_inv h
    cases h1
    obtain ⟨rfl, rfl⟩ := OwnAll.bools h2
    exact ⟨rfl, rfl⟩
theorem OwnAll.sub : ∀ {vs : List V} {ds : List D} {fp : List Addr} (n k : Nat), OwnAll K B H vs ds fp → ∃ fq, OwnAll K B H ((vs.drop n).take k) ((ds.drop n).take k) fq ∧ ∀ a ∈ fq, a ∈ fp
  | _, _, _, n, k, .nil => ⟨[], by simpa using OwnAll.nil, fun _ z => z⟩
  | _, _, _, 0, 0, .cons h t q => ⟨[], by simpa using OwnAll.nil, fun _ z => nomatch z⟩
  | _, _, _, 0, k + 1, .cons h t q => by
    obtain ⟨fq, h1, h2⟩ := OwnAll.sub 0 k t
    refine ⟨_ ++ fq, by simpa using OwnAll.cons h h1 fun a m z => q a m (h2 a z), fun a m => ?_⟩
    rcases List.mem_append.mp m with m | m
    · exact List.mem_append_left _ m
    · exact List.mem_append_right _ (h2 a m)
  | _, _, _, n + 1, k, .cons h t q => by
    obtain ⟨fq, h1, h2⟩ := OwnAll.sub n k t
    exact ⟨fq, by simpa using h1, fun a m => List.mem_append_right _ (h2 a m)⟩
theorem OwnAll.immAll_of (h : OwnAll K B H vs ds fp) (e : immAll ds = true) : OwnAll K B H vs ds [] := by
  obtain ⟨rfl, _⟩ := OwnAll.imm h e
  exact h
/-- items from one list, with what each one owns unknown (borrowed) -/
theorem Own.int_inv {i : Int} (h : Own K B H v (.int i) fp) : v = .int i ∧ fp = [] := by cases h; exact ⟨rfl, rfl⟩
theorem Own.bool_inv {b : Bool} (h : Own K B H v (.bool b) fp) : v = .bl b ∧ fp = [] := by cases h; exact ⟨rfl, rfl⟩
theorem Own.none_inv (h : Own K B H v .none fp) : v = .non ∧ fp = [] := by cases h; exact ⟨rfl, rfl⟩
theorem Own.str_inv {x : Str} (h : Own K B H v (.str x) fp) : v = .str x ∧ fp = [] := by cases h; exact ⟨rfl, rfl⟩
theorem Own.tup_inv (h : Own K B H v (.tuple ds) fp) : ∃ a xs, v = .ref a ∧ SqT K H a xs ∧ OwnAll K B H xs ds fp := by
  cases h with
  | tup h t => exact ⟨_, _, rfl, h, t⟩
theorem Own.lst_inv (hb : Same B H) (h : Own K B H v (.list ds) fp) : ∃ a xs fq, v = .ref a ∧ H a = some (.lst xs) ∧ OwnAll K B H xs ds fq ∧ ∀ a ∈ fq, a ∈ fp := by
  cases h with
  | lstB h t => exact ⟨_, _, _, rfl, hb _ _ h, t, fun _ z => z⟩
  | lst h t n => exact ⟨_, _, _, rfl, h, t, fun _ z => List.mem_cons_of_mem _ z⟩
theorem Own.lstE_inv (h : Own K Em H v (.list ds) fp) : ∃ a xs fq, v = .ref a ∧ H a = some (.lst xs) ∧ OwnAll K Em H xs ds fq ∧ a ∉ fq ∧ fp = a :: fq := by
  cases h with
  | lstB h t => cases h
  | lst h t n => exact ⟨_, _, _, rfl, h, t, n, rfl⟩
theorem Own.dct_inv {kds : List (D × D)} (hb : Same B H) (h : Own K B H v (.dict kds) fp) : ∃ a o kvs ds fq, v = .ref a ∧ H a = some o ∧ IsDct o kvs ∧ OwnAll K B H (kvs.map (·.2)) ds fq ∧ kds = (kvs.map (·.1)).zip ds ∧ ∀ a ∈ fq, a ∈ fp := by
  cases h with
  | dctB h i t e => exact ⟨_, _, _, _, _, rfl, hb _ _ h, i, t, e, fun _ z => z⟩
  | dct h i t n e => exact ⟨_, _, _, _, _, rfl, h, i, t, e, fun _ z => List.mem_cons_of_mem _ z⟩
theorem Own.dctE_inv {kds : List (D × D)} (h : Own K Em H v (.dict kds) fp) : ∃ a o kvs ds fq, v = .ref a ∧ H a = some o ∧ IsDct o kvs ∧ OwnAll K Em H (kvs.map (·.2)) ds fq ∧ kds = (kvs.map (·.1)).zip ds ∧ a ∉ fq ∧ fp = a :: fq := by
  cases h with
  | dctB h i t e => cases h
  | dct h i t n e => exact ⟨_, _, _, _, _, rfl, h, i, t, e, n, rfl⟩
end
end DL
/-! DL, part 2: slots, environments, the triples. -/
namespace DL
open PySem PySem.Spec L2

/-- what is known of a slot: nothing; a datum owned here (at an address); a datum of the base; a datum lent; the tape; the script -/
inductive Sl where
  | any
  | v (d : D) (sa : Option Addr := none)
  | arg (d : D)
  | bor (d : D)
  | tp
  | scr (ns : List Int)

/-- all that stood but T stands -/
def FrT (T : List Addr) (H H' : Hp) : Prop := ∀ b o, H b = some o → b ∉ T → H' b = some o
theorem FrT.refl (T : List Addr) (H : Hp) : FrT T H H := fun _ _ h _ => h
theorem FrT.trans {T : List Addr} {H1 H2 H3 : Hp} (a : FrT T H1 H2) (b : FrT T H2 H3) : FrT T H1 H3 := fun c o h m => b c o (a c o h m) m
theorem FrT.of_same {T : List Addr} {H1 H2 : Hp} (h : Same H1 H2) : FrT T H1 H2 := fun c o e _ => h c o e
theorem same_new {H : Hp} {p : Addr} {o : HO} (h : H p = none) : Same H (upd H p o) := fun b x e => by
  rw [upd_ne (ne_of_none e h)]; exact e

inductive SlR (K : FK) (B : Hp) (T : List Addr) (H : Hp) : Option V → Sl → List Addr → Prop
  | any {x : Option V} : SlR K B T H x .any []
  | v {x : V} {d : D} {fp : List Addr} {sa : Option Addr} : Own K Em H x d fp → (∀ a ∈ fp, a ∉ T) → (∀ a, sa = some a → x = .ref a) → SlR K B T H (some x) (.v d sa) fp
  | arg {x : V} {d : D} : Own K B H x d [] → SlR K B T H (some x) (.arg d) []
  | bor {x : V} {d : D} {fp : List Addr} : Own K B H x d fp → (∀ a ∈ fp, a ∉ T) → SlR K B T H (some x) (.bor d) []
  | tp {a : Addr} {r : List Addr} : T = a :: r → SlR K B T H (some (.ref a)) .tp []
  | scr {a : Addr} {ns : List Int} : SqL K B a (ns.map V.int) → SlR K B T H (some (.ref a)) (.scr ns) []
inductive SlsR (K : FK) (B : Hp) (T : List Addr) (H : Hp) : St → List Sl → List (List Addr) → Prop
  | nil : SlsR K B T H [] [] []
  | cons {x : Option V} {σ : St} {s : Sl} {ρ : List Sl} {fp : List Addr} {fps : List (List Addr)} : SlR K B T H x s fp → SlsR K B T H σ ρ fps → SlsR K B T H (x :: σ) (s :: ρ) (fp :: fps)
/-- the tape's data -/
def Tp (K : FK) (H : Hp) (T : List Addr) (τ : D) : Prop := T = [] ∨ ∃ a r, T = a :: r ∧ Own K Em H (.ref a) τ (a :: r)
structure Env (K : FK) (B : Hp) (T : List Addr) (H : Hp) (σ : St) (ρ : List Sl) (τ : D) (fps : List (List Addr)) : Prop where
  rel : SlsR K B T H σ ρ fps
  nd : fps.flatten.Nodup
  base : Same B H
  sep : ∀ a ∈ fps.flatten, B a = none
  sepT : ∀ a ∈ T, B a = none
  tt : Tp K H T τ

section
variable {K : FK} {B : Hp} {T : List Addr} {H H' : Hp} {σ : St} {ρ : List Sl} {τ τ' : D} {fps : List (List Addr)}

theorem Tp.tracked (h : Tp K H T τ) : ∀ a ∈ T, ∃ o, H a = some o ∧ IsMut o = true := fun a ha => by
  rcases h with rfl | ⟨b, r, rfl, h⟩
  · cases ha
  · exact h.tracked a ha
theorem Tp.stay (h : Tp K H T τ) (f : FrT T H H') : Stay H H' := fun a o e m => f a o e fun z => by
  obtain ⟨o', e', m'⟩ := h.tracked a z
  rw [e] at e'; cases e'
  rw [m] at m'; cases m'
theorem keep_of {fp : List Addr} (f : FrT T H H') (tr : ∀ a ∈ fp, ∃ o, H a = some o ∧ IsMut o = true) (n : ∀ a ∈ fp, a ∉ T) : Keep fp H H' := fun a ha => by
  obtain ⟨o, e, _⟩ := tr a ha
  rw [e, f a o e (n a ha)]
theorem SlR.step {x : Option V} {s : Sl} {fp : List Addr} (h : SlR K B T H x s fp) (st : Stay H H') (f : FrT T H H') : SlR K B T H' x s fp := by
  cases h with
  | any => exact .any
  | v o n a => exact .v (o.mv st (keep_of f o.tracked n)) n a
  | arg o => exact .arg (o.mv st fun _ z => nomatch z)
  | bor o n => exact .bor (o.mv st (keep_of f o.tracked n)) n
  | tp e => exact .tp e
  | scr q => exact .scr q
theorem SlsR.step : ∀ {σ : St} {ρ : List Sl} {fps : List (List Addr)}, SlsR K B T H σ ρ fps → Stay H H' → FrT T H H' → SlsR K B T H' σ ρ fps
  | _, _, _, .nil, _, _ => .nil
  | _, _, _, .cons h t, st, f => .cons (h.step st f) (SlsR.step t st f)
theorem Same.frT (b : Same B H) (s : ∀ a ∈ T, B a = none) (f : FrT T H H') : Same B H' := fun a o e => f a o (b a o e) fun z => by rw [s a z] at e; cases e
/-- behind an expression -/
theorem Env.step (E : Env K B T H σ ρ τ fps) (f : FrT T H H') (t : Tp K H' T τ') : Env K B T H' σ ρ τ' fps :=
  ⟨E.rel.step (E.tt.stay f) f, E.nd, Same.frT E.base E.sepT f, E.sep, E.sepT, t⟩
theorem Tp.same (h : Tp K H T τ) (s : Same H H') : Tp K H' T τ := by
  rcases h with h | ⟨a, r, e, h⟩
  · exact .inl h
  · refine .inr ⟨a, r, e, h.mv (Stay.of_same s) fun b hb => ?_⟩
    obtain ⟨o, e1, _⟩ := h.tracked b hb
    rw [e1, s b o e1]
theorem Env.same (E : Env K B T H σ ρ τ fps) (s : Same H H') : Env K B T H' σ ρ τ fps := E.step (FrT.of_same s) (E.tt.same s)
theorem SlsR.get : ∀ {σ : St} {ρ : List Sl} {fps : List (List Addr)} {i : Nat} {s : Sl}, SlsR K B T H σ ρ fps → ρ[i]? = some s → ∃ x fp, σ[i]? = some x ∧ fps[i]? = some fp ∧ SlR K B T H x s fp
  | _, _, _, _, _, .nil, e => by simp at e
  | _, _, _, 0, s, .cons h t, e => by
    simp at e; subst e
    exact ⟨_, _, rfl, rfl, h⟩
  | _, _, _, i + 1, s, .cons h t, e => by
    obtain ⟨x, fp, h1, h2, h3⟩ := SlsR.get (i := i) (s := s) t (by simpa using e)
    exact ⟨x, fp, by simpa using h1, by simpa using h2, h3⟩
theorem SlsR.lengths : ∀ {σ : St} {ρ : List Sl} {fps : List (List Addr)}, SlsR K B T H σ ρ fps → σ.length = ρ.length ∧ fps.length = ρ.length
  | _, _, _, .nil => ⟨rfl, rfl⟩
  | _, _, _, .cons h t => ⟨congrArg (· + 1) (SlsR.lengths t).1, congrArg (· + 1) (SlsR.lengths t).2⟩
theorem SlsR.set {x : Option V} {s : Sl} {fp : List Addr} : ∀ {σ : St} {ρ : List Sl} {fps : List (List Addr)} (i : Nat), SlsR K B T H σ ρ fps → SlR K B T H x s fp → SlsR K B T H (σ.set i x) (ρ.set i s) (fps.set i fp)
  | _, _, _, _, .nil, _ => .nil
  | _, _, _, 0, .cons h t, q => .cons q t
  | _, _, _, i + 1, .cons h t, q => .cons h (SlsR.set i t q)
theorem flatten_set {α : Type} : ∀ {l : List (List α)} {i : Nat} {y : List α} {a : α}, a ∈ (l.set i y).flatten → a ∈ y ∨ a ∈ l.flatten
  | [], _, _, _, h => by simp at h
  | x :: r, 0, y, a, h => by
    rw [List.set_cons_zero, List.flatten_cons, List.mem_append] at h
    rcases h with h | h
    · exact .inl h
    · exact .inr (by rw [List.flatten_cons, List.mem_append]; exact .inr h)
  | x :: r, i + 1, y, a, h => by
    rw [List.set_cons_succ, List.flatten_cons, List.mem_append] at h
    rcases h with h | h
    · exact .inr (by rw [List.flatten_cons, List.mem_append]; exact .inl h)
    · rcases flatten_set h with h | h
      · exact .inl h
      · exact .inr (by rw [List.flatten_cons, List.mem_append]; exact .inr h)
theorem nodup_set {α : Type} : ∀ {l : List (List α)} {i : Nat} {x y : List α}, l.flatten.Nodup → l[i]? = some x → y.Nodup → (∀ a ∈ y, a ∈ x ∨ a ∉ l.flatten) → (l.set i y).flatten.Nodup
  | [], _, _, _, _, e, _, _ => by simp at e
  | z :: r, 0, x, y, h, e, n, d => by
    simp at e; subst e
    rw [List.flatten_cons, List.nodup_append] at h
    rw [List.set_cons_zero, List.flatten_cons, List.nodup_append]
    refine ⟨n, h.2.1, fun a ha b hb q => ?_⟩
    subst q
    rcases d a ha with q | q
    · exact h.2.2 a q a hb rfl
    · exact q (by rw [List.flatten_cons, List.mem_append]; exact .inr hb)
  | z :: r, i + 1, x, y, h, e, n, d => by
    rw [List.flatten_cons, List.nodup_append] at h
    have e' : r[i]? = some x := by simpa using e
    rw [List.set_cons_succ, List.flatten_cons, List.nodup_append]
    refine ⟨h.1, nodup_set h.2.1 e' n fun a ha => ?_, fun a ha b hb q => ?_⟩
    · rcases d a ha with q | q
      · exact .inl q
      · exact .inr fun w => q (by rw [List.flatten_cons, List.mem_append]; exact .inr w)
    · subst q
      rcases flatten_set hb with q | q
      · rcases d a q with w | w
        · exact h.2.2 a ha a (List.mem_flatten.mpr ⟨x, List.mem_of_getElem? e', w⟩) rfl
        · exact w (by rw [List.flatten_cons, List.mem_append]; exact .inl ha)
      · exact h.2.2 a ha a q rfl
theorem mem_flat {α : Type} {l : List (List α)} {i : Nat} {x : List α} {a : α} (h : l[i]? = some x) (ha : a ∈ x) : a ∈ l.flatten := List.mem_flatten.mpr ⟨x, List.mem_of_getElem? h, ha⟩
end

/-! ### the weakest readings -/
section
variable (X : Cx)
def wpE (e : Expr) : TE := fun σ H Q => ∀ pins s, Inv X pins σ H s → wpAny (model X.prog X.w) X.A (eval e X.env) (EP X pins σ Q) X.xe s
def wpT (e : Expr) : TT := fun σ H Q => ∀ pins s, Inv X pins σ H s → wpAny (model X.prog X.w) X.A (isTrue e X.env (eval e X.env)) (TP X pins σ Q) X.xe s
def wpW (e : Expr) : TT := fun σ H Q => ∀ whole pins s, Inv X pins σ H s → wpAny (model X.prog X.w) X.A (isTrue e X.env whole) (TP X pins σ Q) X.xe s
def wpA (es : List Expr) : TA := fun σ H Q => ∀ pos pins s, Inv X pins σ H s → wpAny (model X.prog X.w) X.A (spliced (backTo pos (starEach es X.env))) (AP X pins σ Q) X.xe s
def wpS (st : Stmt) : TS := fun Dn σ H => ∀ pins s, Inv X pins σ H s → wpAny (model X.prog X.w) X.A (exec st X.env) (SP X pins Dn) X.xe s
def wpSs (st : List Stmt) : TS := fun Dn σ H => ∀ pins s, Inv X pins σ H s → wpAny (model X.prog X.w) X.A (execs st X.env) (SP X pins Dn) X.xe s
def wpI (tg iter : Expr) : TI := fun σ H R => ∀ pins s, Inv X pins σ H s →
  wpAny (model X.prog X.w) X.A (eval iter X.env) (fun v s1 => wpAny (model X.prog X.w) X.A (pyIter v) (PIE X pins σ tg R) X.xe s1) X.xe s
end
section
variable {X : Cx} {e : Expr} {es : List Expr} {st : Stmt} {sts : List Stmt} {tg iter : Expr} {σ : St} {H : Hp}
theorem pe_wp : PE X e (wpE X e) := ⟨fun pins s σ H Q I h => h pins s I⟩
theorem pt_wp : PT X e (wpT X e) := ⟨fun pins s σ H Q I h => h pins s I⟩
theorem pw_wp : PW X e (wpW X e) := ⟨fun wh pins s σ H Q I h => h wh pins s I⟩
theorem pa_wp : PA X es (wpA X es) := ⟨fun pos pins s σ H Q I h => h pos pins s I⟩
theorem ps_wp : PS X st (wpS X st) := ⟨fun pins s σ H Q I h => h pins s I⟩
theorem pss_wp : PSs X sts (wpSs X sts) := ⟨fun pins s σ H Q I h => h pins s I⟩
theorem pi_wp : PI X tg iter (wpI X tg iter) := ⟨fun pins s σ H R I h => h pins s I⟩
theorem wp_pe {t : TE} (h : PE X e t) {Q : VK} (q : t σ H Q) : wpE X e σ H Q := fun pins s I => h.run pins s σ H Q I q
theorem wp_pt {t : TT} (h : PT X e t) {Q : Bool → Hp → Prop} (q : t σ H Q) : wpT X e σ H Q := fun pins s I => h.run pins s σ H Q I q
theorem wp_pw {t : TT} (h : PW X e t) {Q : Bool → Hp → Prop} (q : t σ H Q) : wpW X e σ H Q := fun wh pins s I => h.run wh pins s σ H Q I q
theorem wp_pa {t : TA} (h : PA X es t) {Q : List V → Hp → Prop} (q : t σ H Q) : wpA X es σ H Q := fun pos pins s I => h.run pos pins s σ H Q I q
theorem wp_ps {t : TS} (h : PS X st t) {Dn : Ends} (q : t Dn σ H) : wpS X st Dn σ H := fun pins s I => h.run pins s σ H Dn I q
theorem wp_pss {t : TS} (h : PSs X sts t) {Dn : Ends} (q : t Dn σ H) : wpSs X sts Dn σ H := fun pins s I => h.run pins s σ H Dn I q
theorem wp_pi {t : TI} (h : PI X tg iter t) {R : It → Hp → Prop} (q : t σ H R) : wpI X tg iter σ H R := fun pins s I => h.run pins s σ H R I q
theorem EP.imp {pins : List (Addr × Obj)} {Q Q' : VK} (k : ∀ v H', Q v H' → Q' v H') {u : Value} {s : Shared} (h : EP X pins σ Q u s) : EP X pins σ Q' u s :=
  let ⟨v, H', I, r, q⟩ := h; ⟨v, H', I, r, k v H' q⟩
theorem wpE.imp {Q Q' : VK} (h : wpE X e σ H Q) (k : ∀ v H', Q v H' → Q' v H') : wpE X e σ H Q' := fun pins s I => thn (h pins s I) fun _ _ q => EP.imp k q
theorem wpT.imp {Q Q' : Bool → Hp → Prop} (h : wpT X e σ H Q) (k : ∀ v H', Q v H' → Q' v H') : wpT X e σ H Q' := fun pins s I => thn (h pins s I) fun _ _ ⟨H', I', q⟩ => ⟨H', I', k _ _ q⟩
theorem wpW.imp {Q Q' : Bool → Hp → Prop} (h : wpW X e σ H Q) (k : ∀ v H', Q v H' → Q' v H') : wpW X e σ H Q' := fun wh pins s I => thn (h wh pins s I) fun _ _ ⟨H', I', q⟩ => ⟨H', I', k _ _ q⟩
theorem wpA.imp {Q Q' : List V → Hp → Prop} (h : wpA X es σ H Q) (k : ∀ v H', Q v H' → Q' v H') : wpA X es σ H Q' := fun pos pins s I => thn (h pos pins s I) fun _ _ ⟨vs, H', I', r, q⟩ => ⟨vs, H', I', r, k _ _ q⟩
theorem SP.imp {pins : List (Addr × Obj)} {D1 D2 : Ends} (hn : ∀ σ H, D1.nx σ H → D2.nx σ H) (hr : ∀ v H, D1.rt v H → D2.rt v H) (hb : ∀ σ H, D1.bk σ H → D2.bk σ H) (hc : ∀ σ H, D1.ct σ H → D2.ct σ H) {f : Flow} {s : Shared} (h : SP X pins D1 f s) : SP X pins D2 f s := by
  cases f with
  | next => obtain ⟨a, b, c, d⟩ := h; exact ⟨a, b, c, hn _ _ d⟩
  | brk => obtain ⟨a, b, c, d⟩ := h; exact ⟨a, b, c, hb _ _ d⟩
  | cont => obtain ⟨a, b, c, d⟩ := h; exact ⟨a, b, c, hc _ _ d⟩
  | ret u => obtain ⟨v, a, b, c, r, d⟩ := h; exact ⟨v, a, b, c, r, hr _ _ d⟩
theorem wpS.imp {D1 D2 : Ends} (h : wpS X st D1 σ H) (hn : ∀ σ H, D1.nx σ H → D2.nx σ H) (hr : ∀ v H, D1.rt v H → D2.rt v H) (hb : ∀ σ H, D1.bk σ H → D2.bk σ H) (hc : ∀ σ H, D1.ct σ H → D2.ct σ H) : wpS X st D2 σ H :=
  fun pins s I => thn (h pins s I) fun _ _ q => SP.imp hn hr hb hc q
theorem wpSs.imp {D1 D2 : Ends} (h : wpSs X sts D1 σ H) (hn : ∀ σ H, D1.nx σ H → D2.nx σ H) (hr : ∀ v H, D1.rt v H → D2.rt v H) (hb : ∀ σ H, D1.bk σ H → D2.bk σ H) (hc : ∀ σ H, D1.ct σ H → D2.ct σ H) : wpSs X sts D2 σ H :=
  fun pins s I => thn (h pins s I) fun _ _ q => SP.imp hn hr hb hc q
end

/-! ### what an expression gives -/
/-- o: it is owned by nobody else, all of it new -/
def Res (K : FK) (B : Hp) (T : List Addr) (H H' : Hp) (v : V) (d : D) (o : Bool) : Prop :=
  if o = true then ∃ fp, Own K Em H' v d fp ∧ ∀ a ∈ fp, H a = none else ∃ fp, Own K B H' v d fp ∧ ∀ a ∈ fp, a ∉ T
section
variable {K : FK} {B : Hp} {T : List Addr} {H H1 H2 H' : Hp} {v : V} {d : D} {o : Bool} {τ : D}
theorem Res.own {fp : List Addr} (h : Own K Em H' v d fp) (n : ∀ a ∈ fp, H a = none) : Res K B T H H' v d true := by
  unfold Res; rw [if_pos rfl]; exact ⟨fp, h, n⟩
theorem Res.lent {fp : List Addr} (h : Own K B H' v d fp) (n : ∀ a ∈ fp, a ∉ T) : Res K B T H H' v d false := by
  unfold Res; rw [if_neg Bool.false_ne_true]; exact ⟨fp, h, n⟩
theorem Res.out (h : Res K B T H H' v d true) : ∃ fp, Own K Em H' v d fp ∧ ∀ a ∈ fp, H a = none := by
  unfold Res at h; rw [if_pos rfl] at h; exact h
theorem Res.read (h : Res K B T H H' v d o) (t : Tp K H T τ) : ∃ fp, Own K B H' v d fp ∧ ∀ a ∈ fp, a ∉ T := by
  cases o with
  | false => unfold Res at h; rw [if_neg Bool.false_ne_true] at h; exact h
  | true =>
    obtain ⟨fp, h1, h2⟩ := h.out
    refine ⟨fp, h1.base same_em, fun a ha z => ?_⟩
    obtain ⟨q, e, _⟩ := t.tracked a z
    rw [h2 a ha] at e; cases e
/-- what is known of a datum by its kind -/
theorem Res.of_read {fp : List Addr} (h : Own K B H' v d fp) (n : ∀ a ∈ fp, a ∉ T) : Res K B T H H' v d (imm d) := by
  cases e : imm d with
  | false => exact .lent h n
  | true =>
    obtain ⟨e1, h1⟩ := h.imm e
    exact .own h1 fun _ z => nomatch z
theorem Res.step (h : Res K B T H H1 v d o) (t : Tp K H T τ) (f0 : FrT T H H1) {τ1 : D} (t1 : Tp K H1 T τ1) (f : FrT T H1 H2) : Res K B T H H2 v d o := by
  cases o with
  | false =>
    unfold Res at h ⊢; rw [if_neg Bool.false_ne_true] at h ⊢
    obtain ⟨fp, h1, h2⟩ := h
    exact ⟨fp, h1.mv (t1.stay f) (keep_of f h1.tracked h2), h2⟩
  | true =>
    obtain ⟨fp, h1, h2⟩ := h.out
    refine .own (h1.mv (t1.stay f) (keep_of f h1.tracked fun a ha z => ?_)) h2
    obtain ⟨q, e, _⟩ := t.tracked a z
    rw [h2 a ha] at e; cases e
/-- new behind H1 is new behind H -/
theorem Res.later (h : Res K B T H1 H2 v d o) (t : Tp K H T τ) (f0 : FrT T H H1) {τ1 : D} (t1 : Tp K H1 T τ1) : Res K B T H H2 v d o := by
  cases o with
  | false =>
    unfold Res at h ⊢; rw [if_neg Bool.false_ne_true] at h ⊢; exact h
  | true =>
    obtain ⟨fp, h1, h2⟩ := h.out
    refine .own h1 fun a ha => ?_
    cases e : H a with
    | none => rfl
    | some q =>
      by_cases z : a ∈ T
      · obtain ⟨q', e', _⟩ := t1.tracked a z
        rw [h2 a ha] at e'; cases e'
      · have := f0 a q e z
        rw [h2 a ha] at this; cases this
end

/-! ### the triples -/
section
variable (X : Cx) (B : Hp) (T : List Addr) (ρ : List Sl) (τ : D)
def ET (e : Expr) (Ψ : D → D → Bool → Prop) : Prop := ∀ σ H fps, Env X.K B T H σ ρ τ fps → wpE X e σ H fun v H' => ∃ τ' d o, Ψ τ' d o ∧ Tp X.K H' T τ' ∧ FrT T H H' ∧ Res X.K B T H H' v d o
def TT' (e : Expr) (Ψ : D → Bool → Prop) : Prop := ∀ σ H fps, Env X.K B T H σ ρ τ fps → wpT X e σ H fun b H' => ∃ τ', Ψ τ' b ∧ Tp X.K H' T τ' ∧ FrT T H H'
def TW (e : Expr) (Ψ : D → Bool → Prop) : Prop := ∀ σ H fps, Env X.K B T H σ ρ τ fps → wpW X e σ H fun b H' => ∃ τ', Ψ τ' b ∧ Tp X.K H' T τ' ∧ FrT T H H'
end
/-- the values of an argument list -/
inductive RsAll (K : FK) (B : Hp) (T : List Addr) (H H' : Hp) : List V → List D → List Bool → Prop
  | nil : RsAll K B T H H' [] [] []
  | cons {v : V} {vs : List V} {d : D} {ds : List D} {o : Bool} {os : List Bool} : Res K B T H H' v d o → RsAll K B T H H' vs ds os → RsAll K B T H H' (v :: vs) (d :: ds) (o :: os)
end DL
/-! DL, part 3: expressions. -/
namespace DL
open PySem PySem.Spec L2

section
variable {X : Cx} {B : Hp} {T : List Addr} {ρ : List Sl} {τ : D}

/-- read: something that v stands for, nothing of the tape's -/
def Rd1 (K : FK) (B : Hp) (T : List Addr) (H : Hp) (v : V) (d : D) : Prop := ∃ fp, Own K B H v d fp ∧ ∀ a ∈ fp, a ∉ T
theorem ET.imp {e : Expr} {Ψ Ψ' : D → D → Bool → Prop} (h : ET X B T ρ τ e Ψ) (k : ∀ t d o, Ψ t d o → Ψ' t d o) : ET X B T ρ τ e Ψ' := fun σ H fps E =>
  (h σ H fps E).imp fun v H' ⟨t, d, o, q, r⟩ => ⟨t, d, o, k _ _ _ q, r⟩
theorem TT'.imp {e : Expr} {Ψ Ψ' : D → Bool → Prop} (h : TT' X B T ρ τ e Ψ) (k : ∀ t b, Ψ t b → Ψ' t b) : TT' X B T ρ τ e Ψ' := fun σ H fps E =>
  (h σ H fps E).imp fun v H' ⟨t, q, r⟩ => ⟨t, k _ _ q, r⟩

/-! ### names, constants -/
def rdS : Sl → Option D
  | .v d _ => some d
  | .arg d => some d
  | .bor d => some d
  | _ => none
theorem SlR.read {K : FK} {H : Hp} {x : Option V} {s : Sl} {fp : List Addr} {d : D} (h : SlR K B T H x s fp) (e : rdS s = some d) : ∃ v, x = some v ∧ Rd1 K B T H v d := by
  cases h with
  | any => cases e
  | v o n a => cases e; exact ⟨_, rfl, _, o.base same_em, n⟩
  | arg o => cases e; exact ⟨_, rfl, _, o, fun _ z => nomatch z⟩
  | bor o n => cases e; exact ⟨_, rfl, _, o, n⟩
  | tp e => cases e
  | scr q => cases e
theorem e_name (i : Nat) {x : Str} {pos : Pos} {d : D} {Ψ : D → D → Bool → Prop} (hρ : (ρ[i]?).bind rdS = some d) (h : Ψ τ d (imm d)) (hN : X.N[i]? = some x := by rfl)
    (hv : Vis X.env.scope x := by first | exact Or.inl rfl | exact Or.inr (Or.inl rfl) | exact Or.inr (Or.inr rfl)) (hd : (x == ("__debug__" : Str)) = false := by decide) (hcd : (x == ("__classdict__" : Str)) = false := by decide) :
    ET X B T ρ τ (.Name x pos) Ψ := fun σ H fps E => by
  obtain ⟨s, e1, e2⟩ := Option.bind_eq_some_iff.mp hρ
  obtain ⟨y, fp, h1, h2, h3⟩ := E.rel.get e1
  obtain ⟨v, rfl, fq, o, n⟩ := h3.read e2
  exact wp_pe (pe_var hN hv hd hcd) ⟨v, h1, τ, d, _, h, E.tt, FrT.refl _ _, .of_read o n⟩
theorem e_int {i : Int} {j pos} {Ψ : D → D → Bool → Prop} (h : Ψ τ (.int i) true) : ET X B T ρ τ (.Constant (.int i) j pos) Ψ := fun σ H fps E =>
  wp_pe pe_int ⟨τ, _, _, h, E.tt, FrT.refl _ _, .own (.int i) fun _ z => nomatch z⟩
theorem e_bl {i : Bool} {j pos} {Ψ : D → D → Bool → Prop} (h : Ψ τ (.bool i) true) : ET X B T ρ τ (.Constant (.bool i) j pos) Ψ := fun σ H fps E =>
  wp_pe pe_bl ⟨τ, _, _, h, E.tt, FrT.refl _ _, .own (.bl i) fun _ z => nomatch z⟩
theorem e_non {j pos} {Ψ : D → D → Bool → Prop} (h : Ψ τ .none true) : ET X B T ρ τ (.Constant .none j pos) Ψ := fun σ H fps E =>
  wp_pe pe_non ⟨τ, _, _, h, E.tt, FrT.refl _ _, .own .non fun _ z => nomatch z⟩
theorem e_str {x : Str} {j pos} {Ψ : D → D → Bool → Prop} (h : Ψ τ (.str x) true) : ET X B T ρ τ (.Constant (.str x) j pos) Ψ := fun σ H fps E =>
  wp_pe pe_str ⟨τ, _, _, h, E.tt, FrT.refl _ _, .own (.str x) fun _ z => nomatch z⟩
/-- a number of the module -/
theorem e_globI {i : Int} {t : Tok} {x : Str} {pos : Pos} {Ψ : D → D → Bool → Prop} (hm : X.mg x = some (.int i t)) (h : Ψ τ (.int i) true) (hg : Gl X x := by rfl) (hd : (x == ("__debug__" : Str)) = false := by decide) : ET X B T ρ τ (.Name x pos) Ψ := fun σ H fps E =>
  wp_pe (pe_glob hg hm (v := .int i) ⟨_, rfl⟩ hd) ⟨τ, _, _, h, E.tt, FrT.refl _ _, .own (.int i) fun _ z => nomatch z⟩

/-! ### operators -/
/-- what an operator gives, by data -/
def Op2 (K : FK) (B : Hp) (T : List Addr) (r : R2) (x y : D) (k : D → Bool → Prop) : Prop := ∀ H v w (Q : VK), Same B H → Rd1 K B T H v x → Rd1 K B T H w y →
  (∀ d o z H', k d o → Same H H' → Res K B T H H' z d o → Q z H') → r v w H Q
def Op1 (K : FK) (B : Hp) (T : List Addr) (r : V → Hp → VK → Prop) (x : D) (k : D → Bool → Prop) : Prop := ∀ H v (Q : VK), Same B H → Rd1 K B T H v x →
  (∀ d o z H', k d o → Same H H' → Res K B T H H' z d o → Q z H') → r v H Q
theorem Op2.inl {K : FK} {r r' : R2} {x y : D} {k : D → Bool → Prop} (h : Op2 K B T r x y k) : Op2 K B T (fun x y H Q => r x y H Q ∨ r' x y H Q) x y k := fun H v w Q b h1 h2 h3 => .inl (h H v w Q b h1 h2 h3)
theorem Op2.inr {K : FK} {r r' : R2} {x y : D} {k : D → Bool → Prop} (h : Op2 K B T r' x y k) : Op2 K B T (fun x y H Q => r x y H Q ∨ r' x y H Q) x y k := fun H v w Q b h1 h2 h3 => .inr (h H v w Q b h1 h2 h3)
section
variable {a b c : Expr} {pos : Pos} {Ψ : D → D → Bool → Prop}
/-- two expressions in a row -/
theorem two_go {r : R2} {σ : L2.St} {H : Hp} {fps : List (List Addr)} (E : Env X.K B T H σ ρ τ fps) {Φ : D → D → Bool → Prop} {Q : VK}
    (h : ET X B T ρ τ a fun τ1 x _ => ET X B T ρ τ1 b fun τ2 y _ => Op2 X.K B T r x y (Φ τ2))
    (k : ∀ τ2 d o z H2 H3, Φ τ2 d o → Tp X.K H2 T τ2 → FrT T H H2 → Same H2 H3 → Res X.K B T H2 H3 z d o → Q z H3) : tOp r (wpE X a) (wpE X b) σ H Q := by
  refine (h σ H fps E).imp fun v H1 ⟨τ1, x, o1, h1, t1, f1, r1⟩ => ?_
  have E1 := E.step f1 t1
  refine (h1 σ H1 fps E1).imp fun w H2 ⟨τ2, y, o2, h2, t2, f2, r2⟩ => ?_
  have E2 := E1.step f2 t2
  exact h2 H2 v w _ E2.base ((r1.step E.tt f1 t1 f2).read E.tt) (r2.read t1) fun d o z H' hk hs hr => k τ2 d o z H2 H' hk t2 (f1.trans f2) hs hr
theorem e_op2 {op : Operator} {r : R2} (ho : OpR X (binaryOp op) r) (h : ET X B T ρ τ a fun τ1 x _ => ET X B T ρ τ1 b fun τ2 y _ => Op2 X.K B T r x y (Ψ τ2)) : ET X B T ρ τ (.BinOp a op b pos) Ψ := fun σ H fps E =>
  wp_pe (pe_op ho pe_wp pe_wp) (two_go E h fun τ2 d o z H2 H3 hk t2 f hs hr => ⟨τ2, d, o, hk, t2.same hs, f.trans (FrT.of_same hs), hr.later E.tt f t2⟩)
theorem e_cmp {op : CmpOp} {r : R2} (ho : OpR X (compareOp op) r) (h : ET X B T ρ τ a fun τ1 x _ => ET X B T ρ τ1 b fun τ2 y _ => Op2 X.K B T r x y (Ψ τ2)) (hm : behindInMarks op b = false := by first | exact nomark _ | rfl) : ET X B T ρ τ (.Compare a [op] [b] pos) Ψ := fun σ H fps E =>
  wp_pe (pe_cmpR ho pe_wp pe_wp hm) (two_go E h fun τ2 d o z H2 H3 hk t2 f hs hr => ⟨τ2, d, o, hk, t2.same hs, f.trans (FrT.of_same hs), hr.later E.tt f t2⟩)
theorem e_ix {r : R2} (ho : IxR X r) (h : ET X B T ρ τ a fun τ1 x _ => ET X B T ρ τ1 b fun τ2 y _ => Op2 X.K B T r x y (Ψ τ2)) (hs : PlainIx b := by exact fun _ _ => rfl) : ET X B T ρ τ (.Subscript a b pos) Ψ := fun σ H fps E =>
  wp_pe (pe_ix ho pe_wp pe_wp hs) (two_go E h fun τ2 d o z H2 H3 hk t2 f hs hr => ⟨τ2, d, o, hk, t2.same hs, f.trans (FrT.of_same hs), hr.later E.tt f t2⟩)
theorem e_op1 {op : UnaryOp} {r : V → Hp → VK → Prop} (ho : UnR X (unaryOp op) r) (h : ET X B T ρ τ a fun τ1 x _ => Op1 X.K B T r x (Ψ τ1)) : ET X B T ρ τ (.UnaryOp op a pos) Ψ := fun σ H fps E =>
  wp_pe (pe_un ho pe_wp) ((h σ H fps E).imp fun v H1 ⟨τ1, x, o1, h1, t1, f1, r1⟩ =>
    h1 H1 v _ (E.step f1 t1).base (r1.read E.tt) fun d o z H' hk hs hr => ⟨τ1, d, o, hk, t1.same hs, f1.trans (FrT.of_same hs), hr.later E.tt f1 t1⟩)
/-- the result is a bool -/
def AsB (k : Bool → Prop) : D → Bool → Prop := fun d _ => ∃ c, d = .bool c ∧ k c
theorem AsB.mk {k : Bool → Prop} {c o : Bool} (h : k c) : AsB k (.bool c) o := ⟨c, rfl, h⟩
theorem Res.bl {K : FK} {H H' : Hp} {z : V} {c o : Bool} {t : D} (h : Res K B T H H' z (.bool c) o) (tt : Tp K H T t) : z = .bl c := by
  obtain ⟨fp, q, _⟩ := h.read tt
  exact q.bool_inv.1
theorem t_cmp {op : CmpOp} {r : R2} {Ψ : D → Bool → Prop} (ho : OpR X (compareOp op) r) (h : ET X B T ρ τ a fun τ1 x _ => ET X B T ρ τ1 b fun τ2 y _ => Op2 X.K B T r x y (AsB (Ψ τ2))) (hm : behindInMarks op b = false := by first | exact nomark _ | rfl) : TT' X B T ρ τ (.Compare a [op] [b] pos) Ψ := fun σ H fps E =>
  wp_pt (pt_cmpR ho pe_wp pe_wp hm) (two_go (Φ := fun t d o => AsB (Ψ t) d o) E h fun τ2 d o z H2 H3 ⟨c, e, hk⟩ t2 f hs hr => by
    subst e
    exact ⟨c, hr.bl t2, τ2, hk, t2.same hs, f.trans (FrT.of_same hs)⟩)
theorem chain_go {r r' : R2} {σ : L2.St} {H : Hp} {fps : List (List Addr)} (E : Env X.K B T H σ ρ τ fps) {Φ : D → D → Bool → Prop} {Q : VK}
    (h : ET X B T ρ τ a fun τ1 x _ => ET X B T ρ τ1 b fun τ2 y _ => Op2 X.K B T r x y (AsB fun c1 =>
      if c1 = true then ET X B T ρ τ2 c fun τ3 z _ => Op2 X.K B T r' y z (Φ τ3) else Φ τ2 (.bool false) true))
    (k : ∀ τ2 d o z H2 H3, Φ τ2 d o → Tp X.K H2 T τ2 → FrT T H H2 → Same H2 H3 → Res X.K B T H2 H3 z d o → Q z H3) : tChain r r' (wpE X a) (wpE X b) (wpE X c) σ H Q := by
  refine (h σ H fps E).imp fun v H1 ⟨τ1, x, o1, h1, t1, f1, r1⟩ => ?_
  have E1 := E.step f1 t1
  refine (h1 σ H1 fps E1).imp fun w H2 ⟨τ2, y, o2, h2, t2, f2, r2⟩ => ?_
  have E2 := E1.step f2 t2
  refine h2 H2 v w _ E2.base ((r1.step E.tt f1 t1 f2).read E.tt) (r2.read t1) fun d o z H3 ⟨c1, e, hk⟩ hs hr => ?_
  subst e
  refine ⟨c1, hr.bl t2, ?_⟩
  have t3 := t2.same hs
  have f3 := (f1.trans f2).trans (FrT.of_same hs)
  cases c1 with
  | false =>
    rw [if_neg Bool.false_ne_true] at hk ⊢
    exact k τ2 _ true (.bl false) H3 H3 hk t3 f3 (Same.refl _) (.own (.bl false) fun _ z => nomatch z)
  | true =>
    rw [if_pos rfl] at hk ⊢
    have E3 := E2.same hs
    refine (hk σ H3 fps E3).imp fun u H4 ⟨τ3, z3, o3, h3, t4, f4, r3⟩ => ?_
    refine h3 H4 w u _ (E3.step f4 t4).base (((r2.step t1 f2 t2 (FrT.of_same hs)).step t1 (f2.trans (FrT.of_same hs)) t3 f4).read t1) (r3.read t3) fun d o z' H5 hk' hs' hr' => ?_
    exact k τ3 d o z' H4 H5 hk' t4 (f3.trans f4) hs' hr'
theorem e_chain {op op' : CmpOp} {r r' : R2} (ho : OpR X (compareOp op) r) (ho' : OpR X (compareOp op') r')
    (h : ET X B T ρ τ a fun τ1 x _ => ET X B T ρ τ1 b fun τ2 y _ => Op2 X.K B T r x y (AsB fun c1 =>
      if c1 = true then ET X B T ρ τ2 c fun τ3 z _ => Op2 X.K B T r' y z (Ψ τ3) else Ψ τ2 (.bool false) true))
    (hm : lastMarks [op, op'] [b, c] = false := by with_unfolding_all rfl) : ET X B T ρ τ (.Compare a [op, op'] [b, c] pos) Ψ := fun σ H fps E =>
  wp_pe (pe_chain ho ho' pe_wp pe_wp pe_wp hm) (chain_go E h fun τ2 d o z H2 H3 hk t2 f hs hr => ⟨τ2, d, o, hk, t2.same hs, f.trans (FrT.of_same hs), hr.later E.tt f t2⟩)
theorem t_chain {op op' : CmpOp} {r r' : R2} {Ψ : D → Bool → Prop} (ho : OpR X (compareOp op) r) (ho' : OpR X (compareOp op') r')
    (h : ET X B T ρ τ a fun τ1 x _ => ET X B T ρ τ1 b fun τ2 y _ => Op2 X.K B T r x y (AsB fun c1 =>
      if c1 = true then ET X B T ρ τ2 c fun τ3 z _ => Op2 X.K B T r' y z (AsB (Ψ τ3)) else Ψ τ2 false))
    (hm : lastMarks [op, op'] [b, c] = false := by with_unfolding_all rfl) : TT' X B T ρ τ (.Compare a [op, op'] [b, c] pos) Ψ := fun σ H fps E => by
  refine wp_pt (pt_chain ho ho' pe_wp pe_wp pe_wp hm) (chain_go (Φ := fun t d o => AsB (Ψ t) d o) E (h.imp fun τ1 x _ h1 => h1.imp fun τ2 y _ h2 H v w Q b1 h3 h4 k => h2 H v w Q b1 h3 h4 fun d o z H' ⟨c1, e, q⟩ hs hr => k d o z H' ⟨c1, e, ?_⟩ hs hr) fun τ2 d o z H2 H3 ⟨c, e, hk⟩ t2 f hs hr => by
    subst e
    exact ⟨c, hr.bl t2, τ2, hk, t2.same hs, f.trans (FrT.of_same hs)⟩)
  cases c1 with
  | true => rw [if_pos rfl] at q ⊢; exact q
  | false => rw [if_neg Bool.false_ne_true] at q ⊢; exact ⟨false, rfl, q⟩
end

/-! ### tests -/
section
variable {a b c : Expr} {pos : Pos} {rest : List Expr}
/-- a test that is a value's -/
theorem t_val {Ψ : D → Bool → Prop} (h : ET X B T ρ τ a fun τ1 d o => AsB (Ψ τ1) d o) (he : ∀ whole, isTrue a X.env whole = (do let v ← whole; standAt a.pos; holding [v] (truthy v)) := by intro _; rfl) : TT' X B T ρ τ a Ψ := fun σ H fps E =>
  wp_pt (pt_val pe_wp he) ((h σ H fps E).imp fun v H1 ⟨τ1, d, o, ⟨c, e, hk⟩, t1, f1, r1⟩ => by
    subst e
    exact ⟨c, r1.bl E.tt, τ1, hk, t1, f1⟩)
/-- .. by its truth: lists, tuples, ints, None -/
def truD : D → Option Bool
  | .none => some false
  | .bool b => some b
  | .int i => some (i != 0)
  | .list xs => some (!xs.isEmpty)
  | .tuple xs => some (!xs.isEmpty)
  | .dict kvs => some (!kvs.isEmpty)
  | .str _ => none
theorem isEmpty_len {α β : Type} {xs : List α} {ys : List β} (h : xs.length = ys.length) : xs.isEmpty = ys.isEmpty := by
  cases xs <;> cases ys <;> first | rfl | simp at h
theorem t_truth {Ψ : D → Bool → Prop} (h : ET X B T ρ τ a fun τ1 d _ => ∃ k, truD d = some k ∧ (∀ kvs, d ≠ .dict kvs) ∧ Ψ τ1 k) (he : ∀ whole, isTrue a X.env whole = (do let v ← whole; standAt a.pos; holding [v] (truthy v)) := by intro _; rfl) : TT' X B T ρ τ a Ψ := fun σ H fps E =>
  wp_pt (pt_truth pe_wp he) ((h σ H fps E).imp fun v H1 ⟨τ1, d, o, ⟨k, e, nd, hk⟩, t1, f1, r1⟩ => by
    obtain ⟨fp, q, _⟩ := r1.read E.tt
    have hb := (E.step f1 t1).base
    refine ⟨k, ?_, τ1, hk, t1, f1⟩
    cases q with
    | non => cases e; rfl
    | bl b => cases e; rfl
    | int i => cases e; rfl
    | str x => cases e
    | tup s t => cases e; exact .inr (.inl ⟨_, s, by rw [isEmpty_len t.length]⟩)
    | lstB s t => cases e; exact .inl ⟨_, .inl (.inl (hb _ _ s)), by rw [isEmpty_len t.length]⟩
    | lst s t n => cases e; exact .inl ⟨_, .inl (.inl s), by rw [isEmpty_len t.length]⟩
    | dctB _ _ _ _ => exact absurd rfl (nd _)
    | dct _ _ _ _ _ => exact absurd rfl (nd _))
theorem t_not {Ψ : D → Bool → Prop} (h : TT' X B T ρ τ a fun τ1 c => Ψ τ1 (!c)) : TT' X B T ρ τ (.UnaryOp .Not a pos) Ψ := fun σ H fps E =>
  wp_pt (pt_not pt_wp) ((h σ H fps E).imp fun c H1 ⟨τ1, hk, r⟩ => ⟨τ1, hk, r⟩)
theorem w_and1 {Ψ : D → Bool → Prop} (h : TT' X B T ρ τ a Ψ) : TW X B T ρ τ (.BoolOp .And [a] pos) Ψ := fun σ H fps E => wp_pw (pw_and1 pt_wp) (h σ H fps E)
theorem w_or1 {Ψ : D → Bool → Prop} (h : TT' X B T ρ τ a Ψ) : TW X B T ρ τ (.BoolOp .Or [a] pos) Ψ := fun σ H fps E => wp_pw (pw_or1 pt_wp) (h σ H fps E)
theorem w_and {Ψ : D → Bool → Prop} (h : TT' X B T ρ τ a fun τ1 c => if c = true then TW X B T ρ τ1 (.BoolOp .And (b :: rest) pos) Ψ else Ψ τ1 false) : TW X B T ρ τ (.BoolOp .And (a :: b :: rest) pos) Ψ := fun σ H fps E =>
  wp_pw (pw_and pt_wp pw_wp) ((h σ H fps E).imp fun c H1 ⟨τ1, hk, t1, f1⟩ => by
    cases c with
    | false => rw [if_neg Bool.false_ne_true] at hk ⊢; exact ⟨τ1, hk, t1, f1⟩
    | true =>
      rw [if_pos rfl] at hk ⊢
      exact (hk σ H1 fps (E.step f1 t1)).imp fun c2 H2 ⟨τ2, hk2, t2, f2⟩ => ⟨τ2, hk2, t2, f1.trans f2⟩)
theorem w_or {Ψ : D → Bool → Prop} (h : TT' X B T ρ τ a fun τ1 c => if c = true then Ψ τ1 true else TW X B T ρ τ1 (.BoolOp .Or (b :: rest) pos) Ψ) : TW X B T ρ τ (.BoolOp .Or (a :: b :: rest) pos) Ψ := fun σ H fps E =>
  wp_pw (pw_or pt_wp pw_wp) ((h σ H fps E).imp fun c H1 ⟨τ1, hk, t1, f1⟩ => by
    cases c with
    | true => rw [if_pos rfl] at hk ⊢; exact ⟨τ1, hk, t1, f1⟩
    | false =>
      rw [if_neg Bool.false_ne_true] at hk ⊢
      exact (hk σ H1 fps (E.step f1 t1)).imp fun c2 H2 ⟨τ2, hk2, t2, f2⟩ => ⟨τ2, hk2, t2, f1.trans f2⟩)
theorem t_w {Ψ : D → Bool → Prop} {e : Expr} (h : TW X B T ρ τ e Ψ) : TT' X B T ρ τ e Ψ := fun σ H fps E => wp_pt (PW.pt pw_wp) (h σ H fps E)
/-- and, or, not as values (bools) -/
theorem e_and1 {op : BoolOp} {Ψ : D → D → Bool → Prop} (h : ET X B T ρ τ a Ψ) : ET X B T ρ τ (.BoolOp op [a] pos) Ψ := fun σ H fps E => wp_pe (pe_one pe_wp) (h σ H fps E)
theorem e_and {Ψ : D → D → Bool → Prop} (h : ET X B T ρ τ a fun τ1 d _ => AsB (fun c => if c = true then ET X B T ρ τ1 (.BoolOp .And (b :: rest) pos) Ψ else Ψ τ1 (.bool false) true) d true) : ET X B T ρ τ (.BoolOp .And (a :: b :: rest) pos) Ψ := fun σ H fps E =>
  wp_pe (pe_and pe_wp pe_wp) ((h σ H fps E).imp fun v H1 ⟨τ1, d, o, ⟨c, e, hk⟩, t1, f1, r1⟩ => by
    subst e
    refine ⟨c, r1.bl E.tt, ?_⟩
    cases c with
    | false => rw [if_neg Bool.false_ne_true] at hk ⊢; exact ⟨τ1, _, _, hk, t1, f1, .own (.bl false) fun _ z => nomatch z⟩
    | true =>
      rw [if_pos rfl] at hk ⊢
      exact (hk σ H1 fps (E.step f1 t1)).imp fun z H2 ⟨τ2, d2, o2, hk2, t2, f2, r2⟩ => ⟨τ2, d2, o2, hk2, t2, f1.trans f2, r2.later E.tt f1 t1⟩)
theorem e_or {Ψ : D → D → Bool → Prop} (h : ET X B T ρ τ a fun τ1 d _ => AsB (fun c => if c = true then Ψ τ1 (.bool true) true else ET X B T ρ τ1 (.BoolOp .Or (b :: rest) pos) Ψ) d true) : ET X B T ρ τ (.BoolOp .Or (a :: b :: rest) pos) Ψ := fun σ H fps E =>
  wp_pe (pe_or pe_wp pe_wp) ((h σ H fps E).imp fun v H1 ⟨τ1, d, o, ⟨c, e, hk⟩, t1, f1, r1⟩ => by
    subst e
    refine ⟨c, r1.bl E.tt, ?_⟩
    cases c with
    | true => rw [if_pos rfl] at hk ⊢; exact ⟨τ1, _, _, hk, t1, f1, .own (.bl true) fun _ z => nomatch z⟩
    | false =>
      rw [if_neg Bool.false_ne_true] at hk ⊢
      exact (hk σ H1 fps (E.step f1 t1)).imp fun z H2 ⟨τ2, d2, o2, hk2, t2, f2, r2⟩ => ⟨τ2, d2, o2, hk2, t2, f1.trans f2, r2.later E.tt f1 t1⟩)
theorem e_not {Ψ : D → D → Bool → Prop} (h : ET X B T ρ τ a fun τ1 d _ => AsB (fun c => Ψ τ1 (.bool (!c)) true) d true) : ET X B T ρ τ (.UnaryOp .Not a pos) Ψ := fun σ H fps E =>
  wp_pe (pe_not pe_wp) ((h σ H fps E).imp fun v H1 ⟨τ1, d, o, ⟨c, e, hk⟩, t1, f1, r1⟩ => by
    subst e
    exact ⟨c, r1.bl E.tt, τ1, _, _, hk, t1, f1, .own (.bl (!c)) fun _ z => nomatch z⟩)
theorem e_if {t : Expr} {Ψ : D → D → Bool → Prop} (h : TT' X B T ρ τ t fun τ1 c => if c = true then ET X B T ρ τ1 a Ψ else ET X B T ρ τ1 b Ψ) : ET X B T ρ τ (.IfExp t a b pos) Ψ := fun σ H fps E =>
  wp_pe (pe_ifExp pt_wp pe_wp pe_wp) ((h σ H fps E).imp fun c H1 ⟨τ1, hk, t1, f1⟩ => by
    cases c with
    | true =>
      rw [if_pos rfl] at hk ⊢
      exact (hk σ H1 fps (E.step f1 t1)).imp fun z H2 ⟨τ2, d2, o2, hk2, t2, f2, r2⟩ => ⟨τ2, d2, o2, hk2, t2, f1.trans f2, r2.later E.tt f1 t1⟩
    | false =>
      rw [if_neg Bool.false_ne_true] at hk ⊢
      exact (hk σ H1 fps (E.step f1 t1)).imp fun z H2 ⟨τ2, d2, o2, hk2, t2, f2, r2⟩ => ⟨τ2, d2, o2, hk2, t2, f1.trans f2, r2.later E.tt f1 t1⟩)
/-- a value's rule where the test is of a value -/
theorem e_tv {e : Expr} {Ψ : D → D → Bool → Prop} (h : TT' X B T ρ τ e fun τ1 c => Ψ τ1 (.bool c) true)
    (k : ∀ t : TT, PT X e t → PE X e (fun σ H Q => t σ H fun c H' => Q (.bl c) H')) : ET X B T ρ τ e Ψ := fun σ H fps E =>
  wp_pe (k _ pt_wp) ((h σ H fps E).imp fun c H1 ⟨τ1, hk, t1, f1⟩ => ⟨τ1, _, _, hk, t1, f1, .own (.bl c) fun _ z => nomatch z⟩)
end

/-! ### argument lists, displays -/
inductive RdAll (K : FK) (B : Hp) (T : List Addr) (H : Hp) : List V → List D → Prop
  | nil : RdAll K B T H [] []
  | cons {v : V} {vs : List V} {d : D} {ds : List D} : Rd1 K B T H v d → RdAll K B T H vs ds → RdAll K B T H (v :: vs) (d :: ds)
/-- the values of an argument list: each can be read; all new where all are -/
structure RsL (K : FK) (B : Hp) (T : List Addr) (H H' : Hp) (vs : List V) (ds : List D) (os : List Bool) : Prop where
  rd : RdAll K B T H' vs ds
  own : os.all id = true → ∃ fp, OwnAll K Em H' vs ds fp ∧ ∀ a ∈ fp, H a = none
def AT (X : Cx) (B : Hp) (T : List Addr) (ρ : List Sl) (τ : D) (es : List Expr) (Ψ : D → List D → List Bool → Prop) : Prop := ∀ σ H fps, Env X.K B T H σ ρ τ fps →
  wpA X es σ H fun vs H' => ∃ τ' ds os, Ψ τ' ds os ∧ Tp X.K H' T τ' ∧ FrT T H H' ∧ RsL X.K B T H H' vs ds os
theorem a_nil {Ψ : D → List D → List Bool → Prop} (h : Ψ τ [] []) : AT X B T ρ τ [] Ψ := fun σ H fps E =>
  wp_pa pa_nil ⟨τ, [], [], h, E.tt, FrT.refl _ _, .nil, fun _ => ⟨[], .nil, fun _ z => nomatch z⟩⟩
theorem a_cons {e : Expr} {es : List Expr} {Ψ : D → List D → List Bool → Prop} (h : ET X B T ρ τ e fun τ1 d o => AT X B T ρ τ1 es fun τ2 ds os => Ψ τ2 (d :: ds) (o :: os))
    (hs : starEach (e :: es) X.env = (false, eval e X.env) :: starEach es X.env := by rfl) : AT X B T ρ τ (e :: es) Ψ := fun σ H fps E =>
  wp_pa (pa_cons pe_wp pa_wp hs) ((h σ H fps E).imp fun v H1 ⟨τ1, d, o, h1, t1, f1, r1⟩ => (h1 σ H1 fps (E.step f1 t1)).imp fun vs H2 ⟨τ2, ds, os, h2, t2, f2, r2⟩ => by
    have r1' := r1.step E.tt f1 t1 f2
    refine ⟨τ2, d :: ds, o :: os, h2, t2, f1.trans f2, .cons (r1'.read E.tt) r2.rd, fun ho => ?_⟩
    rw [List.all_cons, Bool.and_eq_true] at ho
    obtain ⟨ho1, ho2⟩ := ho
    obtain rfl : o = true := ho1
    obtain ⟨fp, q1, n1⟩ := r1'.out
    obtain ⟨fp0, q0, n0⟩ := r1.out
    obtain ⟨fq, q2, n2⟩ := r2.own ho2
    obtain ⟨fp, q1, n1, k1⟩ : ∃ fp, Own X.K Em H2 v d fp ∧ (∀ a ∈ fp, H a = none) ∧ ∀ a ∈ fp, H1 a ≠ none := by
      refine ⟨fp0, q0.mv (t1.stay f2) (keep_of f2 q0.tracked fun a ha z => ?_), n0, fun a ha z => ?_⟩
      · obtain ⟨o', e', _⟩ := E.tt.tracked a z
        rw [n0 a ha] at e'; cases e'
      · obtain ⟨o', e', _⟩ := q0.tracked a ha
        rw [z] at e'; cases e'
    refine ⟨fp ++ fq, .cons q1 q2 fun a ha hb => k1 a ha (n2 a hb), fun a ha => ?_⟩
    rcases List.mem_append.mp ha with ha | ha
    · exact n1 a ha
    · cases e : H a with
      | none => rfl
      | some o' =>
        by_cases z : a ∈ T
        · obtain ⟨o2, e2, _⟩ := t1.tracked a z
          rw [n2 a ha] at e2; cases e2
        · have := f1 a o' e z
          rw [n2 a ha] at this; cases this)
theorem e_tup {es : List Expr} {x1} {pos : Pos} {Ψ : D → D → Bool → Prop} (h : AT X B T ρ τ es fun τ1 ds os => os.all id = true ∧ ds.length ≤ sizeLine ∧ Ψ τ1 (.tuple ds) true) : ET X B T ρ τ (.Tuple es x1 pos) Ψ := fun σ H fps E =>
  wp_pe (pe_tup pa_wp) ((h σ H fps E).imp fun vs H1 ⟨τ1, ds, os, ⟨ho, hl, hk⟩, t1, f1, r1⟩ => by
    obtain ⟨fp, q, n⟩ := r1.own ho
    refine ⟨by rw [q.length]; exact hl, fun p hp => ?_⟩
    have s := same_new (o := .tup vs) hp
    exact ⟨τ1, _, _, hk, t1.same s, f1.trans (FrT.of_same s), .own (.tup (.inl (.inl upd_same)) (q.mv (Stay.of_same s) fun a ha => by
      obtain ⟨o, e, _⟩ := q.tracked a ha
      rw [s a o e, e])) n⟩)
theorem e_lst {es : List Expr} {pos : Pos} {Ψ : D → D → Bool → Prop} (h : AT X B T ρ τ es fun τ1 ds os => os.all id = true ∧ ds.length ≤ sizeLine ∧ Ψ τ1 (.list ds) true) : ET X B T ρ τ (.List es pos) Ψ := fun σ H fps E =>
  wp_pe (pe_lst pa_wp) ((h σ H fps E).imp fun vs H1 ⟨τ1, ds, os, ⟨ho, hl, hk⟩, t1, f1, r1⟩ => by
    obtain ⟨fp, q, n⟩ := r1.own ho
    refine ⟨by rw [q.length]; exact hl, fun p hp => ?_⟩
    have s := same_new (o := .lst vs) hp
    have hn : p ∉ fp := fun z => by
      obtain ⟨o, e, _⟩ := q.tracked p z
      rw [hp] at e; cases e
    refine ⟨τ1, _, _, hk, t1.same s, f1.trans (FrT.of_same s), .own (.lst upd_same (q.mv (Stay.of_same s) fun a ha => by
      obtain ⟨o, e, _⟩ := q.tracked a ha
      rw [s a o e, e]) hn) fun a ha => ?_⟩
    rcases List.mem_cons.mp ha with rfl | ha
    · cases e : H a with
      | none => rfl
      | some o' =>
        by_cases z : a ∈ T
        · obtain ⟨o2, e2, _⟩ := t1.tracked a z
          rw [hp] at e2; cases e2
        · have := f1 a o' e z
          rw [hp] at this; cases this
    · exact n a ha)
end
end DL
/-! DL, part 4: calls of built-ins, of defs; slices. -/
namespace DL
open PySem PySem.Spec L2

section
variable {X : Cx} {B : Hp} {T : List Addr} {ρ : List Sl} {τ : D}

/-- what a built-in gives, by data -/
def Cl (K : FK) (B : Hp) (T : List Addr) (r : List V → Hp → VK → Prop) (ds : List D) (k : D → Bool → Prop) : Prop := ∀ H vs (Q : VK), Same B H → RdAll K B T H vs ds →
  (∀ d o z H', k d o → Same H H' → Res K B T H H' z d o → Q z H') → r vs H Q
theorem Cl.inl {K : FK} {r r' : List V → Hp → VK → Prop} {ds : List D} {k : D → Bool → Prop} (h : Cl K B T r ds k) : Cl K B T (fun xs H Q => r xs H Q ∨ r' xs H Q) ds k := fun H vs Q b h1 h3 => .inl (h H vs Q b h1 h3)
theorem Cl.inr {K : FK} {r r' : List V → Hp → VK → Prop} {ds : List D} {k : D → Bool → Prop} (h : Cl K B T r' ds k) : Cl K B T (fun xs H Q => r xs H Q ∨ r' xs H Q) ds k := fun H vs Q b h1 h3 => .inr (h H vs Q b h1 h3)
section
variable {e : Expr} {es : List Expr} {x : Str} {p pos : Pos} {id Ty : String} {r : List V → Hp → VK → Prop} {Ψ : D → D → Bool → Prop}
theorem e_callB (hc : CallR X (.builtin id) r) (hm : X.mg x = none) (hv : bootBuiltins x = some (.builtin id)) (h : AT X B T ρ τ (e :: es) fun τ1 ds _ => Cl X.K B T r ds (Ψ τ1)) (hg : Gl X x := by rfl) (hn : x ≠ "__name__" := by decide) (hdb : (x == ("__debug__" : Str)) = false := by decide)
    (he : starEach (e :: es) X.env = (false, eval e X.env) :: starEach es X.env := by rfl) (hpl : (backTo pos (starEach es X.env)).any (·.1) = false := by rfl) : ET X B T ρ τ (.Call (.Name x p) (e :: es) [] pos) Ψ := fun σ H fps E =>
  wp_pe (pe_callB hc hg hm hv pa_wp hn hdb he hpl) ((h σ H fps E).imp fun vs H1 ⟨τ1, ds, os, h1, t1, f1, r1⟩ =>
    h1 H1 vs _ (E.step f1 t1).base r1.rd fun d o z H' hk hs hr => ⟨τ1, d, o, hk, t1.same hs, f1.trans (FrT.of_same hs), hr.later E.tt f1 t1⟩)
theorem e_callTy (hc : CallR X (.type Ty) r) (hm : X.mg x = none) (hv : bootBuiltins x = some (.type Ty)) (h : AT X B T ρ τ (e :: es) fun τ1 ds _ => Cl X.K B T r ds (Ψ τ1)) (hg : Gl X x := by rfl) (hn : x ≠ "__name__" := by decide) (hdb : (x == ("__debug__" : Str)) = false := by decide)
    (he : starEach (e :: es) X.env = (false, eval e X.env) :: starEach es X.env := by rfl) (hpl : (backTo pos (starEach es X.env)).any (·.1) = false := by rfl) : ET X B T ρ τ (.Call (.Name x p) (e :: es) [] pos) Ψ := fun σ H fps E =>
  wp_pe (pe_callTy hc hg hm hv pa_wp hn hdb he hpl) ((h σ H fps E).imp fun vs H1 ⟨τ1, ds, os, h1, t1, f1, r1⟩ =>
    h1 H1 vs _ (E.step f1 t1).base r1.rd fun d o z H' hk hs hr => ⟨τ1, d, o, hk, t1.same hs, f1.trans (FrT.of_same hs), hr.later E.tt f1 t1⟩)
end

/-! ### what a def promises, by data -/
/-- what a def does, by data: its arguments, what is then known of its result -/
abbrev SF := List D → (D → Prop) → Prop
/-- with a tape: the tape ahead, the arguments, what is known of the tape behind and of the result -/
abbrev SFT := D → List D → (D → D → Prop) → Prop
/-- a def without a tape: its arguments are data of the caller, its result is new -/
def spF (K : FK) (S : SF) : Sp := fun vs H Q _ => ∃ ds Ψ, OwnAll K H H vs ds [] ∧ S ds Ψ ∧ ∀ d v H' fp, Ψ d → Same H H' → Own K Em H' v d fp → (∀ a ∈ fp, H a = none) → Q v H'
/-- a def with a tape -/
def spT (K : FK) (S : SFT) : Sp := fun vs H Q _ => ∃ (a : Addr) (r : List Addr) (τ : D) (ws : List V) (ds : List D) (Ψ : D → D → Prop), S τ ds Ψ ∧ vs = .ref a :: ws ∧
  Own K Em H (.ref a) τ (a :: r) ∧ OwnAll K (hide (a :: r) H) H ws ds [] ∧
  ∀ τ' d v H' fp, Ψ τ' d → FrT (a :: r) H H' → Own K Em H' (.ref a) τ' (a :: r) → Own K Em H' v d fp → (∀ b ∈ fp, H b = none) → Q v H'
/-- a def as callers know it -/
structure Fx (P : Program) (w : World) (K : FK) (mg : Str → Option Value) (base : Heap) (k : Nat) (x : Str) (ps : List Str) (sp : Sp) : Prop where
  ex : ∃ f fd, FnOk P w K mg base CX0 k f fd ps sp ∧ mg x = some (.ref f) ∧ PySem.W.keepIn K (.ref f) = true ∧ Binds K fd ps []
theorem hide_nil {H : Hp} : hide [] H = H := by funext a; exact hide_some (by simp)
theorem RdAll.whole {K : FK} {H : Hp} (hb : Same B H) (hT : ∀ a ∈ T, B a = none) : ∀ {vs : List V} {ds : List D}, RdAll K B T H vs ds → OwnAll K (hide T H) H vs ds []
  | _, _, .nil => .nil
  | _, _, .cons ⟨fp, h, n⟩ t => by
    have hb' : Same B (hide T H) := fun a o e => by
      by_cases z : a ∈ T
      · rw [hT a z] at e; cases e
      · rw [hide_some z]; exact hb a o e
    exact .cons (h.rebase hb' n) (RdAll.whole hb hT t) fun _ z => nomatch z
theorem RdAll.whole0 {K : FK} {H : Hp} (hb : Same B H) : ∀ {vs : List V} {ds : List D}, RdAll K B T H vs ds → OwnAll K H H vs ds []
  | _, _, .nil => .nil
  | _, _, .cons ⟨fp, h, n⟩ t => by
    have q := h.rebase (T := []) (by rw [hide_nil]; exact hb) (fun _ _ z => nomatch z)
    rw [hide_nil] at q
    exact .cons q (RdAll.whole0 hb t) fun _ z => nomatch z
section
variable {e : Expr} {es : List Expr} {x : Str} {p pos : Pos} {k : Nat} {ps : List Str} {Ψ : D → D → Bool → Prop} {K : FK}
theorem e_call {S : SF} (F : Fx X.prog X.w X.K X.mg X.base k x ps (spF K S)) (hr : Room k X.A) (h : AT X B T ρ τ (e :: es) fun τ1 ds _ => S ds fun d => Ψ τ1 d true) (hK : K = X.K := by rfl)
    (hg : Gl X x := by rfl) (hdb : (x == ("__debug__" : Str)) = false := by decide) (he : starEach (e :: es) X.env = (false, eval e X.env) :: starEach es X.env := by rfl) (hpl : (backTo pos (starEach es X.env)).any (·.1) = false := by rfl) :
    ET X B T ρ τ (.Call (.Name x p) (e :: es) [] pos) Ψ := fun σ H fps E => by
  obtain ⟨f, fd, F, hm, hk, hb⟩ := F.ex
  subst hK
  refine wp_pe (pe_call F hr hg hm hk hb .nil pass0 pa_wp hdb he hpl) ((h σ H fps E).imp fun vs H1 ⟨τ1, ds, os, hS, t1, f1, r1⟩ => ?_)
  have E1 := E.step f1 t1
  rw [List.append_nil]
  exact ⟨ds, _, r1.rd.whole0 E1.base, hS, fun d v H' fp h1 hs o n => ⟨τ1, d, true, h1, t1.same hs, f1.trans (FrT.of_same hs), (Res.own o n).later E.tt f1 t1⟩⟩
/-- the tape, then the others -/
theorem e_callT (t : Nat) {S : SFT} {y : Str} {py : Pos} (F : Fx X.prog X.w X.K X.mg X.base k x ps (spT K S)) (hr : Room k X.A) (ht : ρ[t]? = some .tp) (h : AT X B T ρ τ es fun τ1 ds _ => S τ1 ds fun τ2 d => Ψ τ2 d true) (hK : K = X.K := by rfl)
    (hN : X.N[t]? = some y := by rfl) (hv : Vis X.env.scope y := by first | exact Or.inl rfl | exact Or.inr (Or.inl rfl) | exact Or.inr (Or.inr rfl)) (hd : (y == ("__debug__" : Str)) = false := by decide) (hcd : (y == ("__classdict__" : Str)) = false := by decide)
    (hg : Gl X x := by rfl) (hdb : (x == ("__debug__" : Str)) = false := by decide) (he : starEach (.Name y py :: es) X.env = (false, eval (.Name y py) X.env) :: starEach es X.env := by rfl) (hpl : (backTo pos (starEach es X.env)).any (·.1) = false := by rfl) :
    ET X B T ρ τ (.Call (.Name x p) (.Name y py :: es) [] pos) Ψ := fun σ H fps E => by
  obtain ⟨f, fd, F, hm, hk, hb⟩ := F.ex
  subst hK
  refine wp_pe (pe_call F hr hg hm hk hb .nil pass0 (pa_cons (pe_var hN hv hd hcd) pa_wp he) hdb he hpl) ?_
  obtain ⟨sx, fp, h1, h2, h3⟩ := E.rel.get ht
  cases h3 with
  | tp eT =>
    rename_i a r
    refine ⟨.ref a, h1, (h σ H fps E).imp fun vs H1 ⟨τ1, ds, os, hS, t1, f1, r1⟩ => ?_⟩
    show spT X.K S ((V.ref a :: vs) ++ []) H1 _ E0
    rw [List.append_nil]
    have E1 := E.step f1 t1
    subst eT
    have own1 : Own X.K Em H1 (.ref a) τ1 (a :: r) := by
      rcases t1 with e | ⟨a', r', e, o⟩
      · cases e
      · cases e; exact o
    refine ⟨a, r, τ1, vs, ds, _, hS, rfl, own1, r1.rd.whole E1.base E1.sepT, fun τ2 d v H' fp h1 f2 o2 o n => ?_⟩
    exact ⟨τ2, d, true, h1, .inr ⟨a, r, rfl, o2⟩, f1.trans f2, (Res.own o n).later E.tt f1 t1⟩
end

/-! ### slices -/
def tPartW (X : Cx) (e : Option Expr) : TO := match e with
  | none => tNoPart
  | some e => tPart (wpE X e)
def PT2 (X : Cx) (B : Hp) (T : List Addr) (ρ : List Sl) (τ : D) (e : Option Expr) (Ψ : D → Option Int → Prop) : Prop := match e with
  | none => Ψ τ none
  | some e => ET X B T ρ τ e fun τ1 d _ => ∃ i, d = .int i ∧ Ψ τ1 (some i)
theorem part_go {e : Option Expr} {Ψ : D → Option Int → Prop} {σ : L2.St} {H : Hp} {fps : List (List Addr)} {Q : Option Int → Hp → Prop} (E : Env X.K B T H σ ρ τ fps) (h : PT2 X B T ρ τ e Ψ)
    (k : ∀ τ1 o H1, Ψ τ1 o → Tp X.K H1 T τ1 → FrT T H H1 → Q o H1) : tPartW X e σ H Q := by
  cases e with
  | none => exact k τ none H h E.tt (FrT.refl _ _)
  | some e =>
    refine (h σ H fps E).imp fun v H1 ⟨τ1, d, o, ⟨i, e1, hk⟩, t1, f1, r1⟩ => ?_
    subst e1
    obtain ⟨fp, q, _⟩ := r1.read E.tt
    exact ⟨i, q.int_inv.1, k τ1 _ H1 hk t1 f1⟩
theorem po_wp {e : Option Expr} : PO X e (tPartW X e) := by
  cases e with
  | none => exact po_none
  | some e => exact po_some pe_wp
def Sl3 (K : FK) (B : Hp) (T : List Addr) (r : V → Option Int → Option Int → Hp → VK → Prop) (x : D) (lo hi : Option Int) (k : D → Bool → Prop) : Prop := ∀ H v (Q : VK), Same B H → Rd1 K B T H v x →
  (∀ d o z H', k d o → Same H H' → Res K B T H H' z d o → Q z H') → r v lo hi H Q
theorem e_slice {r : V → Option Int → Option Int → Hp → VK → Prop} {a : Expr} {lo hi : Option Expr} {p2 pos : Pos} {Ψ : D → D → Bool → Prop} (hr : L2.SlR X r)
    (h : ET X B T ρ τ a fun τ1 x _ => PT2 X B T ρ τ1 lo fun τ2 l => PT2 X B T ρ τ2 hi fun τ3 u => Sl3 X.K B T r x l u (Ψ τ3)) : ET X B T ρ τ (.Subscript a (.Slice lo hi none p2) pos) Ψ := fun σ H fps E =>
  wp_pe (pe_slice hr pe_wp po_wp po_wp) ((h σ H fps E).imp fun v H1 ⟨τ1, x, o, h1, t1, f1, r1⟩ =>
    part_go (E.step f1 t1) h1 fun τ2 l H2 h2 t2 f2 => part_go ((E.step f1 t1).step f2 t2) h2 fun τ3 u H3 h3 t3 f3 => by
      have E3 := ((E.step f1 t1).step f2 t2).step f3 t3
      exact h3 H3 v _ E3.base (((r1.step E.tt f1 t1 f2).step E.tt (f1.trans f2) t2 f3).read E.tt) fun d o z H' hk hs hr' => ⟨τ3, d, o, hk, t3.same hs, ((f1.trans f2).trans f3).trans (FrT.of_same hs), hr'.later E.tt ((f1.trans f2).trans f3) t3⟩)
end
end DL
/-! DL, part 5: targets, what is walked, list comprehensions. -/
namespace DL
open PySem PySem.Spec L2 RZ

section
variable (X : Cx)
def wpG (tg : Expr) : TG := fun v σ H Q => ∀ pins s u, Inv X pins σ H s → RelV v u → wpAny (model X.prog X.w) X.A (assign tg X.env u) (fun _ s' => ∃ σ' H', Inv X pins σ' H' s' ∧ Q σ' H') X.xe s
def wpGs (tgs : List Expr) : TGs := fun vs σ H Q => ∀ pins s us, Inv X pins σ H s → Vals vs us → wpAny (model X.prog X.w) X.A (assignInOrder ((assignEach tgs X.env).map (·.2)) us) (fun _ s' => ∃ σ' H', Inv X pins σ' H' s' ∧ Q σ' H') X.xe s
end
section
variable {X : Cx} {tg : Expr} {tgs : List Expr} {v : V} {vs : List V} {σ : L2.St} {H : Hp} {Q : L2.St → Hp → Prop}
theorem pg_wp : PG X tg (wpG X tg) := ⟨fun pins s σ H v u Q I r h => h pins s u I r⟩
theorem pgs_wp : PGs X tgs (wpGs X tgs) := ⟨fun pins s σ H v u Q I r h => h pins s u I r⟩
theorem wp_pg {t : TG} (h : PG X tg t) (q : t v σ H Q) : wpG X tg v σ H Q := fun pins s u I r => h.run pins s σ H v u Q I r q
theorem wp_pgs {t : TGs} (h : PGs X tgs t) (q : t vs σ H Q) : wpGs X tgs vs σ H Q := fun pins s u I r => h.run pins s σ H vs u Q I r q
theorem wpG.imp {Q' : L2.St → Hp → Prop} (h : wpG X tg v σ H Q) (k : ∀ σ H, Q σ H → Q' σ H) : wpG X tg v σ H Q' := fun pins s u I r => thn (h pins s u I r) fun _ _ ⟨a, b, c, d⟩ => ⟨a, b, c, k _ _ d⟩
end

/-- a slot that holds a datum that was handed in -/
def slOf (d : D) : Sl := if imm d = true then .v d else .bor d
section
variable {X : Cx} {B : Hp} {T : List Addr} {ρ : List Sl} {τ : D}
theorem slOf_rel {K : FK} {H : Hp} {v : V} {d : D} (h : Rd1 K B T H v d) : SlR K B T H (some v) (slOf d) [] := by
  obtain ⟨fp, o, n⟩ := h
  unfold slOf
  by_cases e : imm d = true
  · rw [if_pos e]
    obtain ⟨_, q⟩ := o.imm e
    exact .v q (fun _ z => nomatch z) (fun _ z => nomatch z)
  · rw [if_neg e]
    exact .bor o n
theorem Env.put {K : FK} {H : Hp} {σ : L2.St} {fps : List (List Addr)} {x : Option V} {s : Sl} (E : Env K B T H σ ρ τ fps) (i : Nat) (h : SlR K B T H x s []) : Env K B T H (σ.set i x) (ρ.set i s) τ (fps.set i []) :=
  ⟨E.rel.set i h, by
    cases e : fps[i]? with
    | none => rw [List.set_eq_of_length_le (List.getElem?_eq_none_iff.mp e)]; exact E.nd
    | some fp => exact nodup_set E.nd e List.nodup_nil fun _ z => (nomatch z), E.base, fun a ha => (flatten_set ha).elim (fun z => nomatch z) (E.sep a), E.sepT, E.tt⟩

/-! ### targets -/
def GT (X : Cx) (B : Hp) (T : List Addr) (ws : List Nat) (ρ : List Sl) (tg : Expr) (d : D) (Ψ : List Sl → Prop) : Prop := ∀ σ H fps v τ, Env X.K B T H σ ρ τ fps → Rd1 X.K B T H v d → ∀ Q,
  (∀ ρ' σ' fps', Ψ ρ' → Env X.K B T H σ' ρ' τ fps' → (∀ a ∈ fps'.flatten, a ∈ fps.flatten) → (∀ j, j ∉ ws → σ'[j]? = σ[j]?) → σ'.length = σ.length → Q σ' H) → wpG X tg v σ H Q
def GTs (X : Cx) (B : Hp) (T : List Addr) (ws : List Nat) (ρ : List Sl) (tgs : List Expr) (ds : List D) (Ψ : List Sl → Prop) : Prop := ∀ σ H fps vs τ, Env X.K B T H σ ρ τ fps → RdAll X.K B T H vs ds → ∀ Q,
  (∀ ρ' σ' fps', Ψ ρ' → Env X.K B T H σ' ρ' τ fps' → (∀ a ∈ fps'.flatten, a ∈ fps.flatten) → (∀ j, j ∉ ws → σ'[j]? = σ[j]?) → σ'.length = σ.length → Q σ' H) → wpGs X tgs vs σ H Q
theorem g_name (i : Nat) {ws : List Nat} {x : Str} {pos : Pos} {d : D} {Ψ : List Sl → Prop} (nd : X.N.Nodup) (h : Ψ (ρ.set i (slOf d))) (hw : i ∈ ws := by decide) (hi : X.N[i]? = some x := by rfl) (hx : Loc X.env.scope x := by first | exact Or.inl rfl | exact Or.inr rfl)
    (hf : X.fn x = true ∨ X.env.scope.names.lookup x = some .local := by first | exact .inl rfl | exact .inr rfl) : GT X B T ws ρ (.Name x pos) d Ψ := fun σ H fps v τ E r Q k =>
  wp_pg (pg_name nd hi hx hf) (k _ _ _ h (E.put i (slOf_rel r)) (fun a ha => (flatten_set ha).elim (fun z => nomatch z) id) (fun j hj => by
    rw [List.getElem?_set_ne]
    rintro rfl
    exact hj hw) List.length_set)
theorem gs_nil {ws : List Nat} {Ψ : List Sl → Prop} (h : Ψ ρ) : GTs X B T ws ρ [] [] Ψ := fun σ H fps vs τ E r Q k => by
  cases r
  exact wp_pgs pgs_nil ⟨rfl, k ρ σ fps h E (fun _ z => z) (fun _ _ => rfl) rfl⟩
theorem gs_cons {ws : List Nat} {e : Expr} {es : List Expr} {d : D} {ds : List D} {Ψ : List Sl → Prop} (h : GT X B T ws ρ e d fun ρ1 => GTs X B T ws ρ1 es ds Ψ)
    (hs : (assignEach (e :: es) X.env).map (·.2) = assign e X.env :: (assignEach es X.env).map (·.2) := by rfl) : GTs X B T ws ρ (e :: es) (d :: ds) Ψ := fun σ H fps vs τ E r Q k => by
  cases r with
  | cons r rr =>
    refine wp_pgs (pgs_cons pg_wp pgs_wp hs) ⟨_, _, rfl, h σ H fps _ τ E r _ fun ρ1 σ1 fps1 h1 E1 s1 j1 l1 => ?_⟩
    exact h1 σ1 H fps1 _ τ E1 rr Q fun ρ2 σ2 fps2 h2 E2 s2 j2 l2 => k ρ2 σ2 fps2 h2 E2 (fun a ha => s1 a (s2 a ha)) (fun j hj => (j2 j hj).trans (j1 j hj)) (l2.trans l1)
theorem OwnAll.reads {K : FK} {H : Hp} : ∀ {vs : List V} {ds : List D} {fp : List Addr}, OwnAll K B H vs ds fp → (∀ a ∈ fp, a ∉ T) → RdAll K B T H vs ds
  | _, _, _, .nil, _ => .nil
  | _, _, _, .cons h t n, k => .cons ⟨_, h, fun a ha => k a (List.mem_append_left _ ha)⟩ (OwnAll.reads t fun a ha => k a (List.mem_append_right _ ha))
theorem RdAll.length {K : FK} {H : Hp} : ∀ {vs : List V} {ds : List D}, RdAll K B T H vs ds → vs.length = ds.length
  | _, _, .nil => rfl
  | _, _, .cons _ t => congrArg (· + 1) (RdAll.length t)
theorem g_tup {ws : List Nat} {es : List Expr} {k : Nat} {pos : Pos} {ds : List D} {Ψ : List Sl → Prop} (h : GTs X B T ws ρ es ds Ψ) (hc : X.calm = true := by rfl) (hn : (assignEach es X.env).length = ds.length := by rfl) (hst : (assignEach es X.env).findIdx? (·.1) = none := by rfl) :
    GT X B T ws ρ (.Tuple es k pos) (.tuple ds) Ψ := fun σ H fps v τ E r Q q => by
  obtain ⟨fp, o, n⟩ := r
  obtain ⟨a, xs, rfl, hs, ha⟩ := o.tup_inv
  exact wp_pg (pg_tup hc pgs_wp hn hst) ⟨a, xs, rfl, hs, ha.length, h σ H fps xs τ E (ha.reads n) Q q⟩

/-! ### what is walked -/
structure Wk (K : FK) (B : Hp) (J : It) (ds : List D) (hold : List Addr) (G : Hp → Prop) : Prop where
  go : ∀ i H, G H → i < ds.length → J.go i H
  stop : ∀ i H, G H → ds.length ≤ i → J.stop i H
  yld : ∀ i H x H' d, G H → ds[i]? = some d → J.yld i H x H' → Same H H' ∧ G H' ∧ ∃ fp, Own K B H' x d fp ∧ ∀ a ∈ fp, a ∈ hold
  tr : ∀ H, G H → ∀ a ∈ hold, ∃ o, H a = some o ∧ IsMut o = true
  keep : ∀ H H', G H → Same B H' → Stay H H' → Keep hold H H' → G H'
def IT (X : Cx) (B : Hp) (T : List Addr) (ρ : List Sl) (τ : D) (tg iter : Expr) (Ψ : D → List D → Bool → Prop) : Prop := ∀ σ H fps, Env X.K B T H σ ρ τ fps →
  wpI X tg iter σ H fun J H1 => ∃ τ1 ds o hold G, Ψ τ1 ds o ∧ Tp X.K H1 T τ1 ∧ FrT T H H1 ∧ G H1 ∧ Wk X.K B J ds hold G ∧ (∀ a ∈ hold, a ∉ T) ∧ (o = true → ∀ a ∈ hold, H a = none)
theorem keep_same {H H' : Hp} {fp : List Addr} (s : Same H H') (tr : ∀ a ∈ fp, ∃ o, H a = some o ∧ IsMut o = true) : Keep fp H H' := fun a ha => by
  obtain ⟨o, e, _⟩ := tr a ha
  rw [e, s a o e]
theorem wk_list {K : FK} {a : Addr} {ds : List D} {hold : List Addr} : Wk K B (Itl K a) ds hold (fun H => Same B H ∧ Own K B H (.ref a) (.list ds) hold) where
  go := fun i H ⟨b, o⟩ h => by
    obtain ⟨a', xs, fq, e, hl, t, _⟩ := o.lst_inv b
    cases e
    obtain ⟨v, _, h1, _⟩ := t.get (List.getElem?_eq_getElem h)
    exact ⟨xs, v, .inl (.inl hl), h1⟩
  stop := fun i H ⟨b, o⟩ h => by
    obtain ⟨a', xs, fq, e, hl, t, _⟩ := o.lst_inv b
    cases e
    exact ⟨xs, .inl (.inl hl), by rw [t.length]; exact h⟩
  yld := fun i H x H' d ⟨b, o⟩ hd ⟨e, hy⟩ => by
    subst e
    obtain ⟨a', xs, fq, e, hl, t, hs⟩ := o.lst_inv b
    cases e
    obtain ⟨v, fp, h1, h2, h3⟩ := t.get hd
    have := hy xs (.inl (.inl hl))
    rw [h1] at this; cases this
    exact ⟨Same.refl _, ⟨b, o⟩, fp, h2, fun a ha => hs a (h3 a ha)⟩
  tr := fun H ⟨_, o⟩ => o.tracked
  keep := fun H H' ⟨_, o⟩ b st k => ⟨b, o.mv st k⟩
theorem wk_tup {K : FK} {a : Addr} {ds : List D} {hold : List Addr} : Wk K B (Itt K a) ds hold (fun H => Own K B H (.ref a) (.tuple ds) hold) where
  go := fun i H o h => by
    obtain ⟨a', xs, e, hl, t⟩ := o.tup_inv
    cases e
    obtain ⟨v, _, h1, _⟩ := t.get (List.getElem?_eq_getElem h)
    exact ⟨xs, v, hl, h1⟩
  stop := fun i H o h => by
    obtain ⟨a', xs, e, hl, t⟩ := o.tup_inv
    cases e
    exact ⟨xs, hl, by rw [t.length]; exact h⟩
  yld := fun i H x H' d o hd ⟨e, hy⟩ => by
    subst e
    obtain ⟨a', xs, e, hl, t⟩ := o.tup_inv
    cases e
    obtain ⟨v, fp, h1, h2, h3⟩ := t.get hd
    have := hy xs hl
    rw [h1] at this; cases this
    exact ⟨Same.refl _, o, fp, h2, h3⟩
  tr := fun H o => o.tracked
  keep := fun H H' o b st k => o.mv st k
def rngD (lo : Int) (n : Nat) : List D := (List.range n).map fun (i : Nat) => .int (lo + (i : Int))
theorem rngD_get {lo : Int} {n i : Nat} {d : D} (h : (rngD lo n)[i]? = some d) : i < n ∧ d = .int (lo + i) := by
  unfold rngD at h
  rw [List.getElem?_map] at h
  by_cases q : i < n
  · rw [List.getElem?_range q] at h
    exact ⟨q, (Option.some.inj h).symm⟩
  · rw [List.getElem?_eq_none (by simp; omega)] at h
    cases h
theorem rngD_length {lo : Int} {n : Nat} : (rngD lo n).length = n := by unfold rngD; simp
theorem wk_range {K : FK} {lo : Int} {n : Nat} : Wk K B (Itr lo n) (rngD lo n) [] (fun _ => True) where
  go := fun i H _ h => by rw [rngD_length] at h; exact h
  stop := fun i H _ h => by rw [rngD_length] at h; exact h
  yld := fun i H x H' d _ hd ⟨e, hy⟩ => by
    subst e
    obtain ⟨_, rfl⟩ := rngD_get hd
    subst hy
    exact ⟨Same.refl _, trivial, [], .int _, fun _ z => nomatch z⟩
  tr := fun _ _ _ z => nomatch z
  keep := fun _ _ _ _ _ _ => trivial
/-- pairs (place, item) -/
def enumD (ds : List D) : List D := (List.range ds.length).zipWith (fun i d => .tuple [.int (i : Nat), d]) ds
theorem enumD_length {ds : List D} : (enumD ds).length = ds.length := by unfold enumD; simp
theorem enumD_get {ds : List D} {i : Nat} {d : D} (h : (enumD ds)[i]? = some d) : ∃ e, ds[i]? = some e ∧ d = .tuple [.int (i : Nat), e] := by
  unfold enumD at h
  rw [List.getElem?_zipWith] at h
  by_cases q : i < ds.length
  · rw [List.getElem?_range q, List.getElem?_eq_getElem q] at h
    exact ⟨_, List.getElem?_eq_getElem q, (Option.some.inj h).symm⟩
  · rw [List.getElem?_eq_none (l := List.range ds.length) (by simp; omega)] at h
    cases h
theorem new_pair {K : FK} {H : Hp} {p : Addr} {x y : V} {d e : D} {fp fq : List Addr} (hp : H p = none) (hx : Own K B H x d fp) (hy : Own K B H y e fq) (n : ∀ a ∈ fp, a ∉ fq) : Own K B (upd H p (.tup [x, y])) (.ref p) (.tuple [d, e]) (fp ++ fq) := by
  have s := same_new (o := .tup [x, y]) hp
  exact .tup (.inl (.inl upd_same)) (.two (hx.mv (Stay.of_same s) (keep_same s hx.tracked)) (hy.mv (Stay.of_same s) (keep_same s hy.tracked)) n)
theorem wk_enum {K : FK} {a : Addr} {ds : List D} {hold : List Addr} : Wk K B (Ite K a) (enumD ds) hold (fun H => Same B H ∧ Own K B H (.ref a) (.list ds) hold) where
  go := fun i H ⟨b, o⟩ h => by
    rw [enumD_length] at h
    obtain ⟨a', xs, fq, e, hl, t, _⟩ := o.lst_inv b
    cases e
    obtain ⟨v, _, h1, _⟩ := t.get (List.getElem?_eq_getElem h)
    exact ⟨xs, v, .inl (.inl hl), h1⟩
  stop := fun i H ⟨b, o⟩ h => by
    rw [enumD_length] at h
    obtain ⟨a', xs, fq, e, hl, t, _⟩ := o.lst_inv b
    cases e
    exact ⟨xs, .inl (.inl hl), by rw [t.length]; exact h⟩
  yld := fun i H x H' d ⟨b, o⟩ hd ⟨p, y, ex, hp, eH, hy⟩ => by
    subst ex; subst eH
    obtain ⟨d', hd', rfl⟩ := enumD_get hd
    obtain ⟨a', xs, fq, e, hl, t, hs⟩ := o.lst_inv b
    cases e
    obtain ⟨v, fp, h1, h2, h3⟩ := t.get hd'
    obtain rfl : v = y := Option.some.inj (h1.symm.trans (hy xs (.inl (.inl hl))))
    have s := same_new (o := .tup [.int (i : Nat), v]) hp
    exact ⟨s, ⟨fun a o e => s a o (b a o e), o.mv (Stay.of_same s) (keep_same s o.tracked)⟩, _, new_pair hp (.int _) h2 (fun _ z => nomatch z), fun a ha => hs a (h3 a (by simpa using ha))⟩
  tr := fun H ⟨_, o⟩ => o.tracked
  keep := fun H H' ⟨_, o⟩ b st k => ⟨b, o.mv st k⟩
def zipD (ds es : List D) : List D := ds.zipWith (fun d e => .tuple [d, e]) es
theorem zipD_get {ds es : List D} {i : Nat} {d : D} (h : (zipD ds es)[i]? = some d) : ∃ x y, ds[i]? = some x ∧ es[i]? = some y ∧ d = .tuple [x, y] := by
  unfold zipD at h
  rw [List.getElem?_zipWith] at h
  cases e1 : ds[i]? with
  | none => rw [e1] at h; cases h
  | some x =>
    cases e2 : es[i]? with
    | none => rw [e1, e2] at h; cases h
    | some y => rw [e1, e2] at h; exact ⟨x, y, rfl, rfl, (Option.some.inj h).symm⟩
theorem zipD_length {ds es : List D} : (zipD ds es).length = min ds.length es.length := by unfold zipD; simp
theorem imm_get : ∀ {ds : List D} {i : Nat} {d : D}, immAll ds = true → ds[i]? = some d → imm d = true
  | [], _, _, _, e => by simp at e
  | x :: r, 0, d, h, e => by
    simp at e; subst e
    rw [immAll, Bool.and_eq_true] at h; exact h.1
  | x :: r, i + 1, d, h, e => by
    rw [immAll, Bool.and_eq_true] at h
    exact imm_get h.2 (by simpa using e)
/-- two lists of what can't change -/
theorem wk_zip {K : FK} {a b : Addr} {ds es : List D} {h1 h2 : List Addr} (i1 : immAll ds = true) (i2 : immAll es = true) : Wk K B (Itz K a b) (zipD ds es) (h1 ++ h2) (fun H => Same B H ∧ Own K B H (.ref a) (.list ds) h1 ∧ Own K B H (.ref b) (.list es) h2) where
  go := fun i H ⟨b, o1, o2⟩ h => by
    rw [zipD_length] at h
    obtain ⟨a', xs, fq, e, hl, t, _⟩ := o1.lst_inv b
    obtain ⟨b', ys, fr, e', hl', t', _⟩ := o2.lst_inv b
    cases e; cases e'
    obtain ⟨v, _, q1, _⟩ := t.get (List.getElem?_eq_getElem (show i < ds.length by omega))
    obtain ⟨w, _, q2, _⟩ := t'.get (List.getElem?_eq_getElem (show i < es.length by omega))
    exact ⟨xs, ys, v, w, .inl (.inl hl), .inl (.inl hl'), q1, q2⟩
  stop := fun i H ⟨b, o1, o2⟩ h => by
    rw [zipD_length] at h
    obtain ⟨a', xs, fq, e, hl, t, _⟩ := o1.lst_inv b
    obtain ⟨b', ys, fr, e', hl', t', _⟩ := o2.lst_inv b
    cases e; cases e'
    exact ⟨xs, ys, .inl (.inl hl), .inl (.inl hl'), by rw [t.length, t'.length]; omega⟩
  yld := fun i H x H' d ⟨b, o1, o2⟩ hd ⟨p, y, z, ex, hp, eH, hy, hz⟩ => by
    subst ex; subst eH
    obtain ⟨d1, d2, hd1, hd2, rfl⟩ := zipD_get hd
    obtain ⟨a', xs, fq, e, hl, t, hs⟩ := o1.lst_inv b
    obtain ⟨b', ys, fr, e', hl', t', hs'⟩ := o2.lst_inv b
    cases e; cases e'
    obtain ⟨v, fp, q1, q2, q3⟩ := t.get hd1
    obtain ⟨w, fp', q1', q2', q3'⟩ := t'.get hd2
    obtain rfl : v = y := Option.some.inj (q1.symm.trans (hy xs (.inl (.inl hl))))
    obtain rfl : w = z := Option.some.inj (q1'.symm.trans (hz ys (.inl (.inl hl'))))
    obtain ⟨rfl, _⟩ := q2.imm (imm_get i1 hd1)
    obtain ⟨rfl, _⟩ := q2'.imm (imm_get i2 hd2)
    have s := same_new (o := .tup [v, w]) hp
    exact ⟨s, ⟨fun a o e => s a o (b a o e), o1.mv (Stay.of_same s) (keep_same s o1.tracked), o2.mv (Stay.of_same s) (keep_same s o2.tracked)⟩, _, new_pair hp q2 q2' (fun _ z => nomatch z), fun _ z => nomatch z⟩
  tr := fun H ⟨_, o1, o2⟩ a ha => (List.mem_append.mp ha).elim (o1.tracked a) (o2.tracked a)
  keep := fun H H' ⟨_, o1, o2⟩ b st k => ⟨b, o1.mv st (k.sub fun _ q => List.mem_append_left _ q), o2.mv st (k.sub fun _ q => List.mem_append_right _ q)⟩
theorem wk_zipT {K : FK} {a b : Addr} {ds es : List D} {h1 h2 : List Addr} (i1 : immAll ds = true) (i2 : immAll es = true) : Wk K B (ItzT K a b) (zipD ds es) (h1 ++ h2) (fun H => Own K B H (.ref a) (.tuple ds) h1 ∧ Own K B H (.ref b) (.tuple es) h2) where
  go := fun i H ⟨o1, o2⟩ h => by
    rw [zipD_length] at h
    obtain ⟨a', xs, e, hl, t⟩ := o1.tup_inv
    obtain ⟨b', ys, e', hl', t'⟩ := o2.tup_inv
    cases e; cases e'
    obtain ⟨v, _, q1, _⟩ := t.get (List.getElem?_eq_getElem (show i < ds.length by omega))
    obtain ⟨w, _, q2, _⟩ := t'.get (List.getElem?_eq_getElem (show i < es.length by omega))
    exact ⟨xs, ys, v, w, hl, hl', q1, q2⟩
  stop := fun i H ⟨o1, o2⟩ h => by
    rw [zipD_length] at h
    obtain ⟨a', xs, e, hl, t⟩ := o1.tup_inv
    obtain ⟨b', ys, e', hl', t'⟩ := o2.tup_inv
    cases e; cases e'
    exact ⟨xs, ys, hl, hl', by rw [t.length, t'.length]; omega⟩
  yld := fun i H x H' d ⟨o1, o2⟩ hd ⟨p, y, z, ex, hp, eH, hy, hz⟩ => by
    subst ex; subst eH
    obtain ⟨d1, d2, hd1, hd2, rfl⟩ := zipD_get hd
    obtain ⟨a', xs, e, hl, t⟩ := o1.tup_inv
    obtain ⟨b', ys, e', hl', t'⟩ := o2.tup_inv
    cases e; cases e'
    obtain ⟨v, fp, q1, q2, q3⟩ := t.get hd1
    obtain ⟨w, fp', q1', q2', q3'⟩ := t'.get hd2
    obtain rfl : v = y := Option.some.inj (q1.symm.trans (hy xs hl))
    obtain rfl : w = z := Option.some.inj (q1'.symm.trans (hz ys hl'))
    obtain ⟨rfl, _⟩ := q2.imm (imm_get i1 hd1)
    obtain ⟨rfl, _⟩ := q2'.imm (imm_get i2 hd2)
    have s := same_new (o := .tup [v, w]) hp
    exact ⟨s, ⟨o1.mv (Stay.of_same s) (keep_same s o1.tracked), o2.mv (Stay.of_same s) (keep_same s o2.tracked)⟩, _, new_pair hp q2 q2' (fun _ z => nomatch z), fun _ z => nomatch z⟩
  tr := fun H ⟨o1, o2⟩ a ha => (List.mem_append.mp ha).elim (o1.tracked a) (o2.tracked a)
  keep := fun H H' ⟨o1, o2⟩ b st k => ⟨o1.mv st (k.sub fun _ q => List.mem_append_left _ q), o2.mv st (k.sub fun _ q => List.mem_append_right _ q)⟩

section
variable {tg e e1 e2 : Expr} {p pos : Pos} {Ψ : D → List D → Bool → Prop}
/-- what is read is held: all new, or lent -/
theorem Res.hold {K : FK} {H H' : Hp} {v : V} {d : D} {o : Bool} {t : D} (h : Res K B T H H' v d o) (tt : Tp K H T t) : ∃ fp, Own K B H' v d fp ∧ (∀ a ∈ fp, a ∉ T) ∧ (o = true → ∀ a ∈ fp, H a = none) := by
  cases o with
  | false =>
    obtain ⟨fp, h1, h2⟩ := h.read tt
    exact ⟨fp, h1, h2, fun z => nomatch z⟩
  | true =>
    obtain ⟨fp, h1, h2⟩ := h.out
    refine ⟨fp, h1.base same_em, fun a ha z => ?_, fun _ => h2⟩
    obtain ⟨q, e, _⟩ := tt.tracked a z
    rw [h2 a ha] at e; cases e
theorem i_list (h : ET X B T ρ τ e fun τ1 d o => ∃ ds, d = .list ds ∧ Ψ τ1 ds o) : IT X B T ρ τ tg e Ψ := fun σ H fps E =>
  wp_pi (pi_list pe_wp) ((h σ H fps E).imp fun v H1 ⟨τ1, d, o, ⟨ds, ed, hk⟩, t1, f1, r1⟩ => by
    subst ed
    obtain ⟨fp, q, n, nn⟩ := r1.hold E.tt
    have b := (E.step f1 t1).base
    obtain ⟨a, xs, fq, rfl, hl, _⟩ := q.lst_inv b
    exact ⟨a, rfl, ⟨xs, .inl (.inl hl)⟩, τ1, ds, o, fp, _, hk, t1, f1, ⟨b, q⟩, wk_list, n, nn⟩)
theorem i_tup (h : ET X B T ρ τ e fun τ1 d o => ∃ ds, d = .tuple ds ∧ Ψ τ1 ds o) : IT X B T ρ τ tg e Ψ := fun σ H fps E =>
  wp_pi (pi_tup pe_wp) ((h σ H fps E).imp fun v H1 ⟨τ1, d, o, ⟨ds, ed, hk⟩, t1, f1, r1⟩ => by
    subst ed
    obtain ⟨fp, q, n, nn⟩ := r1.hold E.tt
    obtain ⟨a, xs, rfl, hl, _⟩ := q.tup_inv
    exact ⟨a, rfl, ⟨xs, hl⟩, τ1, ds, o, fp, _, hk, t1, f1, q, wk_tup, n, nn⟩)
theorem i_range1 (hm : X.mg "range" = none) (h : ET X B T ρ τ e fun τ1 d _ => ∃ j : Int, d = .int j ∧ (-(2 ^ 62) ≤ j ∧ j < 2 ^ 62) ∧ Ψ τ1 (rngD 0 j.toNat) true) (hg : Gl X "range" := by rfl) (hs : starEach [e] X.env = [(false, eval e X.env)] := by rfl) :
    IT X B T ρ τ tg (.Call (.Name "range" p) [e] [] pos) Ψ := fun σ H fps E =>
  wp_pi (pi_range1 hg hm (pa_cons pe_wp pa_nil hs) hs) ((h σ H fps E).imp fun v H1 ⟨τ1, d, o, ⟨j, ed, ⟨j1, j2⟩, hk⟩, t1, f1, r1⟩ => by
    subst ed
    obtain ⟨fp, q, n⟩ := r1.read E.tt
    obtain ⟨rfl, _⟩ := q.int_inv
    exact ⟨j, rfl, j1, j2, τ1, _, true, [], _, hk, t1, f1, trivial, wk_range, fun _ z => (nomatch z), fun _ _ z => nomatch z⟩)
theorem i_range2 (hm : X.mg "range" = none) (h : ET X B T ρ τ e1 fun τ1 d _ => ET X B T ρ τ1 e2 fun τ2 d' _ => ∃ i j : Int, d = .int i ∧ d' = .int j ∧ (-(2 ^ 62) ≤ i ∧ i < 2 ^ 62 ∧ -(2 ^ 62) ≤ j ∧ j < 2 ^ 62) ∧ Ψ τ2 (rngD i (j - i).toNat) true)
    (hg : Gl X "range" := by rfl) (hs : starEach [e1, e2] X.env = [(false, eval e1 X.env), (false, eval e2 X.env)] := by rfl) (hs2 : starEach [e2] X.env = [(false, eval e2 X.env)] := by rfl) :
    IT X B T ρ τ tg (.Call (.Name "range" p) [e1, e2] [] pos) Ψ := fun σ H fps E =>
  wp_pi (pi_range2 hg hm (pa_cons pe_wp (pa_cons pe_wp pa_nil hs2) (hs.trans (by rw [hs2]))) hs hs2) ((h σ H fps E).imp fun v H1 ⟨τ1, d, o, h1, t1, f1, r1⟩ => (h1 σ H1 fps (E.step f1 t1)).imp fun w H2 ⟨τ2, d', o', ⟨i, j, ed, ed', hb, hk⟩, t2, f2, r2⟩ => by
    subst ed; subst ed'
    obtain ⟨fp, q, n⟩ := r1.read E.tt
    obtain ⟨fq, q', n'⟩ := r2.read t1
    obtain ⟨rfl, _⟩ := q.int_inv
    obtain ⟨rfl, _⟩ := q'.int_inv
    exact ⟨i, j, rfl, hb, τ2, _, true, [], _, hk, t2, f1.trans f2, trivial, wk_range, fun _ z => (nomatch z), fun _ _ z => nomatch z⟩)
theorem i_enum {elts : List Expr} {kk : Nat} {tpos : Pos} (hm : X.mg "enumerate" = none) (h : ET X B T ρ τ e fun τ1 d o => ∃ ds, d = .list ds ∧ Ψ τ1 (enumD ds) o) (hg : Gl X "enumerate" := by rfl) (hs : starEach [e] X.env = [(false, eval e X.env)] := by rfl) :
    IT X B T ρ τ (.Tuple elts kk tpos) (.Call (.Name "enumerate" p) [e] [] pos) Ψ := fun σ H fps E =>
  wp_pi (pi_enum hg hm (pa_cons pe_wp pa_nil hs) hs) ((h σ H fps E).imp fun v H1 ⟨τ1, d, o, ⟨ds, ed, hk⟩, t1, f1, r1⟩ => by
    subst ed
    obtain ⟨fp, q, n, nn⟩ := r1.hold E.tt
    have b := (E.step f1 t1).base
    obtain ⟨a, xs, fq, rfl, hl, _⟩ := q.lst_inv b
    exact ⟨a, xs, rfl, .inl (.inl hl), τ1, _, o, fp, _, hk, t1, f1, ⟨b, q⟩, wk_enum, n, nn⟩)
theorem i_zip {elts : List Expr} {kk : Nat} {tpos : Pos} (hm : X.mg "zip" = none) (h : ET X B T ρ τ e1 fun τ1 d _ => ET X B T ρ τ1 e2 fun τ2 d' _ => ∃ ds es, (d = .list ds ∧ d' = .list es ∨ d = .tuple ds ∧ d' = .tuple es) ∧ immAll ds = true ∧ immAll es = true ∧ Ψ τ2 (zipD ds es) false)
    (hg : Gl X "zip" := by rfl) (hs : starEach [e1, e2] X.env = (false, eval e1 X.env) :: starEach [e2] X.env := by rfl) (hs2 : starEach [e2] X.env = [(false, eval e2 X.env)] := by rfl) (hpl : (backTo pos (starEach [e2] X.env)).any (·.1) = false := by rfl) :
    IT X B T ρ τ (.Tuple elts kk tpos) (.Call (.Name "zip" p) [e1, e2] [] pos) Ψ := fun σ H fps E =>
  wp_pi (pi_zipA hg hm (pa_cons pe_wp (pa_cons pe_wp pa_nil hs2) hs) hs hpl) ((h σ H fps E).imp fun v H1 ⟨τ1, d, o, h1, t1, f1, r1⟩ => (h1 σ H1 fps (E.step f1 t1)).imp fun w H2 ⟨τ2, d', o', ⟨ds, es, hde, i1, i2, hk⟩, t2, f2, r2⟩ => by
    have b := ((E.step f1 t1).step f2 t2).base
    obtain ⟨fp, q, n⟩ := (r1.step E.tt f1 t1 f2).read E.tt
    obtain ⟨fq, q', n'⟩ := r2.read t1
    rcases hde with ⟨rfl, rfl⟩ | ⟨rfl, rfl⟩
    · obtain ⟨a, xs, _, rfl, hl, _⟩ := q.lst_inv b
      obtain ⟨a', ys, _, rfl, hl', _⟩ := q'.lst_inv b
      exact ⟨a, a', xs, ys, rfl, .inl ⟨.inl (.inl hl), .inl (.inl hl'), τ2, _, false, _, _, hk, t2, f1.trans f2, ⟨b, q, q'⟩, wk_zip i1 i2, fun c hc => (List.mem_append.mp hc).elim (n c) (n' c), fun z => nomatch z⟩⟩
    · obtain ⟨a, xs, rfl, hl, _⟩ := q.tup_inv
      obtain ⟨a', ys, rfl, hl', _⟩ := q'.tup_inv
      exact ⟨a, a', xs, ys, rfl, .inr ⟨hl, hl', τ2, _, false, _, _, hk, t2, f1.trans f2, ⟨q, q'⟩, wk_zipT i1 i2, fun c hc => (List.mem_append.mp hc).elim (n c) (n' c), fun z => nomatch z⟩⟩)
end
end
end DL
/-! DL, part 6: list comprehensions. -/
namespace DL
open PySem PySem.Spec L2 RZ

def wipeL (ρ : List Sl) : List Nat → List Sl
  | [] => ρ
  | v :: vs => (wipeL ρ vs).set v .any
def wipeF (fps : List (List Addr)) : List Nat → List (List Addr)
  | [] => fps
  | v :: vs => (wipeF fps vs).set v []
theorem wipeF_sub {fps : List (List Addr)} : ∀ {vs : List Nat} {a : Addr}, a ∈ (wipeF fps vs).flatten → a ∈ fps.flatten
  | [], _, h => h
  | v :: vs, a, h => (flatten_set h).elim (fun z => nomatch z) wipeF_sub
theorem Env.wiped {K : FK} {B : Hp} {T : List Addr} {H : Hp} {σ : L2.St} {ρ : List Sl} {τ : D} {fps : List (List Addr)} (E : Env K B T H σ ρ τ fps) : ∀ vs : List Nat, Env K B T H (wipe σ vs) (wipeL ρ vs) τ (wipeF fps vs)
  | [] => E
  | v :: vs => (Env.wiped E vs).put v .any
theorem wipe_get {σ : L2.St} {j : Nat} : ∀ {vs : List Nat}, (wipe σ vs)[j]? = if j ∈ vs then (σ[j]?).map (fun _ => none) else σ[j]?
  | [] => by simp [wipe]
  | v :: vs => by
    have ih := wipe_get (σ := σ) (j := j) (vs := vs)
    unfold wipe
    by_cases e : v = j
    · subst e
      rw [if_pos List.mem_cons_self, List.getElem?_set, if_pos rfl, wipe_length]
      by_cases q : v < σ.length
      · rw [if_pos q, List.getElem?_eq_getElem q]; rfl
      · rw [if_neg q, List.getElem?_eq_none (Nat.le_of_not_lt q)]; rfl
    · rw [List.getElem?_set_ne e, ih]
      by_cases q : j ∈ vs
      · rw [if_pos q, if_pos (List.mem_cons_of_mem _ q)]
      · rw [if_neg q, if_neg (by simp [q, Ne.symm e])]
theorem wipe_ext {σ σ' : L2.St} {vs : List Nat} (hl : σ'.length = (wipe σ vs).length) (h : ∀ j, j ∉ vs → σ'[j]? = (wipe σ vs)[j]?) : wipe σ' vs = wipe σ vs := by
  apply List.ext_getElem?
  intro j
  rw [wipe_length] at hl
  rw [wipe_get, wipe_get]
  by_cases q : j ∈ vs
  · rw [if_pos q, if_pos q]
    by_cases z : j < σ.length
    · rw [List.getElem?_eq_getElem z, List.getElem?_eq_getElem (by omega)]; rfl
    · rw [List.getElem?_eq_none (by omega), List.getElem?_eq_none (by omega)]
  · have := h j q
    rw [wipe_get, if_neg q] at this
    rw [if_neg q, if_neg q, this]

theorem wpI.imp {X : Cx} {tg iter : Expr} {σ : L2.St} {H : Hp} {R R' : It → Hp → Prop} (h : wpI X tg iter σ H R) (k : ∀ J H, R J H → R' J H) : wpI X tg iter σ H R' := fun pins s I =>
  thn (h pins s I) fun v s1 q => thn q fun itv s2 ⟨it, fp, tn, J, H', e, I', t, t0, hf, hr⟩ => ⟨it, fp, tn, J, H', e, I', t, t0, hf, k _ _ hr⟩
section
variable (X : Cx) (scope : Scope)
abbrev Bk (s : Shared) (H0 : Hp) (C : Addr) (cl : List (Str × Addr)) (fp : List Addr) : Cx := X.blk s H0 scope (compEnvC scope cl C X.env) fp
def famE (e : Expr) : TE := fun σ H Q => ∀ s H0 C cl fp, wpE (Bk X scope s H0 C cl fp) e σ H Q
def famT (e : Expr) : TT := fun σ H Q => ∀ s H0 C cl fp, wpT (Bk X scope s H0 C cl fp) e σ H Q
def famG (e : Expr) : TG := fun v σ H Q => ∀ s H0 C cl fp, wpG (Bk X scope s H0 C cl fp) e v σ H Q
/-- one turn of a comprehension: the target, the test, the element; what holds behind it -/
def Turn1 (B : Hp) (T : List Addr) (ρ : List Sl) (τ : D) (vs : List Nat) (tg elt : Expr) (ifs : List Expr) (d : D) (I : D → Option D → Prop) : Prop :=
  ∀ s H0 C cl fp, GT (Bk X scope s H0 C cl fp) B T vs (wipeL ρ vs) tg d fun ρ2 => match ifs with
    | [] => ∀ s H0 C cl fp, ET (Bk X scope s H0 C cl fp) B T ρ2 τ elt fun τ4 y o => o = true ∧ I τ4 (some y)
    | c :: _ => ∀ s H0 C cl fp, TT' (Bk X scope s H0 C cl fp) B T ρ2 τ c fun τ3 b => if b = true then ∀ s H0 C cl fp, ET (Bk X scope s H0 C cl fp) B T ρ2 τ3 elt fun τ4 y o => o = true ∧ I τ4 (some y) else I τ3 none
end
section
variable {X : Cx} {B : Hp} {T : List Addr} {ρ : List Sl} {τ : D}
def tts (X : Cx) (scope : Scope) (ifs : List Expr) : TT := match ifs with
  | [] => tYes
  | c :: _ => famT X scope c
theorem tts_nil {scope : Scope} {σ : L2.St} {H : Hp} {Q : Bool → Hp → Prop} (h : Q true H) : tts X scope [] σ H Q := h
/-- what has been made so far at A -/
structure Made (K : FK) (B : Hp) (T : List Addr) (H1 : Hp) (Ad : Addr) (H : Hp) (acc : List D) : Prop where
  fr : ∀ b o, H1 b = some o → b ∉ T → H b = some o
  own : ∃ vs fp, H Ad = some (.lst vs) ∧ OwnAll K Em H vs acc fp ∧ Ad ∉ fp ∧ ∀ a ∈ fp, H1 a = none
theorem lc_go {σ : L2.St} {H1 : Hp} {fps : List (List Addr)} {scope : Scope} {vs : List Nat} {tg elt : Expr} {ifs : List Expr} {J : It} {ds : List D} {hold : List Addr} {G : Hp → Prop} {Qf : V → Hp → Prop} {Ad : Addr}
    (E : Env X.K B T H1 σ ρ τ fps) (W : Wk X.K B J ds hold G) (g0 : G H1) (hT : ∀ a ∈ hold, a ∉ T) (hA : H1 Ad = none) (hsz : ds.length ≤ sizeLine)
    (I : Nat → D → List D → Prop) (i0 : I 0 τ []) (hI : ∀ i d τ2 acc, ds[i]? = some d → I i τ2 acc → Turn1 X scope B T ρ τ2 vs tg elt ifs d fun τ4 y => I (i + 1) τ4 (acc ++ y.toList))
    (hd : ∀ τ2 acc H, I ds.length τ2 acc → Tp X.K H T τ2 → Made X.K B T H1 Ad H acc → Qf (.ref Ad) H) :
    ∃ W : Nat → Nat → Hp → Prop, (∃ m, W 0 m (upd H1 Ad (.lst []))) ∧ ∀ i m H, W i m H →
      (J.stop i H ∧ Qf (.ref Ad) H) ∨ (J.go i H ∧ ∃ Nx : Hp → Prop, (∀ H', Nx H' → ∃ m', m' < m ∧ W (i + 1) m' H') ∧ ∀ x H', J.yld i H x H' → famG X scope tg x (wipe σ vs) H' fun σ2 H2 => wipe σ2 vs = wipe σ vs ∧ tts X scope ifs σ2 H2 fun b H3 =>
        if b = true then famE X scope elt σ2 H3 fun y H4 => ∃ acc, H4 Ad = some (.lst acc) ∧ acc.length < sizeLine ∧ Nx (upd H4 Ad (.lst (acc ++ [y]))) else Nx H3) := by
  refine ⟨fun i m H => m = ds.length - i ∧ i ≤ ds.length ∧ ∃ τ2 acc, I i τ2 acc ∧ acc.length ≤ i ∧ Tp X.K H T τ2 ∧ Made X.K B T H1 Ad H acc ∧ G H, ⟨ds.length, rfl, Nat.zero_le _, τ, [], i0, Nat.le_refl _, ?_⟩, ?_⟩
  · have s := same_new (o := .lst []) hA
    exact ⟨E.tt.same s, ⟨fun b o e _ => s b o e, [], [], upd_same, .nil, (fun z => nomatch z), fun _ z => nomatch z⟩, W.keep _ _ g0 (fun b o e => s b o (E.base b o e)) (Stay.of_same s) (keep_same s (W.tr _ g0))⟩
  · rintro i m H ⟨rfl, hi, τ2, acc, hIi, hl, t2, M, g⟩
    by_cases hlt : i < ds.length
    · refine .inr ⟨W.go i H g hlt, fun H' => ∃ τ2 acc, I (i + 1) τ2 acc ∧ acc.length ≤ i + 1 ∧ Tp X.K H' T τ2 ∧ Made X.K B T H1 Ad H' acc ∧ G H', fun H' q => ⟨ds.length - (i + 1), by omega, rfl, hlt, q⟩, fun x H' hy => ?_⟩
      obtain ⟨s5, g5, fp5, o5, h5⟩ := W.yld i H x H' _ g (List.getElem?_eq_getElem hlt) hy
      have turn := hI i _ τ2 acc (List.getElem?_eq_getElem hlt) hIi
      -- behind the item
      have M5 : Made X.K B T H1 Ad H' acc := by
        obtain ⟨ws, fq, q1, q2, q3, q4⟩ := M.own
        exact ⟨fun b o e n => s5 b o (M.fr b o e n), ws, fq, s5 _ _ q1, q2.mv (Stay.of_same s5) (keep_same s5 q2.tracked), q3, q4⟩
      have t5 := t2.same s5
      have Eb : Env X.K B T H' σ ρ τ2 fps := E.step M5.fr t5
      intro sb Hb Cb clb fpb
      refine turn sb Hb Cb clb fpb (wipe σ vs) H' (wipeF fps vs) x τ2 (Eb.wiped vs) ⟨fp5, o5, fun a ha => hT a (h5 a ha)⟩ _ fun ρ2 σ2 fps2 h2 E2 sub2 j2 l2 => ?_
      refine ⟨wipe_ext l2 j2, ?_⟩
      have nT : ∀ a, H1 a = none → a ∉ T := fun a ha z => by
        obtain ⟨o, e, _⟩ := E.tt.tracked a z
        rw [ha] at e; cases e
      -- behind the element
      have fin : ∀ {τ3 : D} {H3 : Hp}, Tp X.K H3 T τ3 → Made X.K B T H1 Ad H3 acc → G H3 → Env X.K B T H3 σ2 ρ2 τ3 fps2 → (∀ s H0 C cl fp, ET (Bk X scope s H0 C cl fp) B T ρ2 τ3 elt fun τ4 y o => o = true ∧ I (i + 1) τ4 (acc ++ [y])) →
          famE X scope elt σ2 H3 fun y H4 => ∃ acc, H4 Ad = some (.lst acc) ∧ acc.length < sizeLine ∧ ∃ τ2 acc2, I (i + 1) τ2 acc2 ∧ acc2.length ≤ i + 1 ∧ Tp X.K (upd H4 Ad (.lst (acc ++ [y]))) T τ2 ∧ Made X.K B T H1 Ad (upd H4 Ad (.lst (acc ++ [y]))) acc2 ∧ G (upd H4 Ad (.lst (acc ++ [y]))) := fun {τ3 H3} t3 M3 g3 E3 he s H0 C cl fp => by
        refine (he s H0 C cl fp σ2 H3 fps2 E3).imp fun y H4 ⟨τ4, d4, o4, ⟨ho, hI4⟩, t4, f4, r4⟩ => ?_
        subst ho
        obtain ⟨ws, fq, p1, p2, p3, p5⟩ := M3.own
        have q1 : H4 Ad = some (.lst ws) := f4 _ _ p1 (nT _ hA)
        have q2 : OwnAll X.K Em H4 ws acc fq := p2.mv (t3.stay f4) (keep_of f4 p2.tracked fun a ha => nT a (p5 a ha))
        have Eo : Env X.K B T H3 σ ρ τ3 fps := E.step M3.fr t3
        have Eo4 := Eo.step f4 t4
        have g4 : G H4 := W.keep _ _ g3 Eo4.base (t3.stay f4) (keep_of f4 (W.tr _ g3) hT)
        obtain ⟨fp4, q4, n4⟩ := r4.out
        have nA : Ad ∉ fp4 := fun hc => by rw [n4 Ad hc] at p1; cases p1
        have dis : ∀ c ∈ fq, c ∉ fp4 := fun c hc z => by
          obtain ⟨o, e, _⟩ := p2.tracked c hc
          rw [n4 c z] at e; cases e
        have all := OwnAll.append q2 (.one q4) dis
        -- the list grows
        have su : Stay H4 (upd H4 Ad (.lst (ws ++ [y]))) := fun a o e m => by
          rw [upd_ne]
          · exact e
          · rintro rfl
            rw [q1] at e; cases e; cases m
        have ku : ∀ {fr : List Addr}, Ad ∉ fr → Keep fr H4 (upd H4 Ad (.lst (ws ++ [y]))) := fun {fr} n a ha => upd_ne fun e => n (e ▸ ha)
        have nall : Ad ∉ fq ++ fp4 := fun z => (List.mem_append.mp z).elim p3 nA
        refine ⟨ws, q1, by rw [q2.length]; omega, τ4, acc ++ [d4], hI4, by simp; omega, ?_, ⟨fun b o e n => ?_, ws ++ [y], fq ++ fp4, upd_same, all.mv su (ku nall), nall, fun a ha => ?_⟩, ?_⟩
        · rcases t4 with e | ⟨b, r, e, o⟩
          · exact .inl e
          · exact .inr ⟨b, r, e, o.mv su (ku fun z => nT Ad hA (e ▸ z))⟩
        · rw [upd_ne (ne_of_none e hA)]
          exact f4 b o (M3.fr b o e n) n
        · rcases List.mem_append.mp ha with ha | ha
          · exact p5 a ha
          · cases e : H1 a with
            | none => rfl
            | some o =>
              by_cases z : a ∈ T
              · obtain ⟨o', e', _⟩ := t3.tracked a z
                rw [n4 a ha] at e'; cases e'
              · have := M3.fr a o e z
                rw [n4 a ha] at this; cases this
        · refine W.keep _ _ g4 (fun b o e => ?_) su (ku fun z => ?_)
          · have hb := E.base b o e
            rw [upd_ne (ne_of_none hb hA)]
            exact Eo4.base b o e
          · obtain ⟨o, e, _⟩ := W.tr _ g0 Ad z
            rw [hA] at e; cases e
      cases ifs with
      | nil =>
        have r := fin t5 M5 g5 E2 h2
        refine tts_nil ?_
        rw [if_pos rfl]
        exact r
      | cons c r =>
        intro s H0 C cl fp
        refine (h2 s H0 C cl fp σ2 H' fps2 E2).imp fun b H3 ⟨τ3, hb, t3, f3⟩ => ?_
        have M3 : Made X.K B T H1 Ad H3 acc := by
          obtain ⟨ws, fq, p1, p2, p3, p5⟩ := M5.own
          exact ⟨fun b o e n => f3 b o (M5.fr b o e n) n, ws, fq, f3 _ _ p1 (nT _ hA), p2.mv (t5.stay f3) (keep_of f3 p2.tracked fun a ha => nT a (p5 a ha)), p3, p5⟩
        have g3 : G H3 := W.keep _ _ g5 (Eb.step f3 t3).base (t5.stay f3) (keep_of f3 (W.tr _ g5) hT)
        cases b with
        | true =>
          rw [if_pos rfl] at hb ⊢
          exact fin t3 M3 g3 (E2.step f3 t3) hb
        | false =>
          rw [if_neg Bool.false_ne_true] at hb ⊢
          exact ⟨τ3, acc, by simpa using hb, by omega, t3, M3, g3⟩
    · have e : i = ds.length := by omega
      subst e
      exact .inl ⟨W.stop _ H g (Nat.le_refl _), hd τ2 acc H hIi t2 M⟩
/-- what a list comprehension makes -/
def LC (X : Cx) (B : Hp) (T : List Addr) (ρ : List Sl) (τ : D) (scope : Scope) (own : List (Str × Nat)) (tg iter elt : Expr) (ifs : List Expr) (k : D → List D → Prop) : Prop :=
  IT X B T ρ τ tg iter fun τ1 ds _ => ds.length ≤ sizeLine ∧ ∃ I : Nat → D → List D → Prop, I 0 τ1 [] ∧ (∀ i d τ2 acc, ds[i]? = some d → I i τ2 acc → Turn1 X scope B T ρ τ2 (own.map (·.2)) tg elt ifs d fun τ4 y => I (i + 1) τ4 (acc ++ y.toList)) ∧
      ∀ τ2 acc, I ds.length τ2 acc → k τ2 acc
section
variable {scope : Scope} {own : List (Str × Nat)} {tg iter elt : Expr} {ifs : List Expr} {pos : Pos} {Ψ : D → D → Bool → Prop}
theorem pg_fam {s : Shared} {H0 : Hp} {C : Addr} {cl : List (Str × Addr)} {fp : List Addr} : PG (Bk X scope s H0 C cl fp) tg (famG X scope tg) := ⟨fun pins s' σ H v u Q I r h => h s H0 C cl fp pins s' u I r⟩
theorem pe_fam {s : Shared} {H0 : Hp} {C : Addr} {cl : List (Str × Addr)} {fp : List Addr} : PE (Bk X scope s H0 C cl fp) elt (famE X scope elt) := ⟨fun pins s' σ H Q I h => h s H0 C cl fp pins s' I⟩
theorem pts_fam (hif : ifs.length ≤ 1) {s : Shared} {H0 : Hp} {C : Addr} {cl : List (Str × Addr)} {fp : List Addr} : PTs (Bk X scope s H0 C cl fp) ifs (tts X scope ifs) := by
  cases ifs with
  | nil => exact pts_nil
  | cons c r =>
    cases r with
    | nil => exact pts_one ⟨fun pins s' σ H Q I h => h s H0 C cl fp pins s' I⟩
    | cons _ _ => simp at hif
theorem LC.go {σ : L2.St} {H : Hp} {fps : List (List Addr)} {k : D → List D → Prop} {Q : VK} (E : Env X.K B T H σ ρ τ fps) (h : LC X B T ρ τ scope own tg iter elt ifs k)
    (q : ∀ τ2 acc v H', k τ2 acc → Tp X.K H' T τ2 → FrT T H H' → Res X.K B T H H' v (.list acc) true → Q v H') : tLc (wpI X tg iter) (famG X scope tg) (tts X scope ifs) (famE X scope elt) (own.map (·.2)) σ H Q := by
  refine wpI.imp (h σ H fps E) fun J H1 ⟨τ1, ds, o, hold, G, ⟨hsz, I, i0, hI, hd⟩, t1, f1, g1, W, n, nn⟩ => ?_
  intro Ad hA
  refine lc_go (Qf := Q) (E.step f1 t1) W g1 n hA hsz I i0 hI fun τ2 acc H' hk t2 M => ?_
  obtain ⟨ws, fq, p1, p2, p3, p5⟩ := M.own
  refine q τ2 acc _ H' (hd τ2 acc hk) t2 (f1.trans M.fr) ((Res.own (H := H1) (.lst p1 p2 p3) fun a ha => ?_).later E.tt f1 t1)
  rcases List.mem_cons.mp ha with rfl | ha
  · exact hA
  · exact p5 a ha
/-- [elt for tg in iter if ..]: at most one test -/
theorem e_lc (own : List (Str × Nat)) (nd : X.N.Nodup) (ok : BlkOk X.N X.env.scope scope own) (h : LC X B T ρ τ scope own tg iter elt ifs fun τ2 acc => Ψ τ2 (.list acc) true) (hif : ifs.length ≤ 1 := by decide) (hc : X.calm = true := by rfl)
    (hs : ∀ x, foldedSetIterable iter X.env x = pure x := by intro _; rfl) : ET X B T ρ τ (.ListComp elt [⟨tg, iter, ifs, 0⟩] scope pos) Ψ := fun σ H fps E =>
  wp_pe (pe_lc hc nd pi_wp ok (fun s H0 C cl fp => pg_fam) (fun s H0 C cl fp => pts_fam hif) (fun s H0 C cl fp => pe_fam) hs) (h.go E fun τ2 acc v H' hk t2 f r => ⟨τ2, _, true, hk, t2, f, r⟩)
end
section
variable {α : Type} {scope : Scope} {own : List (Str × Nat)} {tg iter elt : Expr} {ifs : List Expr} {k : D → List D → Prop}
/-- the tape, if there is one, stays: what is taken is a function of the item -/
theorem lcO (f : α → Option D) (h : IT X B T ρ τ tg iter fun τ1 ds _ => ∃ (xs : List α) (enc : α → D), ds = xs.map enc ∧ xs.length ≤ sizeLine ∧ (∀ x ∈ xs, Turn1 X scope B T ρ τ1 (own.map (·.2)) tg elt ifs (enc x) fun τ4 y => τ4 = τ1 ∧ y = f x) ∧ k τ1 (xs.filterMap f)) :
    LC X B T ρ τ scope own tg iter elt ifs k := fun σ H fps E => wpI.imp (h σ H fps E) fun J H1 ⟨τ1, ds, o, hold, G, ⟨xs, enc, e, hl, ht, hk⟩, r⟩ => by
  refine ⟨τ1, ds, o, hold, G, ⟨by rw [e, List.length_map]; exact hl, fun i t acc => t = τ1 ∧ acc = (xs.take i).filterMap f, ⟨rfl, by simp⟩, ?_, ?_⟩, r⟩
  · rintro i d τ2 acc hd ⟨rfl, rfl⟩
    subst e
    rw [List.getElem?_map] at hd
    obtain ⟨x, hx, rfl⟩ := Option.map_eq_some_iff.mp hd
    intro s H0 C cl fp σ H fps v τ E r Q k
    refine ht x (List.mem_of_getElem? hx) s H0 C cl fp σ H fps v τ E r Q fun ρ' σ' fps' hq => k ρ' σ' fps' ?_
    have et : ∀ y : Option D, y = f x → (xs.take (i + 1)).filterMap f = (xs.take i).filterMap f ++ y.toList := fun y ey => by
      rw [List.take_add_one, List.filterMap_append, hx, ey]
      cases hf : f x <;> simp [List.filterMap, hf]
    cases ifs with
    | nil => exact fun s H0 C cl fp => (hq s H0 C cl fp).imp fun t d o ⟨h1, h2, h3⟩ => ⟨h1, h2, (et _ h3).symm⟩
    | cons c rr =>
      exact fun s H0 C cl fp => (hq s H0 C cl fp).imp fun t b hb => by
        cases b with
        | true => rw [if_pos rfl] at hb ⊢; exact fun s H0 C cl fp => (hb s H0 C cl fp).imp fun t d o ⟨h1, h2, h3⟩ => ⟨h1, h2, (et _ h3).symm⟩
        | false => rw [if_neg Bool.false_ne_true] at hb ⊢; exact ⟨hb.1, (et _ hb.2).symm⟩
  · rintro τ2 acc ⟨rfl, rfl⟩
    subst e
    rw [List.length_map, List.take_length]
    exact hk
theorem lcM (g : α → D) (h : IT X B T ρ τ tg iter fun τ1 ds _ => ∃ (xs : List α) (enc : α → D), ds = xs.map enc ∧ xs.length ≤ sizeLine ∧ (∀ x ∈ xs, Turn1 X scope B T ρ τ1 (own.map (·.2)) tg elt [] (enc x) fun τ4 y => τ4 = τ1 ∧ y = some (g x)) ∧ k τ1 (xs.map g)) :
    LC X B T ρ τ scope own tg iter elt [] k := lcO (fun x => some (g x)) fun σ H fps E => wpI.imp (h σ H fps E) fun J H1 ⟨τ1, ds, o, hold, G, ⟨xs, enc, e, hl, ht, hk⟩, r⟩ => ⟨τ1, ds, o, hold, G, ⟨xs, enc, e, hl, ht, by
  have e1 : xs.filterMap (fun x => some (g x)) = xs.map g := by
    rw [← List.filterMap_eq_map]; rfl
  rw [e1]; exact hk⟩, r⟩
theorem lcF (p : α → Bool) (g : α → D) {c : Expr} (h : IT X B T ρ τ tg iter fun τ1 ds _ => ∃ (xs : List α) (enc : α → D), ds = xs.map enc ∧ xs.length ≤ sizeLine ∧ (∀ x ∈ xs, Turn1 X scope B T ρ τ1 (own.map (·.2)) tg elt [c] (enc x) fun τ4 y => τ4 = τ1 ∧ y = if p x = true then some (g x) else none) ∧ k τ1 ((xs.filter p).map g)) :
    LC X B T ρ τ scope own tg iter elt [c] k := lcO (fun x => if p x = true then some (g x) else none) fun σ H fps E => wpI.imp (h σ H fps E) fun J H1 ⟨τ1, ds, o, hold, G, ⟨xs, enc, e, hl, ht, hk⟩, r⟩ => ⟨τ1, ds, o, hold, G, ⟨xs, enc, e, hl, ht, by
  have e1 : xs.filterMap (fun x => if p x = true then some (g x) else none) = (xs.filter p).map g := by
    clear ht e hl hk r h
    induction xs with
    | nil => rfl
    | cons x r ih =>
      rw [List.filterMap_cons]
      cases q : p x with
      | true => simp [q, ih]
      | false => simp [q, ih]
  rw [e1]; exact hk⟩, r⟩
end
end
end DL
/-! DL, part 7: statements. -/
namespace DL
open PySem PySem.Spec L2 RZ

/-- what is wanted behind a statement, by data -/
structure Phi where
  nx : List Sl → D → Prop
  rt : D → D → Prop
  bk : List Sl → D → Prop := fun _ _ => False
  ct : List Sl → D → Prop := fun _ _ => False
/-- all that stood but what is owned here stands -/
def FrS (T : List Addr) (fps : List (List Addr)) (H H' : Hp) : Prop := ∀ b o, H b = some o → b ∉ T → b ∉ fps.flatten → H' b = some o
def New (fps : List (List Addr)) (H : Hp) (fp : List Addr) : Prop := ∀ a ∈ fp, a ∈ fps.flatten ∨ H a = none
/-- behind a statement -/
def Nx (K : FK) (B : Hp) (T : List Addr) (H : Hp) (fps : List (List Addr)) (k : List Sl → D → Prop) (σ' : L2.St) (H' : Hp) : Prop := ∃ ρ' τ' fps', k ρ' τ' ∧ Env K B T H' σ' ρ' τ' fps' ∧ FrS T fps H H' ∧ New fps H fps'.flatten
def Rt (K : FK) (T : List Addr) (H : Hp) (fps : List (List Addr)) (k : D → D → Prop) (v : V) (H' : Hp) : Prop := ∃ τ' d fp, k τ' d ∧ Tp K H' T τ' ∧ Own K Em H' v d fp ∧ FrS T fps H H' ∧ New fps H fp
def EndsOf (K : FK) (B : Hp) (T : List Addr) (H : Hp) (fps : List (List Addr)) (Φ : Phi) : Ends :=
  { nx := Nx K B T H fps Φ.nx, rt := Rt K T H fps Φ.rt, bk := Nx K B T H fps Φ.bk, ct := Nx K B T H fps Φ.ct }
section
variable {K : FK} {B : Hp} {T : List Addr} {H H1 H2 : Hp} {σ : L2.St} {ρ : List Sl} {τ τ1 : D} {fps fps1 : List (List Addr)}
theorem FrS.of_frT (h : FrT T H H1) : FrS T fps H H1 := fun b o e n _ => h b o e n
theorem FrS.trans (a : FrS T fps H H1) (n : New fps H fps1.flatten) (b : FrS T fps1 H1 H2) : FrS T fps H H2 := fun c o e h1 h2 => b c o (a c o e h1 h2) h1 fun z => (n c z).elim h2 fun q => by rw [e] at q; cases q
theorem New.trans {fp : List Addr} (a : FrS T fps H H1) (t1 : Tp K H1 T τ1) (n : New fps H fps1.flatten) (m : New fps1 H1 fp) : New fps H fp := fun c hc => by
  rcases m c hc with q | q
  · exact n c q
  · cases e : H c with
    | none => exact .inr rfl
    | some o =>
      by_cases z : c ∈ T
      · obtain ⟨o', e', _⟩ := t1.tracked c z
        rw [q] at e'; cases e'
      · by_cases w : c ∈ fps.flatten
        · exact .inl w
        · have := a c o e z w
          rw [q] at this; cases this
theorem Nx.trans {k : List Sl → D → Prop} {σ' : L2.St} {H' : Hp} (a : FrS T fps H H1) (t1 : Tp K H1 T τ1) (n : New fps H fps1.flatten) (h : Nx K B T H1 fps1 k σ' H') : Nx K B T H fps k σ' H' :=
  let ⟨ρ', τ', fps', h1, h2, h3, h4⟩ := h; ⟨ρ', τ', fps', h1, h2, a.trans n h3, New.trans a t1 n h4⟩
theorem Rt.trans {k : D → D → Prop} {v : V} {H' : Hp} (a : FrS T fps H H1) (t1 : Tp K H1 T τ1) (n : New fps H fps1.flatten) (h : Rt K T H1 fps1 k v H') : Rt K T H fps k v H' :=
  let ⟨τ', d, fp, h1, h2, h3, h4, h5⟩ := h; ⟨τ', d, fp, h1, h2, h3, a.trans n h4, New.trans a t1 n h5⟩
theorem New.self : New fps H fps.flatten := fun _ h => .inl h
theorem Nx.imp {k k' : List Sl → D → Prop} {σ' : L2.St} {H' : Hp} (h : Nx K B T H fps k σ' H') (q : ∀ ρ τ, k ρ τ → k' ρ τ) : Nx K B T H fps k' σ' H' :=
  let ⟨ρ', τ', fps', h1, r⟩ := h; ⟨ρ', τ', fps', q _ _ h1, r⟩
theorem SlsR.tracked : ∀ {σ : L2.St} {ρ : List Sl} {fps : List (List Addr)}, SlsR K B T H σ ρ fps → ∀ a ∈ fps.flatten, ∃ o, H a = some o ∧ IsMut o = true
  | _, _, _, .nil, a, h => by simp at h
  | _, _, _, .cons h t, a, m => by
    rw [List.flatten_cons, List.mem_append] at m
    rcases m with m | m
    · cases h with
      | v o _ _ => exact o.tracked a m
      | _ => cases m
    · exact SlsR.tracked t a m
theorem SlsR.offT : ∀ {σ : L2.St} {ρ : List Sl} {fps : List (List Addr)}, SlsR K B T H σ ρ fps → ∀ a ∈ fps.flatten, a ∉ T
  | _, _, _, .nil, a, h => by simp at h
  | _, _, _, .cons h t, a, m => by
    rw [List.flatten_cons, List.mem_append] at m
    rcases m with m | m
    · cases h with
      | v _ n _ => exact n a m
      | _ => cases m
    · exact SlsR.offT t a m
end

section
variable {X : Cx} {B : Hp} {T : List Addr} {ρ : List Sl} {τ : D}
def ST (X : Cx) (B : Hp) (T : List Addr) (ρ : List Sl) (τ : D) (st : Stmt) (Φ : Phi) : Prop := ∀ σ H fps, Env X.K B T H σ ρ τ fps → wpS X st (EndsOf X.K B T H fps Φ) σ H
def SS (X : Cx) (B : Hp) (T : List Addr) (ρ : List Sl) (τ : D) (sts : List Stmt) (Φ : Phi) : Prop := ∀ σ H fps, Env X.K B T H σ ρ τ fps → wpSs X sts (EndsOf X.K B T H fps Φ) σ H
section
variable {st : Stmt} {sts : List Stmt} {e c : Expr} {pos : Pos} {Φ : Phi}
theorem Env.nx {H : Hp} {σ : L2.St} {fps : List (List Addr)} (E : Env X.K B T H σ ρ τ fps) {k : List Sl → D → Prop} (h : k ρ τ) : Nx X.K B T H fps k σ H := ⟨ρ, τ, fps, h, E, fun _ _ e _ _ => e, .self⟩
/-- behind an expression -/
theorem Env.nxT {H H1 : Hp} {σ : L2.St} {fps : List (List Addr)} (E : Env X.K B T H σ ρ τ fps) {τ1 : D} (f : FrT T H H1) (t : Tp X.K H1 T τ1) {k : List Sl → D → Prop} (h : k ρ τ1) : Nx X.K B T H fps k σ H1 := ⟨ρ, τ1, fps, h, E.step f t, .of_frT f, .self⟩
theorem ss_nil (h : Φ.nx ρ τ) : SS X B T ρ τ [] Φ := fun σ H fps E => wp_pss pss_nil (E.nx h)
theorem ss_cons (h : ST X B T ρ τ st { Φ with nx := fun ρ1 τ1 => SS X B T ρ1 τ1 sts Φ }) : SS X B T ρ τ (st :: sts) Φ := fun σ H fps E =>
  wp_pss (pss_cons ps_wp pss_wp) ((h σ H fps E).imp (fun σ1 H1 ⟨ρ1, τ1, fps1, h1, E1, f1, n1⟩ => (h1 σ1 H1 fps1 E1).imp (fun _ _ q => q.trans f1 E1.tt n1) (fun _ _ q => q.trans f1 E1.tt n1) (fun _ _ q => q.trans f1 E1.tt n1) (fun _ _ q => q.trans f1 E1.tt n1))
    (fun _ _ q => q) (fun _ _ q => q) (fun _ _ q => q))
theorem ss_one (h : ST X B T ρ τ st Φ) : SS X B T ρ τ [st] Φ := fun σ H fps E => wp_pss (pss_one ps_wp) (h σ H fps E)
theorem SS.imp {Φ' : Phi} (h : SS X B T ρ τ sts Φ) (hn : ∀ ρ τ, Φ.nx ρ τ → Φ'.nx ρ τ) (hr : ∀ τ d, Φ.rt τ d → Φ'.rt τ d) (hb : ∀ ρ τ, Φ.bk ρ τ → Φ'.bk ρ τ) (hc : ∀ ρ τ, Φ.ct ρ τ → Φ'.ct ρ τ) : SS X B T ρ τ sts Φ' := fun σ H fps E =>
  (h σ H fps E).imp (fun _ _ q => q.imp hn) (fun _ _ ⟨a, b, c, d, r⟩ => ⟨a, b, c, hr _ _ d, r⟩) (fun _ _ q => q.imp hb) (fun _ _ q => q.imp hc)
theorem s_pass (h : Φ.nx ρ τ) : ST X B T ρ τ (.Pass pos) Φ := fun σ H fps E => wp_ps ps_pass (E.nx h)
theorem s_break (h : Φ.bk ρ τ) : ST X B T ρ τ (.Break pos) Φ := fun σ H fps E => wp_ps ps_break (E.nx h)
theorem s_continue (h : Φ.ct ρ τ) : ST X B T ρ τ (.Continue pos) Φ := fun σ H fps E => wp_ps ps_continue (E.nx h)
theorem s_ret (h : ET X B T ρ τ e fun τ1 d o => o = true ∧ Φ.rt τ1 d) : ST X B T ρ τ (.Return (some e) pos) Φ := fun σ H fps E =>
  wp_ps (ps_ret pe_wp) ((h σ H fps E).imp fun v H1 ⟨τ1, d, o, ⟨ho, hk⟩, t1, f1, r1⟩ => by
    subst ho
    obtain ⟨fp, q, n⟩ := r1.out
    exact ⟨τ1, d, fp, hk, t1, q, .of_frT f1, fun a ha => .inr (n a ha)⟩)
/-- what stands in a slot goes out -/
theorem s_retV (i : Nat) {x : Str} {py : Pos} {d : D} {sa : Option Addr} (hρ : ρ[i]? = some (.v d sa)) (h : Φ.rt τ d) (hN : X.N[i]? = some x := by rfl)
    (hv : Vis X.env.scope x := by first | exact Or.inl rfl | exact Or.inr (Or.inl rfl) | exact Or.inr (Or.inr rfl)) (hd : (x == ("__debug__" : Str)) = false := by decide) (hcd : (x == ("__classdict__" : Str)) = false := by decide) : ST X B T ρ τ (.Return (some (.Name x py)) pos) Φ := fun σ H fps E => by
  obtain ⟨y, fp, h1, h2, h3⟩ := E.rel.get hρ
  cases h3 with
  | v o n a => exact wp_ps (ps_ret (pe_var hN hv hd hcd)) ⟨_, h1, τ, d, fp, h, E.tt, o, fun _ _ e _ _ => e, fun a ha => .inl (mem_flat h2 ha)⟩
theorem s_retN (h : Φ.rt τ .none) : ST X B T ρ τ (.Return none pos) Φ := fun σ H fps E => wp_ps ps_retN ⟨τ, _, [], h, E.tt, .non, fun _ _ e _ _ => e, fun _ z => nomatch z⟩
theorem s_expr (h : ET X B T ρ τ e fun τ1 _ _ => Φ.nx ρ τ1) (hs : swapsWith e none pos.line X.env = pure false := by rfl) : ST X B T ρ τ (.Expr e pos) Φ := fun σ H fps E =>
  wp_ps (ps_expr pe_wp hs) ((h σ H fps E).imp fun v H1 ⟨τ1, d, o, hk, t1, f1, r1⟩ => E.nxT f1 t1 hk)
theorem s_if {a b : List Stmt} (h : TT' X B T ρ τ c fun τ1 k => if k = true then SS X B T ρ τ1 a Φ else SS X B T ρ τ1 b Φ) : ST X B T ρ τ (.If c a b pos) Φ := fun σ H fps E =>
  wp_ps (ps_if pt_wp pss_wp pss_wp) ((h σ H fps E).imp fun k H1 ⟨τ1, hk, t1, f1⟩ => by
    have E1 := E.step f1 t1
    have n1 : New fps H fps.flatten := .self
    have g : FrS T fps H H1 := .of_frT f1
    cases k with
    | true => rw [if_pos rfl] at hk ⊢; exact (hk σ H1 fps E1).imp (fun _ _ q => q.trans g t1 n1) (fun _ _ q => q.trans g t1 n1) (fun _ _ q => q.trans g t1 n1) (fun _ _ q => q.trans g t1 n1)
    | false => rw [if_neg Bool.false_ne_true] at hk ⊢; exact (hk σ H1 fps E1).imp (fun _ _ q => q.trans g t1 n1) (fun _ _ q => q.trans g t1 n1) (fun _ _ q => q.trans g t1 n1) (fun _ _ q => q.trans g t1 n1))
theorem ss_never (h : False) : SS X B T ρ τ sts Φ := h.elim
theorem st_never (h : False) : ST X B T ρ τ st Φ := h.elim

/-! names stored -/
/-- what is new goes into a slot -/
theorem Env.own {H H1 : Hp} {σ : L2.St} {fps : List (List Addr)} {v : V} {d : D} {t : D} (E : Env X.K B T H σ ρ τ fps) (f : FrT T H H1) (t1 : Tp X.K H1 T t) (r : Res X.K B T H H1 v d true) (i : Nat) {k : List Sl → D → Prop} (h : k (ρ.set i (.v d)) t) : Nx X.K B T H fps k (σ.set i (some v)) H1 := by
  obtain ⟨fp, q, n⟩ := r.out
  have E1 := E.step f t1
  have nT : ∀ a ∈ fp, a ∉ T := fun a ha z => by
    obtain ⟨o, e, _⟩ := E.tt.tracked a z
    rw [n a ha] at e; cases e
  have nf : ∀ a ∈ fp, a ∉ fps.flatten := fun a ha z => by
    obtain ⟨o, e, _⟩ := E.rel.tracked a z
    rw [n a ha] at e; cases e
  have nB : ∀ a ∈ fp, B a = none := fun a ha => by
    cases e : B a with
    | none => rfl
    | some o => have := E.base a o e; rw [n a ha] at this; cases this
  refine ⟨_, t, fps.set i fp, h, ⟨E1.rel.set i (.v q nT fun _ z => nomatch z), ?_, E1.base, fun a ha => (flatten_set ha).elim (nB a) (E1.sep a), E1.sepT, E1.tt⟩, .of_frT f, fun a ha => (flatten_set ha).elim (fun z => .inr (n a z)) .inl⟩
  cases e : fps[i]? with
  | none => rw [List.set_eq_of_length_le (List.getElem?_eq_none_iff.mp e)]; exact E.nd
  | some fp0 => exact nodup_set E.nd e q.nodup fun a ha => .inr (nf a ha)
theorem s_set (i : Nat) {x : Str} {py : Pos} (nd : X.N.Nodup) (h : ET X B T ρ τ e fun τ1 d o => o = true ∧ Φ.nx (ρ.set i (.v d)) τ1) (hi : X.N[i]? = some x := by rfl) (hx : Loc X.env.scope x := by first | exact Or.inl rfl | exact Or.inr rfl)
    (hs : swapsWith e (some (.Name x py)) pos.line X.env = pure false := by rfl) (hf : X.fn x = true ∨ X.env.scope.names.lookup x = some .local := by first | exact .inl rfl | exact .inr rfl) : ST X B T ρ τ (.Assign [.Name x py] e pos) Φ := fun σ H fps E =>
  wp_ps (ps_set nd hi hx pe_wp hs hf) ((h σ H fps E).imp fun v H1 ⟨τ1, d, o, ⟨ho, hk⟩, t1, f1, r1⟩ => by
    subst ho
    exact E.own f1 t1 r1 i hk)
end
end
end DL
/-! DL, part 8: stores, loops. -/
namespace DL
open PySem PySem.Spec L2 RZ

section
variable {X : Cx} {B : Hp} {T : List Addr} {ρ : List Sl} {τ : D}

/-! ### owned targets -/
def GO (X : Cx) (B : Hp) (T : List Addr) (ρ : List Sl) (tg : Expr) (d : D) (Ψ : List Sl → Prop) : Prop := ∀ σ H fps v τ fp, Env X.K B T H σ ρ τ fps → Own X.K Em H v d fp → (∀ a ∈ fp, a ∉ T ∧ a ∉ fps.flatten ∧ B a = none) → ∀ Q,
  (∀ ρ' σ' fps', Ψ ρ' → Env X.K B T H σ' ρ' τ fps' → (∀ a ∈ fps'.flatten, a ∈ fps.flatten ∨ a ∈ fp) → Q σ' H) → wpG X tg v σ H Q
def GOs (X : Cx) (B : Hp) (T : List Addr) (ρ : List Sl) (tgs : List Expr) (ds : List D) (Ψ : List Sl → Prop) : Prop := ∀ σ H fps vs τ fp, Env X.K B T H σ ρ τ fps → OwnAll X.K Em H vs ds fp → (∀ a ∈ fp, a ∉ T ∧ a ∉ fps.flatten ∧ B a = none) → ∀ Q,
  (∀ ρ' σ' fps', Ψ ρ' → Env X.K B T H σ' ρ' τ fps' → (∀ a ∈ fps'.flatten, a ∈ fps.flatten ∨ a ∈ fp) → Q σ' H) → wpGs X tgs vs σ H Q
theorem go_name (i : Nat) {x : Str} {pos : Pos} {d : D} {Ψ : List Sl → Prop} (nd : X.N.Nodup) (h : Ψ (ρ.set i (.v d))) (hi : X.N[i]? = some x := by rfl) (hx : Loc X.env.scope x := by first | exact Or.inl rfl | exact Or.inr rfl)
    (hf : X.fn x = true ∨ X.env.scope.names.lookup x = some .local := by first | exact .inl rfl | exact .inr rfl) : GO X B T ρ (.Name x pos) d Ψ := fun σ H fps v τ fp E o n Q k => by
  refine wp_pg (pg_name nd hi hx hf) (k _ _ (fps.set i fp) h ⟨E.rel.set i (.v o (fun a ha => (n a ha).1) fun _ z => nomatch z), ?_, E.base, fun a ha => (flatten_set ha).elim (fun z => (n a z).2.2) (E.sep a), E.sepT, E.tt⟩ fun a ha => (flatten_set ha).symm)
  cases e : fps[i]? with
  | none => rw [List.set_eq_of_length_le (List.getElem?_eq_none_iff.mp e)]; exact E.nd
  | some fp0 => exact nodup_set E.nd e o.nodup fun a ha => .inr (n a ha).2.1
theorem gos_nil {Ψ : List Sl → Prop} (h : Ψ ρ) : GOs X B T ρ [] [] Ψ := fun σ H fps vs τ fp E r n Q k => by
  cases r
  exact wp_pgs pgs_nil ⟨rfl, k ρ σ fps h E fun _ z => .inl z⟩
theorem gos_cons {e : Expr} {es : List Expr} {d : D} {ds : List D} {Ψ : List Sl → Prop} (h : GO X B T ρ e d fun ρ1 => GOs X B T ρ1 es ds Ψ)
    (hs : (assignEach (e :: es) X.env).map (·.2) = assign e X.env :: (assignEach es X.env).map (·.2) := by rfl) : GOs X B T ρ (e :: es) (d :: ds) Ψ := fun σ H fps vs τ fp E r n Q k => by
  obtain ⟨v, ws, f1, f2, rfl, rfl, o1, o2, dj⟩ := r.cons_inv
  refine wp_pgs (pgs_cons pg_wp pgs_wp hs) ⟨_, _, rfl, h σ H fps _ τ f1 E o1 (fun a ha => n a (List.mem_append_left _ ha)) _ fun ρ1 σ1 fps1 h1 E1 s1 => ?_⟩
  exact h1 σ1 H fps1 _ τ f2 E1 o2 (fun a ha => ⟨(n a (List.mem_append_right _ ha)).1, fun z => (s1 a z).elim (n a (List.mem_append_right _ ha)).2.1 fun w => dj a w ha, (n a (List.mem_append_right _ ha)).2.2⟩) Q
    fun ρ2 σ2 fps2 h2 E2 s2 => k ρ2 σ2 fps2 h2 E2 fun a ha => (s2 a ha).elim (fun z => (s1 a z).imp id fun w => List.mem_append_left _ w) fun z => .inr (List.mem_append_right _ z)
theorem go_tup {es : List Expr} {k : Nat} {pos : Pos} {ds : List D} {Ψ : List Sl → Prop} (h : GOs X B T ρ es ds Ψ) (hc : X.calm = true := by rfl) (hn : (assignEach es X.env).length = ds.length := by rfl) (hst : (assignEach es X.env).findIdx? (·.1) = none := by rfl) :
    GO X B T ρ (.Tuple es k pos) (.tuple ds) Ψ := fun σ H fps v τ fp E o n Q q => by
  obtain ⟨a, xs, rfl, hs, ha⟩ := o.tup_inv
  exact wp_pg (pg_tup hc pgs_wp hn hst) ⟨a, xs, rfl, hs, ha.length, h σ H fps xs τ fp E ha n Q q⟩
section
variable {e tg : Expr} {pos : Pos} {Φ : Phi}
theorem Env.fresh {H H1 : Hp} {σ : L2.St} {fps : List (List Addr)} (E : Env X.K B T H σ ρ τ fps) {fp : List Addr} (n : ∀ a ∈ fp, H a = none) : ∀ a ∈ fp, a ∉ T ∧ a ∉ fps.flatten ∧ B a = none := fun a ha => by
  refine ⟨fun z => ?_, fun z => ?_, ?_⟩
  · obtain ⟨o, e, _⟩ := E.tt.tracked a z
    rw [n a ha] at e; cases e
  · obtain ⟨o, e, _⟩ := E.rel.tracked a z
    rw [n a ha] at e; cases e
  · cases e : B a with
    | none => rfl
    | some o => have := E.base a o e; rw [n a ha] at this; cases this
/-- a, b = e -/
theorem s_unpack (h : ET X B T ρ τ e fun τ1 d o => o = true ∧ GO X B T ρ tg d fun ρ' => Φ.nx ρ' τ1) (hs : swapsWithSole [tg] e pos.line X.env = pure false := by rfl) (hw : swappedStores [tg] e X.env = pure none := by rfl)
    (h1 : (assignEach [tg] X.env).map (·.2) = [assign tg X.env] := by rfl) : ST X B T ρ τ (.Assign [tg] e pos) Φ := fun σ H fps E =>
  wp_ps (ps_asg pe_wp pg_wp hs hw h1) ((h σ H fps E).imp fun v H1 ⟨τ1, d, o, ⟨ho, hk⟩, t1, f1, r1⟩ => by
    subst ho
    obtain ⟨fp, q, n⟩ := r1.out
    have E1 := E.step f1 t1
    exact hk σ H1 fps v τ1 fp E1 q (E.fresh (H1 := H1) n) _ fun ρ' σ' fps' h' E' s' => ⟨ρ', τ1, fps', h', E', .of_frT f1, fun a ha => (s' a ha).imp id (n a)⟩)
/-- .. of what is lent -/
theorem s_unpackB {ws : List Nat} (h : ET X B T ρ τ e fun τ1 d o => GT X B T ws ρ tg d fun ρ' => Φ.nx ρ' τ1) (hs : swapsWithSole [tg] e pos.line X.env = pure false := by rfl) (hw : swappedStores [tg] e X.env = pure none := by rfl)
    (h1 : (assignEach [tg] X.env).map (·.2) = [assign tg X.env] := by rfl) : ST X B T ρ τ (.Assign [tg] e pos) Φ := fun σ H fps E =>
  wp_ps (ps_asg pe_wp pg_wp hs hw h1) ((h σ H fps E).imp fun v H1 ⟨τ1, d, o, hk, t1, f1, r1⟩ =>
    hk σ H1 fps v τ1 (E.step f1 t1) (r1.read E.tt) _ fun ρ' σ' fps' h' E' s' _ _ => ⟨ρ', τ1, fps', h', E', .of_frT f1, fun a ha => .inl (s' a ha)⟩)
/-- a, b = x, y: local names -/
theorem s_par (i j : Nat) {x y : Str} {a b : Expr} {px py pt : Pos} {kt k2 pt2} (nd : X.N.Nodup) (h : AT X B T ρ τ [a, b] fun τ1 ds os => ∃ d1 d2, ds = [d1, d2] ∧ os.all id = true ∧ Φ.nx ((ρ.set i (.v d1)).set j (.v d2)) τ1)
    (hw : swappedStores [.Tuple [.Name x px, .Name y py] kt pt] (.Tuple [a, b] k2 pt2) X.env = pure (some [x, y]) := by rfl)
    (hc : X.calm = true := by rfl) (hi : X.N[i]? = some x := by rfl) (hj : X.N[j]? = some y := by rfl) (hij : i ≠ j := by decide) (hx : X.env.scope.names.lookup x = some .local := by rfl) (hy : X.env.scope.names.lookup y = some .local := by rfl)
    (hs : swapsWithSole [.Tuple [.Name x px, .Name y py] kt pt] (.Tuple [a, b] k2 pt2) pos.line X.env = pure false := by rfl) : ST X B T ρ τ (.Assign [.Tuple [.Name x px, .Name y py] kt pt] (.Tuple [a, b] k2 pt2) pos) Φ := fun σ H fps E =>
  wp_ps (ps_par hc nd hi hj hij hx hy pa_wp hw hs) ((h σ H fps E).imp fun vs H1 ⟨τ1, ds, os, ⟨d1, d2, ed, ho, hk⟩, t1, f1, r1⟩ => by
    subst ed
    obtain ⟨fp, q, n⟩ := r1.own ho
    obtain ⟨v1, ws, f1', f2', rfl, rfl, o1, o2, dj⟩ := q.cons_inv
    obtain ⟨v2, ws', f3', f4', rfl, rfl, o3, o4, dj'⟩ := o2.cons_inv
    obtain ⟨rfl, rfl⟩ := o4.nil_inv
    rw [List.append_nil] at n dj
    have E1 := E.step f1 t1
    have fr := E.fresh (H1 := H1) n
    refine ⟨v1, v2, rfl, _, τ1, (fps.set i f1').set j f3', hk, ⟨((E1.rel.set i (.v (sa := Option.none) o1 (fun a ha => (fr a (List.mem_append_left _ ha)).1) fun _ z => nomatch z)).set j (.v (sa := Option.none) o3 (fun a ha => (fr a (List.mem_append_right _ ha)).1) fun _ z => nomatch z)), ?_, E1.base, fun a ha => ?_, E1.sepT, E1.tt⟩, .of_frT f1, fun a ha => ?_⟩
    · have n1 : (fps.set i f1').flatten.Nodup := by
        cases e : fps[i]? with
        | none => rw [List.set_eq_of_length_le (List.getElem?_eq_none_iff.mp e)]; exact E.nd
        | some fp0 => exact nodup_set E.nd e o1.nodup fun a ha => .inr (fr a (List.mem_append_left _ ha)).2.1
      cases e : (fps.set i f1')[j]? with
      | none => rw [List.set_eq_of_length_le (List.getElem?_eq_none_iff.mp e)]; exact n1
      | some fp0 => exact nodup_set n1 e o3.nodup fun a ha => .inr fun z => (flatten_set z).elim (fun w => dj a w ha) (fr a (List.mem_append_right _ ha)).2.1
    · rcases flatten_set ha with z | z
      · exact (fr a (List.mem_append_right _ z)).2.2
      · rcases flatten_set z with z | z
        · exact (fr a (List.mem_append_left _ z)).2.2
        · exact E.sep a z
    · rcases flatten_set ha with z | z
      · exact .inr (n a (List.mem_append_right _ z))
      · rcases flatten_set z with z | z
        · exact .inr (n a (List.mem_append_left _ z))
        · exact .inl z)
/-- x = y, y a slot of its own: what stood there moves -/
theorem s_move (i j : Nat) {x y : Str} {px py : Pos} {d : D} {sa : Option Addr} (nd : X.N.Nodup) (hρ : ρ[j]? = some (.v d sa)) (h : Φ.nx ((ρ.set j .any).set i (.v d)) τ) (hij : i ≠ j := by decide) (hi : X.N[i]? = some x := by rfl) (hx : Loc X.env.scope x := by first | exact Or.inl rfl | exact Or.inr rfl)
    (hN : X.N[j]? = some y := by rfl) (hv : Vis X.env.scope y := by first | exact Or.inl rfl | exact Or.inr (Or.inl rfl) | exact Or.inr (Or.inr rfl)) (hd : (y == ("__debug__" : Str)) = false := by decide) (hcd : (y == ("__classdict__" : Str)) = false := by decide)
    (hs : swapsWith (.Name y py) (some (.Name x px)) pos.line X.env = pure false := by rfl) (hf : X.fn x = true ∨ X.env.scope.names.lookup x = some .local := by first | exact .inl rfl | exact .inr rfl) : ST X B T ρ τ (.Assign [.Name x px] (.Name y py) pos) Φ := fun σ H fps E => by
  obtain ⟨z, fp, h1, h2, h3⟩ := E.rel.get hρ
  cases h3 with
  | v o n a =>
    rename_i v
    have E1 := E.put j (x := some v) (s := .any) .any
    have e1 : σ.set j (some v) = σ := by
      apply List.ext_getElem?
      intro k
      rw [List.getElem?_set]
      by_cases q : j = k
      · subst q
        have hl : j < σ.length := by
          cases Nat.lt_or_ge j σ.length with
          | inl h => exact h
          | inr h => rw [List.getElem?_eq_none h] at h1; cases h1
        rw [if_pos rfl, if_pos hl, h1]
      · rw [if_neg q]
    rw [e1] at E1
    have fr : ∀ a ∈ fp, a ∉ (fps.set j []).flatten := fun a ha z => by
      -- the slot's own addresses stand nowhere else
      have key : ∀ {l : List (List Addr)} {k : Nat} {y : List Addr}, l.flatten.Nodup → l[k]? = some y → ∀ a ∈ y, a ∉ (l.set k []).flatten := by
        intro l
        induction l with
        | nil => intro k y _ e; simp at e
        | cons w r ih =>
          intro k y nd e a ha z
          rw [List.flatten_cons, List.nodup_append] at nd
          cases k with
          | zero =>
            simp at e; subst e
            rw [List.set_cons_zero, List.flatten_cons, List.nil_append] at z
            exact nd.2.2 a ha a z rfl
          | succ k =>
            rw [List.set_cons_succ, List.flatten_cons, List.mem_append] at z
            rcases z with z | z
            · exact nd.2.2 a z a (mem_flat (by simpa using e) ha) rfl
            · exact ih nd.2.1 (by simpa using e) a ha z
      exact key E.nd h2 a ha z
    refine wp_ps (ps_set nd hi hx (pe_var hN hv hd hcd) hs hf) ⟨v, h1, _, τ, (fps.set j []).set i fp, h, ⟨E1.rel.set i (.v o n fun _ z => nomatch z), ?_, E1.base, fun a ha => (flatten_set ha).elim (fun z => E.sep a (mem_flat h2 z)) (E1.sep a), E1.sepT, E1.tt⟩, fun _ _ e _ _ => e, fun a ha => ?_⟩
    · cases e : (fps.set j [])[i]? with
      | none => rw [List.set_eq_of_length_le (List.getElem?_eq_none_iff.mp e)]; exact E1.nd
      | some fp0 => exact nodup_set E1.nd e o.nodup fun a ha => .inr (fr a ha)
    · rcases flatten_set ha with z | z
      · exact .inl (mem_flat h2 z)
      · exact .inl ((flatten_set z).elim (fun w => nomatch w) id)
end

/-! ### a slot's own object is written -/
def isBor : Sl → Bool
  | .bor _ => true
  | _ => false
theorem SlsR.write {K : FK} {H H' : Hp} (st : Stay H H') : ∀ {σ : L2.St} {ρ : List Sl} {fps : List (List Addr)} (i : Nat) {x : Option V} {s : Sl} {fp' : List Addr}, SlsR K B T H σ ρ fps → (∀ s ∈ ρ, isBor s = false) → (∀ (j : Nat) (fp : List Addr), j ≠ i → fps[j]? = some fp → Keep fp H H') →
    σ[i]? = some x → SlR K B T H' x s fp' → SlsR K B T H' σ (ρ.set i s) (fps.set i fp')
  | _, _, _, _, _, _, _, .nil, _, _, e, _ => by simp at e
  | _, _, _, 0, _, _, _, .cons h t, nb, k, e, q => by
    simp at e; subst e
    refine .cons q ?_
    have all : ∀ {σ : L2.St} {ρ : List Sl} {fps : List (List Addr)}, SlsR K B T H σ ρ fps → (∀ s ∈ ρ, isBor s = false) → (∀ (j : Nat) (fp : List Addr), fps[j]? = some fp → Keep fp H H') → SlsR K B T H' σ ρ fps := by
      intro σ ρ fps r
      induction r with
      | nil => intro _ _; exact .nil
      | cons h t ih =>
        intro nb k
        refine .cons ?_ (ih (fun s hs => nb s (List.mem_cons_of_mem _ hs)) fun j fp e => k (j + 1) fp (by simpa using e))
        cases h with
        | any => exact .any
        | v o n a => exact .v (o.mv st (k 0 _ rfl)) n a
        | arg o => exact .arg (o.mv st fun _ z => nomatch z)
        | bor o n => have := nb _ List.mem_cons_self; cases this
        | tp e => exact .tp e
        | scr q => exact .scr q
    exact all t (fun s hs => nb s (List.mem_cons_of_mem _ hs)) fun j fp e => k (j + 1) fp (by omega) (by simpa using e)
  | _, _, _, i + 1, _, _, _, .cons h t, nb, k, e, q => by
    refine .cons ?_ (SlsR.write st i t (fun s hs => nb s (List.mem_cons_of_mem _ hs)) (fun j fp hj e => k (j + 1) fp (by omega) (by simpa using e)) (by simpa using e) q)
    have k0 := k 0 _ (by omega) rfl
    cases h with
    | any => exact .any
    | v o n a => exact .v (o.mv st k0) n a
    | arg o => exact .arg (o.mv st fun _ z => nomatch z)
    | bor o n => have := nb _ List.mem_cons_self; cases this
    | tp e' => exact .tp e'
    | scr q => exact .scr q
theorem other_keep {l : List (List Addr)} {i j : Nat} {x y : List Addr} {a : Addr} (nd : l.flatten.Nodup) (hi : l[i]? = some x) (hj : l[j]? = some y) (hij : j ≠ i) (hx : a ∈ x) : a ∉ y := by
  induction l generalizing i j with
  | nil => simp at hi
  | cons w r ih =>
    rw [List.flatten_cons, List.nodup_append] at nd
    intro hy
    cases i with
    | zero =>
      cases j with
      | zero => exact hij rfl
      | succ j =>
        simp at hi; subst hi
        exact nd.2.2 a hx a (mem_flat (by simpa using hj) hy) rfl
    | succ i =>
      cases j with
      | zero =>
        simp at hj; subst hj
        exact nd.2.2 a hy a (mem_flat (by simpa using hi) hx) rfl
      | succ j => exact ih nd.2.1 (by simpa using hi) (by simpa using hj) (by omega) hy
/-- the object of slot i is written: what else stood stands -/
theorem Env.write {H H1 H2 : Hp} {σ : L2.St} {fps : List (List Addr)} {τ1 : D} {i : Nat} {v : V} {d d' : D} {sa : Option Addr} {fp fp' : List Addr} {k : List Sl → D → Prop} (E : Env X.K B T H σ ρ τ fps) (f1 : FrT T H H1) (t1 : Tp X.K H1 T τ1)
    (hρ : ρ[i]? = some (.v d sa)) (hσ : σ[i]? = some (some v)) (hf : fps[i]? = some fp) (nb : ∀ s ∈ ρ, isBor s = false)
    (w : ∀ b o, H1 b = some o → b ∉ fp → H2 b = some o) (q : Own X.K Em H2 v d' fp') (n : ∀ a ∈ fp', a ∈ fp ∨ H a = none) (hk : k (ρ.set i (.v d' sa)) τ1) : Nx X.K B T H fps k σ H2 := by
  have E1 := E.step f1 t1
  obtain ⟨y, fp0, h1, h2, h3⟩ := E1.rel.get hρ
  rw [hσ] at h1; cases h1
  rw [hf] at h2; cases h2
  have tr : ∀ a ∈ fp, ∃ o, H1 a = some o ∧ IsMut o = true := fun a ha => E1.rel.tracked a (mem_flat hf ha)
  have st : Stay H1 H2 := fun a o e m => w a o e fun z => by
    obtain ⟨o', e', m'⟩ := tr a z
    rw [e] at e'; cases e'
    rw [m] at m'; cases m'
  have offT : ∀ a ∈ fp, a ∉ T := fun a ha => E1.rel.offT a (mem_flat hf ha)
  have fresh := E.fresh (H1 := H1) (fp := fp'.filter fun a => decide (a ∉ fp)) fun a ha => by
    obtain ⟨h1, h2⟩ := List.mem_filter.mp ha
    exact (n a h1).resolve_left (of_decide_eq_true h2)
  have fr : ∀ a ∈ fp', a ∈ fp ∨ (a ∉ T ∧ a ∉ fps.flatten ∧ B a = none) := fun a ha => by
    by_cases z : a ∈ fp
    · exact .inl z
    · exact .inr (fresh a (List.mem_filter.mpr ⟨ha, decide_eq_true z⟩))
  cases h3 with
  | v o nT a =>
    refine ⟨_, τ1, fps.set i fp', hk, ⟨?_, ?_, fun b o e => w b o (E1.base b o e) fun z => ?_, fun b hb => ?_, E1.sepT, ?_⟩, fun b o e h1 h2 => w b o (f1 b o e h1) fun z => h2 (mem_flat hf z), fun b hb => ?_⟩
    · refine SlsR.write st i E1.rel nb (fun j fpj hj e b hb => ?_) hσ (.v q (fun b hb => (fr b hb).elim (offT b) fun z => z.1) a)
      obtain ⟨o', e', _⟩ := E1.rel.tracked b (mem_flat e hb)
      rw [e', w b o' e' fun z => other_keep E.nd e hf (Ne.symm hj) hb z]
    · exact nodup_set E.nd hf q.nodup fun b hb => (fr b hb).imp id fun z => z.2.1
    · rw [E.sep b (mem_flat hf z)] at e; cases e
    · rcases flatten_set hb with z | z
      · exact (fr b z).elim (fun y => E.sep b (mem_flat hf y)) fun y => y.2.2
      · exact E.sep b z
    · rcases t1 with e | ⟨b, r, e, o'⟩
      · exact .inl e
      · refine .inr ⟨b, r, e, o'.mv st fun c hc => ?_⟩
        obtain ⟨o2, e2, _⟩ := o'.tracked c hc
        rw [e2, w c o2 e2 fun z => offT c z (e ▸ hc)]
    · rcases flatten_set hb with z | z
      · exact (n b z).elim (fun y => .inl (mem_flat hf y)) .inr
      · exact .inl z
end
end DL
/-! DL, part 9: methods that write, loops. -/
namespace DL
open PySem PySem.Spec L2 RZ

section
variable {X : Cx} {B : Hp} {T : List Addr} {ρ : List Sl} {τ : D}
section
variable {e : Expr} {pos : Pos} {Φ : Phi}
def nb? (ρ : List Sl) : Bool := ρ.all fun s => !isBor s
theorem nb_of (h : nb? ρ = true) : ∀ s ∈ ρ, isBor s = false := fun s hs => by
  have := List.all_eq_true.mp h s hs
  simpa using this
/-- x.append(e) -/
theorem s_append (i : Nat) {x : Str} {px apos cpos : Pos} {ds : List D} {sa : Option Addr} (hρ : ρ[i]? = some (.v (.list ds) sa)) (hl : ds.length < sizeLine)
    (h : ET X B T ρ τ e fun τ1 d o => o = true ∧ Φ.nx (ρ.set i (.v (.list (ds ++ [d])) sa)) τ1) (hb : nb? ρ = true := by rfl)
    (hp : PE X (.Call (.Attribute (.Name x px) "append" apos) [e] [] cpos) (tBM X.K "list" rAppend (tVar i) (tCons (wpE X e) tNil)) := by exact pe_bm PySem.F.plainAttrs_list PySem.F.slot_list_append PySem.F.type_list_append mt_append (pv _) (pa_cons pe_wp pa_nil))
    (hs : swapsWith (.Call (.Attribute (.Name x px) "append" apos) [e] [] cpos) none pos.line X.env = pure false := by rfl) : ST X B T ρ τ (.Expr (.Call (.Attribute (.Name x px) "append" apos) [e] [] cpos) pos) Φ := fun σ H fps E => by
  obtain ⟨y, fp, h1, h2, h3⟩ := E.rel.get hρ
  cases h3 with
  | v o nT a =>
    obtain ⟨a1, xs, fq, rfl, hH, own, na, rfl⟩ := o.lstE_inv
    refine wp_ps (ps_expr hp hs) ⟨_, h1, .inl ⟨rfl, _, .inl (.inl hH)⟩, ?_⟩
    refine (h σ H fps E).imp fun v H1 ⟨τ1, d, oo, ⟨ho, hk⟩, t1, f1, r1⟩ => ?_
    subst ho
    obtain ⟨fr, q, n⟩ := r1.out
    have hH1 : H1 a1 = some (.lst xs) := f1 _ _ hH (nT _ List.mem_cons_self)
    refine ⟨a1, xs, v, rfl, rfl, hH1, by rw [own.length]; exact hl, ?_⟩
    have na1 : a1 ∉ fr := fun z => by rw [n a1 z] at hH; cases hH
    have own1 : OwnAll X.K Em H1 xs ds fq := own.mv (E.tt.stay f1) (keep_of f1 own.tracked fun b hb => nT b (List.mem_cons_of_mem _ hb))
    have dis : ∀ c ∈ fq, c ∉ fr := fun c hc z => by
      obtain ⟨o', e', _⟩ := own.tracked c hc
      rw [n c z] at e'; cases e'
    have su : Stay H1 (upd H1 a1 (.lst (xs ++ [v]))) := fun b o' e' m => by
      rw [upd_ne]
      · exact e'
      · rintro rfl
        rw [hH1] at e'; cases e'; cases m
    have nall : a1 ∉ fq ++ fr := fun z => (List.mem_append.mp z).elim na na1
    refine E.write f1 t1 hρ h1 h2 (nb_of hb) (fun b o' e' z => ?_) (.lst upd_same ((OwnAll.append own1 (.one q) dis).mv su fun b hb => upd_ne fun e' => nall (e' ▸ hb)) nall) (fun b hb => ?_) hk
    · rw [upd_ne (show b ≠ a1 from fun q => z (by rw [q]; exact List.mem_cons_self))]; exact e'
    · rcases List.mem_cons.mp hb with rfl | hb
      · exact .inl List.mem_cons_self
      · rcases List.mem_append.mp hb with hb | hb
        · exact .inl (List.mem_cons_of_mem _ hb)
        · exact .inr (n b hb)
/-- x.extend(e), e a new list or a lent one of what can't change -/
theorem s_extend (i : Nat) {x : Str} {px apos cpos : Pos} {ds : List D} {sa : Option Addr} (hρ : ρ[i]? = some (.v (.list ds) sa))
    (h : ET X B T ρ τ e fun τ1 d _ => ∃ es, d = .list es ∧ immAll es = true ∧ ds.length + es.length ≤ sizeLine ∧ Φ.nx (ρ.set i (.v (.list (ds ++ es)) sa)) τ1) (hb : nb? ρ = true := by rfl)
    (hp : PE X (.Call (.Attribute (.Name x px) "extend" apos) [e] [] cpos) (tBM X.K "list" rExtend (tVar i) (tCons (wpE X e) tNil)) := by exact pe_bm PySem.F.plainAttrs_list PySem.F.slot_list_extend PySem.F.type_list_extend mt_extend (pv _) (pa_cons pe_wp pa_nil))
    (hs : swapsWith (.Call (.Attribute (.Name x px) "extend" apos) [e] [] cpos) none pos.line X.env = pure false := by rfl) : ST X B T ρ τ (.Expr (.Call (.Attribute (.Name x px) "extend" apos) [e] [] cpos) pos) Φ := fun σ H fps E => by
  obtain ⟨y, fp, h1, h2, h3⟩ := E.rel.get hρ
  cases h3 with
  | v o nT a =>
    obtain ⟨a1, xs, fq, rfl, hH, own, na, rfl⟩ := o.lstE_inv
    refine wp_ps (ps_expr hp hs) ⟨_, h1, .inl ⟨rfl, _, .inl (.inl hH)⟩, ?_⟩
    refine (h σ H fps E).imp fun v H1 ⟨τ1, d, oo, ⟨es, ed, im, hl, hk⟩, t1, f1, r1⟩ => ?_
    subst ed
    obtain ⟨fr, q, _⟩ := r1.read E.tt
    obtain ⟨a2, ys, f2, rfl, hH2, q2, _⟩ := q.lst_inv (E.step f1 t1).base
    obtain ⟨rfl, q3⟩ := q2.imm im
    have hH1 : H1 a1 = some (.lst xs) := f1 _ _ hH (nT _ List.mem_cons_self)
    refine ⟨a1, a2, xs, ys, rfl, rfl, hH1, hH2, by rw [own.length, q3.length]; exact hl, ?_⟩
    have own1 : OwnAll X.K Em H1 xs ds fq := own.mv (E.tt.stay f1) (keep_of f1 own.tracked fun b hb => nT b (List.mem_cons_of_mem _ hb))
    have su : Stay H1 (upd H1 a1 (.lst (xs ++ ys))) := fun b o' e' m => by
      rw [upd_ne]
      · exact e'
      · rintro rfl
        rw [hH1] at e'; cases e'; cases m
    have all := OwnAll.append own1 q3 fun _ _ z => nomatch z
    rw [List.append_nil] at all
    refine E.write f1 t1 hρ h1 h2 (nb_of hb) (fun b o' e' z => ?_) (.lst upd_same (all.mv su fun b hb => upd_ne fun e' => na (e' ▸ hb)) na) (fun b hb => .inl hb) hk
    rw [upd_ne (show b ≠ a1 from fun q => z (by rw [q]; exact List.mem_cons_self))]; exact e'
theorem OwnAll.set {K : FK} {H : Hp} {d : D} {v : V} (im : DL.imm d = true) (hv : Own K Em H v d []) : ∀ {vs : List V} {ds : List D} {fp : List Addr} (j : Nat), OwnAll K Em H vs ds fp → ∃ fq, OwnAll K Em H (vs.set j v) (ds.set j d) fq ∧ ∀ a ∈ fq, a ∈ fp
  | _, _, _, _, .nil => ⟨[], .nil, fun _ z => z⟩
  | _, _, _, 0, .cons h t n => ⟨_, .cons hv t (fun _ z => nomatch z), fun a ha => List.mem_append_right _ (by simpa using ha)⟩
  | _, _, _, j + 1, .cons h t n => by
    obtain ⟨fq, q, s⟩ := OwnAll.set im hv j t
    exact ⟨_, .cons h q fun a ha z => n a ha (s a z), fun a ha => (List.mem_append.mp ha).elim (fun z => List.mem_append_left _ z) fun z => List.mem_append_right _ (s a z)⟩
/-- x[k] = e: what can't change into a list -/
theorem s_put (i : Nat) {x : Str} {px ppos : Pos} {k : Expr} {ds : List D} {sa : Option Addr} (hρ : ρ[i]? = some (.v (.list ds) sa))
    (h : ET X B T ρ τ e fun τ1 d _ => imm d = true ∧ ET X B T ρ τ1 k fun τ2 kd _ => ∃ (z : Int) (j : Nat), kd = .int z ∧ ixN ds.length z = some j ∧ Φ.nx (ρ.set i (.v (.list (ds.set j d)) sa)) τ2) (hb : nb? ρ = true := by rfl)
    (hp : PE X (.Name x px) (tVar i) := by exact pv _)
    (ha : ∀ v, assign (.Subscript (.Name x px) k ppos) X.env v = (do
      let ov ← holding [v] (eval (.Name x px) X.env)
      let iv ← holding [v, ov] (eval k X.env)
      standAt ppos
      holding [v, ov, iv] (setItem ov iv v)
      release [v, ov, iv] []) := by intro _; rfl)
    (hs : swapsWithSole [.Subscript (.Name x px) k ppos] e pos.line X.env = pure false := by rfl) (hw : swappedStores [.Subscript (.Name x px) k ppos] e X.env = pure none := by rfl)
    (h1' : (assignEach [.Subscript (.Name x px) k ppos] X.env).map (·.2) = [assign (.Subscript (.Name x px) k ppos) X.env] := by rfl) : ST X B T ρ τ (.Assign [.Subscript (.Name x px) k ppos] e pos) Φ := fun σ H fps E => by
  obtain ⟨y, fp, h1, h2, h3⟩ := E.rel.get hρ
  cases h3 with
  | v o nT a =>
    obtain ⟨a1, xs, fq, rfl, hH, own, na, rfl⟩ := o.lstE_inv
    refine wp_ps (ps_asg pe_wp (pg_sub hp pe_wp set_list ha) hs hw h1') ?_
    refine (h σ H fps E).imp fun v H1 ⟨τ1, d, oo, ⟨im, hk1⟩, t1, f1, r1⟩ => ?_
    refine ⟨_, h1, ?_⟩
    have E1 := E.step f1 t1
    refine (hk1 σ H1 fps E1).imp fun w H2 ⟨τ2, kd, o2, ⟨z, j, ek, hj, hk⟩, t2, f2, r2⟩ => ?_
    subst ek
    obtain ⟨fr, q, _⟩ := r2.read E1.tt
    obtain ⟨rfl, _⟩ := q.int_inv
    have f12 := f1.trans f2
    have hH2 : H2 a1 = some (.lst xs) := f12 _ _ hH (nT _ List.mem_cons_self)
    obtain ⟨fd, qd, _⟩ := (r1.step E.tt f1 t1 f2).read E.tt
    obtain ⟨rfl, qe⟩ := qd.imm im
    have own2 : OwnAll X.K Em H2 xs ds fq := own.mv (E.tt.stay f12) (keep_of f12 own.tracked fun b hb => nT b (List.mem_cons_of_mem _ hb))
    obtain ⟨fs, qs, ss⟩ := OwnAll.set im qe j own2
    have su : Stay H2 (upd H2 a1 (.lst (xs.set j v))) := fun b o' e' m => by
      rw [upd_ne]
      · exact e'
      · rintro rfl
        rw [hH2] at e'; cases e'; cases m
    have ns : a1 ∉ fs := fun z => na (ss _ z)
    refine ⟨a1, xs, z, j, rfl, rfl, hH2, by rw [own.length]; exact hj, ?_⟩
    refine E.write f12 t2 hρ h1 h2 (nb_of hb) (fun b o' e' z => ?_) (.lst upd_same (qs.mv su fun b hb => upd_ne fun e' => ns (e' ▸ hb)) ns) (fun b hb => .inl ?_) hk
    · rw [upd_ne (show b ≠ a1 from fun q => z (by rw [q]; exact List.mem_cons_self))]; exact e'
    · rcases List.mem_cons.mp hb with rfl | hb
      · exact List.mem_cons_self
      · exact List.mem_cons_of_mem _ (ss _ hb)
/-- x += e, of numbers -/
theorem s_addI (i : Nat) {x : Str} {px : Pos} {z : Int} {sa : Option Addr} (nd : X.N.Nodup) (hρ : ρ[i]? = some (.v (.int z) sa)) (h : ET X B T ρ τ e fun τ1 d _ => ∃ w, d = .int w ∧ Φ.nx (ρ.set i (.v (.int (z + w)))) τ1) (hi : X.N[i]? = some x := by rfl)
    (hx : Loc X.env.scope x := by first | exact Or.inl rfl | exact Or.inr rfl) (hf : X.fn x = true ∨ X.env.scope.names.lookup x = some .local := by first | exact .inl rfl | exact .inr rfl) : ST X B T ρ τ (.AugAssign (.Name x px) .Add e pos) Φ := fun σ H fps E => by
  obtain ⟨y, fp, h1, h2, h3⟩ := E.rel.get hρ
  cases h3 with
  | v o nT a =>
    obtain ⟨rfl, rfl⟩ := o.int_inv
    refine wp_ps (ps_aug nd hi hx pe_wp ip_add hf) ⟨_, h1, (h σ H fps E).imp fun v H1 ⟨τ1, d, oo, ⟨w, ed, hk⟩, t1, f1, r1⟩ => ?_⟩
    subst ed
    obtain ⟨fr, q, _⟩ := r1.read E.tt
    obtain ⟨rfl, _⟩ := q.int_inv
    exact ⟨z, w, rfl, rfl, E.own f1 t1 (Res.own (.int (z + w)) fun _ z => nomatch z) i hk⟩
/-- y = [elt for ..] -/
theorem s_setLc {scope : Scope} (own : List (Str × Nat)) (i : Nat) {y : Str} {py : Pos} {tg iter elt : Expr} {ifs : List Expr} {lpos : Pos} (nd : X.N.Nodup) (ok : BlkOk X.N X.env.scope scope own) (h : LC X B T ρ τ scope own tg iter elt ifs fun τ2 acc => Φ.nx (ρ.set i (.v (.list acc))) τ2)
    (hsw : swapsWith (.ListComp elt [⟨tg, iter, ifs, 0⟩] scope lpos) (some (.Name y py)) pos.line X.env = pure true := by exact sw_true rfl rfl rfl (by decide +kernel)) (hif : ifs.length ≤ 1 := by decide) (hc : X.calm = true := by rfl) (hy : X.N[i]? = some y := by rfl) (hyl : X.env.scope.names.lookup y = some .local := by rfl)
    (hs : ∀ x, foldedSetIterable iter X.env x = pure x := by intro _; rfl) : ST X B T ρ τ (.Assign [.Name y py] (.ListComp elt [⟨tg, iter, ifs, 0⟩] scope lpos) pos) Φ := fun σ H fps E =>
  wp_ps (ps_setLc hc nd hy hyl hsw pi_wp ok (fun s H0 C cl fp => pg_fam) (fun s H0 C cl fp => pts_fam hif) (fun s H0 C cl fp => pe_fam) hs) (h.go E fun τ2 acc v H' hk t2 f r => E.own f t2 r i hk)

/-! ### loops -/
/-- what a turn of a loop is to reach -/
def loopΦ (Φ : Phi) (I : List Sl → D → Prop) : Phi := { nx := I, rt := Φ.rt, bk := Φ.nx, ct := I }
section
variable {tg iter : Expr} {body : List Stmt}
/-- over what is new, or can't change -/
theorem s_for {ws : List Nat} (hp : PassesOwn (model X.prog X.w) X.A X.env X.xe) (h : IT X B T ρ τ tg iter fun τ1 ds o => o = true ∧ ∃ I : Nat → List Sl → D → Prop, I 0 ρ τ1 ∧ (∀ i d ρ' τ', ds[i]? = some d → I i ρ' τ' → GT X B T ws ρ' tg d fun ρ2 => SS X B T ρ2 τ' body (loopΦ Φ (I (i + 1)))) ∧
      ∀ ρ' τ', I ds.length ρ' τ' → Φ.nx ρ' τ') (hc : X.calm = true := by rfl) (hs : ∀ x, foldedSetIterable iter X.env x = pure x := by intro _; rfl) : ST X B T ρ τ (.For tg iter body [] pos) Φ := fun σ H fps E => by
  refine wp_ps (ps_for hp hc pi_wp pg_wp pss_wp hs) ?_
  refine wpI.imp (h σ H fps E) fun J H1 ⟨τ1, ds, o, hold, G, ⟨ho, I, i0, hI, hd⟩, t1, f1, g1, W, n, nn⟩ => ?_
  subst ho
  have nn := nn rfl
  -- what is held is none of what is owned
  refine ⟨fun i m σ' H' => m = ds.length - i ∧ i ≤ ds.length ∧ G H' ∧ ∃ ρ' τ' fps', I i ρ' τ' ∧ Env X.K B T H' σ' ρ' τ' fps' ∧ FrS T fps H H' ∧ New fps H fps'.flatten ∧ ∀ a ∈ hold, a ∉ fps'.flatten,
    ⟨ds.length, rfl, Nat.zero_le _, g1, ρ, τ1, fps, i0, E.step f1 t1, .of_frT f1, .self, fun a ha z => ?_⟩, ?_⟩
  · obtain ⟨o, e, _⟩ := E.rel.tracked a z
    rw [nn a ha] at e; cases e
  · rintro i m σ' H' ⟨rfl, hi, g, ρ', τ', fps', hIi, E', fr, nw, off⟩
    by_cases hlt : i < ds.length
    · refine .inr ⟨W.go i H' g hlt, fun σ2 H2 => G H2 ∧ ∃ ρ2 τ2 fps2, I (i + 1) ρ2 τ2 ∧ Env X.K B T H2 σ2 ρ2 τ2 fps2 ∧ FrS T fps H H2 ∧ New fps H fps2.flatten ∧ ∀ a ∈ hold, a ∉ fps2.flatten, fun σ2 H2 ⟨g2, q⟩ => ⟨ds.length - (i + 1), by omega, rfl, hlt, g2, q⟩, fun x H3 hy => ?_⟩
      obtain ⟨s3, g3, fp3, o3, h3⟩ := W.yld i H' x H3 _ g (List.getElem?_eq_getElem hlt) hy
      have E3 := E'.same s3
      refine hI i _ ρ' τ' (List.getElem?_eq_getElem hlt) hIi σ' H3 fps' x τ' E3 ⟨fp3, o3, fun a ha => n a (h3 a ha)⟩ _ fun ρ2 σ2 fps2 h2 E2 s2 _ _ => ?_
      have fr3 : FrS T fps H H3 := fun b o e h1 h2 => s3 b o (fr b o e h1 h2)
      have nw3 : New fps H fps2.flatten := fun a ha => nw a (s2 a ha)
      have step : ∀ {k : List Sl → D → Prop} {σ4 : L2.St} {H4 : Hp}, Nx X.K B T H3 fps2 k σ4 H4 → G H4 ∧ ∃ ρ2 τ2 fps2, k ρ2 τ2 ∧ Env X.K B T H4 σ4 ρ2 τ2 fps2 ∧ FrS T fps H H4 ∧ New fps H fps2.flatten ∧ ∀ a ∈ hold, a ∉ fps2.flatten := fun {k σ4 H4} ⟨ρ4, τ4, fps4, h4, E4, f4, n4⟩ => by
        have off2 : ∀ a ∈ hold, a ∉ fps2.flatten := fun a ha z => off a ha (s2 a z)
        have kp : Keep hold H3 H4 := fun a ha => by
          obtain ⟨o, e, _⟩ := W.tr _ g3 a ha
          rw [e, f4 a o e (n a ha) (off2 a ha)]
        have st : Stay H3 H4 := fun a o e m => f4 a o e (fun z => by
          obtain ⟨o', e', m'⟩ := E3.tt.tracked a z
          rw [e] at e'; cases e'
          rw [m] at m'; cases m') fun z => by
            obtain ⟨o', e', m'⟩ := E2.rel.tracked a z
            rw [e] at e'; cases e'
            rw [m] at m'; cases m'
        refine ⟨W.keep _ _ g3 E4.base st kp, ρ4, τ4, fps4, h4, E4, fr3.trans nw3 f4, New.trans fr3 E2.tt nw3 n4, fun a ha z => ?_⟩
        rcases n4 a z with q | q
        · exact off2 a ha q
        · obtain ⟨o, e, _⟩ := W.tr _ g3 a ha
          rw [q] at e; cases e
      exact (h2 σ2 H3 fps2 E2).imp (fun _ _ q => step q) (fun _ _ q => q.trans fr3 E2.tt nw3) (fun _ _ q => q.trans fr3 E2.tt nw3) (fun _ _ q => step q)
    · have e : i = ds.length := by omega
      subst e
      exact .inl ⟨W.stop _ H' g (Nat.le_refl _), ρ', τ', fps', hd ρ' τ' hIi, E', fr, nw⟩
/-- while -/
theorem s_while {c : Expr} (hp : PassesOwn (model X.prog X.w) X.A X.env X.xe) (I : List Sl → D → Prop) (μ : List Sl → D → Nat) (i0 : I ρ τ)
    (h : ∀ ρ' τ', I ρ' τ' → TT' X B T ρ' τ' c fun τ2 b => if b = true then SS X B T ρ' τ2 body (loopΦ Φ fun ρ3 τ3 => I ρ3 τ3 ∧ μ ρ3 τ3 < μ ρ' τ') else Φ.nx ρ' τ2) : ST X B T ρ τ (.While c body [] pos) Φ := fun σ H fps E => by
  refine wp_ps (ps_while hp pt_wp pss_wp) ?_
  refine ⟨fun m σ' H' => ∃ ρ' τ' fps', I ρ' τ' ∧ μ ρ' τ' = m ∧ Env X.K B T H' σ' ρ' τ' fps' ∧ FrS T fps H H' ∧ New fps H fps'.flatten, ⟨_, ρ, τ, fps, i0, rfl, E, fun _ _ e _ _ => e, .self⟩, ?_⟩
  rintro m σ' H' ⟨ρ', τ', fps', hI, rfl, E', fr, nw⟩
  refine (h ρ' τ' hI σ' H' fps' E').imp fun b H2 ⟨τ2, hb, t2, f2⟩ => ?_
  have fr2 : FrS T fps H H2 := fr.trans nw (.of_frT f2)
  have E2 := E'.step f2 t2
  cases b with
  | false =>
    rw [if_neg Bool.false_ne_true] at hb ⊢
    exact ⟨ρ', τ2, fps', hb, E2, fr2, nw⟩
  | true =>
    rw [if_pos rfl] at hb ⊢
    refine ⟨fun σ3 H3 => ∃ ρ3 τ3 fps3, (I ρ3 τ3 ∧ μ ρ3 τ3 < μ ρ' τ') ∧ Env X.K B T H3 σ3 ρ3 τ3 fps3 ∧ FrS T fps H H3 ∧ New fps H fps3.flatten, fun σ3 H3 ⟨ρ3, τ3, fps3, ⟨h1, h2⟩, r⟩ => ⟨_, h2, ρ3, τ3, fps3, h1, rfl, r⟩, ?_⟩
    have step : ∀ {k : List Sl → D → Prop} {σ4 : L2.St} {H4 : Hp}, Nx X.K B T H2 fps' k σ4 H4 → Nx X.K B T H fps k σ4 H4 := fun q => q.trans fr2 t2 nw
    exact (hb σ' H2 fps' E2).imp (fun _ _ q => step q) (fun _ _ q => q.trans fr2 t2 nw) (fun _ _ q => step q) (fun _ _ q => step q)
/-- over a list of a slot of its own, which the turns leave as it is; its items can't change -/
theorem s_forV (j : Nat) {x : Str} {px : Pos} {ds : List D} {sa : Option Addr} {ws : List Nat} (hp : PassesOwn (model X.prog X.w) X.A X.env X.xe) (hρ : ρ[j]? = some (.v (.list ds) sa)) (im : immAll ds = true)
    (h : ∀ a : Addr, ∃ I : Nat → List Sl → D → Prop, I 0 (ρ.set j (.v (.list ds) (some a))) τ ∧ (∀ i ρ' τ', I i ρ' τ' → ρ'[j]? = some (.v (.list ds) (some a))) ∧ (∀ i d ρ' τ', ds[i]? = some d → I i ρ' τ' → GT X B T ws ρ' tg d fun ρ2 => SS X B T ρ2 τ' body (loopΦ Φ (I (i + 1)))) ∧
      ∀ ρ' τ', I ds.length ρ' τ' → Φ.nx ρ' τ') (hx : PE X (.Name x px) (tVar j) := by exact pv _) (hc : X.calm = true := by rfl) (hs : ∀ y, foldedSetIterable (.Name x px) X.env y = pure y := by intro _; rfl) : ST X B T ρ τ (.For tg (.Name x px) body [] pos) Φ := fun σ H fps E => by
  obtain ⟨y, fp, h1, h2, h3⟩ := E.rel.get hρ
  cases h3 with
  | v o nT hsa =>
    obtain ⟨a1, xs, fq, rfl, hH, own, na, rfl⟩ := o.lstE_inv
    obtain ⟨I, i0, hj, hI, hd⟩ := h a1
    refine wp_ps (ps_for hp hc (pi_list hx) pg_wp pss_wp hs) ⟨_, h1, a1, rfl, ⟨xs, .inl (.inl hH)⟩, ?_⟩
    have Ep : Env X.K B T H σ (ρ.set j (.v (.list ds) (some a1))) τ fps := by
      have e1 : σ.set j (some (.ref a1)) = σ := by
        apply List.ext_getElem?
        intro k
        rw [List.getElem?_set]
        by_cases q : j = k
        · subst q
          have hl : j < σ.length := by
            cases Nat.lt_or_ge j σ.length with
            | inl h => exact h
            | inr h => rw [List.getElem?_eq_none h] at h1; cases h1
          rw [if_pos rfl, if_pos hl, h1]
        · rw [if_neg q]
      have e2 : fps.set j (a1 :: fq) = fps := by
        apply List.ext_getElem?
        intro k
        rw [List.getElem?_set]
        by_cases q : j = k
        · subst q
          have hl : j < fps.length := by
            cases Nat.lt_or_ge j fps.length with
            | inl h => exact h
            | inr h => rw [List.getElem?_eq_none h] at h2; cases h2
          rw [if_pos rfl, if_pos hl, h2]
        · rw [if_neg q]
      have r := E.rel.set j (SlR.v (sa := some a1) (K := X.K) (B := B) o nT fun a e => by cases e; rfl)
      rw [e1, e2] at r
      exact ⟨r, E.nd, E.base, E.sep, E.sepT, E.tt⟩
    -- the list as it stands at each turn
    have at_ : ∀ {σ' : L2.St} {H' : Hp} {ρ' : List Sl} {τ' : D} {fps' : List (List Addr)} {i : Nat}, I i ρ' τ' → Env X.K B T H' σ' ρ' τ' fps' → ∃ ys fr, H' a1 = some (.lst ys) ∧ OwnAll X.K Em H' ys ds fr := fun {σ' H' ρ' τ' fps' i} hi E' => by
      obtain ⟨y', fp', q1, q2, q3⟩ := E'.rel.get (hj _ _ _ hi)
      cases q3 with
      | v o' _ ha =>
        rw [ha a1 rfl] at o'
        obtain ⟨a2, ys, fr, e, hH', own', _, _⟩ := o'.lstE_inv
        cases e
        exact ⟨ys, fr, hH', own'⟩
    refine ⟨fun i m σ' H' => m = ds.length - i ∧ i ≤ ds.length ∧ ∃ ρ' τ' fps', I i ρ' τ' ∧ Env X.K B T H' σ' ρ' τ' fps' ∧ FrS T fps H H' ∧ New fps H fps'.flatten, ⟨ds.length, rfl, Nat.zero_le _, _, τ, fps, i0, Ep, fun _ _ e _ _ => e, .self⟩, ?_⟩
    rintro i m σ' H' ⟨rfl, hi, ρ', τ', fps', hIi, E', fr, nw⟩
    obtain ⟨ys, f2, hy, oy⟩ := at_ hIi E'
    by_cases hlt : i < ds.length
    · obtain ⟨v, fv, q1, q2, _⟩ := oy.get (List.getElem?_eq_getElem hlt)
      refine .inr ⟨⟨ys, v, .inl (.inl hy), q1⟩, fun σ2 H2 => ∃ ρ2 τ2 fps2, I (i + 1) ρ2 τ2 ∧ Env X.K B T H2 σ2 ρ2 τ2 fps2 ∧ FrS T fps H H2 ∧ New fps H fps2.flatten, fun σ2 H2 q => ⟨ds.length - (i + 1), by omega, rfl, hlt, q⟩, fun x H3 ⟨e3, hy3⟩ => ?_⟩
      subst e3
      obtain rfl : v = x := Option.some.inj (q1.symm.trans (hy3 ys (.inl (.inl hy))))
      obtain ⟨rfl, q4⟩ := q2.imm (imm_get im (List.getElem?_eq_getElem hlt))
      refine hI i _ ρ' τ' (List.getElem?_eq_getElem hlt) hIi σ' _ fps' v τ' E' ⟨[], q4.base same_em, fun _ z => nomatch z⟩ _ fun ρ2 σ2 fps2 h2 E2 s2 _ _ => ?_
      have nw2 : New fps H fps2.flatten := fun a ha => nw a (s2 a ha)
      exact (h2 σ2 _ fps2 E2).imp (fun _ _ q => q.trans fr E2.tt nw2) (fun _ _ q => q.trans fr E2.tt nw2) (fun _ _ q => q.trans fr E2.tt nw2) (fun _ _ q => q.trans fr E2.tt nw2)
    · have e : i = ds.length := by omega
      subst e
      exact .inl ⟨⟨ys, .inl (.inl hy), by rw [oy.length]; exact Nat.le_refl _⟩, ρ', τ', fps', hd ρ' τ' hIi, E', fr, nw⟩
end
end
end
end DL
/-! DL, part 10: operators by data, defs. -/
namespace DL
open PySem PySem.Spec L2 RZ

theorem Res.ownN {K : FK} {B H H' : Hp} {T : List Addr} {v : V} {d : D} (h : Own K Em H' v d []) : Res K B T H H' v d true := .own h fun _ z => nomatch z
section
variable {X : Cx} {K : FK} {B : Hp} {T : List Addr} {k : D → Bool → Prop}

/-! ### numbers -/
theorem op2_I0 {g : Int → Int → V} {gd : Int → Int → D} (hg : ∀ i j H, Own K Em H (g i j) (gd i j) []) {i j : Int} (h : k (gd i j) true) : Op2 K B T (rI0 g) (.int i) (.int j) k := fun H v w Q b ⟨_, o1, _⟩ ⟨_, o2, _⟩ q => by
  obtain ⟨rfl, _⟩ := o1.int_inv
  obtain ⟨rfl, _⟩ := o2.int_inv
  exact ⟨i, j, rfl, rfl, q _ _ _ H h (Same.refl _) (.ownN (hg i j H))⟩
theorem op2_I {C : Int → Int → Prop} {g : Int → Int → Int} {i j : Int} (hc : C i j) (h : k (.int (g i j)) true) : Op2 K B T (rI C fun i j => .int (g i j)) (.int i) (.int j) k := fun H v w Q b ⟨_, o1, _⟩ ⟨_, o2, _⟩ q => by
  obtain ⟨rfl, _⟩ := o1.int_inv
  obtain ⟨rfl, _⟩ := o2.int_inv
  exact ⟨i, j, rfl, rfl, hc, q _ _ _ H h (Same.refl _) (.ownN (.int _))⟩
theorem op2_B0 {g : Int → Int → Bool} {i j : Int} (h : k (.bool (g i j)) true) : Op2 K B T (rI0 fun i j => .bl (g i j)) (.int i) (.int j) k := op2_I0 (gd := fun i j => .bool (g i j)) (fun _ _ _ => .bl _) h
theorem op1_U {g : Int → Int} {i : Int} (h : k (.int (g i)) true) : Op1 K B T (rU fun i => .int (g i)) (.int i) k := fun H v Q b ⟨_, o1, _⟩ q => by
  obtain ⟨rfl, _⟩ := o1.int_inv
  exact ⟨i, rfl, q _ _ _ H h (Same.refl _) (.ownN (.int _))⟩

/-! ### + -/
def rAddU (K : FK) : R2 := fun x y H Q => rI0 (fun i j => .int (i + j)) x y H Q ∨ (rCatA K x y H Q ∨ rCat x y H Q)
theorem op_addU : OpR X (binaryOp .Add) (rAddU X.K) := op_add.or (op_catA.or op_cat)
theorem add_int {i j : Int} (h : k (.int (i + j)) true) : Op2 K B T (rAddU K) (.int i) (.int j) k := fun H v w Q b h1 h2 q => .inl (op2_I0 (gd := fun i j => .int (i + j)) (fun _ _ _ => .int _) h H v w Q b h1 h2 q)
theorem add_tup {xs ys : List D} (h1 : immAll xs = true) (h2 : immAll ys = true) (hl : xs.length + ys.length ≤ sizeLine) (h : k (.tuple (xs ++ ys)) true) : Op2 K B T (rAddU K) (.tuple xs) (.tuple ys) k := fun H v w Q b ⟨_, o1, _⟩ ⟨_, o2, _⟩ q => by
  obtain ⟨a, us, rfl, s1, a1⟩ := o1.tup_inv
  obtain ⟨c, ws, rfl, s2, a2⟩ := o2.tup_inv
  obtain ⟨rfl, b1⟩ := a1.imm h1
  obtain ⟨rfl, b2⟩ := a2.imm h2
  refine .inr (.inl ⟨a, c, us, ws, rfl, rfl, s1, s2, by rw [a1.length, a2.length]; exact hl, fun e => ?_, fun _ e => ?_, fun _ _ p hp => ?_⟩)
  · subst e
    have : xs = [] := List.length_eq_zero_iff.mp a1.length.symm
    subst this
    exact q _ _ _ H h (Same.refl _) (.ownN (.tup s2 (by simpa using b2)))
  · subst e
    have : ys = [] := List.length_eq_zero_iff.mp a2.length.symm
    subst this
    rw [List.append_nil] at h
    exact q _ _ _ H h (Same.refl _) (.ownN (.tup s1 b1))
  · have s := same_new (o := .tup (us ++ ws)) hp
    exact q _ _ _ _ h s (.ownN (.tup (.inl (.inl upd_same)) ((OwnAll.append b1 b2 fun _ z => nomatch z).mv (Stay.of_same s) fun _ z => nomatch z)))
theorem add_lst {xs ys : List D} (h1 : immAll xs = true) (h2 : immAll ys = true) (hl : xs.length + ys.length ≤ sizeLine) (h : k (.list (xs ++ ys)) true) : Op2 K B T (rAddU K) (.list xs) (.list ys) k := fun H v w Q b ⟨_, o1, _⟩ ⟨_, o2, _⟩ q => by
  obtain ⟨a, us, _, rfl, s1, a1, _⟩ := o1.lst_inv b
  obtain ⟨c, ws, _, rfl, s2, a2, _⟩ := o2.lst_inv b
  obtain ⟨rfl, b1⟩ := a1.imm h1
  obtain ⟨rfl, b2⟩ := a2.imm h2
  refine .inr (.inr ⟨a, c, us, ws, rfl, rfl, s1, s2, by rw [a1.length, a2.length]; exact hl, fun p hp => ?_⟩)
  have s := same_new (o := .lst (us ++ ws)) hp
  exact q _ _ _ _ h s (.own (.lst upd_same ((OwnAll.append b1 b2 fun _ z => nomatch z).mv (Stay.of_same s) fun _ z => nomatch z) fun z => nomatch z) fun c hc => by
    rcases List.mem_cons.mp hc with rfl | z
    · exact hp
    · cases z)

/-! ### * -/
def rMulU (K : FK) : R2 := fun x y H Q => rI CMul (fun i j => .int (i * j)) x y H Q ∨ rRep x y H Q
theorem op_mulU : OpR X (binaryOp .Mult) (rMulU X.K) := op_mul.or op_rep
theorem mul_int {i j : Int} (hc : CMul i j) (h : k (.int (i * j)) true) : Op2 K B T (rMulU K) (.int i) (.int j) k := fun H v w Q b h1 h2 q => .inl (op2_I (g := fun i j => i * j) hc h H v w Q b h1 h2 q)
theorem OwnAll.rep {H : Hp} {vs : List V} {ds : List D} (h : OwnAll K B H vs ds []) : ∀ n : Nat, OwnAll K B H (List.replicate n vs).flatten (List.replicate n ds).flatten []
  | 0 => .nil
  | n + 1 => by
    have := OwnAll.append h (OwnAll.rep h n) fun _ z => nomatch z
    simpa [List.replicate_succ] using this
theorem mul_rep {xs : List D} {j : Int} (h1 : immAll xs = true) (hj : -(2 ^ 63) ≤ j ∧ j < 2 ^ 63) (hl : xs.length * j.toNat ≤ sizeLine) (h : k (.list (List.replicate j.toNat xs).flatten) true) : Op2 K B T (rMulU K) (.list xs) (.int j) k := fun H v w Q b ⟨_, o1, _⟩ ⟨_, o2, _⟩ q => by
  obtain ⟨a, us, _, rfl, s1, a1, _⟩ := o1.lst_inv b
  obtain ⟨rfl, _⟩ := o2.int_inv
  obtain ⟨rfl, b1⟩ := a1.imm h1
  refine .inr ⟨a, j, us, rfl, rfl, s1, hj.1, hj.2, by rw [a1.length]; exact hl, fun p hp => ?_⟩
  have s := same_new (o := .lst (List.replicate j.toNat us).flatten) hp
  exact q _ _ _ _ h s (.own (.lst upd_same ((OwnAll.rep b1 _).mv (Stay.of_same s) fun _ z => nomatch z) fun z => nomatch z) fun c hc => by
    rcases List.mem_cons.mp hc with rfl | z
    · exact hp
    · cases z)

/-! ### ==, is, in -/
theorem eq_D {x y : D} (hx : SeqAt.shaped x = true) (hy : SeqAt.shaped y = true) (h : k (.bool (PyData.eqv x y)) true) : Op2 K B T (rEqD K) x y k := fun H v w Q b ⟨_, o1, _⟩ ⟨_, o2, _⟩ q =>
  ⟨x, y, o1.dp b (SeqAt.canLay_of_shaped hx), o2.dp b (SeqAt.canLay_of_shaped hy), hx, hy, q _ _ _ H h (Same.refl _) (.ownN (.bl _))⟩
theorem ne_D {x y : D} (hx : SeqAt.shaped x = true) (hy : SeqAt.shaped y = true) (h : k (.bool (!PyData.eqv x y)) true) : Op2 K B T (rNeD K) x y k := fun H v w Q b ⟨_, o1, _⟩ ⟨_, o2, _⟩ q =>
  ⟨x, y, o1.dp b (SeqAt.canLay_of_shaped hx), o2.dp b (SeqAt.canLay_of_shaped hy), hx, hy, q _ _ _ H h (Same.refl _) (.ownN (.bl _))⟩
abbrev rIsNon : R2 := fun x y H Q => y = .non ∧ Q (.bl (decide (x = .non))) H
abbrev rNotNon : R2 := fun x y H Q => y = .non ∧ Q (.bl (!decide (x = .non))) H
def isNon : D → Bool
  | .none => true
  | _ => false
theorem isNon_V {H : Hp} {v : V} {d : D} {fp : List Addr} (o : Own K B H v d fp) : decide (v = .non) = isNon d := by
  cases o <;> first | rfl | exact decide_eq_false (by intro h; cases h)
theorem is_non {x : D} (h : k (.bool (isNon x)) true) : Op2 K B T rIsNon x .none k := fun H v w Q b ⟨_, o1, _⟩ ⟨_, o2, _⟩ q => by
  obtain ⟨rfl, _⟩ := o2.none_inv
  exact ⟨rfl, by rw [isNon_V o1]; exact q _ _ _ H h (Same.refl _) (.ownN (.bl _))⟩
theorem not_non {x : D} (h : k (.bool (!isNon x)) true) : Op2 K B T rNotNon x .none k := fun H v w Q b ⟨_, o1, _⟩ ⟨_, o2, _⟩ q => by
  obtain ⟨rfl, _⟩ := o2.none_inv
  exact ⟨rfl, by rw [isNon_V o1]; exact q _ _ _ H h (Same.refl _) (.ownN (.bl _))⟩
def rIsU : R2 := fun x y H Q => rIsNon x y H Q ∨ rIsB x y H Q
theorem op_isU : OpR X (compareOp .Is) rIsU := op_isN.or op_isBl
theorem isU_non {x : D} (h : k (.bool (isNon x)) true) : Op2 K B T rIsU x .none k := Op2.inl (is_non h)
theorem isU_bl {a c : Bool} (h : k (.bool (decide (a = c))) true) : Op2 K B T rIsU (.bool a) (.bool c) k := Op2.inr fun H v w Q b ⟨_, o1, _⟩ ⟨_, o2, _⟩ q => by
  obtain ⟨rfl, _⟩ := o1.bool_inv
  obtain ⟨rfl, _⟩ := o2.bool_inv
  exact ⟨a, c, rfl, rfl, q _ _ _ H h (Same.refl _) (.ownN (.bl _))⟩
def rNotU : R2 := fun x y H Q => rNotNon x y H Q ∨ rNotB x y H Q
theorem op_notU : OpR X (compareOp .IsNot) rNotU := op_notN.or op_notBl
theorem notU_non {x : D} (h : k (.bool (!isNon x)) true) : Op2 K B T rNotU x .none k := Op2.inl (not_non h)
theorem notU_bl {a c : Bool} (h : k (.bool (!decide (a = c))) true) : Op2 K B T rNotU (.bool a) (.bool c) k := Op2.inr fun H v w Q b ⟨_, o1, _⟩ ⟨_, o2, _⟩ q => by
  obtain ⟨rfl, _⟩ := o1.bool_inv
  obtain ⟨rfl, _⟩ := o2.bool_inv
  exact ⟨a, c, rfl, rfl, q _ _ _ H h (Same.refl _) (.ownN (.bl _))⟩
/-- x in xs: a list or a tuple of data -/
def rInS (K : FK) (neg : Bool) : R2 := fun x y H Q => ∃ d ds, Dp K H x d ∧ (Dp K H y (.list ds) ∨ Dp K H y (.tuple ds)) ∧ SeqAt.shaped d = true ∧ PyData.canLayAll0 ds = true ∧ Q (.bl (if neg = true then !ds.any fun z => PyData.eqv z d else ds.any fun z => PyData.eqv z d)) H
theorem room_in {A : Around} {xs : List PyData} {d : PyData} (hd : SeqAt.shaped d = true) (hu : A.units + 65 < cLine) : A.units + 1 + min (PyData.depthAll xs) d.depth < cLine := PyProof.Rows.room_in_shaped hd hu
theorem op_inS (hu : X.A.units + 65 < cLine) : OpR X (compareOp .In) (rInS X.K false) := by
  intro pins s σ H x y v u Q I rx ry ⟨d, ds, hd, he, sd, sl, q⟩
  obtain ⟨as, r1⟩ := Dp.reads I d x v hd rx
  rcases he with he | he
  · obtain ⟨bs, r2⟩ := Dp.reads I _ y u he ry
    exact SeqAt.in_list_reads r2 r1 sl (SeqAt.canLay_of_shaped sd) (room_in sd hu) ⟨.bl _, H, I, rfl, q⟩
  · obtain ⟨bs, r2⟩ := Dp.reads I _ y u he ry
    exact SeqAt.in_tuple_reads r2 r1 sl (SeqAt.canLay_of_shaped sd) (room_in sd hu) ⟨.bl _, H, I, rfl, q⟩
theorem op_notInS (hu : X.A.units + 65 < cLine) : OpR X (compareOp .NotIn) (rInS X.K true) := by
  intro pins s σ H x y v u Q I rx ry ⟨d, ds, hd, he, sd, sl, q⟩
  obtain ⟨as, r1⟩ := Dp.reads I d x v hd rx
  rcases he with he | he
  · obtain ⟨bs, r2⟩ := Dp.reads I _ y u he ry
    exact SeqAt.notIn_list_reads r2 r1 sl (SeqAt.canLay_of_shaped sd) (room_in sd hu) ⟨.bl _, H, I, rfl, q⟩
  · obtain ⟨bs, r2⟩ := Dp.reads I _ y u he ry
    exact SeqAt.notIn_tuple_reads r2 r1 sl (SeqAt.canLay_of_shaped sd) (room_in sd hu) ⟨.bl _, H, I, rfl, q⟩
theorem inS_lst {neg : Bool} {d : D} {ds : List D} (sd : SeqAt.shaped d = true) (sl : PyData.canLayAll0 ds = true) (h : k (.bool (if neg = true then !ds.any fun z => PyData.eqv z d else ds.any fun z => PyData.eqv z d)) true) : Op2 K B T (rInS K neg) d (.list ds) k := fun H v w Q b ⟨_, o1, _⟩ ⟨_, o2, _⟩ q =>
  ⟨d, ds, o1.dp b (SeqAt.canLay_of_shaped sd), .inl (o2.dp b (by rw [PyData.canLay0]; exact sl)), sd, sl, q _ _ _ H h (Same.refl _) (.ownN (.bl _))⟩
theorem inS_tup {neg : Bool} {d : D} {ds : List D} (sd : SeqAt.shaped d = true) (sl : PyData.canLayAll0 ds = true) (h : k (.bool (if neg = true then !ds.any fun z => PyData.eqv z d else ds.any fun z => PyData.eqv z d)) true) : Op2 K B T (rInS K neg) d (.tuple ds) k := fun H v w Q b ⟨_, o1, _⟩ ⟨_, o2, _⟩ q =>
  ⟨d, ds, o1.dp b (SeqAt.canLay_of_shaped sd), .inr (o2.dp b (by rw [PyData.canLay0]; exact sl)), sd, sl, q _ _ _ H h (Same.refl _) (.ownN (.bl _))⟩

/-! ### items, slices -/
theorem OwnAll.atI {H : Hp} {vs : List V} {ds : List D} {fp : List Addr} {i : Int} {d : D} (h : OwnAll K B H vs ds fp) (e : L2.atI ds i = some d) : ∃ v fq, L2.atI vs i = some v ∧ Own K B H v d fq ∧ ∀ a ∈ fq, a ∈ fp := by
  unfold L2.atI at e ⊢
  obtain ⟨j, hj, e2⟩ := Option.bind_eq_some_iff.mp e
  obtain ⟨v, fq, h1, h2, h3⟩ := h.get e2
  exact ⟨v, fq, by rw [h.length, hj]; exact h1, h2, h3⟩
theorem ix_lst {ds : List D} {i : Int} {d : D} (e : L2.atI ds i = some d) (h : k d (imm d)) : Op2 K B T (rIx K) (.list ds) (.int i) k := fun H v w Q b ⟨fp, o1, n⟩ ⟨_, o2, _⟩ q => by
  obtain ⟨a, us, fq, rfl, s1, a1, sub⟩ := o1.lst_inv b
  obtain ⟨rfl, _⟩ := o2.int_inv
  obtain ⟨v, fr, h1, h2, h3⟩ := a1.atI e
  exact .inl ⟨a, us, i, v, rfl, rfl, .inl (.inl s1), h1, q _ _ _ H h (Same.refl _) (.of_read h2 fun c hc => n c (sub c (h3 c hc)))⟩
theorem ix_tpl {ds : List D} {i : Int} {d : D} (e : L2.atI ds i = some d) (h : k d (imm d)) : Op2 K B T (rIx K) (.tuple ds) (.int i) k := fun H v w Q b ⟨fp, o1, n⟩ ⟨_, o2, _⟩ q => by
  obtain ⟨a, us, rfl, s1, a1⟩ := o1.tup_inv
  obtain ⟨rfl, _⟩ := o2.int_inv
  obtain ⟨v, fr, h1, h2, h3⟩ := a1.atI e
  exact .inr (.inl ⟨a, us, i, v, rfl, rfl, s1, h1, q _ _ _ H h (Same.refl _) (.of_read h2 fun c hc => n c (h3 c hc))⟩)
def cutD (xs : List D) (lo hi : Option Int) : List D := (xs.drop (HT.sIx xs.length 0 lo)).take (HT.sIx xs.length xs.length hi - HT.sIx xs.length 0 lo)
def rSlU (K : FK) : V → Option Int → Option Int → Hp → VK → Prop := fun x lo hi H Q => rSlL K x lo hi H Q ∨ rSlA K x lo hi H Q
theorem sl_U : L2.SlR X (rSlU X.K) := sl_list.or sl_tupA
theorem cut_own {H : Hp} {us : List V} {ds : List D} {lo hi : Option Int} (im : immAll ds = true) (a1 : OwnAll K B H us ds []) : OwnAll K Em H (cutV us lo hi) (cutD ds lo hi) [] := by
  obtain ⟨_, a2⟩ := a1.imm im
  obtain ⟨fq, h1, h2⟩ := OwnAll.sub (HT.sIx ds.length 0 lo) (HT.sIx ds.length ds.length hi - HT.sIx ds.length 0 lo) a2
  have : fq = [] := by
    cases fq with
    | nil => rfl
    | cons x r => exact absurd (h2 x List.mem_cons_self) (by simp)
  subst this
  unfold cutV cutD
  rw [a1.length]
  exact h1
theorem sl_lst {ds : List D} {lo hi : Option Int} (im : immAll ds = true) (h : k (.list (cutD ds lo hi)) true) : Sl3 K B T (rSlU K) (.list ds) lo hi k := fun H v Q b ⟨fp, o1, n⟩ q => by
  obtain ⟨a, us, fq, rfl, s1, a1, sub⟩ := o1.lst_inv b
  obtain ⟨rfl, _⟩ := a1.imm im
  refine .inl ⟨a, us, rfl, .inl (.inl s1), fun p hp => ?_⟩
  have s := same_new (o := .lst (cutV us lo hi)) hp
  exact q _ _ _ _ h s (.own (.lst upd_same ((cut_own im a1).mv (Stay.of_same s) fun _ z => nomatch z) fun z => nomatch z) fun c hc => by
    rcases List.mem_cons.mp hc with rfl | z
    · exact hp
    · cases z)
theorem sl_tpl {ds : List D} {lo hi : Option Int} (im : immAll ds = true) (h : k (.tuple (cutD ds lo hi)) true) : Sl3 K B T (rSlU K) (.tuple ds) lo hi k := fun H v Q b ⟨fp, o1, n⟩ q => by
  obtain ⟨a, us, rfl, s1, a1⟩ := o1.tup_inv
  obtain ⟨rfl, a2⟩ := a1.imm im
  refine .inr ⟨a, us, rfl, s1, fun hw => ?_, fun hw p hp => ?_⟩
  · have e : cutD ds lo hi = ds := by
      rw [a1.length] at hw
      unfold cutD
      rw [hw.1, hw.2, List.drop_zero, Nat.sub_zero, List.take_length]
    rw [e] at h
    exact q _ _ _ H h (Same.refl _) (.ownN (.tup s1 a2))
  · have s := same_new (o := .tup (cutV us lo hi)) hp
    exact q _ _ _ _ h s (.ownN (.tup (.inl (.inl upd_same)) ((cut_own im a1).mv (Stay.of_same s) fun _ z => nomatch z)))

/-! ### built-ins -/
theorem RdAll.one_inv {H : Hp} {vs : List V} {d : D} (h : RdAll K B T H vs [d]) : ∃ v, vs = [v] ∧ Rd1 K B T H v d := by
  cases h with
  | cons h t => cases t; exact ⟨_, rfl, h⟩
theorem RdAll.two_inv {H : Hp} {vs : List V} {d e : D} (h : RdAll K B T H vs [d, e]) : ∃ v w, vs = [v, w] ∧ Rd1 K B T H v d ∧ Rd1 K B T H w e := by
  cases h with
  | cons h t =>
    obtain ⟨w, rfl, q⟩ := t.one_inv
    exact ⟨_, w, rfl, h, q⟩
abbrev rLen (K : FK) : List V → Hp → VK → Prop := fun xs H Q => ∃ p ys, xs = [.ref p] ∧ (SqL K H p ys ∨ SqT K H p ys) ∧ Q (.int ys.length) H
theorem cl_len_lst {ds : List D} (h : k (.int ds.length) true) : Cl K B T (rLen K) [.list ds] k := fun H vs Q b r q => by
  obtain ⟨v, rfl, fp, o, n⟩ := r.one_inv
  obtain ⟨a, us, fq, rfl, s1, a1, sub⟩ := o.lst_inv b
  exact ⟨a, us, rfl, .inl (.inl (.inl s1)), q _ _ _ H h (Same.refl _) (.ownN (by rw [a1.length]; exact .int _))⟩
theorem cl_len_tup {ds : List D} (h : k (.int ds.length) true) : Cl K B T (rLen K) [.tuple ds] k := fun H vs Q b r q => by
  obtain ⟨v, rfl, fp, o, n⟩ := r.one_inv
  obtain ⟨a, us, rfl, s1, a1⟩ := o.tup_inv
  exact ⟨a, us, rfl, .inr s1, q _ _ _ H h (Same.refl _) (.ownN (by rw [a1.length]; exact .int _))⟩
theorem cl_all {bs : List Bool} (h : k (.bool (bs.all id)) true) : Cl K B T (rAll K) [.list (bs.map .bool)] k := fun H vs Q b r q => by
  obtain ⟨v, rfl, fp, o, n⟩ := r.one_inv
  obtain ⟨a, us, fq, rfl, s1, a1, sub⟩ := o.lst_inv b
  obtain ⟨rfl, _⟩ := a1.bools
  exact ⟨a, bs, rfl, .inl (.inl s1), q _ _ _ H h (Same.refl _) (.ownN (.bl _))⟩
theorem cl_any {bs : List Bool} (h : k (.bool (bs.any id)) true) : Cl K B T (rAny K) [.list (bs.map .bool)] k := fun H vs Q b r q => by
  obtain ⟨v, rfl, fp, o, n⟩ := r.one_inv
  obtain ⟨a, us, fq, rfl, s1, a1, sub⟩ := o.lst_inv b
  obtain ⟨rfl, _⟩ := a1.bools
  exact ⟨a, bs, rfl, .inl (.inl s1), q _ _ _ H h (Same.refl _) (.ownN (.bl _))⟩
theorem cl_sum {ns : List Int} (h : k (.int ns.sum) true) : Cl K B T (rSum K) [.list (ns.map .int)] k := fun H vs Q b r q => by
  obtain ⟨v, rfl, fp, o, n⟩ := r.one_inv
  obtain ⟨a, us, fq, rfl, s1, a1, sub⟩ := o.lst_inv b
  obtain ⟨rfl, _⟩ := a1.ints
  exact ⟨a, ns, rfl, .inl (.inl s1), q _ _ _ H h (Same.refl _) (.ownN (.int _))⟩
theorem cl_max {ns : List Int} (hn : 0 < ns.length) (h : ∀ m, m ∈ ns → (∀ y ∈ ns, y ≤ m) → k (.int m) true) : Cl K B T (rMax K) [.list (ns.map .int)] k := fun H vs Q b r q => by
  obtain ⟨v, rfl, fp, o, n⟩ := r.one_inv
  obtain ⟨a, us, fq, rfl, s1, a1, sub⟩ := o.lst_inv b
  obtain ⟨rfl, _⟩ := a1.ints
  exact ⟨a, ns, rfl, .inl (.inl s1), hn, fun m h1 h2 => q _ _ _ H (h m h1 h2) (Same.refl _) (.ownN (.int _))⟩
theorem cl_min {ns : List Int} (hn : 0 < ns.length) (h : ∀ m, m ∈ ns → (∀ y ∈ ns, m ≤ y) → k (.int m) true) : Cl K B T (rMin K) [.list (ns.map .int)] k := fun H vs Q b r q => by
  obtain ⟨v, rfl, fp, o, n⟩ := r.one_inv
  obtain ⟨a, us, fq, rfl, s1, a1, sub⟩ := o.lst_inv b
  obtain ⟨rfl, _⟩ := a1.ints
  exact ⟨a, ns, rfl, .inl (.inl s1), hn, fun m h1 h2 => q _ _ _ H (h m h1 h2) (Same.refl _) (.ownN (.int _))⟩
abbrev rAbs : List V → Hp → VK → Prop := fun xs H Q => ∃ i, xs = [.int i] ∧ Q (.int (if i < 0 then -i else i)) H
theorem cl_abs {i : Int} (h : k (.int (if i < 0 then -i else i)) true) : Cl K B T rAbs [.int i] k := fun H vs Q b r q => by
  obtain ⟨v, rfl, fp, o, n⟩ := r.one_inv
  obtain ⟨rfl, _⟩ := o.int_inv
  exact ⟨i, rfl, q _ _ _ H h (Same.refl _) (.ownN (.int _))⟩
abbrev rInt : List V → Hp → VK → Prop := fun xs H Q => (∃ i, xs = [.int i] ∧ Q (.int i) H) ∨ ∃ k, xs = [.bl k] ∧ Q (.int (if k then 1 else 0)) H
theorem cl_int {i : Int} (h : k (.int i) true) : Cl K B T rInt [.int i] k := fun H vs Q b r q => by
  obtain ⟨v, rfl, fp, o, n⟩ := r.one_inv
  obtain ⟨rfl, _⟩ := o.int_inv
  exact .inl ⟨i, rfl, q _ _ _ H h (Same.refl _) (.ownN (.int _))⟩
abbrev rMax2 : List V → Hp → VK → Prop := fun xs H Q => ∃ i j, xs = [.int i, .int j] ∧ Q (.int (if j > i then j else i)) H
abbrev rMin2 : List V → Hp → VK → Prop := fun xs H Q => ∃ i j, xs = [.int i, .int j] ∧ Q (.int (if j < i then j else i)) H
theorem cl_max2 {i j : Int} (h : k (.int (max i j)) true) : Cl K B T rMax2 [.int i, .int j] k := fun H vs Q b r q => by
  obtain ⟨v, w, rfl, ⟨_, o, _⟩, _, o', _⟩ := r.two_inv
  obtain ⟨rfl, _⟩ := o.int_inv
  obtain ⟨rfl, _⟩ := o'.int_inv
  have e : (if j > i then j else i) = max i j := by split <;> omega
  exact ⟨i, j, rfl, by rw [e]; exact q _ _ _ H h (Same.refl _) (.ownN (.int _))⟩
theorem cl_min2 {i j : Int} (h : k (.int (min i j)) true) : Cl K B T rMin2 [.int i, .int j] k := fun H vs Q b r q => by
  obtain ⟨v, w, rfl, ⟨_, o, _⟩, _, o', _⟩ := r.two_inv
  obtain ⟨rfl, _⟩ := o.int_inv
  obtain ⟨rfl, _⟩ := o'.int_inv
  have e : (if j < i then j else i) = min i j := by split <;> omega
  exact ⟨i, j, rfl, by rw [e]; exact q _ _ _ H h (Same.refl _) (.ownN (.int _))⟩
/-- tuple(x) -/
abbrev rTuple (K : FK) : List V → Hp → VK → Prop := fun xs H Q => ∃ p ys, xs = [.ref p] ∧ ((SqL K H p ys ∧ ∀ l, H l = none → Q (.ref l) (upd H l (.tup ys))) ∨ (SqT K H p ys ∧ Q (.ref p) H))
theorem cl_tuple_lst {ds : List D} (im : immAll ds = true) (h : k (.tuple ds) true) : Cl K B T (rTuple K) [.list ds] k := fun H vs Q b r q => by
  obtain ⟨v, rfl, fp, o, n⟩ := r.one_inv
  obtain ⟨a, us, fq, rfl, s1, a1, sub⟩ := o.lst_inv b
  obtain ⟨_, a2⟩ := a1.imm im
  refine ⟨a, us, rfl, .inl ⟨.inl (.inl s1), fun p hp => ?_⟩⟩
  have s := same_new (o := .tup us) hp
  exact q _ _ _ _ h s (.ownN (.tup (.inl (.inl upd_same)) (a2.mv (Stay.of_same s) fun _ z => nomatch z)))
theorem cl_tuple_tup {ds : List D} (im : immAll ds = true) (h : k (.tuple ds) true) : Cl K B T (rTuple K) [.tuple ds] k := fun H vs Q b r q => by
  obtain ⟨v, rfl, fp, o, n⟩ := r.one_inv
  obtain ⟨a, us, rfl, s1, a1⟩ := o.tup_inv
  obtain ⟨_, a2⟩ := a1.imm im
  exact ⟨a, us, rfl, .inr ⟨s1, q _ _ _ H h (Same.refl _) (.ownN (.tup s1 a2))⟩⟩
/-- list(x) -/
abbrev rList (K : FK) : List V → Hp → VK → Prop := fun xs H Q => ∃ p ys, xs = [.ref p] ∧ (SqL K H p ys ∨ SqT K H p ys) ∧ ∀ l, H l = none → Q (.ref l) (upd H l (.lst ys))
theorem cl_list {d : D} {ds : List D} (hd : d = .list ds ∨ d = .tuple ds) (im : immAll ds = true) (h : k (.list ds) true) : Cl K B T (rList K) [d] k := fun H vs Q b r q => by
  obtain ⟨v, rfl, fp, o, n⟩ := r.one_inv
  have fin : ∀ {a : Addr} {us : List V}, (SqL K H a us ∨ SqT K H a us) → OwnAll K Em H us ds [] → v = .ref a → ∃ p ys, [v] = [V.ref p] ∧ (SqL K H p ys ∨ SqT K H p ys) ∧ ∀ l, H l = none → Q (.ref l) (upd H l (.lst ys)) := fun {a us} hs a2 e => by
    subst e
    refine ⟨a, us, rfl, hs, fun p hp => ?_⟩
    have s := same_new (o := .lst us) hp
    exact q _ _ _ _ h s (.own (.lst upd_same (a2.mv (Stay.of_same s) fun _ z => nomatch z) fun z => nomatch z) fun c hc => by
      rcases List.mem_cons.mp hc with rfl | z
      · exact hp
      · cases z)
  rcases hd with rfl | rfl
  · obtain ⟨a, us, fq, rfl, s1, a1, sub⟩ := o.lst_inv b
    obtain ⟨_, a2⟩ := a1.imm im
    exact fin (.inl (.inl (.inl s1))) a2 rfl
  · obtain ⟨a, us, rfl, s1, a1⟩ := o.tup_inv
    obtain ⟨_, a2⟩ := a1.imm im
    exact fin (.inr s1) a2 rfl
end

/-! ### a def keeps its promise -/
def argSl (ds : List D) (n : Nat) : List Sl := ds.map .arg ++ List.replicate (n - ds.length) .any
theorem args_rel {K : FK} {B H : Hp} {T : List Addr} : ∀ {vs : List V} {ds : List D}, OwnAll K B H vs ds [] → ∀ m : Nat, SlsR K B T H (vs.map some ++ List.replicate m none) (ds.map .arg ++ List.replicate m .any) (List.replicate (ds.length + m) [])
  | [], [], _, m => by
    induction m with
    | zero => exact .nil
    | succ m ih =>
      rw [List.replicate_succ, List.replicate_succ]
      simpa [List.replicate_succ] using SlsR.cons SlR.any ih
  | v :: vs, d :: ds, h, m => by
    obtain ⟨v', ws, f1, f2, e1, e2, h1, h2, _⟩ := h.cons_inv
    cases e1
    obtain ⟨rfl, rfl⟩ := List.nil_eq_append_iff.mp e2
    have e : List.replicate ((d :: ds).length + m) ([] : List Addr) = [] :: List.replicate (ds.length + m) [] := by rw [← List.replicate_succ]; congr 1; simp; omega
    rw [e]
    exact .cons (.arg h1) (args_rel h2 m)
  | [], _ :: _, h, _ => by cases h.length
  | _ :: _, [], h, _ => by cases h.length
theorem flat_rep {m : Nat} : (List.replicate m ([] : List Addr)).flatten = [] := by
  induction m with
  | zero => rfl
  | succ m ih => rw [List.replicate_succ, List.flatten_cons, ih]; rfl
section
variable {P : Program} {w : World} {K : FK} {mg : Str → Option Value} {base : Heap} {x qual : Str} {st : Stmt} {f : Addr} {fd : FuncData} {N ps : List Str} {k : Nat}
theorem okF {S : SF} (F : Fun K x qual st f fd) (sc : FnScope N ps (defScope st)) (hl : ∀ ds Ψ, S ds Ψ → ds.length = ps.length)
    (body : ∀ (cdv : Value) (A : Around) (outer : List PySem.Env) (s : Shared) (H : Hp) (E : XK) (ds : List D) (Ψ : D → Prop), Room k (A.deeper (PyProof.Rows.envOfC qual (defScope st) s.heap.objs.size f cdv)) → S ds Ψ →
      SS (cxOf CX0 P w K mg base N qual (defScope st) f cdv A outer s H E).nox H [] (argSl ds N.length) .none (defBody st) { nx := fun _ _ => Ψ .none, rt := fun _ d => Ψ d }) : FnOk P w K mg base CX0 (k + 1) f fd ps (spF K S) := by
  refine F.ok sc (fun vs H Q E ⟨ds, Ψ, o, h, _⟩ => by rw [o.length, hl ds Ψ h]) (fun cdv A outer s H vs Q E hr ⟨ds, Ψ, o, hS, q⟩ => ?_)
  refine ⟨_, pss_wp, ?_⟩
  have rel := args_rel (T := []) o (N.length - vs.length)
  have e1 : List.replicate (N.length - vs.length) Sl.any = List.replicate (N.length - ds.length) Sl.any := by rw [o.length]
  rw [e1] at rel
  have En : Env K H [] H (start N vs) (argSl ds N.length) .none _ := ⟨rel, (by rw [flat_rep]; exact List.nodup_nil), Same.refl _, (fun a ha => by rw [flat_rep] at ha; cases ha), (fun _ z => nomatch z), .inl rfl⟩
  refine (body cdv A outer s H E ds Ψ hr hS _ H _ En).imp (fun σ' H' ⟨ρ', τ', fps', h1, E', f1, n1⟩ => ?_) (fun v H' ⟨τ', d, fp, h1, t1, o1, f1, n1⟩ => ?_) (fun _ _ ⟨_, _, _, h, _⟩ => h.elim) (fun _ _ ⟨_, _, _, h, _⟩ => h.elim)
  · exact q .none .non H' [] h1 (fun b o e => f1 b o e (fun z => nomatch z) fun z => by rw [flat_rep] at z; cases z) .non fun _ z => nomatch z
  · exact q d v H' fp h1 (fun b o e => f1 b o e (fun z => nomatch z) fun z => by rw [flat_rep] at z; cases z) o1 fun a ha => (n1 a ha).resolve_left fun z => by rw [flat_rep] at z; cases z
theorem okT {S : SFT} (F : Fun K x qual st f fd) (sc : FnScope N ps (defScope st)) (hl : ∀ τ ds Ψ, S τ ds Ψ → ds.length + 1 = ps.length)
    (body : ∀ (cdv : Value) (A : Around) (outer : List PySem.Env) (s : Shared) (H : Hp) (E : XK) (a : Addr) (r : List Addr) (τ : D) (ds : List D) (Ψ : D → D → Prop), Room k (A.deeper (PyProof.Rows.envOfC qual (defScope st) s.heap.objs.size f cdv)) → S τ ds Ψ →
      SS (cxOf CX0 P w K mg base N qual (defScope st) f cdv A outer s H E).nox (hide (a :: r) H) (a :: r) (.tp :: argSl ds (N.length - 1)) τ (defBody st) { nx := fun _ τ' => Ψ τ' .none, rt := fun τ' d => Ψ τ' d }) : FnOk P w K mg base CX0 (k + 1) f fd ps (spT K S) := by
  refine F.ok sc (fun vs H Q E ⟨a, r, τ, ws, ds, Ψ, h, e, _, o, _⟩ => by rw [e, List.length_cons, o.length, hl τ ds Ψ h]) (fun cdv A outer s H vs Q E hr ⟨a, r, τ, ws, ds, Ψ, hS, e, oT, o, q⟩ => ?_)
  subst e
  refine ⟨_, pss_wp, ?_⟩
  have rel := args_rel (T := a :: r) o (N.length - (V.ref a :: ws).length)
  have e1 : List.replicate (N.length - (V.ref a :: ws).length) Sl.any = List.replicate (N.length - 1 - ds.length) Sl.any := by rw [List.length_cons, o.length]; congr 1; omega
  rw [e1] at rel
  have En : Env K (hide (a :: r) H) (a :: r) H (start N (.ref a :: ws)) (.tp :: argSl ds (N.length - 1)) τ ([] :: _) := ⟨.cons (.tp rfl) rel, (by rw [List.flatten_cons, flat_rep]; exact List.nodup_nil), same_hide, (fun a ha => by rw [List.flatten_cons, flat_rep] at ha; cases ha), fun c hc => hide_none hc, .inr ⟨a, r, rfl, oT⟩⟩
  have tpo : ∀ {H' : Hp} {τ' : D}, Tp K H' (a :: r) τ' → Own K Em H' (.ref a) τ' (a :: r) := fun h => by
    rcases h with e | ⟨b, r', e, o⟩
    · cases e
    · cases e; exact o
  refine (body cdv A outer s H E a r τ ds Ψ hr hS _ H _ En).imp (fun σ' H' ⟨ρ', τ', fps', h1, E', f1, n1⟩ => ?_) (fun v H' ⟨τ', d, fp, h1, t1, o1, f1, n1⟩ => ?_) (fun _ _ ⟨_, _, _, h, _⟩ => h.elim) (fun _ _ ⟨_, _, _, h, _⟩ => h.elim)
  · exact q τ' .none .non H' [] h1 (fun b o e n => f1 b o e n fun z => by rw [List.flatten_cons, flat_rep] at z; cases z) (tpo E'.tt) .non fun _ z => nomatch z
  · exact q τ' d v H' fp h1 (fun b o e n => f1 b o e n fun z => by rw [List.flatten_cons, flat_rep] at z; cases z) (tpo t1) o1 fun a ha => (n1 a ha).resolve_left fun z => by rw [List.flatten_cons, flat_rep] at z; cases z
/-- a def, as callers know it -/
theorem fx_of {sp : Sp} (o : FnOk P w K mg base CX0 k f fd ps sp) (hm : mg x = some (.ref f)) (hk : PySem.W.keepIn K (.ref f) = true) (hb : Binds K fd ps []) : Fx P w K mg base k x ps sp := ⟨f, fd, o, hm, hk, hb⟩
end

/-! ### small words -/
theorem small {n : Nat} (h : n ≤ 1000000) : n ≤ sizeLine := by rw [sizeLine_eq]; omega
theorem small' {n : Nat} (h : n < 1000000) : n < sizeLine := by rw [sizeLine_eq]; omega
theorem ifY {c A B : Prop} [Decidable c] (h : c) (a : A) : if decide c = true then A else B := by rw [if_pos (decide_eq_true h)]; exact a
theorem ifN {c A B : Prop} [Decidable c] (h : ¬ c) (a : B) : if decide c = true then A else B := by rw [if_neg (by simp [h])]; exact a
theorem if2 {c A B : Prop} [Decidable c] (a : c → A) (b : ¬ c → B) : if decide c = true then A else B := by
  by_cases h : c
  · exact ifY h (a h)
  · exact ifN h (b h)
theorem ifT {b : Bool} {A B : Prop} (h : b = true) (a : A) : if b = true then A else B := by rw [if_pos h]; exact a
theorem ifF {b : Bool} {A B : Prop} (h : b = false) (a : B) : if b = true then A else B := by rw [h]; exact a
theorem ifB {b : Bool} {A B : Prop} (h1 : b = true → A) (h2 : b = false → B) : if b = true then A else B := by
  cases b with
  | true => exact h1 rfl
  | false => exact h2 rfl
theorem immAll_map {α : Type} {f : α → D} {xs : List α} (h : ∀ x ∈ xs, imm (f x) = true) : immAll (xs.map f) = true := by
  induction xs with
  | nil => rfl
  | cons x r ih => rw [List.map_cons, immAll, h x List.mem_cons_self, ih fun y hy => h y (List.mem_cons_of_mem _ hy)]; rfl
theorem immAll_append {xs ys : List D} (h1 : immAll xs = true) (h2 : immAll ys = true) : immAll (xs ++ ys) = true := by
  induction xs with
  | nil => exact h2
  | cons x r ih =>
    rw [immAll, Bool.and_eq_true] at h1
    rw [List.cons_append, immAll, h1.1, ih h1.2]; rfl
section
variable {K : FK} {B : Hp} {T : List Addr} {k : D → Bool → Prop} {α : Type} {xs : List α}
theorem cl_allM {p : α → Bool} (h : k (.bool (xs.all p)) true) : Cl K B T (rAll K) [.list (xs.map fun x => .bool (p x))] k := by
  have := cl_all (K := K) (B := B) (T := T) (k := k) (bs := xs.map p) (by rw [List.all_map]; exact h)
  rw [List.map_map] at this
  exact this
theorem cl_anyM {p : α → Bool} (h : k (.bool (xs.any p)) true) : Cl K B T (rAny K) [.list (xs.map fun x => .bool (p x))] k := by
  have := cl_any (K := K) (B := B) (T := T) (k := k) (bs := xs.map p) (by rw [List.any_map]; exact h)
  rw [List.map_map] at this
  exact this
theorem cl_sumM {f : α → Int} (h : k (.int (xs.map f).sum) true) : Cl K B T (rSum K) [.list (xs.map fun x => .int (f x))] k := by
  have := cl_sum (K := K) (B := B) (T := T) (k := k) (ns := xs.map f) h
  rw [List.map_map] at this
  exact this
end
end DL
/-! DL, part 11: names found by themselves. -/
namespace DL
open PySem PySem.Spec L2 RZ
/-- the place of a name -/
def at? (N : List Str) (x : Str) : Option Nat := N.findIdx? fun y => decide (y = x)
theorem at_get {x : Str} : ∀ {N : List Str} {i : Nat}, at? N x = some i → N[i]? = some x
  | [], i, h => by cases h
  | y :: r, i, h => by
    unfold at? at h
    rw [List.findIdx?_cons] at h
    by_cases e : y = x
    · rw [if_pos (decide_eq_true e)] at h
      cases h
      simp [e]
    · rw [if_neg (by simp [e])] at h
      obtain ⟨j, hj, rfl⟩ := Option.map_eq_some_iff.mp h
      simpa using at_get (x := x) (N := r) (i := j) hj
section
variable {X : Cx} {B : Hp} {T : List Addr} {ρ : List Sl} {τ : D}
theorem e_nm {x : Str} {pos : Pos} {d : D} {Ψ : D → D → Bool → Prop} (hρ : (at? X.N x).bind (fun i => (ρ[i]?).bind rdS) = some d) (h : Ψ τ d (imm d))
    (hv : Vis X.env.scope x := by first | exact Or.inl rfl | exact Or.inr (Or.inl rfl) | exact Or.inr (Or.inr rfl)) (hd : (x == ("__debug__" : Str)) = false := by decide) (hcd : (x == ("__classdict__" : Str)) = false := by decide) : ET X B T ρ τ (.Name x pos) Ψ := by
  obtain ⟨i, h1, h2⟩ := Option.bind_eq_some_iff.mp hρ
  exact e_name i h2 h (at_get h1) hv hd hcd
end
section
variable {K : FK} {B : Hp} {T : List Addr} {k : D → Bool → Prop}
theorem sub_int {i j : Int} (h : k (.int (i - j)) true) : Op2 K B T (rI0 fun i j => .int (i - j)) (.int i) (.int j) k := op2_I0 (gd := fun i j => .int (i - j)) (fun _ _ _ => .int _) h
theorem eqv_int (i j : Int) : PyData.eqv (.int i) (.int j) = decide (i = j) := by
  show (i == j) = decide (i = j)
  rw [Bool.beq_eq_decide_eq]
theorem sh_int (i : Int) : SeqAt.shaped (.int i) = true := by
  unfold SeqAt.shaped
  simp [PyData.canLay0, PyData.depth]
theorem eq_int {i j : Int} (h : k (.bool (decide (i = j))) true) : Op2 K B T (rEqD K) (.int i) (.int j) k := eq_D (sh_int i) (sh_int j) (by rw [eqv_int]; exact h)
theorem ne_int {i j : Int} (h : k (.bool (!decide (i = j))) true) : Op2 K B T (rNeD K) (.int i) (.int j) k := ne_D (sh_int i) (sh_int j) (by rw [eqv_int]; exact h)
theorem ifNY {c A B : Prop} [Decidable c] (h : ¬ c) (a : A) : if (!decide c) = true then A else B := by rw [if_pos (by simp [h])]; exact a
theorem ifNN {c A B : Prop} [Decidable c] (h : c) (a : B) : if (!decide c) = true then A else B := by rw [if_neg (by simp [h])]; exact a
theorem if2N {c A B : Prop} [Decidable c] (a : ¬ c → A) (b : c → B) : if (!decide c) = true then A else B := by
  by_cases h : c
  · exact ifNN h (b h)
  · exact ifNY h (a h)
theorem ifTT {A B : Prop} (a : A) : if true = true then A else B := by rw [if_pos rfl]; exact a
theorem ifFF {A B : Prop} (b : B) : if false = true then A else B := by rw [if_neg Bool.false_ne_true]; exact b
end
@[simp] theorem immAll_mapS {α : Type} (f : α → D) (xs : List α) : immAll (xs.map f) = xs.all fun x => imm (f x) := by
  induction xs with
  | nil => rfl
  | cons x r ih => rw [List.map_cons, immAll, ih, List.all_cons]
section
variable {X : Cx} {B : Hp} {T : List Addr} {ρ : List Sl} {τ : D} {scope : Scope} {vs : List Nat} {tg elt c : Expr} {d : D} {I : D → Option D → Prop}
theorem turn0 (h : ∀ s H0 C cl fp, GT (Bk X scope s H0 C cl fp) B T vs (wipeL ρ vs) tg d fun ρ2 => ∀ s H0 C cl fp, ET (Bk X scope s H0 C cl fp) B T ρ2 τ elt fun τ4 y o => o = true ∧ I τ4 (some y)) : Turn1 X scope B T ρ τ vs tg elt [] d I := h
theorem turn1 (h : ∀ s H0 C cl fp, GT (Bk X scope s H0 C cl fp) B T vs (wipeL ρ vs) tg d fun ρ2 => ∀ s H0 C cl fp, TT' (Bk X scope s H0 C cl fp) B T ρ2 τ c fun τ3 b => if b = true then ∀ s H0 C cl fp, ET (Bk X scope s H0 C cl fp) B T ρ2 τ3 elt fun τ4 y o => o = true ∧ I τ4 (some y) else I τ3 none) : Turn1 X scope B T ρ τ vs tg elt [c] d I := h
end
end DL
/-! DL, part 12: more about slots; stores into a list within a list. -/
namespace DL
open PySem PySem.Spec L2 RZ
/-- the address of a slot's datum forgotten -/
def unpin1 : Sl → Sl
  | .v d _ => .v d none
  | s => s
def unpin : Nat → List Sl → List Sl
  | _, [] => []
  | 0, s :: r => unpin1 s :: r
  | j + 1, s :: r => s :: unpin j r
section
variable {K : FK} {B : Hp} {T : List Addr} {H : Hp} {τ : D} {ρ : List Sl}
theorem SlsR.unpin : ∀ {σ : L2.St} {ρ : List Sl} {fps : List (List Addr)} (j : Nat), SlsR K B T H σ ρ fps → SlsR K B T H σ (DL.unpin j ρ) fps
  | _, _, _, j, .nil => by cases j <;> exact .nil
  | _, _, _, 0, .cons h t => by
    cases h with
    | v o n a => exact .cons (.v o n fun _ z => nomatch z) t
    | any => exact .cons .any t
    | arg o => exact .cons (.arg o) t
    | bor o n => exact .cons (.bor o n) t
    | tp e => exact .cons (.tp e) t
    | scr q => exact .cons (.scr q) t
  | _, _, _, j + 1, .cons h t => .cons h (SlsR.unpin j t)
theorem Env.unpin {σ : L2.St} {fps : List (List Addr)} (E : Env K B T H σ ρ τ fps) (j : Nat) : Env K B T H σ (DL.unpin j ρ) τ fps := ⟨E.rel.unpin j, E.nd, E.base, E.sep, E.sepT, E.tt⟩
end
section
variable {X : Cx} {B : Hp} {T : List Addr} {ρ : List Sl} {τ : D} {st : Stmt} {sts : List Stmt} {Φ : Phi}
theorem Nx.unpin {K : FK} {H : Hp} {fps : List (List Addr)} {k : List Sl → D → Prop} {σ' : L2.St} {H' : Hp} (j : Nat) (h : Nx K B T H fps (fun ρ τ => k (DL.unpin j ρ) τ) σ' H') : Nx K B T H fps k σ' H' :=
  let ⟨ρ', τ', fps', h1, E, r⟩ := h; ⟨DL.unpin j ρ', τ', fps', h1, E.unpin j, r⟩
theorem st_unpin (j : Nat) (h : ST X B T ρ τ st { Φ with nx := fun ρ τ => Φ.nx (unpin j ρ) τ }) : ST X B T ρ τ st Φ := fun σ H fps E =>
  (h σ H fps E).imp (fun _ _ q => Nx.unpin j q) (fun _ _ q => q) (fun _ _ q => q) (fun _ _ q => q)
theorem ss_fgt (i : Nat) (h : SS X B T (ρ.set i .any) τ sts Φ) : SS X B T ρ τ sts Φ := fun σ H fps E => by
  have hσ : σ.set i none = σ ∨ True := .inr trivial
  have rel : SlsR X.K B T H σ (ρ.set i .any) (fps.set i []) := by
    have go : ∀ {σ : L2.St} {ρ : List Sl} {fps : List (List Addr)} (i : Nat), SlsR X.K B T H σ ρ fps → SlsR X.K B T H σ (ρ.set i .any) (fps.set i []) := by
      intro σ ρ fps i h
      induction h generalizing i with
      | nil => exact .nil
      | cons h t ih =>
        cases i with
        | zero => exact .cons .any t
        | succ i => exact .cons h (ih i)
    exact go i E.rel
  have sub : ∀ a ∈ (fps.set i []).flatten, a ∈ fps.flatten := fun a ha => (flatten_set ha).elim (fun z => nomatch z) id
  have E1 : Env X.K B T H σ (ρ.set i .any) τ (fps.set i []) := by
    refine ⟨rel, ?_, E.base, fun a ha => E.sep a (sub a ha), E.sepT, E.tt⟩
    cases e : fps[i]? with
    | none => rw [List.set_eq_of_length_le (List.getElem?_eq_none_iff.mp e)]; exact E.nd
    | some fp => exact nodup_set E.nd e List.nodup_nil fun _ z => nomatch z
  have fr : ∀ {H' : Hp}, FrS T (fps.set i []) H H' → FrS T fps H H' := fun f b o e1 e2 e3 => f b o e1 e2 fun z => e3 (sub b z)
  have nw : ∀ {fp : List Addr}, New (fps.set i []) H fp → New fps H fp := fun n a ha => (n a ha).imp (sub a) id
  have cv : ∀ {k : List Sl → D → Prop} {σ' : L2.St} {H' : Hp}, Nx X.K B T H (fps.set i []) k σ' H' → Nx X.K B T H fps k σ' H' := fun ⟨ρ', τ', fps', h1, E', f, n⟩ => ⟨ρ', τ', fps', h1, E', fr f, nw n⟩
  exact (h σ H _ E1).imp (fun _ _ q => cv q) (fun _ _ ⟨a, b, c, d, t, o, f, n⟩ => ⟨a, b, c, d, t, o, fr f, nw n⟩) (fun _ _ q => cv q) (fun _ _ q => cv q)
/-- a tape of one's own is the tape from here on -/
theorem ss_tape (i : Nat) {kds : List (D × D)} {sa : Option Addr} {R : D → D → Prop} {τ0 : D} (hρ : ρ[i]? = some (.v (.dict kds) sa)) (hb : nb? ρ = true)
    (h : ∀ T', SS X B T' (ρ.set i .tp) (.dict kds) sts { nx := fun _ _ => False, rt := R }) : SS X B [] ρ τ0 sts { nx := fun _ _ => False, rt := R } := fun σ H fps E => by
  obtain ⟨y, fp, h1, h2, h3⟩ := E.rel.get hρ
  cases h3 with
  | v o nT a =>
    obtain ⟨a1, ob, kvs, ds, fq, rfl, hH, isd, own, ek, na, rfl⟩ := o.dctE_inv
    have sub : ∀ a ∈ (fps.set i []).flatten, a ∈ fps.flatten := fun a ha => (flatten_set ha).elim (fun z => nomatch z) id
    have inf : ∀ a ∈ a1 :: fq, a ∈ fps.flatten := fun a ha => mem_flat h2 ha
    have off : ∀ a ∈ (fps.set i []).flatten, a ∉ a1 :: fq := by
      have go : ∀ {l : List (List Addr)} {i : Nat} {x : List Addr}, l.flatten.Nodup → l[i]? = some x → ∀ a ∈ (l.set i []).flatten, a ∉ x := by
        intro l
        induction l with
        | nil => intro i x _ e; simp at e
        | cons z r ih =>
          intro i x nd e a ha hx
          rw [List.flatten_cons, List.nodup_append] at nd
          cases i with
          | zero =>
            simp at e; subst e
            rw [List.set_cons_zero, List.flatten_cons, List.nil_append] at ha
            exact nd.2.2 a hx a ha rfl
          | succ i =>
            have e' : r[i]? = some x := by simpa using e
            rw [List.set_cons_succ, List.flatten_cons, List.mem_append] at ha
            rcases ha with ha | ha
            · exact nd.2.2 a ha a (mem_flat e' hx) rfl
            · exact ih nd.2.1 e' a ha hx
      exact go E.nd h2
    have rel : SlsR X.K B (a1 :: fq) H σ (ρ.set i .tp) (fps.set i []) := by
      have go : ∀ {σ : L2.St} {ρ : List Sl} {fps : List (List Addr)} (i : Nat), SlsR X.K B [] H σ ρ fps → (∀ s ∈ ρ, isBor s = false) → σ[i]? = some (some (.ref a1)) → (∀ a ∈ (fps.set i []).flatten, a ∉ a1 :: fq) → SlsR X.K B (a1 :: fq) H σ (ρ.set i .tp) (fps.set i []) := by
        have one : ∀ {x : Option V} {s : Sl} {fp : List Addr}, SlR X.K B [] H x s fp → isBor s = false → (∀ a ∈ fp, a ∉ a1 :: fq) → SlR X.K B (a1 :: fq) H x s fp := fun h nb k => by
          cases h with
          | any => exact .any
          | v o n a => exact .v o k a
          | arg o => exact .arg o
          | bor o n => cases nb
          | tp e => cases e
          | scr q => exact .scr q
        have all : ∀ {σ : L2.St} {ρ : List Sl} {fps : List (List Addr)}, SlsR X.K B [] H σ ρ fps → (∀ s ∈ ρ, isBor s = false) → (∀ a ∈ fps.flatten, a ∉ a1 :: fq) → SlsR X.K B (a1 :: fq) H σ ρ fps := by
          intro σ ρ fps h
          induction h with
          | nil => intro _ _; exact .nil
          | cons h t ih =>
            intro nb k
            exact .cons (one h (nb _ List.mem_cons_self) fun a ha => k a (by rw [List.flatten_cons]; exact List.mem_append_left _ ha)) (ih (fun s hs => nb s (List.mem_cons_of_mem _ hs)) fun a ha => k a (by rw [List.flatten_cons]; exact List.mem_append_right _ ha))
        intro σ ρ fps i h
        induction h generalizing i with
        | nil => intro _ _ _; exact .nil
        | cons h t ih =>
          intro nb e k
          cases i with
          | zero =>
            simp at e; subst e
            exact .cons (.tp rfl) (all t (fun s hs => nb s (List.mem_cons_of_mem _ hs)) fun a ha => k a (by simpa using ha))
          | succ i =>
            exact .cons (one h (nb _ List.mem_cons_self) fun a ha => k a (by rw [List.set_cons_succ, List.flatten_cons]; exact List.mem_append_left _ ha)) (ih i (fun s hs => nb s (List.mem_cons_of_mem _ hs)) (by simpa using e) fun a ha => k a (by rw [List.set_cons_succ, List.flatten_cons]; exact List.mem_append_right _ ha))
      exact go i E.rel (nb_of hb) h1 off
    have E1 : Env X.K B (a1 :: fq) H σ (ρ.set i .tp) (.dict kds) (fps.set i []) :=
      ⟨rel, nodup_set E.nd h2 List.nodup_nil (fun _ z => nomatch z), E.base, fun a ha => E.sep a (sub a ha), fun a ha => E.sep a (inf a ha), .inr ⟨a1, fq, rfl, o⟩⟩
    exact (h _ σ H _ E1).imp (fun _ _ ⟨_, _, _, z, _⟩ => z.elim) (fun _ _ ⟨a, b, c, d, t, o, f, n⟩ => ⟨a, b, c, d, .inl rfl, o, fun b o e1 _ e3 => f b o e1 (fun z => e3 (inf b z)) fun z => e3 (sub b z), fun a ha => (n a ha).imp (sub a) id⟩) (fun _ _ ⟨_, _, _, z, _⟩ => z.elim) (fun _ _ ⟨_, _, _, z, _⟩ => z.elim)
/-- over a list of the caller's -/
theorem i_arg (j : Nat) {x : Str} {px : Pos} {tg : Expr} {ds : List D} {Ψ : D → List D → Bool → Prop} (hρ : ρ[j]? = some (.arg (.list ds))) (h : Ψ τ ds true) (hN : X.N[j]? = some x)
    (hv : Vis X.env.scope x) (hd : (x == ("__debug__" : Str)) = false) (hcd : (x == ("__classdict__" : Str)) = false) : IT X B T ρ τ tg (.Name x px) Ψ := fun σ H fps E => by
  obtain ⟨y, fp, h1, h2, h3⟩ := E.rel.get hρ
  cases h3 with
  | arg o =>
    obtain ⟨a, xs, fq, rfl, hl, _⟩ := o.lst_inv E.base
    exact wp_pi (pi_list (pe_var hN hv hd hcd)) ⟨_, h1, a, rfl, ⟨xs, .inl (.inl hl)⟩, τ, ds, true, [], _, h, E.tt, .refl _ _, ⟨E.base, o⟩, wk_list, fun _ z => (nomatch z), fun _ _ z => nomatch z⟩
end
/-! ### x[k][m] = e -/
theorem OwnAll.inner {K : FK} {H : Hp} {d : D} {v : V} (im : DL.imm d = true) (hv : Own K Em H v d []) {es : List D} (m : Nat) : ∀ {vs : List V} {ds : List D} {fp : List Addr} (j : Nat), OwnAll K Em H vs ds fp → ds[j]? = some (.list es) →
    ∃ a ys, vs[j]? = some (.ref a) ∧ H a = some (.lst ys) ∧ ys.length = es.length ∧ a ∈ fp ∧ ∃ fq, OwnAll K Em (upd H a (.lst (ys.set m v))) vs (ds.set j (.list (es.set m d))) fq ∧ ∀ b ∈ fq, b ∈ fp
  | _, _, _, _, .nil, e => by simp at e
  | _, _, _, 0, .cons (fp := f1) (fq := f2) h t n, e => by
    simp at e; subst e
    obtain ⟨a, ys, fq, rfl, hH, own, na, rfl⟩ := h.lstE_inv
    obtain ⟨fs, qs, ss⟩ := OwnAll.set im hv m own
    have su : Stay H (upd H a (.lst (ys.set m v))) := fun b o' e' mm => by
      rw [upd_ne]
      · exact e'
      · rintro rfl
        rw [hH] at e'; cases e'; cases mm
    have ns : a ∉ fs := fun z => na (ss _ z)
    refine ⟨a, ys, rfl, hH, own.length, List.mem_append_left _ List.mem_cons_self, (a :: fs) ++ f2, .cons (.lst upd_same (qs.mv su fun b hb => upd_ne fun e' => ns (e' ▸ hb)) ns) (t.mv su fun b hb => upd_ne fun e' => n a List.mem_cons_self (e' ▸ hb)) fun b hb => n b ?_, fun b hb => ?_⟩
    · rcases List.mem_cons.mp hb with rfl | hb
      · exact List.mem_cons_self
      · exact List.mem_cons_of_mem _ (ss _ hb)
    · rcases List.mem_append.mp hb with hb | hb
      · rcases List.mem_cons.mp hb with rfl | hb
        · exact List.mem_append_left _ List.mem_cons_self
        · exact List.mem_append_left _ (List.mem_cons_of_mem _ (ss _ hb))
      · exact List.mem_append_right _ hb
  | _, _, _, j + 1, .cons (fp := f1) (fq := f2) h t n, e => by
    obtain ⟨a, ys, h1, hH, h3, h4, fq, h5, h6⟩ := OwnAll.inner im hv m j t (by simpa using e)
    have su : Stay H (upd H a (.lst (ys.set m v))) := fun b o' e' mm => by
      rw [upd_ne]
      · exact e'
      · rintro rfl
        rw [hH] at e'; cases e'; cases mm
    refine ⟨a, ys, by simpa using h1, hH, h3, List.mem_append_right _ h4, f1 ++ fq, .cons (h.mv su fun b hb => upd_ne fun e' => n b hb (e' ▸ h4)) h5 fun b hb z => n b hb (h6 b z), fun b hb => ?_⟩
    rcases List.mem_append.mp hb with hb | hb
    · exact List.mem_append_left _ hb
    · exact List.mem_append_right _ (h6 b hb)
section
variable {X : Cx} {B : Hp} {T : List Addr} {ρ : List Sl} {τ : D} {e : Expr} {pos : Pos} {Φ : Phi}
theorem ixN_lt {n : Nat} {z : Int} {j : Nat} (h : L2.ixN n z = some j) : j < n := by
  unfold L2.ixN at h
  split at h
  · split at h <;> first | (cases h; omega) | cases h
  · split at h <;> first | (cases h; omega) | cases h
theorem s_put2 (i : Nat) {x : Str} {px ppos ppos2 : Pos} {k m : Expr} {ds : List D} {sa : Option Addr} (hρ : ρ[i]? = some (.v (.list ds) sa))
    (h : ET X B T ρ τ e fun τ1 d _ => imm d = true ∧ ET X B T ρ τ1 k fun τ2 kd _ => ∃ (z : Int) (j : Nat) (es : List D), kd = .int z ∧ ixN ds.length z = some j ∧ ds[j]? = some (.list es) ∧ ET X B T ρ τ2 m fun τ3 md _ => ∃ (w : Int) (l : Nat), md = .int w ∧ ixN es.length w = some l ∧
      Φ.nx (ρ.set i (.v (.list (ds.set j (.list (es.set l d)))) sa)) τ3) (hb : nb? ρ = true)
    (hp : PE X (.Name x px) (tVar i)) (hk : PlainIx k)
    (ha : ∀ v, assign (.Subscript (.Subscript (.Name x px) k ppos2) m ppos) X.env v = (do
      let ov ← holding [v] (eval (.Subscript (.Name x px) k ppos2) X.env)
      let iv ← holding [v, ov] (eval m X.env)
      standAt ppos
      holding [v, ov, iv] (setItem ov iv v)
      release [v, ov, iv] []))
    (hs : swapsWithSole [.Subscript (.Subscript (.Name x px) k ppos2) m ppos] e pos.line X.env = pure false) (hw : swappedStores [.Subscript (.Subscript (.Name x px) k ppos2) m ppos] e X.env = pure none)
    (h1' : (assignEach [.Subscript (.Subscript (.Name x px) k ppos2) m ppos] X.env).map (·.2) = [assign (.Subscript (.Subscript (.Name x px) k ppos2) m ppos) X.env]) : ST X B T ρ τ (.Assign [.Subscript (.Subscript (.Name x px) k ppos2) m ppos] e pos) Φ := fun σ H fps E => by
  obtain ⟨y, fp, h1, h2, h3⟩ := E.rel.get hρ
  cases h3 with
  | v o nT a =>
    obtain ⟨a1, xs, fq, rfl, hH, own, na, rfl⟩ := o.lstE_inv
    refine wp_ps (ps_asg pe_wp (pg_sub (pe_ix ix_seq hp pe_wp hk) pe_wp set_list ha) hs hw h1') ?_
    refine (h σ H fps E).imp fun v H1 ⟨τ1, d, oo, ⟨im, hk1⟩, t1, f1, r1⟩ => ?_
    refine ⟨_, h1, ?_⟩
    have E1 := E.step f1 t1
    refine (hk1 σ H1 fps E1).imp fun w H2 ⟨τ2, kd, o2, ⟨z, j, es, ek, hj, hes, hk2⟩, t2, f2, r2⟩ => ?_
    subst ek
    obtain ⟨fr, q, _⟩ := r2.read E1.tt
    obtain ⟨rfl, _⟩ := q.int_inv
    have E2 := E1.step f2 t2
    have f12 := f1.trans f2
    have hH2 : H2 a1 = some (.lst xs) := f12 _ _ hH (nT _ List.mem_cons_self)
    have own2 : OwnAll X.K Em H2 xs ds fq := own.mv (E.tt.stay f12) (keep_of f12 own.tracked fun b hb => nT b (List.mem_cons_of_mem _ hb))
    have hjl := ixN_lt hj
    have own2' := own2
    obtain ⟨v2, fv, hv2, ov2, _⟩ := OwnAll.get own2 hes
    refine .inl ⟨a1, xs, z, v2, rfl, rfl, .inl (.inl hH2), by unfold L2.atI; rw [own.length, hj]; exact hv2, ?_⟩
    refine (hk2 σ H2 fps E2).imp fun w3 H3 ⟨τ3, md, o3, ⟨w, l, em, hl, hk⟩, t3, f3, r3⟩ => ?_
    subst em
    obtain ⟨fr3, q3, _⟩ := r3.read E2.tt
    obtain ⟨rfl, _⟩ := q3.int_inv
    have f13 := f12.trans f3
    have hH3 : H3 a1 = some (.lst xs) := f13 _ _ hH (nT _ List.mem_cons_self)
    have own3 : OwnAll X.K Em H3 xs ds fq := own.mv (E.tt.stay f13) (keep_of f13 own.tracked fun b hb => nT b (List.mem_cons_of_mem _ hb))
    obtain ⟨fd, qd, _⟩ := (r1.step E.tt f1 t1 (f2.trans f3)).read E.tt
    obtain ⟨rfl, qe⟩ := qd.imm im
    obtain ⟨a2, ys, g1, g2, g3, g4, gq, g5, g6⟩ := OwnAll.inner im qe l j own3 hes
    have ev : v2 = .ref a2 := by rw [hv2] at g1; cases g1; rfl
    subst ev
    have na2 : a1 ≠ a2 := fun e' => na (e' ▸ g4)
    refine ⟨a2, ys, w, l, rfl, rfl, g2, by rw [g3]; exact hl, ?_⟩
    refine E.write f13 t3 hρ h1 h2 (nb_of hb) (fun b o' e' z => ?_) (.lst (by rw [upd_ne na2]; exact hH3) g5 fun z => na (g6 _ z)) (fun b hb => .inl ?_) hk
    · rw [upd_ne (show b ≠ a2 from fun q => z (by rw [q]; exact List.mem_cons_of_mem _ g4))]; exact e'
    · rcases List.mem_cons.mp hb with rfl | hb
      · exact List.mem_cons_self
      · exact List.mem_cons_of_mem _ (g6 _ hb)
end
end DL
/-! DL, part 13: sorted lists; list(range(n)); x.append(y.pop(k)). -/
namespace DL
open PySem PySem.Spec L2 RZ
def rSortD (K : FK) : List V → Hp → VK → Prop := fun vs H Q => ∃ (a : Addr) (xs : List V) (ds : List D), vs = [V.ref a] ∧ SqL K H a xs ∧ DpAll K H xs ds ∧ W.AllAlike ds ∧ W.Sortable ds ∧ ds.length ≤ sizeLine ∧ (∀ d ∈ ds, d.depth ≤ 40) ∧
  ∀ p, H p = none → Q (.ref p) (upd H p (.lst (((xs.zip ds).mergeSort (W.dataLe false (·.2))).map (·.1))))
theorem DpAll.length {K : FK} {H : Hp} : ∀ {vs : List V} {ds : List D}, DpAll K H vs ds → vs.length = ds.length
  | _, _, .nil => rfl
  | _, _, .cons _ t => congrArg (· + 1) (DpAll.length t)
theorem each_zip {X : Cx} {pins : List (Addr × Obj)} {σ : L2.St} {H : Hp} {s : Shared} (I : Inv X pins σ H s) : ∀ {vs : List V} {ds : List D} {us : List Value}, DpAll X.K H vs ds → Vals vs us → W.EachIs (fun u (p : V × D) => RelV p.1 u) us (vs.zip ds) ∧ W.EachIs (fun u (p : V × D) => ∃ as, Reads s.heap u p.2 as) us (vs.zip ds)
  | _, _, _, .nil, .nil => ⟨.nil, .nil⟩
  | _, _, _, .cons h t, .cons r rr => ⟨.cons r (each_zip I t rr).1, .cons (Dp.reads I _ _ _ h r) (each_zip I t rr).2⟩
theorem each_vals : ∀ {us : List Value} {ps : List (V × D)}, W.EachIs (fun u (p : V × D) => RelV p.1 u) us ps → Vals (ps.map (·.1)) us
  | _, _, .nil => .nil
  | _, _, .cons r t => .cons r (each_vals t)
theorem zip_snd {α β : Type} : ∀ {xs : List α} {ys : List β}, xs.length = ys.length → (xs.zip ys).map (·.2) = ys
  | [], [], _ => rfl
  | [], _ :: _, h => by cases h
  | _ :: _, [], h => by cases h
  | x :: xs, y :: ys, h => congrArg (y :: ·) (zip_snd (Nat.succ.inj h))
theorem cr_sortD {X : Cx} (hu : X.A.units + 65 < cLine) : CallR X (.builtin "sorted") (rSortD X.K) := by
  intro pins s σ H vs us Q I r h
  obtain ⟨a, xs, ds, rfl, hs, dp, hal, hk, hz, hd, q⟩ := h
  obtain ⟨its, rv, hl, _⟩ := I.list hs
  rw [Vals.ref1 r]
  have hlen := DpAll.length dp
  obtain ⟨e1, e2⟩ := each_zip I dp rv
  have em := zip_snd hlen
  refine W.sorted_data (enc := fun p : V × D => p.2) hl.isList e1 e2 (by rw [em]; exact hal) (by rw [em]; exact hk) (by rw [List.length_zip, hlen, Nat.min_self]; exact hz) (fun b hb => ?_) fun out ho eo => ?_
  · have : b.2 ∈ ds := by rw [← em]; exact List.mem_map.mpr ⟨b, hb, rfl⟩
    have := hd _ this
    omega
  · obtain ⟨ep, he'⟩ := PyProof.Rows.sortedAll_at s.heap its out.toArray
    have hv := each_vals eo
    have hsz : (((xs.zip ds).mergeSort (W.dataLe false fun p : V × D => p.2)).map (·.1)).length ≤ sizeLine := by rw [List.length_map, List.length_mergeSort, List.length_zip, hlen, Nat.min_self]; exact hz
    exact ⟨.ref _, upd H (s.heap.objs.size + 1) _, I.laid (t' := s.toks) (fun _ _ => PyProof.Rows.sortedAll_old) (Nat.le_succ _) (show ObjOk X.prog X.w _ _ _ (.lst _) from ⟨hsz, out, ep, hv, he'⟩), rfl, q _ (I.hok.fresh (Nat.le_succ _))⟩
/-- what can be sorted, as a computation -/
def sortB (ds : List D) : Bool := immAll ds && PyData.canLayAll0 ds && decide (ds.length ≤ 1000000) && (ds.all fun d => decide (d.depth ≤ 40) && ds.all fun d' => W.alike d d') && ((ds.all fun d => match d with | .tuple (_ :: _) => true | _ => false) || ds.all fun d => match d with | .none => false | .tuple _ => false | _ => true)
def sortL (ds : List D) : List D := ds.mergeSort (W.dataLe false fun d => d)
theorem own_pairs {K : FK} {H : Hp} : ∀ {ps : List (V × D)}, (∀ p ∈ ps, Own K Em H p.1 p.2 []) → OwnAll K Em H (ps.map (·.1)) (ps.map (·.2)) []
  | [], _ => .nil
  | p :: r, h => by
    have := OwnAll.cons (h p List.mem_cons_self) (own_pairs fun q hq => h q (List.mem_cons_of_mem _ hq)) fun _ z => nomatch z
    exact this
theorem pairs_own {K : FK} {H : Hp} : ∀ {vs : List V} {ds : List D}, OwnAll K Em H vs ds [] → ∀ p ∈ vs.zip ds, Own K Em H p.1 p.2 []
  | [], [], _, _, h => by cases h
  | [], _ :: _, h, _, _ => by cases h.length
  | _ :: _, [], h, _, _ => by cases h.length
  | v :: vs, d :: ds, h, p, hp => by
    obtain ⟨v', ws, f1, f2, e1, e2, h1, h2, _⟩ := h.cons_inv
    cases e1
    obtain ⟨rfl, rfl⟩ := List.nil_eq_append_iff.mp e2
    rcases List.mem_cons.mp hp with rfl | hp
    · exact h1
    · exact pairs_own h2 p hp
theorem own_new {K : FK} {H : Hp} {p : Addr} {vs : List V} {ds : List D} (hp : H p = none) (h : OwnAll K Em H vs ds []) : Own K Em (upd H p (.lst vs)) (.ref p) (.list ds) [p] :=
  .lst upd_same (h.mv (Stay.of_same (same_new hp)) fun _ z => nomatch z) fun z => nomatch z
section
variable {K : FK} {B : Hp} {T : List Addr} {k : D → Bool → Prop}
theorem cl_sorted {ds : List D} (hb : sortB ds = true) (h : k (.list (sortL ds)) true) : Cl K B T (rSortD K) [.list ds] k := fun H vs Q b r q => by
  unfold sortB at hb
  simp only [Bool.and_eq_true, Bool.or_eq_true, decide_eq_true_eq] at hb
  obtain ⟨⟨⟨⟨im, lay⟩, hl⟩, hall⟩, hs⟩ := hb
  obtain ⟨v, rfl, fp, o, n⟩ := r.one_inv
  obtain ⟨a, xs, fq, rfl, hH, own, _⟩ := o.lst_inv b
  obtain ⟨e0, own2⟩ := own.imm im
  subst e0
  have ev : ∀ d ∈ ds, d.depth ≤ 40 ∧ ∀ d' ∈ ds, W.alike d d' = true := fun d hd => by
    have := List.all_eq_true.mp hall d hd
    simp only [Bool.and_eq_true, decide_eq_true_eq] at this
    exact ⟨this.1, List.all_eq_true.mp this.2⟩
  have e2 : ((xs.zip ds).mergeSort (W.dataLe false fun p : V × D => p.2)).map (·.2) = sortL ds := by
    rw [List.map_mergeSort (r := W.dataLe false fun p : V × D => p.2) (s := W.dataLe false fun d => d) (f := fun p : V × D => p.2) (fun _ _ _ _ => rfl), zip_snd own2.length]
    rfl
  refine ⟨a, xs, ds, rfl, .inl (.inl hH), own2.dp same_em lay, fun d hd => (ev d hd).2, ?_, small hl, fun d hd => (ev d hd).1, fun p hp => ?_⟩
  · rcases hs with hs | hs
    · refine .inl fun d hd => ?_
      have := List.all_eq_true.mp hs d hd
      split at this
      · exact ⟨_, _, rfl⟩
      · cases this
    · refine .inr fun d hd => ?_
      have := List.all_eq_true.mp hs d hd
      split at this
      · cases this
      · cases this
      · rename_i h1 h2
        exact ⟨fun e => h1 e, fun xs e => h2 xs e⟩
  · refine q _ true _ _ h (same_new hp) (Res.own (own_new hp (ds := sortL ds) ?_) fun c hc => ?_)
    · rw [← e2]
      exact own_pairs fun p hp => pairs_own own2 p (List.mem_mergeSort.mp hp)
    · rw [List.mem_singleton.mp hc]; exact hp
end
end DL
/-! DL, part 14: enumerate(tuple). -/
namespace DL
open PySem PySem.Spec L2 RZ PyProof.Rows
set_option maxHeartbeats 1000000 in
theorem meets_enum1 {v : Value} {o : Obj} {H : Heap → Prop} (B : Begins v o H) :
    Meets (Builtin.«enumerate.__new__» ⟨[.type "enumerate", v], []⟩) (fun _ R s => H s.heap ∧
      R (.ok (.ret (.ref (s.heap.push o).objs.size))) { s with heap := (s.heap.push o).push { cls := .type "enumerate", data := .fields #[.none, .bool false, .ref s.heap.objs.size, rawInt 0, .none, .none] } }) :=
  .of_wp fun prog w A R s h => by
    obtain ⟨hp, g, d, tk, os⟩ := s; obtain ⟨h1, h⟩ := h
    have hsub := sub_enumerate
    have q1 : ∀ {A' : Around} {E : Value → Shared → Prop} {Q : Value → Shared → Prop}, Q (.ref hp.objs.size) ⟨hp.push o, g, d, tk, os⟩ → wpAny (model prog w) A' (pyIter v) Q E ⟨hp, g, d, tk, os⟩ :=
      fun q => B.iter prog w _ _ ⟨hp, g, d, tk, os⟩ _ h1 q
    wp_walk using q1
    refine wpAny_stack_any fun st => wpAny_pure ?_
    split
    · rename_i c _ _ _ _ _
      cases (c == Value.type "enumerate")
      · wp_walk using q1
        exact ⟨_, rfl, h⟩
      · wp_walk using q1
        exact ⟨_, rfl, h⟩
    · wp_walk using q1
      exact ⟨_, rfl, h⟩
theorem call_enum_tup {prog : Program} {w : World} {A : Around} {E : Value → Shared → Prop} {s : Shared} {l : Addr} {items : Array Value} {Q : Value → Shared → Prop} (hL : s.heap.IsTuple l items)
    (h : ∀ h', IsEnum h' (s.heap.objs.size + 1) s.heap.objs.size 0 .none → h'.IsTupleIter s.heap.objs.size l 0 → h'.objs.size = s.heap.objs.size + 2 →
      (∀ b o, s.heap.get? b = some o → h'.get? b = some o) → Q (.ref (s.heap.objs.size + 1)) { s with heap := h' }) :
    wpAny (model prog w) A (call (.type "enumerate") [.ref l]) Q E s := by
  refine callType_new F.called_enumerate (by decide) (F.typeCall_enumerate_1 _) (F.newCall_enumerate_1 _) (fun obj => F.args_object_init_2 obj _) F.entry_enumerate_new
    (meets_enum1 (begins_tuple l items)) ⟨hL, ?_⟩
  have hz : (s.heap.push { cls := .type "tuple_iterator", data := .fields #[.ref l, .int 0 0] }).objs.size = s.heap.objs.size + 1 := Heap.size_push ..
  show _ ∧ _
  rw [hz]
  have he : IsEnum ((s.heap.push { cls := .type "tuple_iterator", data := .fields #[.ref l, .int 0 0] }).push
      { cls := .type "enumerate", data := .fields #[.none, .bool false, .ref s.heap.objs.size, rawInt 0, .none, .none] }) (s.heap.objs.size + 1) s.heap.objs.size 0 .none := by
    have := Heap.get?_push_size (s.heap.push { cls := .type "tuple_iterator", data := .fields #[.ref l, .int 0 0] })
      (o := { cls := .type "enumerate", data := .fields #[.none, .bool false, .ref s.heap.objs.size, rawInt 0, .none, .none] }) rfl
    rw [hz] at this; exact this
  refine ⟨⟨_, he, rfl⟩, h _ he ⟨_, Heap.get?_push_of_some _ (Heap.get?_push_size _ rfl), rfl, rfl⟩ (by rw [Heap.size_push, hz]) fun b o x => Heap.get?_push_of_some _ (Heap.get?_push_of_some _ x)⟩
/-- the tuple at a, each item in a new pair -/
def IteT (K : PySem.W.Frag) (a : Addr) : It :=
  ⟨fun i H => ∃ (xs : List V) (x : V), SqT K H a xs ∧ xs[i]? = some x, fun i H v H' => ∃ T x, v = .ref T ∧ H T = none ∧ H' = upd H T (.tup [.int (i : Nat), x]) ∧ ∀ xs, SqT K H a xs → xs[i]? = some x, fun i H => ∃ xs : List V, SqT K H a xs ∧ xs.length ≤ i⟩
theorem turn_enumT {P : Program} {w : World} {K : PySem.W.Frag} {elts : List Expr} {kk : Nat} {tpos : Pos} (a e it : Addr) :
    Turn P w K (.Tuple elts kk tpos) (IteT K a) [e, it] e (fun i h => (∃ old, IsEnum h e it ((i : Nat) : Int) old) ∧ h.IsTupleIter it a i ∧ e ≠ it) where
  mem := by simp
  obj := fun i h st b hb => by
    obtain ⟨⟨old, he⟩, ⟨o, ho, hc, hd⟩, _⟩ := st
    have e' : b = e ∨ b = it := by simpa using hb
    rcases e' with z | z
    · rw [z]; exact ⟨_, he, fun v q => nomatch q⟩
    · rw [z]; exact ⟨o, ho, fun v q => by rw [hd] at q; cases q⟩
  keep := fun i h h' st k => let ⟨⟨old, he⟩, hi, hne⟩ := st; ⟨⟨old, k e (by simp) _ he⟩, hi.at fun o q => k it (by simp) o q, hne⟩
  item := by
    intro X hP hw hK hc i pins s σ H E I hf st hg
    subst hP hw hK
    obtain ⟨⟨old, he⟩, hit, hne⟩ := st
    obtain ⟨xs, x0, hq, hx⟩ := hg
    obtain ⟨its, rv, p, hz⟩ := I.tuple hq
    have hil' : i < its.toArray.size := by
      obtain ⟨u, hu, _⟩ := rv.get hx
      rcases Nat.lt_or_ge i its.length with h | h
      · simpa using h
      · rw [List.getElem?_eq_none h] at hu; cases hu
    have hel : e < s.heap.objs.size := Heap.lt_size he
    have hil : it < s.heap.objs.size := by obtain ⟨_, q, _⟩ := hit; exact Heap.lt_size q
    have hea : e ≠ a := by
      rintro rfl
      obtain ⟨o, ho, hcl, _⟩ := p
      rw [he] at ho; cases ho; exact absurd hcl (by simp)
    have hia : a ≠ it := by
      rintro rfl
      obtain ⟨o, ho, hcl, _⟩ := p
      obtain ⟨o', ho', hcl', _⟩ := hit
      rw [ho] at ho'; cases ho'
      rw [hcl] at hcl'; exact absurd hcl' (by simp)
    have hh : X.A.in1.handled = none := (I.ok.hd hc)
    refine wpAny_pyNext_enum_itemC (Draws.tuple hh it a hia its.toArray) he ⟨hit, p⟩ hil' hne (by simp [hne, hea]) fun u h' tk hPu ho hst' hT hsz hk => ?_
    obtain ⟨x, hx', ru⟩ : ∃ x, xs[i]? = some x ∧ RelV x u := by
      obtain ⟨u', hu', ru'⟩ := rv.get hx
      have : its[i]? = some u := by simpa using hPu
      rw [this] at hu'; cases hu'
      exact ⟨x0, hx, ru'⟩
    refine ⟨_, rfl, wpAny_letOwnedTupleGo_enum (s := { s with heap := h', toks := tk + 1 }) ho fun h'' he' sb => ?_⟩
    have hT2 : h''.get? s.heap.objs.size = some { cls := .type "tuple", data := .seq #[.int i tk, u] } := (sb.2 _ (Nat.ne_of_gt hel)).trans hT
    have new : ObjOk X.prog X.w (upd H s.heap.objs.size (.tup [.int (i : Nat), x])) h'' s.heap.objs.size (.tup [.int (i : Nat), x]) :=
      ⟨by show 2 ≤ sizeLine; decide, [.int i tk, u], .cons ⟨_, rfl⟩ (.cons ru .nil), ⟨_, hT2, rfl, _, rfl⟩⟩
    have I1 : Inv X pins σ (upd H s.heap.objs.size (.tup [.int (i : Nat), x])) { s with heap := h'', toks := tk + 1 } :=
      I.turnedNew (ch := [e, it]) (fun b ob hb q => (sb.2 b (fun z => hb (by simp [z]))).trans (hk b ob (fun z => hb (by simp [z])) (fun z => hb (by simp [z])) q)) hf (Nat.le_refl _) new
    refine ⟨.ref s.heap.objs.size, _, I1, rfl, ⟨_, x, rfl, I.hok.fresh (Nat.le_refl _), rfl, fun ys hy => by rw [I.tuple_inj hy hq]; exact hx'⟩, ⟨⟨u, ?_⟩, hst'.1.at fun o q => (sb.2 it (Ne.symm hne)).trans q, hne⟩, fun b hb => ?_⟩
    · have e1 : ((i + 1 : Nat) : Int) = (i : Int) + 1 := by omega
      rw [e1]; exact he'
    · have hb' : b < s.heap.objs.size := by
        have e' : b = e ∨ b = it := by simpa using hb
        rcases e' with z | z
        · rw [z]; exact hel
        · rw [z]; exact hil
      rw [upd_ne (Nat.ne_of_lt hb')]
      exact (hf b hb).1
  done := by
    intro X hP hw hK hc i pins s σ H E I hf st hg
    subst hP hw hK
    obtain ⟨⟨old, he⟩, hit, hne⟩ := st
    obtain ⟨xs, hq, hx⟩ := hg
    obtain ⟨its, rv, p, hz⟩ := I.tuple hq
    obtain ⟨f0, f1, f2, f3, f4, f5⟩ := hf it (by simp)
    have hl := rv.length
    have hh : X.A.in1.handled = none := (I.ok.hd hc)
    have hn : its.toArray[i]? = none := by simp; omega
    have D : Draws X.prog X.w X.A.in1 it [it, a] i (fun _ _ => False) (fun j h => j = i ∧ h.IsTupleIter it a i ∧ h.IsTuple a its.toArray) := {
      live := fun _ _ st => let ⟨o, ho, _⟩ := st.2.1; ⟨o, ho⟩
      frame := fun _ _ _ st hk => ⟨st.1, st.2.1.at fun o e => hk it (by simp) o e, st.2.2.at fun o e => hk a (by simp) o e⟩
      item := fun j s Q E hi st hQ => absurd st.1 (Nat.ne_of_lt hi)
      done := fun s Q E st hE => wpAny_nextOf_tuple_end hh st.2.1 st.2.2 hn hE }
    exact wpAny_pyNext_enum_endD D he ⟨rfl, hit, p⟩ fun h' eb => ⟨rfl, I.turned (t' := s.toks) (fun b o hb q => eb b o hb q) f0 f1 f3 f4 f5⟩
  self := fun A i s Q E st h => let ⟨⟨_, he⟩, _⟩ := st; wpAny_pyIter_enum he h
def iEnumT (K : PySem.W.Frag) (ta : TA) : TI := fun σ H R => ta σ H fun vs H1 => ∃ a xs, vs = [.ref a] ∧ SqT K H1 a xs ∧ R (IteT K a) H1
theorem pi_enumT {X : Cx} {e : Expr} {ta : TA} {p pos tpos : Pos} {elts : List Expr} {kk : Nat} (hg : Gl X "enumerate") (hm : X.mg "enumerate" = none) (ha : PA X [e] ta) (hs : starEach [e] X.env = [(false, eval e X.env)]) :
    PI X (.Tuple elts kk tpos) (.Call (.Name "enumerate" p) [e] [] pos) (iEnumT X.K ta) := by
  refine ⟨fun pins s σ H R I h => ?_⟩
  refine Call_ (ld_blt I hg hm boot_enumerate (PyProof.Rows.callWith_type1 (thn (ha.run pos pins s σ H _ I h) fun us s1 ⟨vs, H1, I1, r1, q1⟩ => ?_) hs rfl))
  obtain ⟨a, xs, ex, hq, q⟩ := q1
  subst ex
  cases r1 with
  | cons r rr =>
    cases rr
    cases r
    obtain ⟨its, rv, p', hz⟩ := I1.tuple hq
    refine call_enum_tup p' fun h' he hit hsz hk => wpAny_pyIter_enum he ?_
    have I2 : Inv X pins σ H1 { s1 with heap := h' } := I1.kept (t' := s1.toks) hk
    refine ⟨s1.heap.objs.size + 1, [s1.heap.objs.size + 1, s1.heap.objs.size], _, _, H1, rfl, I2, turn_enumT a (s1.heap.objs.size + 1) s1.heap.objs.size, ⟨⟨.none, he⟩, hit, Nat.succ_ne_self _⟩, fun b hb => ?_, q⟩
    have e' : b = s1.heap.objs.size + 1 ∨ b = s1.heap.objs.size := by simpa using hb
    have hle : s1.heap.objs.size ≤ b := by
      rcases e' with z | z
      · rw [z]; exact Nat.le_add_right _ _
      · rw [z]; exact Nat.le_refl _
    exact I1.fpOk hle (I1.hok.fresh hle)
section
variable {X : Cx} {B : Hp} {T : List Addr} {ρ : List Sl} {τ : D}
theorem wk_enumT {K : FK} {a : Addr} {ds : List D} {hold : List Addr} : Wk K B (IteT K a) (enumD ds) hold (fun H => Own K B H (.ref a) (.tuple ds) hold) where
  go := fun i H o h => by
    rw [enumD_length] at h
    obtain ⟨a', xs, e, hl, t⟩ := o.tup_inv
    cases e
    obtain ⟨v, _, h1, _⟩ := t.get (List.getElem?_eq_getElem h)
    exact ⟨xs, v, hl, h1⟩
  stop := fun i H o h => by
    rw [enumD_length] at h
    obtain ⟨a', xs, e, hl, t⟩ := o.tup_inv
    cases e
    exact ⟨xs, hl, by rw [t.length]; exact h⟩
  yld := fun i H x H' d o hd ⟨p, y, ex, hp, eH, hy⟩ => by
    subst ex; subst eH
    obtain ⟨d', hd', rfl⟩ := enumD_get hd
    have o' := o.mv (Stay.of_same (same_new (o := .tup [.int (i : Nat), y]) hp)) (keep_same (same_new hp) o.tracked)
    obtain ⟨a', xs, e, hl, t⟩ := o.tup_inv
    cases e
    obtain ⟨v, fq, h1, h2, h3⟩ := t.get hd'
    have ey := hy xs hl
    rw [h1] at ey; cases ey
    refine ⟨same_new hp, o', fq, ?_, h3⟩
    have := new_pair hp (.int (i : Nat)) h2 (fun _ z => nomatch z)
    simpa using this
  tr := fun H o => o.tracked
  keep := fun H H' o _ st k => o.mv st k
theorem i_enumT {e : Expr} {p pos : Pos} {Ψ : D → List D → Bool → Prop} {elts : List Expr} {kk : Nat} {tpos : Pos} (hm : X.mg "enumerate" = none) (h : ET X B T ρ τ e fun τ1 d o => ∃ ds, d = .tuple ds ∧ Ψ τ1 (enumD ds) o) (hg : Gl X "enumerate") (hs : starEach [e] X.env = [(false, eval e X.env)]) :
    IT X B T ρ τ (.Tuple elts kk tpos) (.Call (.Name "enumerate" p) [e] [] pos) Ψ := fun σ H fps E =>
  wp_pi (pi_enumT hg hm (pa_cons pe_wp pa_nil hs) hs) ((h σ H fps E).imp fun v H1 ⟨τ1, d, o, ⟨ds, ed, hk⟩, t1, f1, r1⟩ => by
    subst ed
    obtain ⟨fp, q, n, nn⟩ := r1.hold E.tt
    obtain ⟨a, xs, rfl, hl, _⟩ := q.tup_inv
    exact ⟨a, xs, rfl, hl, τ1, _, o, fp, _, hk, t1, f1, q, wk_enumT, n, nn⟩)
end
end DL
/-! DL, part 15: list(range(n)); x.append(y.pop(k)); sorted(set(pairs)). -/
namespace DL
open PySem PySem.Spec L2 RZ
theorem own_ints {K : FK} {H : Hp} {α : Type} (f : α → Int) : ∀ is : List α, OwnAll K Em H (is.map fun i => V.int (f i)) (is.map fun i => PyData.int (f i)) []
  | [] => .nil
  | i :: r => OwnAll.cons (.int (f i)) (own_ints f r) fun _ z => nomatch z
section
variable {X : Cx} {B : Hp} {T : List Addr} {ρ : List Sl} {τ : D}
theorem e_lrng {a : Expr} {p p2 pos pos2 : Pos} {Ψ : D → D → Bool → Prop} (hc : X.calm = true) (hg : Gl X "list") (hm : X.mg "list" = none) (hg2 : Gl X "range") (hm2 : X.mg "range" = none) (na : starEach [a] X.env = (false, eval a X.env) :: starEach [] X.env)
    (h : ET X B T ρ τ a fun τ1 d _ => ∃ n : Int, d = .int n ∧ -1000000 ≤ n ∧ n ≤ 1000000 ∧ Ψ τ1 (.list (rngD 0 n.toNat)) true) : ET X B T ρ τ (.Call (.Name "list" p) [.Call (.Name "range" p2) [a] [] pos2] [] pos) Ψ := fun σ H fps E =>
  wp_pe (pe_listRg hc hg hm (prg_1 hg2 hm2 pe_wp na)) ((h σ H fps E).imp fun v H1 ⟨τ1, d, o, ⟨n, ed, l1, l2, hk⟩, t1, f1, r1⟩ => by
    subst ed
    obtain ⟨fp, q, _⟩ := r1.read E.tt
    obtain ⟨rfl, _⟩ := q.int_inv
    refine ⟨n, rfl, ⟨by omega, by omega, by omega, by omega, by omega⟩, fun q hq => ?_⟩
    have e1 : rgV 0 n = (List.range n.toNat).map fun (i : Nat) => V.int (0 + (i : Int)) := by unfold rgV; rw [Int.sub_zero]
    have sm := same_new (o := .lst (rgV 0 n)) hq
    refine ⟨τ1, _, true, hk, t1.same sm, f1.trans (FrT.of_same sm), (Res.own (H := H1) (own_new hq ?_) fun c hc => ?_).later E.tt f1 t1⟩
    · rw [e1]; exact own_ints (fun (i : Nat) => 0 + (i : Int)) _
    · rw [List.mem_singleton.mp hc]; exact hq)
theorem OwnAll.erase {K : FK} {H : Hp} : ∀ {vs : List V} {ds : List D} (k : Nat), OwnAll K Em H vs ds [] → OwnAll K Em H (vs.eraseIdx k) (ds.eraseIdx k) []
  | [], [], _, _ => .nil
  | [], _ :: _, _, h => by cases h.length
  | _ :: _, [], _, h => by cases h.length
  | v :: vs, d :: ds, 0, h => by
    obtain ⟨v', ws, f1, f2, e1, e2, h1, h2, _⟩ := h.cons_inv
    cases e1
    obtain ⟨rfl, rfl⟩ := List.nil_eq_append_iff.mp e2
    exact h2
  | v :: vs, d :: ds, k + 1, h => by
    obtain ⟨v', ws, f1, f2, e1, e2, h1, h2, _⟩ := h.cons_inv
    cases e1
    obtain ⟨rfl, rfl⟩ := List.nil_eq_append_iff.mp e2
    exact OwnAll.cons h1 (OwnAll.erase k h2) fun _ z => nomatch z
/-- x.append(y.pop(e)) -/
theorem s_apop (i j : Nat) {x y : Str} {px py apos cpos apos2 cpos2 pos : Pos} {e : Expr} {ds es : List D} {sa sb : Option Addr} {Φ : Phi} (hij : i ≠ j) (hρ : ρ[i]? = some (.v (.list ds) sa)) (hρ2 : ρ[j]? = some (.v (.list es) sb)) (im : immAll es = true) (hl : ds.length < sizeLine)
    (h : ET X B T ρ τ e fun τ1 d _ => ∃ (z : Int) (k : Nat) (d1 : D), d = .int z ∧ -(2 ^ 63) ≤ z ∧ z < 2 ^ 63 ∧ seqIndex? z es.length = some k ∧ es[k]? = some d1 ∧ Φ.nx ((ρ.set j (.v (.list (es.eraseIdx k)) sb)).set i (.v (.list (ds ++ [d1])) sa)) τ1) (hb : nb? ρ = true)
    (hp : PE X (.Call (.Attribute (.Name x px) "append" apos) [.Call (.Attribute (.Name y py) "pop" apos2) [e] [] cpos2] [] cpos) (tBM X.K "list" rAppend (tVar i) (tCons (tBM X.K "list" rPopAt (tVar j) (tCons (wpE X e) tNil)) tNil))) :
    ST X B T ρ τ (.Expr (.Call (.Attribute (.Name x px) "append" apos) [.Call (.Attribute (.Name y py) "pop" apos2) [e] [] cpos2] [] cpos) pos) Φ := fun σ H fps E => by
  obtain ⟨vx, fp, h1, h2, h3⟩ := E.rel.get hρ
  obtain ⟨vy, fq, g1, g2, g3⟩ := E.rel.get hρ2
  cases h3 with
  | v o nT a =>
  cases g3 with
  | v o2 nT2 a2 =>
    obtain ⟨a1, xs, fx, rfl, hH, own, na, rfl⟩ := o.lstE_inv
    obtain ⟨b1, ys, fy, rfl, hH2, own2, na2, rfl⟩ := o2.lstE_inv
    obtain ⟨rfl, own2⟩ := own2.imm im
    refine wp_ps (ps_expr hp rfl) ⟨_, h1, .inl ⟨rfl, _, .inl (.inl hH)⟩, _, g1, .inl ⟨rfl, _, .inl (.inl hH2)⟩, ?_⟩
    refine (h σ H fps E).imp fun v H1 ⟨τ1, d, oo, ⟨z, k, d1, ed, z1, z2, hk, hd1, hkk⟩, t1, f1, r1⟩ => ?_
    subst ed
    obtain ⟨fr, q, _⟩ := r1.read E.tt
    obtain ⟨rfl, _⟩ := q.int_inv
    have hH1 : H1 b1 = some (.lst ys) := f1 _ _ hH2 (nT2 _ List.mem_cons_self)
    have own1 : OwnAll X.K Em H1 ys es [] := own2.mv (E.tt.stay f1) fun _ z => nomatch z
    obtain ⟨v1, fv, hv1, ov1, sv⟩ := own1.get hd1
    have ev : fv = [] := by
      cases fv with
      | nil => rfl
      | cons c r => exact nomatch sv c List.mem_cons_self
    subst ev
    refine ⟨b1, ys, z, k, v1, rfl, rfl, hH1, z1, z2, by rw [own1.length]; exact hk, hv1, ?_⟩
    have su : Stay H1 (upd H1 b1 (.lst (ys.eraseIdx k))) := fun b o' e' m => by
      rw [upd_ne]
      · exact e'
      · rintro rfl
        rw [hH1] at e'; cases e'; cases m
    have W1 : Nx X.K B T H fps (fun ρ' τ' => ρ' = ρ.set j (.v (.list (es.eraseIdx k)) sb) ∧ τ' = τ1) σ (upd H1 b1 (.lst (ys.eraseIdx k))) :=
      E.write f1 t1 hρ2 g1 g2 (nb_of hb) (fun b o' e' z => by
        rw [upd_ne (show b ≠ b1 from fun q => z (by rw [q]; exact List.mem_cons_self))]; exact e') (.lst upd_same ((OwnAll.erase k own1).mv su fun _ z => nomatch z) fun z => nomatch z) (fun b hb => .inl hb) ⟨rfl, rfl⟩
    obtain ⟨ρ', τ', fps', ⟨rfl, rfl⟩, E2, F2, N2⟩ := W1
    have hρi : (ρ.set j (.v (.list (es.eraseIdx k)) sb))[i]? = some (.v (.list ds) sa) := by rw [List.getElem?_set_ne (Ne.symm hij)]; exact hρ
    obtain ⟨vx', fp', k1, k2, k3⟩ := E2.rel.get hρi
    rw [h1] at k1; cases k1
    cases k3 with
    | v o' nT' a' =>
      obtain ⟨a1', xs', fx', e', hH', own', na', rfl⟩ := o'.lstE_inv
      cases e'
      have ov2 : Own X.K Em (upd H1 b1 (.lst (ys.eraseIdx k))) v1 d1 [] := ov1.mv su fun _ z => nomatch z
      refine ⟨a1, xs', v1, rfl, rfl, hH', by rw [own'.length]; exact hl, ?_⟩
      have su2 : Stay (upd H1 b1 (.lst (ys.eraseIdx k))) (upd (upd H1 b1 (.lst (ys.eraseIdx k))) a1 (.lst (xs' ++ [v1]))) := fun b o' e' m => by
        rw [upd_ne]
        · exact e'
        · rintro rfl
          rw [hH'] at e'; cases e'; cases m
      have all := OwnAll.append own' (.one ov2) fun _ _ z => nomatch z
      rw [List.append_nil] at all
      have nb2 : ∀ s ∈ ρ.set j (.v (.list (es.eraseIdx k)) sb), isBor s = false := fun s hs => by
        rcases List.mem_or_eq_of_mem_set hs with hs | rfl
        · exact nb_of hb s hs
        · rfl
      exact Nx.trans F2 E2.tt N2 (E2.write (FrT.refl _ _) E2.tt hρi h1 k2 nb2 (fun b o' e' z => by
        rw [upd_ne (show b ≠ a1 from fun q => z (by rw [q]; exact List.mem_cons_self))]; exact e') (.lst upd_same (all.mv su2 fun b hb => upd_ne fun e' => na' (e' ▸ hb)) na') (fun b hb => .inl hb) hkk)
end
end DL
/-! DL, part 16: sorted(set(pairs of small numbers)). -/
namespace DL
open PySem PySem.Spec L2 RZ
abbrev IP := Int × Int
def eIP (p : IP) : D := .tuple [.int p.1, .int p.2]
def ltP (p q : IP) : Prop := p.1 < q.1 ∨ (p.1 = q.1 ∧ p.2 < q.2)
instance (p q : IP) : Decidable (ltP p q) := by unfold ltP; exact inferInstance
def insP (p : IP) : List IP → List IP
  | [] => [p]
  | q :: r => if ltP p q then p :: q :: r else if p = q then q :: r else q :: insP p r
/-- the different ones, ascending -/
def ssetL (ps : List IP) : List IP := ps.foldr insP []
theorem ltP_trans {p q r : IP} (h1 : ltP p q) (h2 : ltP q r) : ltP p r := by unfold ltP at *; omega
theorem ltP_irrefl (p : IP) : ¬ ltP p p := by unfold ltP; omega
theorem ltP_tri (p q : IP) : ltP p q ∨ p = q ∨ ltP q p := by
  unfold ltP
  rcases Int.lt_trichotomy p.1 q.1 with h | h | h
  · exact .inl (.inl h)
  · rcases Int.lt_trichotomy p.2 q.2 with k | k | k
    · exact .inl (.inr ⟨h, k⟩)
    · exact .inr (.inl (Prod.ext h k))
    · exact .inr (.inr (.inr ⟨h.symm, k⟩))
  · exact .inr (.inr (.inl h))
theorem mem_insP {p x : IP} : ∀ {l : List IP}, x ∈ insP p l ↔ x = p ∨ x ∈ l
  | [] => by simp [insP]
  | q :: r => by
    unfold insP
    split
    · simp
    · split
      · rename_i h; subst h; simp
      · rw [List.mem_cons, mem_insP (l := r), List.mem_cons]
        constructor
        · rintro (h | h | h)
          · exact .inr (.inl h)
          · exact .inl h
          · exact .inr (.inr h)
        · rintro (h | h | h)
          · exact .inr (.inl h)
          · exact .inl h
          · exact .inr (.inr h)
theorem sorted_insP {p : IP} : ∀ {l : List IP}, l.Pairwise ltP → (insP p l).Pairwise ltP
  | [], _ => by simp [insP]
  | q :: r, h => by
    rw [List.pairwise_cons] at h
    unfold insP
    split
    · rename_i hlt
      refine List.pairwise_cons.mpr ⟨fun x hx => ?_, List.pairwise_cons.mpr h⟩
      rcases List.mem_cons.mp hx with rfl | hx
      · exact hlt
      · exact ltP_trans hlt (h.1 x hx)
    · split
      · exact List.pairwise_cons.mpr h
      · rename_i h1 h2
        refine List.pairwise_cons.mpr ⟨fun x hx => ?_, sorted_insP h.2⟩
        rcases mem_insP.mp hx with rfl | hx
        · rcases ltP_tri x q with c | c | c
          · exact absurd c h1
          · exact absurd c h2
          · exact c
        · exact h.1 x hx
theorem ssetL_sorted (ps : List IP) : (ssetL ps).Pairwise ltP := by
  induction ps with
  | nil => exact .nil
  | cons p r ih => exact sorted_insP ih
theorem mem_ssetL {x : IP} {ps : List IP} : x ∈ ssetL ps ↔ x ∈ ps := by
  induction ps with
  | nil => exact Iff.rfl
  | cons p r ih =>
    show x ∈ insP p (ssetL r) ↔ _
    rw [mem_insP, ih, List.mem_cons]
theorem sorted_ext : ∀ {xs ys : List IP}, xs.Pairwise ltP → ys.Pairwise ltP → (∀ x, x ∈ xs ↔ x ∈ ys) → xs = ys
  | [], [], _, _, _ => rfl
  | [], y :: ys, _, _, h => by have := (h y).mpr List.mem_cons_self; cases this
  | x :: xs, [], _, _, h => by have := (h x).mp List.mem_cons_self; cases this
  | x :: xs, y :: ys, hx, hy, h => by
    rw [List.pairwise_cons] at hx hy
    have e : x = y := by
      rcases List.mem_cons.mp ((h x).mp List.mem_cons_self) with e | e
      · exact e
      · rcases List.mem_cons.mp ((h y).mpr List.mem_cons_self) with e2 | e2
        · exact e2.symm
        · exact absurd (ltP_trans (hx.1 y e2) (hy.1 x e)) (ltP_irrefl _)
    subst e
    refine congrArg (x :: ·) (sorted_ext hx.2 hy.2 fun z => ?_)
    constructor
    · intro hz
      rcases List.mem_cons.mp ((h z).mp (List.mem_cons_of_mem _ hz)) with rfl | q
      · exact absurd (hx.1 z hz) (ltP_irrefl _)
      · exact q
    · intro hz
      rcases List.mem_cons.mp ((h z).mpr (List.mem_cons_of_mem _ hz)) with rfl | q
      · exact absurd (hy.1 z hz) (ltP_irrefl _)
      · exact q
theorem own_refs {K : FK} {B H : Hp} : ∀ {ps : List IP} {xs : List V} {fp : List Addr}, OwnAll K B H xs (ps.map eIP) fp → ∃ ks : List (Addr × IP), xs = ks.map (fun k => V.ref k.1) ∧ ks.map (·.2) = ps ∧ ∀ k ∈ ks, SqT K H k.1 [V.int k.2.1, V.int k.2.2]
  | [], _, _, h => by cases h; exact ⟨[], rfl, rfl, fun _ z => nomatch z⟩
  | p :: ps, _, _, h => by
    obtain ⟨v, ws, f1, f2, rfl, rfl, h1, h2, _⟩ := h.cons_inv
    obtain ⟨a, zs, rfl, hq, t⟩ := h1.tup_inv
    obtain ⟨v1, w1, g1, g2, rfl, _, i1, t, _⟩ := t.cons_inv
    obtain ⟨v2, w2, g3, g4, rfl, _, i2, t, _⟩ := t.cons_inv
    obtain ⟨rfl, _⟩ := t.nil_inv
    obtain ⟨rfl, _⟩ := i1.int_inv
    obtain ⟨rfl, _⟩ := i2.int_inv
    obtain ⟨ks, rfl, rfl, hk⟩ := own_refs h2
    exact ⟨(a, p) :: ks, rfl, rfl, fun k hk' => by
      rcases List.mem_cons.mp hk' with rfl | hk'
      · exact hq
      · exact hk k hk'⟩
theorem refs_own {K : FK} {H : Hp} : ∀ {ks : List (Addr × IP)}, (∀ k ∈ ks, SqT K H k.1 [V.int k.2.1, V.int k.2.2]) → OwnAll K Em H (ks.map fun k => V.ref k.1) (ks.map fun k => eIP k.2) []
  | [], _ => .nil
  | k :: ks, h => by
    have h1 : Own K Em H (.ref k.1) (eIP k.2) [] := .tup (h k List.mem_cons_self) (OwnAll.two (.int _) (.int _) fun _ z => nomatch z)
    exact OwnAll.cons h1 (refs_own fun k' hk' => h k' (List.mem_cons_of_mem _ hk')) fun _ z => nomatch z
def isIP (k : List Int) : IP := (k.getD 0 0, k.getD 1 0)
section
variable {X : Cx} {B : Hp} {T : List Addr} {ρ : List Sl} {τ : D}
theorem e_sset {a : Expr} {p p2 q pos : Pos} {Ψ : D → D → Bool → Prop} (hc : X.calm = true) (hu : X.A.units + 65 < cLine) (hg : Gl X "sorted") (hm : X.mg "sorted" = none) (hg2 : Gl X "set") (hm2 : X.mg "set" = none) (na : starEach [a] X.env = (false, eval a X.env) :: starEach [] X.env)
    (h : ET X B T ρ τ a fun τ1 d _ => ∃ ps : List IP, d = .list (ps.map eIP) ∧ ps.length < 64 ∧ (∀ p ∈ ps, (0 ≤ p.1 ∧ p.1 < 64) ∧ (0 ≤ p.2 ∧ p.2 < 64)) ∧ Ψ τ1 (.list ((ssetL ps).map eIP)) true) :
    ET X B T ρ τ (.Call (.Name "sorted" p) [.Call (.Name "set" p2) [a] [] q] [] pos) Ψ := fun σ H fps E =>
  wp_pe (pe_callB (cr_sortedT hc) hg hm PyProof.Rows.boot_sorted (pa_cons (pe_callTy (cr_setOfT hc (by omega)) hg2 hm2 PyProof.Rows.boot_set (pa_cons pe_wp pa_nil na) (by decide) (by decide) na rfl) pa_nil) (by decide) (by decide) rfl rfl) ((h σ H fps E).imp fun v H1 ⟨τ1, d, o, ⟨ps, ed, h64, hB, hk⟩, t1, f1, r1⟩ => by
    subst ed
    have b := (E.step f1 t1).base
    obtain ⟨fp, qq, _⟩ := r1.read E.tt
    obtain ⟨l, xs, fq, rfl, hl, own, _⟩ := qq.lst_inv b
    obtain ⟨ks, rfl, ek, hks⟩ := own_refs own
    have len : ks.length = ps.length := by rw [← ek, List.length_map]
    refine ⟨l, ks.map fun k => (k.1, [k.2.1, k.2.2]), rfl, by rw [List.map_map]; exact .inl (.inl hl), fun k hk' => ?_, by rw [List.length_map, len]; exact h64, fun sA L hA hL1 hL2 => ?_⟩
    · obtain ⟨k0, hk0, rfl⟩ := List.mem_map.mp hk'
      exact hks k0 hk0
    · have sm := same_new (o := SetTO X.prog X.w sA L) hA
      have hLk : ∀ k ∈ L, ∃ k0 ∈ ks, k = (k0.1, [k0.2.1, k0.2.2]) := fun k hk' => by
        obtain ⟨k0, h0, e0⟩ := List.mem_map.mp (hL1 k hk')
        exact ⟨k0, h0, e0.symm⟩
      refine ⟨sA, L, 2, 64, rfl, upd_same, fun k hk' => ?_, by decide, fun k hk' => ?_, fun L' pA pm nd hlen pw hpA => ?_⟩
      · obtain ⟨k0, h0, rfl⟩ := hLk k hk'
        exact (Stay.of_same sm).sqT (hks k0 h0)
      · obtain ⟨k0, h0, rfl⟩ := hLk k hk'
        have hm0 : k0.2 ∈ ps := by rw [← ek]; exact List.mem_map.mpr ⟨k0, h0, rfl⟩
        obtain ⟨b1, b2⟩ := hB _ hm0
        refine ⟨rfl, fun m hm' => ?_⟩
        rcases List.mem_cons.mp hm' with rfl | hm'
        · exact b1
        · rw [List.mem_singleton.mp hm']; exact b2
      · have hL'k : ∀ k ∈ L', ∃ k0 ∈ ks, k = (k0.1, [k0.2.1, k0.2.2]) := fun k hk' => hLk k (pm.mem_iff.mp hk')
        have sm2 := same_new (o := .lst (L'.map fun q => V.ref q.1)) hpA
        -- the pairs of the result
        have eL : L' = (L'.map fun k => (k.1, isIP k.2)).map fun k => (k.1, [k.2.1, k.2.2]) := by
          rw [List.map_map]
          conv => lhs; rw [← List.map_id L']
          refine List.map_congr_left fun k hk' => ?_
          obtain ⟨k0, _, rfl⟩ := hL'k k hk'
          rfl
        have eP : (L'.map fun k => isIP k.2) = ssetL ps := by
          refine sorted_ext ?_ (ssetL_sorted ps) fun x => ?_
          · rw [List.pairwise_map]
            have nd' : L'.Pairwise fun a b => a.2 ≠ b.2 := List.pairwise_map.mp nd
            have both := List.Pairwise.and pw nd'
            refine List.Pairwise.imp_of_mem (fun {k k'} hk1 hk2 ⟨c, ne⟩ => ?_) both
            obtain ⟨k0, h0, rfl⟩ := hL'k k hk1
            obtain ⟨k1, h1, rfl⟩ := hL'k k' hk2
            obtain ⟨b1, b2⟩ := hB k0.2 (by rw [← ek]; exact List.mem_map.mpr ⟨k0, h0, rfl⟩)
            obtain ⟨b3, b4⟩ := hB k1.2 (by rw [← ek]; exact List.mem_map.mpr ⟨k1, h1, rfl⟩)
            exact pair_lt c ne b1 b2 b3 b4
          · rw [mem_ssetL]
            constructor
            · intro hx
              obtain ⟨k, hk1, rfl⟩ := List.mem_map.mp hx
              obtain ⟨k0, h0, rfl⟩ := hL'k k hk1
              rw [← ek]; exact List.mem_map.mpr ⟨k0, h0, rfl⟩
            · intro hx
              rw [← ek] at hx
              obtain ⟨k0, h0, rfl⟩ := List.mem_map.mp hx
              have := hL2 (k0.1, [k0.2.1, k0.2.2]) (List.mem_map.mpr ⟨k0, h0, rfl⟩)
              obtain ⟨k, hk1, e1⟩ := List.mem_map.mp this
              exact List.mem_map.mpr ⟨k, pm.mem_iff.mpr hk1, by rw [e1]; rfl⟩
        have seq2 : ∀ k ∈ (L'.map fun k => (k.1, isIP k.2)), SqT X.K (upd H1 sA (SetTO X.prog X.w sA L)) k.1 [V.int k.2.1, V.int k.2.2] := fun k hk' => by
          obtain ⟨k1, hk1, rfl⟩ := List.mem_map.mp hk'
          obtain ⟨k0, h0, rfl⟩ := hL'k k1 hk1
          exact (Stay.of_same sm).sqT (hks k0 h0)
        have ow := refs_own seq2
        have e1 : ((L'.map fun k => (k.1, isIP k.2)).map fun k => V.ref k.1) = L'.map fun q => V.ref q.1 := by rw [List.map_map]; rfl
        have e2 : ((L'.map fun k => (k.1, isIP k.2)).map fun k => eIP k.2) = (ssetL ps).map eIP := by rw [← eP, List.map_map, List.map_map]; rfl
        rw [e1, e2] at ow
        have s12 : Same H1 (upd (upd H1 sA (SetTO X.prog X.w sA L)) pA (.lst (L'.map fun q => V.ref q.1))) := fun c oo hc => sm2 c oo (sm c oo hc)
        refine ⟨τ1, _, true, hk, t1.same s12, f1.trans (FrT.of_same s12), (Res.own (H := H1) (own_new hpA ow) fun c hc => ?_).later E.tt f1 t1⟩
        rw [List.mem_singleton.mp hc]
        cases e : H1 pA with
        | none => rfl
        | some oo => rw [sm pA oo e] at hpA; cases hpA)
end
end DL
/-! DL, part 17: the law's tape. -/
namespace DL
open PySem PySem.Spec L2 RZ
structure Tape where
  cells : List Int
  pos : Int
  left : Int
  seed : Int
  salt : Int
def tapeK (c : Addr) (t : Tape) : List (Key × V) := [(.inr "cells", .ref c), (.inr "at", .int t.pos), (.inr "left", .int t.left), (.inr "seed", .int t.seed), (.inr "salt", .int t.salt)]
def eTape (t : Tape) : D := .dict [(.str "cells", .list (t.cells.map .int)), (.str "at", .int t.pos), (.str "left", .int t.left), (.str "seed", .int t.seed), (.str "salt", .int t.salt)]
def Tape.ok (t : Tape) : Prop := 0 ≤ t.pos
/-- the tape behind its first step -/
def Tape.load (t : Tape) : Tape := if t.left = 0 ∧ t.pos < t.cells.length then { t with left := t.cells.getD t.pos.toNat 0, pos := t.pos + 1 } else t
def Tape.mix (t : Tape) : Int := let m := (t.seed * 48271 + (t.salt + 1) * 69621) % 2147483647; (m * m + (t.salt + 1) * 40692 + 12345) % 2147483399
/-- what is drawn, and the tape behind it -/
def Tape.take (t : Tape) (many : Int) : Tape × Int :=
  if t.load.left > 0 then ({ t.load with left := t.load.left / many }, t.load.left % many) else ({ t.load with salt := t.load.salt + 1 }, t.load.mix % many)
theorem Tape.take_ok {t : Tape} (h : t.ok) (many : Int) : (t.take many).1.ok := by
  have hl : t.load.ok := by
    unfold load
    split
    · show 0 ≤ t.pos + 1
      have : 0 ≤ t.pos := h
      omega
    · exact h
  unfold take
  split
  · exact hl
  · exact hl
theorem Tape.take_lt (t : Tape) {many : Int} (h : 0 < many) : 0 ≤ (t.take many).2 ∧ (t.take many).2 < many := by
  unfold take
  split
  · exact ⟨Int.emod_nonneg _ (by omega), Int.emod_lt_of_pos _ h⟩
  · exact ⟨Int.emod_nonneg _ (by omega), Int.emod_lt_of_pos _ h⟩
/-- what stands in the heap where a tape stands -/
structure TpAt (H : Hp) (a c : Addr) (t : Tape) : Prop where
  d : H a = some (.dK (tapeK c t))
  l : H c = some (.lst (t.cells.map V.int))
  ne : a ≠ c
theorem key_inr {k : Key} {x : Str} (h : kD k = .str x) : k = .inr x := by
  cases k with
  | inl i => cases h
  | inr y => cases h; rfl
theorem TpAt.of {K : FK} {H : Hp} {a : Addr} {r : List Addr} {t : Tape} (o : Own K Em H (.ref a) (eTape t) (a :: r)) : ∃ c, TpAt H a c t ∧ r = [c] := by
  obtain ⟨a', ob, kvs, ds, fq, e, hH, isd, own, ek, na, efp⟩ := o.dctE_inv
  cases e
  cases efp
  have hl : ds.length = kvs.length := by rw [← own.length, List.length_map]
  cases isd with
  | t kv =>
    cases kv with
    | nil => cases ds <;> cases ek
    | cons p r =>
      cases ds with
      | nil => cases hl
      | cons d ds => cases ek
  | k kv =>
    match kv, ds, own, ek, hl with
    | [⟨k1, u1⟩, ⟨k2, u2⟩, ⟨k3, u3⟩, ⟨k4, u4⟩, ⟨k5, u5⟩], [d1, d2, d3, d4, d5], own, ek, _ =>
      simp only [List.map_cons, List.map_nil, List.zip_cons_cons, List.zip_nil_right, List.cons.injEq, Prod.mk.injEq, and_true] at ek
      obtain ⟨⟨k1, rfl⟩, ⟨k2, rfl⟩, ⟨k3, rfl⟩, ⟨k4, rfl⟩, k5, rfl⟩ := ek
      obtain rfl := key_inr k1.symm
      obtain rfl := key_inr k2.symm
      obtain rfl := key_inr k3.symm
      obtain rfl := key_inr k4.symm
      obtain rfl := key_inr k5.symm
      have own : OwnAll K Em H [u1, u2, u3, u4, u5] [.list (t.cells.map .int), .int t.pos, .int t.left, .int t.seed, .int t.salt] r := own
      obtain ⟨v1, w1, f1, g1, e1, ef1, o1, own, n1⟩ := own.cons_inv
      cases e1
      obtain ⟨v2, w2, f2, g2, e2, ef2, o2, own, n2⟩ := own.cons_inv
      cases e2
      obtain ⟨v3, w3, f3, g3, e3, ef3, o3, own, n3⟩ := own.cons_inv
      cases e3
      obtain ⟨v4, w4, f4, g4, e4, ef4, o4, own, n4⟩ := own.cons_inv
      cases e4
      obtain ⟨v5, w5, f5, g5, e5, ef5, o5, own, n5⟩ := own.cons_inv
      cases e5
      obtain ⟨_, rfl⟩ := own.nil_inv
      obtain ⟨rfl, rfl⟩ := o2.int_inv
      obtain ⟨rfl, rfl⟩ := o3.int_inv
      obtain ⟨rfl, rfl⟩ := o4.int_inv
      obtain ⟨rfl, rfl⟩ := o5.int_inv
      obtain ⟨c, xs, fx, rfl, hc, ox, nc, rfl⟩ := o1.lstE_inv
      obtain ⟨rfl, rfl⟩ := ox.ints
      subst ef5 ef4 ef3 ef2 ef1
      exact ⟨c, ⟨hH, hc, fun z => na (by rw [z]; exact List.mem_cons_self)⟩, rfl⟩
    | [], [], _, ek, _ => cases ek
    | [_], [_], _, ek, _ => simp at ek
    | [_, _], [_, _], _, ek, _ => simp at ek
    | [_, _, _], [_, _, _], _, ek, _ => simp at ek
    | [_, _, _, _], [_, _, _, _], _, ek, _ => simp at ek
    | _ :: _ :: _ :: _ :: _ :: _ :: _, _ :: _ :: _ :: _ :: _ :: _ :: _, _, ek, _ => simp at ek
theorem TpAt.own {K : FK} {H : Hp} {a c : Addr} {t : Tape} (h : TpAt H a c t) : Own K Em H (.ref a) (eTape t) [a, c] := by
  have o5 : OwnAll K Em H ((tapeK c t).map (·.2)) [.list (t.cells.map .int), .int t.pos, .int t.left, .int t.seed, .int t.salt] [c] := by
    have oc : Own K Em H (.ref c) (.list (t.cells.map .int)) [c] := .lst h.l (own_ints (fun i => i) t.cells |> fun q => by simpa using q) (fun z => nomatch z)
    exact OwnAll.cons oc (OwnAll.cons (.int _) (OwnAll.cons (.int _) (OwnAll.cons (.int _) (OwnAll.cons (.int _) .nil fun _ z => nomatch z) fun _ z => nomatch z) fun _ z => nomatch z) fun _ z => nomatch z) fun _ _ z => nomatch z
  exact .dct h.d (.k (tapeK c t)) (by rw [List.map_map]; exact o5) (fun z => h.ne (List.mem_singleton.mp z)) rfl
inductive TF where
  | at | left | seed | salt
def TF.key : TF → Str
  | .at => "at"
  | .left => "left"
  | .seed => "seed"
  | .salt => "salt"
def Tape.get (t : Tape) : TF → Int
  | .at => t.pos
  | .left => t.left
  | .seed => t.seed
  | .salt => t.salt
def Tape.put (t : Tape) (n : Int) : TF → Tape
  | .at => { t with pos := n }
  | .left => { t with left := n }
  | .seed => { t with seed := n }
  | .salt => { t with salt := n }
theorem tape_get (c : Addr) (t : Tape) (f : TF) : valV (tapeK c t) (Sum.inr f.key) = some (.int (t.get f)) := by
  cases f <;> rfl
theorem tape_cells (c : Addr) (t : Tape) : valV (tapeK c t) (Sum.inr "cells") = some (.ref c) := rfl
theorem tape_put (c : Addr) (t : Tape) (f : TF) (n : Int) : putK (tapeK c t) (Sum.inr f.key) (.int n) = tapeK c (t.put n f) := by
  cases f <;> rfl
section
variable {X : Cx} {B : Hp} {T : List Addr} {ρ : List Sl} {t : Tape} {i : Nat} {x : Str} {px pos : Pos}
theorem Env.tape {K : FK} {H : Hp} {σ : L2.St} {fps : List (List Addr)} (E : Env K B T H σ ρ (eTape t) fps) (h : ρ[i]? = some .tp) : ∃ a c, σ[i]? = some (some (.ref a)) ∧ T = [a, c] ∧ TpAt H a c t := by
  obtain ⟨y, fp, h1, h2, h3⟩ := E.rel.get h
  cases h3 with
  | tp e =>
    rcases E.tt with e2 | ⟨a, r, e2, o⟩
    · rw [e] at e2; cases e2
    · rw [e] at e2; cases e2
      obtain ⟨c, q, rfl⟩ := TpAt.of o
      exact ⟨_, c, h1, e, q⟩
/-- tape['..'] -/
theorem e_tget (f : TF) {j : Nat} {p2 : Pos} {Ψ : D → D → Bool → Prop} (hu : X.A.units + 1 < cLine) (h : ρ[i]? = some .tp) (hk : Ψ (eTape t) (.int (t.get f)) true) (hN : X.N[i]? = some x) (hv : Vis X.env.scope x) (hd : (x == ("__debug__" : Str)) = false) (hcd : (x == ("__classdict__" : Str)) = false) :
    ET X B T ρ (eTape t) (.Subscript (.Name x px) (.Constant (.str f.key) j p2) pos) Ψ := fun σ H fps E => by
  obtain ⟨a, c, h1, e, q⟩ := E.tape h
  refine wp_pe (pe_dget hu (pe_var hN hv hd hcd) pe_str (fun _ _ => rfl)) ⟨_, h1, a, .int (t.get f), rfl, ?_, _, _, true, hk, E.tt, .refl _ _, .own (.int _) fun _ z => nomatch z⟩
  have := DGet.k (k := Sum.inr f.key) q.d
  rw [tape_get] at this
  exact this
/-- len(tape['cells']) -/
theorem e_tlen {j : Nat} {p2 p3 p4 : Pos} {Ψ : D → D → Bool → Prop} (hu : X.A.units + 1 < cLine) (h : ρ[i]? = some .tp) (hk : Ψ (eTape t) (.int t.cells.length) true) (hN : X.N[i]? = some x) (hv : Vis X.env.scope x) (hd : (x == ("__debug__" : Str)) = false) (hcd : (x == ("__classdict__" : Str)) = false)
    (hg : Gl X "len") (hm : X.mg "len" = none) : ET X B T ρ (eTape t) (.Call (.Name "len" p3) [.Subscript (.Name x px) (.Constant (.str "cells") j p2) pos] [] p4) Ψ := fun σ H fps E => by
  obtain ⟨a, c, h1, e, q⟩ := E.tape h
  refine wp_pe (pe_callB call_len_seq hg hm boot_len (pa_cons (pe_dget hu (pe_var hN hv hd hcd) pe_str (fun _ _ => rfl)) pa_nil)) ⟨_, h1, a, .ref c, rfl, ?_, c, t.cells.map V.int, rfl, .inl (.inl (.inl q.l)), ?_⟩
  · have := DGet.k (k := Sum.inr "cells") q.d
    rw [tape_cells] at this
    exact this
  · refine ⟨_, _, true, hk, E.tt, .refl _ _, ?_⟩
    rw [List.length_map]
    exact .own (.int _) fun _ z => nomatch z
/-- tape['cells'][tape['at']] -/
theorem e_tcell {j j2 : Nat} {p2 p3 p4 p5 p6 px2 : Pos} {n : Int} {Ψ : D → D → Bool → Prop} (hu : X.A.units + 1 < cLine) (h : ρ[i]? = some .tp) (hn : L2.atI t.cells t.pos = some n) (hk : Ψ (eTape t) (.int n) true) (hN : X.N[i]? = some x) (hv : Vis X.env.scope x) (hd : (x == ("__debug__" : Str)) = false) (hcd : (x == ("__classdict__" : Str)) = false) :
    ET X B T ρ (eTape t) (.Subscript (.Subscript (.Name x px) (.Constant (.str "cells") j p2) p3) (.Subscript (.Name x px2) (.Constant (.str "at") j2 p4) p5) p6) Ψ := fun σ H fps E => by
  obtain ⟨a, c, h1, e, q⟩ := E.tape h
  refine wp_pe (pe_ix ix_list (pe_dget hu (pe_var hN hv hd hcd) pe_str (fun _ _ => rfl)) (pe_dget hu (pe_var hN hv hd hcd) pe_str (fun _ _ => rfl)) (fun _ _ => rfl)) ⟨_, h1, a, .ref c, rfl, ?_, _, h1, a, .int t.pos, rfl, ?_, c, t.cells.map V.int, t.pos, .int n, rfl, rfl, .inl (.inl q.l), ?_, _, _, true, hk, E.tt, .refl _ _, .own (.int _) fun _ z => nomatch z⟩
  · have := DGet.k (k := Sum.inr "cells") q.d
    rw [tape_cells] at this
    exact this
  · have := DGet.k (k := Sum.inr (TF.at).key) q.d
    rw [tape_get] at this
    exact this
  · unfold L2.atI at hn ⊢
    rw [List.length_map]
    cases e1 : ixN t.cells.length t.pos with
    | none => rw [e1] at hn; cases hn
    | some k =>
      rw [e1] at hn
      show (t.cells.map V.int)[k]? = _
      rw [List.getElem?_map]
      show (t.cells[k]?).map V.int = _
      rw [show t.cells[k]? = some n from hn]
      rfl
/-- tape['..'] = e -/
theorem s_tput (f : TF) {j : Nat} {p2 p3 : Pos} {e : Expr} {Φ : Phi} {τ : D} (hu : X.A.units + 1 < cLine) (h : ρ[i]? = some .tp) (he : ET X B T ρ τ e fun τ1 d _ => ∃ (n : Int) (t : Tape), d = .int n ∧ τ1 = eTape t ∧ Φ.nx ρ (eTape (t.put n f))) (hN : X.N[i]? = some x) (hv : Vis X.env.scope x) (hd : (x == ("__debug__" : Str)) = false) (hcd : (x == ("__classdict__" : Str)) = false)
    (hs : ∀ tg, swapsWith e tg pos.line X.env = pure false) : ST X B T ρ τ (.Assign [.Subscript (.Name x px) (.Constant (.str f.key) j p2) p3] e pos) Φ := fun σ H fps E => by
  refine wp_ps (ps_dput hu (pe_var hN hv hd hcd) pe_str pe_wp (hs _)) ((he σ H fps E).imp fun v H1 ⟨τ1, d, o, ⟨n, t, ed, et, hk⟩, t1, f1, r1⟩ => ?_)
  subst ed et
  obtain ⟨fp, qv, _⟩ := r1.read E.tt
  obtain ⟨rfl, _⟩ := qv.int_inv
  have E1 := E.step f1 t1
  obtain ⟨a, c, h1, e, q⟩ := E1.tape h
  subst e
  refine ⟨_, h1, a, upd H1 a (.dK (putK (tapeK c t) (Sum.inr f.key) (.int n))), rfl, DPut.k (k := Sum.inr f.key) (v := .int n) q.d (by show 5 < sizeLine; exact small' (by omega)), ?_⟩
  rw [tape_put]
  have fr : FrT [a, c] H1 (upd H1 a (.dK (tapeK c (t.put n f)))) := fun b o hb hn => by
    rw [upd_ne (fun q => hn (by rw [q]; exact List.mem_cons_self))]; exact hb
  have ec : (t.put n f).cells = t.cells := by cases f <;> rfl
  have q2 : TpAt (upd H1 a (.dK (tapeK c (t.put n f)))) a c (t.put n f) := ⟨upd_same, by rw [upd_ne (Ne.symm q.ne), ec]; exact q.l, q.ne⟩
  exact E.nxT (f1.trans fr) (.inr ⟨a, [c], rfl, q2.own⟩) hk
end
end DL
/-! DL, part 18: the law's script. -/
namespace DL
open PySem PySem.Spec L2 RZ
/-- of a script: numbers; its end, by data -/
abbrev SFS := List Int → (D → Prop) → Prop
def spS (K : FK) (S : SFS) : Sp := fun vs H Q _ => ∃ (a : Addr) (ns : List Int) (Ψ : D → Prop), vs = [.ref a] ∧ SqL K H a (ns.map V.int) ∧ S ns Ψ ∧ ∀ d v H' fp, Ψ d → Same H H' → Own K Em H' v d fp → (∀ a ∈ fp, H a = none) → Q v H'
section
variable {X : Cx} {B : Hp} {T : List Addr} {ρ : List Sl} {τ : D}
theorem sqL_same {K : FK} {H H' : Hp} {a : Addr} {xs : List V} (e : Same H H') (h : SqL K H a xs) : SqL K H' a xs := e.seq h
theorem wk_scr {K : FK} {a : Addr} {ns : List Int} : Wk K B (Itl K a) (ns.map .int) [] (fun H => Same B H ∧ SqL K B a (ns.map V.int)) where
  go := fun i H ⟨b, o⟩ h => by
    rw [List.length_map] at h
    exact ⟨_, .int ns[i], b.seq o, by rw [List.getElem?_map, List.getElem?_eq_getElem h]; rfl⟩
  stop := fun i H ⟨b, o⟩ h => by
    rw [List.length_map] at h
    exact ⟨_, b.seq o, by rw [List.length_map]; exact h⟩
  yld := fun i H x H' d ⟨b, o⟩ hd ⟨eH, hy⟩ => by
    subst eH
    rw [List.getElem?_map] at hd
    obtain ⟨n, hn, rfl⟩ := Option.map_eq_some_iff.mp hd
    have e := hy _ (b.seq o)
    rw [List.getElem?_map, hn] at e
    cases e
    exact ⟨.refl _, ⟨b, o⟩, [], .int n, fun _ z => z⟩
  tr := fun H _ _ z => nomatch z
  keep := fun H H' ⟨_, o⟩ b _ _ => ⟨b, o⟩
/-- over the script -/
theorem i_scr (j : Nat) {x : Str} {px : Pos} {tg : Expr} {ns : List Int} {Ψ : D → List D → Bool → Prop} (hρ : ρ[j]? = some (.scr ns)) (h : Ψ τ (ns.map .int) true) (hN : X.N[j]? = some x)
    (hv : Vis X.env.scope x) (hd : (x == ("__debug__" : Str)) = false) (hcd : (x == ("__classdict__" : Str)) = false) : IT X B T ρ τ tg (.Name x px) Ψ := fun σ H fps E => by
  obtain ⟨y, fp, h1, h2, h3⟩ := E.rel.get hρ
  cases h3 with
  | scr o =>
    exact wp_pi (pi_list (pe_var hN hv hd hcd)) ⟨_, h1, _, rfl, ⟨_, E.base.seq o⟩, τ, _, true, [], _, h, E.tt, .refl _ _, ⟨E.base, o⟩, wk_scr, fun _ z => (nomatch z), fun _ _ z => nomatch z⟩
/-- a def of the script -/
theorem e_callS (j : Nat) {S : SFS} {x y : Str} {p py pos : Pos} {k : Nat} {ps : List Str} {ns : List Int} {Ψ : D → D → Bool → Prop} (F : Fx X.prog X.w X.K X.mg X.base k x ps (spS X.K S)) (hr : Room k X.A) (hρ : ρ[j]? = some (.scr ns)) (h : S ns fun d => Ψ τ d true)
    (hN : X.N[j]? = some y) (hv : Vis X.env.scope y) (hd : (y == ("__debug__" : Str)) = false) (hcd : (y == ("__classdict__" : Str)) = false) (hg : Gl X x) (hdb : (x == ("__debug__" : Str)) = false) :
    ET X B T ρ τ (.Call (.Name x p) [.Name y py] [] pos) Ψ := fun σ H fps E => by
  obtain ⟨f, fd, F, hm, hk, hb⟩ := F.ex
  refine wp_pe (pe_call F hr hg hm hk hb .nil pass0 (pa_cons (pe_var hN hv hd hcd) pa_nil) hdb rfl rfl) ?_
  obtain ⟨sx, fp, h1, h2, h3⟩ := E.rel.get hρ
  cases h3 with
  | scr o =>
    refine ⟨_, h1, ?_⟩
    exact ⟨_, ns, _, rfl, E.base.seq o, h, fun d v H' fp h1 hs o n => ⟨τ, d, true, h1, E.tt.same hs, FrT.of_same hs, Res.own o n⟩⟩
/-- return {'cells': x, 'at': 0, 'left': 0, 'seed': y, 'salt': 0} -/
theorem s_retTape (i j : Nat) {x y : Str} {px py p1 p2 p3 p4 p5 q1 q2 q3 pos pos2 : Pos} {k1 k2 k3 k4 k5 l1 l2 l3 : Nat} {ns : List Int} {z : Int} {sa sb : Option Addr} {Φ : Phi} (hρ : ρ[i]? = some (.v (.list (ns.map .int)) sa)) (hρ2 : ρ[j]? = some (.v (.int z) sb))
    (h : Φ.rt τ (eTape ⟨ns, 0, 0, z, 0⟩)) (hN : X.N[i]? = some x) (hv : Vis X.env.scope x) (hd : (x == ("__debug__" : Str)) = false) (hcd : (x == ("__classdict__" : Str)) = false) (hN2 : X.N[j]? = some y) (hv2 : Vis X.env.scope y) (hd2 : (y == ("__debug__" : Str)) = false) (hcd2 : (y == ("__classdict__" : Str)) = false) :
    ST X B T ρ τ (.Return (some (.Dict [some (.Constant (.str "cells") k1 p1), some (.Constant (.str "at") k2 p2), some (.Constant (.str "left") k3 p3), some (.Constant (.str "seed") k4 p4), some (.Constant (.str "salt") k5 p5)] [.Name x px, .Constant (.int 0) l1 q1, .Constant (.int 0) l2 q2, .Name y py, .Constant (.int 0) l3 q3] pos)) pos2) Φ := fun σ H fps E => by
  refine wp_ps (ps_ret (pe_disp (pps_cons pe_str (pe_var hN hv hd hcd) (pps_cons pe_str pe_int (pps_cons pe_str pe_int (pps_cons pe_str (pe_var hN2 hv2 hd2 hcd2) (pps_cons pe_str pe_int pps_nil))))) rfl rfl (by simp) (by simp))) fun p hp => ?_
  obtain ⟨vx, fp, h1, h2, h3⟩ := E.rel.get hρ
  obtain ⟨vy, fq, g1, g2, g3⟩ := E.rel.get hρ2
  cases h3 with
  | v o nT _ =>
  cases g3 with
  | v o2 _ _ =>
    obtain ⟨rfl, rfl⟩ := o2.int_inv
    obtain ⟨c, xs, fx, rfl, hc, own, nc, rfl⟩ := o.lstE_inv
    obtain ⟨rfl, rfl⟩ := own.ints
    refine ⟨_, h1, _, g1, upd_same, [(.inr "cells", .ref c), (.inr "at", .int 0), (.inr "left", .int 0), (.inr "seed", .int z), (.inr "salt", .int 0)], rfl, (by show 5 ≤ 15; decide), ?_⟩
    have e1 : mergeK [] [((Sum.inr "cells" : Key), V.ref c), (.inr "at", .int 0), (.inr "left", .int 0), (.inr "seed", .int z), (.inr "salt", .int 0)] = tapeK c ⟨ns, 0, 0, z, 0⟩ := rfl
    rw [e1, upd_upd]
    have ne : p ≠ c := Ne.symm (ne_of_none hc hp)
    have q : TpAt (upd H p (.dK (tapeK c ⟨ns, 0, 0, z, 0⟩))) p c ⟨ns, 0, 0, z, 0⟩ := ⟨upd_same, by rw [upd_ne (Ne.symm ne)]; exact hc, ne⟩
    have sm := same_new (o := .dK (tapeK c ⟨ns, 0, 0, z, 0⟩)) hp
    refine ⟨τ, _, [p, c], h, E.tt.same sm, q.own, fun b o' e' _ _ => sm b o' e', fun b hb => ?_⟩
    rcases List.mem_cons.mp hb with rfl | hb
    · exact .inr hp
    · rw [List.mem_singleton.mp hb]; exact .inl (mem_flat h2 List.mem_cons_self)
end
section
variable {P : Program} {w : World} {K : FK} {mg : Str → Option Value} {base : Heap} {x qual : Str} {st : Stmt} {f : Addr} {fd : FuncData} {N : List Str} {y : Str} {k : Nat}
/-- a def of the script keeps its promise -/
theorem okS {S : SFS} (F : Fun K x qual st f fd) (sc : FnScope N [y] (defScope st))
    (body : ∀ (cdv : Value) (A : Around) (outer : List PySem.Env) (s : Shared) (H : Hp) (E : XK) (ns : List Int) (Ψ : D → Prop), Room k (A.deeper (PyProof.Rows.envOfC qual (defScope st) s.heap.objs.size f cdv)) → S ns Ψ →
      SS (cxOf CX0 P w K mg base N qual (defScope st) f cdv A outer s H E).nox H [] (.scr ns :: List.replicate (N.length - 1) .any) .none (defBody st) { nx := fun _ _ => False, rt := fun _ d => Ψ d }) : FnOk P w K mg base CX0 (k + 1) f fd [y] (spS K S) := by
  refine F.ok sc (fun vs H Q E ⟨a, ns, Ψ, h, _⟩ => by rw [h]; rfl) (fun cdv A outer s H vs Q E hr ⟨a, ns, Ψ, e, hq, hS, q⟩ => ?_)
  subst e
  refine ⟨_, pss_wp, ?_⟩
  have rel : SlsR K H [] H (some (.ref a) :: List.replicate (N.length - 1) none) (.scr ns :: List.replicate (N.length - 1) .any) ([] :: List.replicate (N.length - 1) []) := .cons (.scr hq) (by
    generalize N.length - 1 = m
    induction m with
    | zero => exact .nil
    | succ m ih => exact .cons .any ih)
  have En : Env K H [] H (start N [.ref a]) (.scr ns :: List.replicate (N.length - 1) .any) .none _ := ⟨rel, (by rw [List.flatten_cons, flat_rep]; exact List.nodup_nil), Same.refl _, (fun a ha => by rw [List.flatten_cons, flat_rep] at ha; cases ha), (fun _ z => nomatch z), .inl rfl⟩
  refine (body cdv A outer s H E ns Ψ hr hS _ H _ En).imp (fun σ' H' ⟨ρ', τ', fps', h1, E', f1, n1⟩ => h1.elim) (fun v H' ⟨τ', d, fp, h1, t1, o1, f1, n1⟩ => ?_) (fun _ _ ⟨_, _, _, h, _⟩ => h.elim) (fun _ _ ⟨_, _, _, h, _⟩ => h.elim)
  exact q d v H' fp h1 (fun b o e => f1 b o e (fun z => nomatch z) fun z => by rw [List.flatten_cons, flat_rep] at z; cases z) o1 fun a ha => (n1 a ha).resolve_left fun z => by rw [List.flatten_cons, flat_rep] at z; cases z
end
end DL
/-! DL, part 19: the greatest and the least of a tuple of numbers. -/
namespace DL
open PySem PySem.Spec L2 RZ PyProof.Rows
section
variable {prog : Program} {w : World} {A : Around} {E : Value → Shared → Prop} {s : Shared} {l : Addr}
theorem itTup {its : Array Value} {Q : Value → Shared → Prop} (hl : s.heap.IsTuple l its)
    (h : ∀ s₂ : Shared, s₂ = { s with heap := s.heap.push { cls := .type "tuple_iterator", data := .fields #[.ref l, .int 0 0] } } →
      (s₂.heap.IsTupleIter s.heap.objs.size l 0 ∧ s₂.heap.IsTuple l its) → (∀ b ∈ [s.heap.objs.size, l], b < s₂.heap.objs.size) → l ≠ s.heap.objs.size → Q (.ref s.heap.objs.size) s₂) :
    wpAny (model prog w) A (pyIter (.ref l)) Q E s := by
  have hlt : l < s.heap.objs.size := by
    obtain ⟨_, e, _⟩ := hl
    exact Heap.lt_size e
  refine wpAny_pyIter_tuple hl (h _ rfl ⟨⟨_, Heap.get?_push_size _ rfl, rfl, rfl⟩, hl.push _⟩ (fun b hb => ?_) (Nat.ne_of_lt hlt))
  show b < (s.heap.push _).objs.size
  rw [Heap.size_push]
  simp only [List.mem_cons, List.not_mem_nil, or_false] at hb
  rcases hb with rfl | rfl
  · exact Nat.lt_succ_self _
  · exact Nat.lt_succ_of_lt hlt
theorem keptT {h' : Heap} {o' : Obj} (hk : ∀ b o, b ∉ [s.heap.objs.size] → (s.heap.push o').get? b = some o → h'.get? b = some o) : ∀ b o, s.heap.get? b = some o → h'.get? b = some o := fun b o e => by
  refine hk b o (fun hm => ?_) (Heap.get?_push_of_some _ e)
  have e1 := List.mem_singleton.mp hm
  exact absurd (e1 ▸ Heap.lt_size e) (Nat.lt_irrefl _)
theorem maxTup {xs : Array (Int × Tok)} {Q : Value → Shared → Prop} (hh : A.handled = none) (hl : s.heap.IsTuple l (intItems xs)) (hne : 0 < xs.size)
    (h : ∀ v h' tk, (intItems xs)[argBest (fun i j => decide (numAt xs i > numAt xs j)) (xs.size - 1)]? = some v → (∀ b o, s.heap.get? b = some o → h'.get? b = some o) → Q v { s with heap := h', toks := tk }) : wpAny (model prog w) A (call (.builtin "max") [.ref l]) Q E s := by
  refine call_max_walk (itTup hl fun s₂ e st hfp hn => ?_)
  subst e
  refine ⟨_, _, _, _, _, _, _, rfl, Walks.tuple (A := A.in1) hh _ l hn (intItems xs), st, hfp, by simpa [intItems] using hne, CmpOf.ints_gt (numAt xs) (fun _ _ => intItems_at), fun v h' tk hP hk => ?_⟩
  exact h v h' tk (by simpa [intItems] using hP) (keptT hk)
theorem minTup {xs : Array (Int × Tok)} {Q : Value → Shared → Prop} (hh : A.handled = none) (hl : s.heap.IsTuple l (intItems xs)) (hne : 0 < xs.size)
    (h : ∀ v h' tk, (intItems xs)[argBest (fun i j => decide (numAt xs i < numAt xs j)) (xs.size - 1)]? = some v → (∀ b o, s.heap.get? b = some o → h'.get? b = some o) → Q v { s with heap := h', toks := tk }) : wpAny (model prog w) A (call (.builtin "min") [.ref l]) Q E s := by
  refine call_min_walk (itTup hl fun s₂ e st hfp hn => ?_)
  subst e
  refine ⟨_, _, _, _, _, _, _, rfl, Walks.tuple (A := A.in1) hh _ l hn (intItems xs), st, hfp, by simpa [intItems] using hne, CmpOf.ints_lt (numAt xs) (fun _ _ => intItems_at), fun v h' tk hP hk => ?_⟩
  exact h v h' tk (by simpa [intItems] using hP) (keptT hk)
end
section
variable {prog : Program} {w : World} {A : Around} {E : Value → Shared → Prop} {s : Shared} {l : Addr} {its : List Value} {ns : List Int} {Q : Value → Shared → Prop}
theorem maxT_raw (hh : A.handled = none) (hl : s.heap.IsTuple l its.toArray) (hi : IntsAre its ns) (hne : 0 < ns.length)
    (h : ∀ h' tk M t', (∀ b o, s.heap.get? b = some o → h'.get? b = some o) → M ∈ ns → (∀ a, a ∈ ns → a ≤ M) → Q (.int M t') { s with heap := h', toks := tk }) : wpAny (model prog w) A (call (.builtin "max") [.ref l]) Q E s := by
  obtain ⟨xs, e⟩ := hi.allInts.items
  have hn : numsOf (intItems xs).toList = ns := by rw [← e]; exact hi.numsOf
  rw [nums_intItems] at hn
  subst hn
  rw [e] at hl
  have hsz : 0 < xs.size := by simpa using hne
  refine maxTup hh hl hsz fun v h' tk hv hk => ?_
  obtain ⟨t, rfl⟩ := intItems_at hv
  obtain ⟨h1, h2⟩ := argBest_gt (numAt xs) (xs.size - 1)
  refine h h' tk _ t hk ?_ fun a ha => ?_
  · rw [numAt_eq]; exact PySem.getD_mem (by rw [List.length_map, Array.length_toList]; omega)
  · obtain ⟨j, hj, rfl⟩ := mem_getD ha
    rw [List.length_map, Array.length_toList] at hj
    rw [← numAt_eq]; exact h2 j (by omega)
theorem minT_raw (hh : A.handled = none) (hl : s.heap.IsTuple l its.toArray) (hi : IntsAre its ns) (hne : 0 < ns.length)
    (h : ∀ h' tk M t', (∀ b o, s.heap.get? b = some o → h'.get? b = some o) → M ∈ ns → (∀ a, a ∈ ns → M ≤ a) → Q (.int M t') { s with heap := h', toks := tk }) : wpAny (model prog w) A (call (.builtin "min") [.ref l]) Q E s := by
  obtain ⟨xs, e⟩ := hi.allInts.items
  have hn : numsOf (intItems xs).toList = ns := by rw [← e]; exact hi.numsOf
  rw [nums_intItems] at hn
  subst hn
  rw [e] at hl
  have hsz : 0 < xs.size := by simpa using hne
  refine minTup hh hl hsz fun v h' tk hv hk => ?_
  obtain ⟨t, rfl⟩ := intItems_at hv
  obtain ⟨h1, h2⟩ := argBest_lt (numAt xs) (xs.size - 1)
  refine h h' tk _ t hk ?_ fun a ha => ?_
  · rw [numAt_eq]; exact PySem.getD_mem (by rw [List.length_map, Array.length_toList]; omega)
  · obtain ⟨j, hj, rfl⟩ := mem_getD ha
    rw [List.length_map, Array.length_toList] at hj
    rw [← numAt_eq]; exact h2 j (by omega)
end
section
variable {X : Cx}
def rMaxT (K : FK) : List V → Hp → VK → Prop := fun vs H Q => ∃ (a : Addr) (ns : List Int), vs = [V.ref a] ∧ SqT K H a (ns.map V.int) ∧ 0 < ns.length ∧ ∀ m, m ∈ ns → (∀ y, y ∈ ns → y ≤ m) → Q (.int m) H
def rMinT (K : FK) : List V → Hp → VK → Prop := fun vs H Q => ∃ (a : Addr) (ns : List Int), vs = [V.ref a] ∧ SqT K H a (ns.map V.int) ∧ 0 < ns.length ∧ ∀ m, m ∈ ns → (∀ y, y ∈ ns → m ≤ y) → Q (.int m) H
theorem cr_maxT (hc : X.calm = true) : CallR X (.builtin "max") (rMaxT X.K) := by
  intro pins s σ H vs us Q I r h
  obtain ⟨a, ns, rfl, hs, hne, q⟩ := h
  obtain ⟨its, rv, hl, _⟩ := I.tuple hs
  rw [Vals.ref1 r]
  exact maxT_raw (I.ok.hd hc) hl rv.ints hne fun h' tk m t' hk h1 h2 => ⟨.int _, H, I.kept hk, ⟨_, rfl⟩, q m h1 h2⟩
theorem cr_minT (hc : X.calm = true) : CallR X (.builtin "min") (rMinT X.K) := by
  intro pins s σ H vs us Q I r h
  obtain ⟨a, ns, rfl, hs, hne, q⟩ := h
  obtain ⟨its, rv, hl, _⟩ := I.tuple hs
  rw [Vals.ref1 r]
  exact minT_raw (I.ok.hd hc) hl rv.ints hne fun h' tk m t' hk h1 h2 => ⟨.int _, H, I.kept hk, ⟨_, rfl⟩, q m h1 h2⟩
end
section
variable {K : FK} {B : Hp} {T : List Addr} {k : D → Bool → Prop}
def rMaxU (K : FK) : List V → Hp → VK → Prop := fun xs H Q => rMax K xs H Q ∨ rMaxT K xs H Q
def rMinU (K : FK) : List V → Hp → VK → Prop := fun xs H Q => rMin K xs H Q ∨ rMinT K xs H Q
theorem cr_maxU {X : Cx} (hc : X.calm = true) : CallR X (.builtin "max") (rMaxU X.K) := (cr_max hc).or (cr_maxT hc)
theorem cr_minU {X : Cx} (hc : X.calm = true) : CallR X (.builtin "min") (rMinU X.K) := (cr_min hc).or (cr_minT hc)
theorem cl_maxU {ns : List Int} (hn : 0 < ns.length) (h : ∀ m, m ∈ ns → (∀ y ∈ ns, y ≤ m) → k (.int m) true) : Cl K B T (rMaxU K) [.list (ns.map .int)] k := fun H vs Q b r q => .inl (cl_max hn h H vs Q b r q)
theorem cl_minU {ns : List Int} (hn : 0 < ns.length) (h : ∀ m, m ∈ ns → (∀ y ∈ ns, m ≤ y) → k (.int m) true) : Cl K B T (rMinU K) [.list (ns.map .int)] k := fun H vs Q b r q => .inl (cl_min hn h H vs Q b r q)
theorem cl_maxT {ns : List Int} (hn : 0 < ns.length) (h : ∀ m, m ∈ ns → (∀ y ∈ ns, y ≤ m) → k (.int m) true) : Cl K B T (rMaxU K) [.tuple (ns.map .int)] k := fun H vs Q b r q => by
  obtain ⟨v, rfl, fp, o, n⟩ := r.one_inv
  obtain ⟨a, us, rfl, s1, a1⟩ := o.tup_inv
  obtain ⟨rfl, _⟩ := a1.ints
  exact .inr ⟨a, ns, rfl, s1, hn, fun m h1 h2 => q _ _ _ H (h m h1 h2) (Same.refl _) (.ownN (.int _))⟩
theorem cl_minT {ns : List Int} (hn : 0 < ns.length) (h : ∀ m, m ∈ ns → (∀ y ∈ ns, m ≤ y) → k (.int m) true) : Cl K B T (rMinU K) [.tuple (ns.map .int)] k := fun H vs Q b r q => by
  obtain ⟨v, rfl, fp, o, n⟩ := r.one_inv
  obtain ⟨a, us, rfl, s1, a1⟩ := o.tup_inv
  obtain ⟨rfl, _⟩ := a1.ints
  exact .inr ⟨a, ns, rfl, s1, hn, fun m h1 h2 => q _ _ _ H (h m h1 h2) (Same.refl _) (.ownN (.int _))⟩
end
end DL
/-! DI, part 1: a small language over data, its evaluator, and when a text of the program is one of it. -/
namespace DI
open PySem PySem.Spec L2 RZ DL

inductive O2 where
  | add | sub | mul | fdiv | mod
inductive OC where
  | lt | le | gt | ge | eq | ne | is | isn | isin | notin
inductive Bi where
  | len | all | any | sum | max1 | min1 | max2 | min2 | abs | int | tuple | list | sorted
mutual
inductive TG where
  | nm (i : Nat)
  | tup (ts : TGs)
inductive TGs where
  | nil
  | cons (t : TG) (ts : TGs)
end
mutual
inductive IE where
  | var (i : Nat)
  | int (z : Int)
  | bl (b : Bool)
  | non
  | str (x : Str)
  | glob (x : Str)
  | op2 (o : O2) (a b : IE)
  | cmp (o : OC) (a b : IE)
  | chain (o p : OC) (a b c : IE)
  | ix (a b : IE)
  | neg (a : IE)
  | not (a : IE)
  | and (es : IA)
  | or (es : IA)
  | ife (t : IT) (a b : IE)
  | tup (es : IA)
  | lst (es : IA)
  | call (f : Str) (es : IA)
  | callT (f : Str) (t : Nat) (es : IA)
  | bi (b : Bi) (es : IA)
  | sl (a : IE) (lo hi : IO)
  | lc (own : List (Str × Nat)) (elt : IC) (tg : TG) (it : II)
  | lrng (a : IE)
  | sset (a : IE)
  | tget (i : Nat) (f : TF)
  | tlen (i : Nat)
  | tcell (i : Nat)
  | callS (f : Str) (j : Nat)
inductive IT where
  | val (e : IE)
  | not (a : IT)
  | and (es : IL)
  | or (es : IL)
inductive IL where
  | nil
  | cons (e : IT) (es : IL)
inductive IC where
  | el (e : IE)
  | ift (c : IT) (e : IE)
inductive IA where
  | nil
  | cons (e : IE) (es : IA)
inductive IO where
  | no
  | so (e : IE)
inductive II where
  | seq (e : IE)
  | arg (j : Nat)
  | scr (j : Nat)
  | rng1 (e : IE)
  | rng2 (a b : IE)
  | enum (e : IE)
  | zip (a b : IE)
end

/-! ### the evaluator -/
open Classical in
/-- the tape that a datum is -/
noncomputable def decT (τ : D) : Option Tape := if h : ∃ t : Tape, τ = eTape t then some h.choose else none
theorem eTape_inj {t u : Tape} (h : eTape t = eTape u) : t = u := by
  unfold eTape at h
  simp only [PyData.dict.injEq, List.cons.injEq, Prod.mk.injEq, PyData.list.injEq, PyData.int.injEq, true_and, and_true] at h
  obtain ⟨h1, h2, h3, h4, h5⟩ := h
  have hc : t.cells = u.cells := by
    have : ∀ {xs ys : List Int}, xs.map PyData.int = ys.map PyData.int → xs = ys := by
      intro xs
      induction xs with
      | nil => intro ys e; cases ys with
        | nil => rfl
        | cons y r => cases e
      | cons x r ih => intro ys e; cases ys with
        | nil => cases e
        | cons y r' =>
          simp only [List.map_cons, List.cons.injEq, PyData.int.injEq] at e
          rw [e.1, ih e.2]
    exact this h1
  cases t; cases u
  simp_all
theorem decT_tape (t : Tape) : decT (eTape t) = some t := by
  unfold decT
  have h : ∃ u : Tape, eTape t = eTape u := ⟨t, rfl⟩
  rw [dif_pos h]
  exact congrArg some (eTape_inj h.choose_spec).symm
theorem decT_some {τ : D} {t : Tape} (h : decT τ = some t) : τ = eTape t := by
  unfold decT at h
  split at h
  · rename_i hx; cases h; exact hx.choose_spec
  · cases h
/-- what is known of names that are no slots -/
structure FT where
  gl : Str → Option Int
  fs : Str → Option (List D → Option D)
  ft : Str → Option (D → List D → Option (D × D))
  fc : Str → Option (List Int → Option D)
abbrev RE := Option (D × D × Bool)
def bE {β : Type} (x : RE) (f : D → D → Bool → Option β) : Option β := match x with
  | some (t, d, o) => f t d o
  | none => none
@[simp] theorem bE_some {β : Type} (t d : D) (o : Bool) (f : D → D → Bool → Option β) : bE (some (t, d, o)) f = f t d o := rfl
@[simp] theorem bE_none {β : Type} (f : D → D → Bool → Option β) : bE none f = none := rfl
def bT {β : Type} (x : Option (D × Bool)) (f : D → Bool → Option β) : Option β := match x with
  | some (t, d) => f t d
  | none => none
@[simp] theorem bT_some {β : Type} (t : D) (o : Bool) (f : D → Bool → Option β) : bT (some (t, o)) f = f t o := rfl
@[simp] theorem bT_none {β : Type} (f : D → Bool → Option β) : bT none f = none := rfl
def guardO {β : Type} (c : Bool) (x : Option β) : Option β := match c with
  | true => x
  | false => none
@[simp] theorem guardO_true {β : Type} (x : Option β) : guardO true x = x := rfl
@[simp] theorem guardO_false {β : Type} (x : Option β) : guardO false x = none := rfl
def iteB {β : Type} (c : Bool) (x y : β) : β := match c with
  | true => x
  | false => y
@[simp] theorem iteB_true {β : Type} (x y : β) : iteB true x y = x := rfl
@[simp] theorem iteB_false {β : Type} (x y : β) : iteB false x y = y := rfl

def op2D : O2 → D → D → Option D
  | .add, .int i, .int j => some (.int (i + j))
  | .add, .tuple xs, .tuple ys => guardO (immAll xs && immAll ys && decide (xs.length + ys.length ≤ 1000000)) (some (.tuple (xs ++ ys)))
  | .add, .list xs, .list ys => guardO (immAll xs && immAll ys && decide (xs.length + ys.length ≤ 1000000)) (some (.list (xs ++ ys)))
  | .sub, .int i, .int j => some (.int (i - j))
  | .mul, .int i, .int j => guardO (decide (-18446744073709551616 < i ∧ i < 18446744073709551616) || decide (-18446744073709551616 < j ∧ j < 18446744073709551616)) (some (.int (i * j)))
  | .mul, .list xs, .int j => guardO (immAll xs && decide (-9223372036854775808 ≤ j ∧ j < 9223372036854775808) && decide (xs.length * j.toNat ≤ 1000000)) (some (.list (List.replicate j.toNat xs).flatten))
  | .fdiv, .int i, .int j => guardO (decide (0 < j ∧ j < 1073741824)) (some (.int (i / j)))
  | .mod, .int i, .int j => guardO (decide (0 < j)) (some (.int (i % j)))
  | _, _, _ => none
def cmpD : OC → D → D → Option Bool
  | .lt, .int i, .int j => some (decide (i < j))
  | .le, .int i, .int j => some (decide (i ≤ j))
  | .gt, .int i, .int j => some (decide (j < i))
  | .ge, .int i, .int j => some (decide (j ≤ i))
  | .eq, x, y => guardO (SeqAt.shaped x && SeqAt.shaped y) (some (PyData.eqv x y))
  | .ne, x, y => guardO (SeqAt.shaped x && SeqAt.shaped y) (some (!PyData.eqv x y))
  | .is, x, .none => some (isNon x)
  | .is, .bool a, .bool c => some (decide (a = c))
  | .isn, x, .none => some (!isNon x)
  | .isn, .bool a, .bool c => some (!decide (a = c))
  | .isin, d, .list ds => guardO (SeqAt.shaped d && PyData.canLayAll0 ds) (some (ds.any fun z => PyData.eqv z d))
  | .isin, d, .tuple ds => guardO (SeqAt.shaped d && PyData.canLayAll0 ds) (some (ds.any fun z => PyData.eqv z d))
  | .notin, d, .list ds => guardO (SeqAt.shaped d && PyData.canLayAll0 ds) (some (!ds.any fun z => PyData.eqv z d))
  | .notin, d, .tuple ds => guardO (SeqAt.shaped d && PyData.canLayAll0 ds) (some (!ds.any fun z => PyData.eqv z d))
  | _, _, _ => none
def ixD : D → D → Option D
  | .list ds, .int i => L2.atI ds i
  | .tuple ds, .int i => L2.atI ds i
  | _, _ => none
def intsD : List D → Option (List Int)
  | [] => some []
  | .int i :: r => (intsD r).map (i :: ·)
  | _ :: _ => none
def boolsD : List D → Option (List Bool)
  | [] => some []
  | .bool i :: r => (boolsD r).map (i :: ·)
  | _ :: _ => none
def maxL : List Int → Int
  | [] => 0
  | [x] => x
  | x :: y :: r => max x (maxL (y :: r))
def minL : List Int → Int
  | [] => 0
  | [x] => x
  | x :: y :: r => min x (minL (y :: r))
def biD : Bi → List D → Option D
  | .len, [.list ds] => some (.int ds.length)
  | .len, [.tuple ds] => some (.int ds.length)
  | .all, [.list ds] => (boolsD ds).map fun bs => .bool (bs.all id)
  | .any, [.list ds] => (boolsD ds).map fun bs => .bool (bs.any id)
  | .sum, [.list ds] => (intsD ds).map fun ns => .int ns.sum
  | .max1, [.list ds] => guardO (!ds.isEmpty) ((intsD ds).map fun ns => .int (maxL ns))
  | .min1, [.list ds] => guardO (!ds.isEmpty) ((intsD ds).map fun ns => .int (minL ns))
  | .max1, [.tuple ds] => guardO (!ds.isEmpty) ((intsD ds).map fun ns => .int (maxL ns))
  | .min1, [.tuple ds] => guardO (!ds.isEmpty) ((intsD ds).map fun ns => .int (minL ns))
  | .max2, [.int i, .int j] => some (.int (max i j))
  | .min2, [.int i, .int j] => some (.int (min i j))
  | .abs, [.int i] => some (.int (if i < 0 then -i else i))
  | .int, [.int i] => some (.int i)
  | .tuple, [.list ds] => guardO (immAll ds) (some (.tuple ds))
  | .tuple, [.tuple ds] => guardO (immAll ds) (some (.tuple ds))
  | .list, [.list ds] => guardO (immAll ds) (some (.list ds))
  | .list, [.tuple ds] => guardO (immAll ds) (some (.list ds))
  | .sorted, [.list ds] => guardO (sortB ds) (some (.list (sortL ds)))
  | _, _ => none
def pairsD : List D → Option (List IP)
  | [] => some []
  | .tuple [.int a, .int b] :: r => (pairsD r).map ((a, b) :: ·)
  | _ :: _ => none
mutual
/-- a target, by data that others may hold -/
def evG : TG → D → List Sl → Option (List Sl)
  | .nm i, d, ρ => some (ρ.set i (slOf d))
  | .tup ts, .tuple ds, ρ => evGs ts ds ρ
  | .tup _, _, _ => none
def evGs : TGs → List D → List Sl → Option (List Sl)
  | .nil, [], ρ => some ρ
  | .cons t ts, d :: ds, ρ => (evG t d ρ).bind fun ρ1 => evGs ts ds ρ1
  | _, _, _ => none
end
mutual
/-- a target, by data of one's own -/
def evO : TG → D → List Sl → Option (List Sl)
  | .nm i, d, ρ => some (ρ.set i (.v d))
  | .tup ts, .tuple ds, ρ => evOs ts ds ρ
  | .tup _, _, _ => none
def evOs : TGs → List D → List Sl → Option (List Sl)
  | .nil, [], ρ => some ρ
  | .cons t ts, d :: ds, ρ => (evO t d ρ).bind fun ρ1 => evOs ts ds ρ1
  | _, _, _ => none
end
/-- the turns of a comprehension -/
def lcL (turn : D → D → Option (D × Option D)) : List D → D → Option (D × List D)
  | [], τ => some (τ, [])
  | d :: ds, τ => (turn d τ).bind fun p => (lcL turn ds p.1).bind fun q => some (q.1, p.2.toList ++ q.2)
mutual
noncomputable def evE (C : FT) (ρ : List Sl) : IE → D → RE
  | .var i, τ => match (ρ[i]?).bind rdS with
    | some d => some (τ, d, imm d)
    | none => none
  | .int z, τ => some (τ, .int z, true)
  | .bl z, τ => some (τ, .bool z, true)
  | .non, τ => some (τ, .none, true)
  | .str z, τ => some (τ, .str z, true)
  | .glob x, τ => match C.gl x with
    | some z => some (τ, .int z, true)
    | none => none
  | .op2 o a b, τ => bE (evE C ρ a τ) fun τ1 x _ => bE (evE C ρ b τ1) fun τ2 y _ => (op2D o x y).bind fun z => some (τ2, z, true)
  | .cmp o a b, τ => bE (evE C ρ a τ) fun τ1 x _ => bE (evE C ρ b τ1) fun τ2 y _ => (cmpD o x y).bind fun z => some (τ2, .bool z, true)
  | .chain o p a b c, τ => bE (evE C ρ a τ) fun τ1 x _ => bE (evE C ρ b τ1) fun τ2 y _ => (cmpD o x y).bind fun k =>
      iteB k (bE (evE C ρ c τ2) fun τ3 z _ => (cmpD p y z).bind fun k2 => some (τ3, .bool k2, true)) (some (τ2, .bool false, true))
  | .ix a b, τ => bE (evE C ρ a τ) fun τ1 x _ => bE (evE C ρ b τ1) fun τ2 y _ => (ixD x y).bind fun z => some (τ2, z, imm z)
  | .neg a, τ => bE (evE C ρ a τ) fun τ1 x _ => match x with
    | .int i => some (τ1, .int (-i), true)
    | _ => none
  | .not a, τ => bE (evE C ρ a τ) fun τ1 x _ => match x with
    | .bool i => some (τ1, .bool (!i), true)
    | _ => none
  | .and es, τ => evAnd C ρ es τ
  | .or es, τ => evOr C ρ es τ
  | .ife t a b, τ => bT (evT C ρ t τ) fun τ1 k => iteB k (evE C ρ a τ1) (evE C ρ b τ1)
  | .tup es, τ => (evA C ρ es τ).bind fun p => guardO (p.2.2.all id && decide (p.2.1.length ≤ 1000000)) (some (p.1, .tuple p.2.1, true))
  | .lst es, τ => (evA C ρ es τ).bind fun p => guardO (p.2.2.all id && decide (p.2.1.length ≤ 1000000)) (some (p.1, .list p.2.1, true))
  | .call f es, τ => match C.fs f with
    | some g => (evA C ρ es τ).bind fun p => (g p.2.1).bind fun z => some (p.1, z, true)
    | none => none
  | .callT f t es, τ => match C.ft f, ρ[t]? with
    | some g, some .tp => (evA C ρ es τ).bind fun p => (g p.1 p.2.1).bind fun z => some (z.1, z.2, true)
    | _, _ => none
  | .bi b es, τ => (evA C ρ es τ).bind fun p => (biD b p.2.1).bind fun z => some (p.1, z, true)
  | .sl a lo hi, τ => bE (evE C ρ a τ) fun τ1 x _ => (evP C ρ lo τ1).bind fun l => (evP C ρ hi l.1).bind fun h => match x with
    | .list ds => guardO (immAll ds) (some (h.1, .list (cutD ds l.2 h.2), true))
    | .tuple ds => guardO (immAll ds) (some (h.1, .tuple (cutD ds l.2 h.2), true))
    | _ => none
  | .lc own elt tg it, τ => (evI C ρ it τ).bind fun p => guardO (decide (p.2.1.length ≤ 1000000)) ((lcL (fun d t => (evG tg d (wipeL ρ (own.map (·.2)))).bind fun ρ2 => evC C ρ2 elt t) p.2.1 p.1).bind fun q => some (q.1, .list q.2, true))
  | .lrng a, τ => bE (evE C ρ a τ) fun τ1 x _ => match x with
    | .int n => guardO (decide (-1000000 ≤ n ∧ n ≤ 1000000)) (some (τ1, .list (rngD 0 n.toNat), true))
    | _ => none
  | .sset a, τ => bE (evE C ρ a τ) fun τ1 x _ => match x with
    | .list ds => (pairsD ds).bind fun ps => guardO (decide (ps.length < 64) && ps.all fun p => decide ((0 ≤ p.1 ∧ p.1 < 64) ∧ (0 ≤ p.2 ∧ p.2 < 64))) (some (τ1, .list ((ssetL ps).map eIP), true))
    | _ => none
  | .tget i f, τ => match ρ[i]?, decT τ with
    | some .tp, some t => some (τ, .int (t.get f), true)
    | _, _ => none
  | .tlen i, τ => match ρ[i]?, decT τ with
    | some .tp, some t => some (τ, .int t.cells.length, true)
    | _, _ => none
  | .tcell i, τ => match ρ[i]?, decT τ with
    | some .tp, some t => (L2.atI t.cells t.pos).bind fun n => some (τ, .int n, true)
    | _, _ => none
  | .callS f j, τ => match C.fc f, ρ[j]? with
    | some g, some (.scr ns) => (g ns).bind fun z => some (τ, z, true)
    | _, _ => none
/-- the test and the element of a comprehension -/
noncomputable def evC (C : FT) (ρ : List Sl) : IC → D → Option (D × Option D)
  | .el elt, τ => bE (evE C ρ elt τ) fun t y o => guardO o (some (t, some y))
  | .ift c elt, τ => bT (evT C ρ c τ) fun τ1 k => iteB k (bE (evE C ρ elt τ1) fun t y o => guardO o (some (t, some y))) (some (τ1, none))
noncomputable def evT (C : FT) (ρ : List Sl) : IT → D → Option (D × Bool)
  | .not a, τ => bT (evT C ρ a τ) fun t k => some (t, !k)
  | .and es, τ => tsAnd C ρ es τ
  | .or es, τ => tsOr C ρ es τ
  | .val e, τ => bE (evE C ρ e τ) fun t x _ => match x with
    | .bool k => some (t, k)
    | .none => some (t, false)
    | .int z => some (t, z != 0)
    | .list xs => some (t, !xs.isEmpty)
    | .tuple xs => some (t, !xs.isEmpty)
    | _ => none
noncomputable def evA (C : FT) (ρ : List Sl) : IA → D → Option (D × List D × List Bool)
  | .nil, τ => some (τ, [], [])
  | .cons e es, τ => bE (evE C ρ e τ) fun τ1 d o => (evA C ρ es τ1).bind fun p => some (p.1, d :: p.2.1, o :: p.2.2)
noncomputable def evAnd (C : FT) (ρ : List Sl) : IA → D → RE
  | .nil, _ => none
  | .cons e .nil, τ => evE C ρ e τ
  | .cons e es, τ => bE (evE C ρ e τ) fun τ1 x _ => match x with
    | .bool k => iteB k (evAnd C ρ es τ1) (some (τ1, .bool false, true))
    | _ => none
noncomputable def evOr (C : FT) (ρ : List Sl) : IA → D → RE
  | .nil, _ => none
  | .cons e .nil, τ => evE C ρ e τ
  | .cons e es, τ => bE (evE C ρ e τ) fun τ1 x _ => match x with
    | .bool k => iteB k (some (τ1, .bool true, true)) (evOr C ρ es τ1)
    | _ => none
noncomputable def tsAnd (C : FT) (ρ : List Sl) : IL → D → Option (D × Bool)
  | .nil, _ => none
  | .cons e .nil, τ => evT C ρ e τ
  | .cons e es, τ => bT (evT C ρ e τ) fun τ1 k => iteB k (tsAnd C ρ es τ1) (some (τ1, false))
noncomputable def tsOr (C : FT) (ρ : List Sl) : IL → D → Option (D × Bool)
  | .nil, _ => none
  | .cons e .nil, τ => evT C ρ e τ
  | .cons e es, τ => bT (evT C ρ e τ) fun τ1 k => iteB k (some (τ1, true)) (tsOr C ρ es τ1)
noncomputable def evP (C : FT) (ρ : List Sl) : IO → D → Option (D × Option Int)
  | .no, τ => some (τ, none)
  | .so e, τ => bE (evE C ρ e τ) fun τ1 x _ => match x with
    | .int i => some (τ1, some i)
    | _ => none
noncomputable def evI (C : FT) (ρ : List Sl) : II → D → Option (D × List D × Bool)
  | .seq e, τ => bE (evE C ρ e τ) fun τ1 x o => match x with
    | .list ds => some (τ1, ds, o)
    | .tuple ds => some (τ1, ds, o)
    | _ => none
  | .arg j, τ => match ρ[j]? with
    | some (.arg (.list ds)) => some (τ, ds, true)
    | _ => none
  | .scr j, τ => match ρ[j]? with
    | some (.scr ns) => some (τ, ns.map .int, true)
    | _ => none
  | .rng1 e, τ => bE (evE C ρ e τ) fun τ1 x _ => match x with
    | .int j => guardO (decide (-1000000 ≤ j ∧ j ≤ 1000000)) (some (τ1, rngD 0 j.toNat, true))
    | _ => none
  | .rng2 a b, τ => bE (evE C ρ a τ) fun τ1 x _ => bE (evE C ρ b τ1) fun τ2 y _ => match x, y with
    | .int i, .int j => guardO (decide (-1000000 ≤ i ∧ i ≤ 1000000 ∧ -1000000 ≤ j ∧ j ≤ 1000000)) (some (τ2, rngD i (j - i).toNat, true))
    | _, _ => none
  | .enum e, τ => bE (evE C ρ e τ) fun τ1 x o => match x with
    | .list ds => some (τ1, enumD ds, o)
    | .tuple ds => some (τ1, enumD ds, o)
    | _ => none
  | .zip a b, τ => bE (evE C ρ a τ) fun τ1 x _ => bE (evE C ρ b τ1) fun τ2 y _ => match x, y with
    | .list ds, .list es => guardO (immAll ds && immAll es) (some (τ2, zipD ds es, false))
    | .tuple ds, .tuple es => guardO (immAll ds && immAll es) (some (τ2, zipD ds es, false))
    | _, _ => none
end
end DI
/-! DI, part 2: when an expression of the program's text is one of the small language. -/
namespace DI
open PySem PySem.Spec L2 RZ DL

/-- what a text is read against: the names by slot, the block's names, what is a frame's cell -/
structure SC where
  N : List Str
  sc : Scope
  fnn : Str → Bool
def okNm (x : Str) : Bool := !(x == ("__debug__" : Str)) && !(x == ("__classdict__" : Str))
def visB (sc : Scope) (x : Str) : Bool := match sc.names.lookup x with
  | some .local => true
  | some .cell => true
  | some .free => true
  | _ => false
def locB (sc : Scope) (x : Str) : Bool := match sc.names.lookup x with
  | some .local => true
  | some .cell => true
  | _ => false
def isLoc (sc : Scope) (x : Str) : Bool := match sc.names.lookup x with
  | some .local => true
  | _ => false
def isGl (sc : Scope) (x : Str) : Bool := match sc.names.lookup x with
  | some .globalImplicit => true
  | _ => false
def isFun (sc : Scope) : Bool := match sc.kind with
  | .function => true
  | _ => false
def ckVar (S : SC) (i : Nat) (x : Str) : Bool := decide (S.N[i]? = some x) && visB S.sc x && okNm x
def ckSto (S : SC) (i : Nat) (x : Str) : Bool := decide (S.N[i]? = some x) && locB S.sc x && (S.fnn x || isLoc S.sc x)
def ckGl (S : SC) (x : Str) : Bool := isGl S.sc x && okNm x && !(x == ("__name__" : Str))
def O2.op : O2 → Operator
  | .add => .Add
  | .sub => .Sub
  | .mul => .Mult
  | .fdiv => .FloorDiv
  | .mod => .Mod
def OC.op : OC → CmpOp
  | .lt => .Lt
  | .le => .LtE
  | .gt => .Gt
  | .ge => .GtE
  | .eq => .Eq
  | .ne => .NotEq
  | .is => .Is
  | .isn => .IsNot
  | .isin => .In
  | .notin => .NotIn
def Bi.nm : Bi → Str
  | .len => "len"
  | .all => "all"
  | .any => "any"
  | .sum => "sum"
  | .max1 => "max"
  | .max2 => "max"
  | .min1 => "min"
  | .min2 => "min"
  | .abs => "abs"
  | .int => "int"
  | .tuple => "tuple"
  | .list => "list"
  | .sorted => "sorted"
def noStar : Expr → Bool
  | .Starred _ _ => false
  | _ => true
def noSlice : Expr → Bool
  | .Slice _ _ _ _ => false
  | _ => true
/-- no display whose marks matter -/
def noMk : Expr → Bool
  | .Set _ _ _ => false
  | _ => true
/-- its truth is its value's -/
def plainT : Expr → Bool
  | .UnaryOp .Not _ _ => false
  | .BoolOp _ _ _ => false
  | .IfExp _ _ _ _ => false
  | .Compare _ _ _ _ => false
  | _ => true
def ownOf (S : SC) (scope : Scope) : List (Str × Nat) := scope.names.filterMap fun p => match p.2 with
  | .local => (S.N.findIdx? fun y => decide (y = p.1)).map fun i => (p.1, i)
  | .cell => (S.N.findIdx? fun y => decide (y = p.1)).map fun i => (p.1, i)
  | _ => none
def SC.blk (S : SC) (scope : Scope) : SC := ⟨S.N, relS scope S.sc, fun x => scope.names.lookup x == some .cell⟩
mutual
def TG.ws : TG → List Nat
  | .nm i => [i]
  | .tup ts => TGs.ws ts
def TGs.ws : TGs → List Nat
  | .nil => []
  | .cons t ts => TG.ws t ++ TGs.ws ts
end
mutual
def ckG (S : SC) : TG → Expr → Bool
  | .nm i, e => match e with
    | .Name x _ => ckSto S i x
    | _ => false
  | .tup ts, e => match e with
    | .Tuple es _ _ => ckGs S ts es
    | _ => false
def ckGs (S : SC) : TGs → List Expr → Bool
  | .nil, es => es.isEmpty
  | .cons t ts, es => match es with
    | e :: r => noStar e && ckG S t e && ckGs S ts r
    | [] => false
end
mutual
def ckE : IE → SC → Expr → Bool
  | .var i, S, e => match e with
    | .Name x _ => ckVar S i x
    | _ => false
  | .int z, _, e => match e with
    | .Constant (.int i) _ _ => decide (i = z)
    | _ => false
  | .bl z, _, e => match e with
    | .Constant (.bool i) _ _ => decide (i = z)
    | _ => false
  | .non, _, e => match e with
    | .Constant .none _ _ => true
    | _ => false
  | .str z, _, e => match e with
    | .Constant (.str i) _ _ => decide (i = z)
    | _ => false
  | .glob x, S, e => match e with
    | .Name y _ => decide (x = y) && ckGl S y
    | _ => false
  | .op2 o a b, S, e => match e with
    | .BinOp x op y _ => decide (op = o.op) && ckE a S x && ckE b S y
    | _ => false
  | .cmp o a b, S, e => match e with
    | .Compare x [op] [y] _ => decide (op = o.op) && noMk y && ckE a S x && ckE b S y
    | _ => false
  | .chain o p a b c, S, e => match e with
    | .Compare x [op, oq] [y, z] _ => decide (op = o.op) && decide (oq = p.op) && noMk z && noMk y && ckE a S x && ckE b S y && ckE c S z
    | _ => false
  | .ix a b, S, e => match e with
    | .Subscript x y _ => noSlice y && ckE a S x && ckE b S y
    | _ => false
  | .neg a, S, e => match e with
    | .UnaryOp .USub x _ => ckE a S x
    | _ => false
  | .not a, S, e => match e with
    | .UnaryOp .Not x _ => ckE a S x
    | _ => false
  | .and es, S, e => match e with
    | .BoolOp .And xs _ => ckA es S xs
    | _ => false
  | .or es, S, e => match e with
    | .BoolOp .Or xs _ => ckA es S xs
    | _ => false
  | .ife t a b, S, e => match e with
    | .IfExp c x y _ => ckT t S c && ckE a S x && ckE b S y
    | _ => false
  | .tup es, S, e => match e with
    | .Tuple xs _ _ => ckA es S xs
    | _ => false
  | .lst es, S, e => match e with
    | .List xs _ => ckA es S xs
    | _ => false
  | .call f es, S, e => match e with
    | .Call (.Name x _) xs [] _ => decide (x = f) && ckGl S x && !xs.isEmpty && ckA es S xs
    | _ => false
  | .callT f t es, S, e => match e with
    | .Call (.Name x _) (.Name y _ :: xs) [] _ => decide (x = f) && ckGl S x && ckVar S t y && ckA es S xs
    | _ => false
  | .bi b es, S, e => match e with
    | .Call (.Name x _) xs [] _ => decide (x = b.nm) && ckGl S x && !xs.isEmpty && ckA es S xs
    | _ => false
  | .sl a lo hi, S, e => match e with
    | .Subscript x (.Slice l h none _) _ => ckE a S x && ckP lo S l && ckP hi S h
    | _ => false
  | .lc own elt tg it, S, e => match e with
    | .ListComp y [⟨t, i, ifs, 0⟩] scope _ => blkC S.N S.sc scope own && noMk i && ckI it S t i && ckG (S.blk scope) tg t && tg.ws.all (fun i => decide (i ∈ own.map (·.2))) && ckC elt (S.blk scope) ifs y
    | _ => false
  | .lrng a, S, e => match e with
    | .Call (.Name x _) [.Call (.Name y _) [v] [] _] [] _ => decide (x = ("list" : Str)) && decide (y = ("range" : Str)) && ckGl S x && ckGl S y && noStar v && ckE a S v
    | _ => false
  | .sset a, S, e => match e with
    | .Call (.Name x _) [.Call (.Name y _) [v] [] _] [] _ => decide (x = ("sorted" : Str)) && decide (y = ("set" : Str)) && ckGl S x && ckGl S y && noStar v && ckE a S v
    | _ => false
  | .tget i f, S, e => match e with
    | .Subscript (.Name x _) (.Constant (.str k) _ _) _ => decide (k = f.key) && ckVar S i x
    | _ => false
  | .tlen i, S, e => match e with
    | .Call (.Name y _) [.Subscript (.Name x _) (.Constant (.str k) _ _) _] [] _ => decide (y = ("len" : Str)) && decide (k = ("cells" : Str)) && ckGl S y && ckVar S i x
    | _ => false
  | .tcell i, S, e => match e with
    | .Subscript (.Subscript (.Name x _) (.Constant (.str k) _ _) _) (.Subscript (.Name y _) (.Constant (.str l) _ _) _) _ => decide (x = y) && decide (k = ("cells" : Str)) && decide (l = ("at" : Str)) && ckVar S i x
    | _ => false
  | .callS f j, S, e => match e with
    | .Call (.Name x _) [.Name y _] [] _ => decide (x = f) && ckGl S x && ckVar S j y
    | _ => false
def ckC : IC → SC → List Expr → Expr → Bool
  | .el a, S, ifs, y => ifs.isEmpty && ckE a S y
  | .ift c a, S, ifs, y => match ifs with
    | [x] => ckT c S x && ckE a S y
    | _ => false
def ckT : IT → SC → Expr → Bool
  | .val a, S, e => (plainT e || (match e with | .Compare _ _ _ _ => true | _ => false)) && ckE a S e
  | .not a, S, e => match e with
    | .UnaryOp .Not x _ => ckT a S x
    | _ => false
  | .and es, S, e => match e with
    | .BoolOp .And xs _ => ckL es S xs
    | _ => false
  | .or es, S, e => match e with
    | .BoolOp .Or xs _ => ckL es S xs
    | _ => false
def ckL : IL → SC → List Expr → Bool
  | .nil, _, es => es.isEmpty
  | .cons a r, S, es => match es with
    | e :: es => ckT a S e && ckL r S es
    | [] => false
def ckA : IA → SC → List Expr → Bool
  | .nil, _, es => es.isEmpty
  | .cons a r, S, es => match es with
    | e :: es => noStar e && ckE a S e && ckA r S es
    | [] => false
def ckP : IO → SC → Option Expr → Bool
  | .no, _, e => e.isNone
  | .so a, S, e => match e with
    | some x => ckE a S x
    | none => false
def ckI : II → SC → Expr → Expr → Bool
  | .seq a, S, _, e => ckE a S e
  | .arg j, S, _, e => match e with
    | .Name x _ => ckVar S j x
    | _ => false
  | .scr j, S, _, e => match e with
    | .Name x _ => ckVar S j x
    | _ => false
  | .rng1 a, S, _, e => match e with
    | .Call (.Name x _) [y] [] _ => decide (x = ("range" : Str)) && ckGl S x && noStar y && ckE a S y
    | _ => false
  | .rng2 a b, S, _, e => match e with
    | .Call (.Name x _) [y, z] [] _ => decide (x = ("range" : Str)) && ckGl S x && noStar y && noStar z && ckE a S y && ckE b S z
    | _ => false
  | .enum a, S, t, e => match t, e with
    | .Tuple _ _ _, .Call (.Name x _) [y] [] _ => decide (x = ("enumerate" : Str)) && ckGl S x && noStar y && ckE a S y
    | _, _ => false
  | .zip a b, S, t, e => match t, e with
    | .Tuple _ _ _, .Call (.Name x _) [y, z] [] _ => decide (x = ("zip" : Str)) && ckGl S x && noStar y && noStar z && ckE a S y && ckE b S z
    | _, _ => false
end

/-- a context as the small language needs it -/
structure Ok (X : Cx) (C : FT) (S : SC) : Prop where
  N : X.N = S.N
  nd : X.N.Nodup
  sc : X.env.scope = S.sc
  kind : X.env.scope.kind = .function
  calm : X.calm = true
  fn : ∀ x, S.fnn x = true → X.fn x = true
  hu : X.A.units + 65 < cLine
  gl : ∀ x z, C.gl x = some z → ∃ t, X.mg x = some (.int z t)
  bi : ∀ b : Bi, X.mg b.nm = none
  rng : X.mg "range" = none
  set : X.mg "set" = none
  enu : X.mg "enumerate" = none
  zip : X.mg "zip" = none
  fs : ∀ x g, C.fs x = some g → ∃ k ps, Fx X.prog X.w X.K X.mg X.base k x ps (spF X.K fun ds Ψ => ∃ r, g ds = some r ∧ Ψ r) ∧ Room k X.A
  ft : ∀ x g, C.ft x = some g → ∃ k ps, Fx X.prog X.w X.K X.mg X.base k x ps (spT X.K fun τ ds Ψ => ∃ r, g τ ds = some r ∧ Ψ r.1 r.2) ∧ Room k X.A
  fc : ∀ x g, C.fc x = some g → ∃ k ps, Fx X.prog X.w X.K X.mg X.base k x ps (spS X.K fun ns Ψ => ∃ r, g ns = some r ∧ Ψ r) ∧ Room k X.A
section
variable {X : Cx} {C : FT} {S : SC}
theorem Ok.blk (O : Ok X C S) (scope : Scope) (hk : scope.kind = .function) (s : Shared) (H0 : Hp) (A : Addr) (cl : List (Str × Addr)) (fp : List Addr) : Ok (Bk X scope s H0 A cl fp) C (S.blk scope) where
  N := O.N
  nd := O.nd
  sc := by
    show relS scope X.env.scope = relS scope S.sc
    rw [O.sc]
  kind := hk
  calm := O.calm
  fn := fun x h => h
  hu := O.hu
  gl := O.gl
  bi := O.bi
  rng := O.rng
  set := O.set
  enu := O.enu
  zip := O.zip
  fs := O.fs
  ft := O.ft
  fc := O.fc
theorem visB_ok {sc : Scope} {x : Str} (h : visB sc x = true) : Vis sc x := by
  unfold visB at h
  split at h <;> first | (cases h; done) | exact .inl (by assumption) | exact .inr (.inl (by assumption)) | exact .inr (.inr (by assumption))
theorem locB_ok {sc : Scope} {x : Str} (h : locB sc x = true) : Loc sc x := by
  unfold locB at h
  split at h <;> first | (cases h; done) | exact .inl (by assumption) | exact .inr (by assumption)
theorem isLoc_ok {sc : Scope} {x : Str} (h : isLoc sc x = true) : sc.names.lookup x = some .local := by
  unfold isLoc at h
  split at h <;> first | (cases h; done) | assumption
theorem isGl_ok {sc : Scope} {x : Str} (h : isGl sc x = true) : sc.names.lookup x = some .globalImplicit := by
  unfold isGl at h
  split at h <;> first | (cases h; done) | assumption
theorem okNm_ok {x : Str} (h : okNm x = true) : (x == ("__debug__" : Str)) = false ∧ (x == ("__classdict__" : Str)) = false := by
  unfold okNm at h
  simpa using h
structure VarOk (X : Cx) (i : Nat) (x : Str) : Prop where
  N : X.N[i]? = some x
  v : Vis X.env.scope x
  d : (x == ("__debug__" : Str)) = false
  c : (x == ("__classdict__" : Str)) = false
theorem ckVar_ok (O : Ok X C S) {i : Nat} {x : Str} (h : ckVar S i x = true) : VarOk X i x := by
  unfold ckVar at h
  simp only [Bool.and_eq_true, decide_eq_true_eq] at h
  obtain ⟨⟨h1, h2⟩, h3⟩ := h
  exact ⟨by rw [O.N]; exact h1, by rw [O.sc]; exact visB_ok h2, (okNm_ok h3).1, (okNm_ok h3).2⟩
structure StoOk (X : Cx) (i : Nat) (x : Str) : Prop where
  N : X.N[i]? = some x
  l : Loc X.env.scope x
  f : X.fn x = true ∨ X.env.scope.names.lookup x = some .local
theorem ckSto_ok (O : Ok X C S) {i : Nat} {x : Str} (h : ckSto S i x = true) : StoOk X i x := by
  unfold ckSto at h
  simp only [Bool.and_eq_true, decide_eq_true_eq, Bool.or_eq_true] at h
  obtain ⟨⟨h1, h2⟩, h3⟩ := h
  exact ⟨by rw [O.N]; exact h1, by rw [O.sc]; exact locB_ok h2, h3.imp (O.fn x) fun h => by rw [O.sc]; exact isLoc_ok h⟩
structure GlOk (X : Cx) (x : Str) : Prop where
  g : Gl X x
  d : (x == ("__debug__" : Str)) = false
  n : x ≠ "__name__"
theorem ckGl_ok (O : Ok X C S) {x : Str} (h : ckGl S x = true) : GlOk X x := by
  unfold ckGl at h
  simp only [Bool.and_eq_true] at h
  obtain ⟨⟨h1, h2⟩, h3⟩ := h
  refine ⟨?_, (okNm_ok h2).1, fun e => ?_⟩
  · show X.env.scope.names.lookup x = _
    rw [O.sc]; exact isGl_ok h1
  · subst e; revert h3; decide
theorem noStar_ok {e : Expr} (es : List Expr) (env : PySem.Env) (h : noStar e = true) : starEach (e :: es) env = (false, eval e env) :: starEach es env := by
  cases e <;> first | rfl | cases h
theorem noStarG_ok {e : Expr} (es : List Expr) (env : PySem.Env) (h : noStar e = true) : assignEach (e :: es) env = (false, assign e env) :: assignEach es env := by
  cases e <;> first | rfl | cases h
theorem noSlice_ok {e : Expr} (h : noSlice e = true) : PlainIx e := by
  cases e <;> first | exact fun _ _ => rfl | cases h
theorem noMk_ok {e : Expr} {op : CmpOp} (h : noMk e = true) : behindInMarks op e = false := by
  cases e <;> first | rfl | cases h
theorem noMk_fold {e : Expr} {env : PySem.Env} (h : noMk e = true) (x : Value) : foldedSetIterable e env x = pure x := by
  cases e <;> first | rfl | cases h
theorem plainT_ok {e : Expr} {env : PySem.Env} (h : plainT e = true) (whole : Sem Value) : isTrue e env whole = (do let v ← whole; standAt e.pos; holding [v] (truthy v)) := by
  cases e with
  | UnaryOp op _ _ => cases op <;> first | rfl | cases h
  | BoolOp _ _ _ => cases h
  | IfExp _ _ _ _ => cases h
  | Compare _ _ _ _ => cases h
  | _ => rfl
end
end DI
/-! DI, part 3: what the evaluator gives is what the program's text does: expressions. -/
namespace DI
open PySem PySem.Spec L2 RZ DL
section
variable {X : Cx} {C : FT} {S : SC} {B : Hp} {T : List Addr}
theorem ckGs_len {ts : TGs} : ∀ {es : List Expr} (env : PySem.Env), ckGs S ts es = true → (assignEach es env).length = es.length ∧ (assignEach es env).findIdx? (·.1) = none := by
  intro es env h
  induction es generalizing ts with
  | nil => exact ⟨rfl, rfl⟩
  | cons e r ih =>
    cases ts with
    | nil => rw [ckGs] at h; cases h
    | cons t ts =>
      rw [ckGs] at h
      simp only [Bool.and_eq_true] at h
      obtain ⟨⟨h1, h2⟩, h3⟩ := h
      rw [noStarG_ok r env h1]
      obtain ⟨i1, i2⟩ := ih h3
      exact ⟨congrArg (· + 1) i1, by rw [List.findIdx?_cons]; simp only [Bool.false_eq_true, if_false, i2]; rfl⟩
theorem evGs_len : ∀ {ts : TGs} {ds : List D} {es : List Expr} {ρ ρ' : List Sl}, ckGs S ts es = true → evGs ts ds ρ = some ρ' → es.length = ds.length
  | .nil, [], [], _, _, _, _ => rfl
  | .nil, [], _ :: _, _, _, h, _ => by rw [ckGs] at h; cases h
  | .nil, _ :: _, _, _, _, _, e => by unfold evGs at e; cases e
  | .cons t ts, [], _, _, _, _, e => by unfold evGs at e; cases e
  | .cons t ts, d :: ds, [], _, _, h, _ => by rw [ckGs] at h; cases h
  | .cons t ts, d :: ds, x :: xs, _, _, h, e => by
    rw [ckGs] at h
    rw [evGs] at e
    simp only [Bool.and_eq_true] at h
    obtain ⟨ρ1, _, e2⟩ := Option.bind_eq_some_iff.mp e
    exact congrArg (· + 1) (evGs_len h.2 e2)
theorem evOs_len : ∀ {ts : TGs} {ds : List D} {es : List Expr} {ρ ρ' : List Sl}, ckGs S ts es = true → evOs ts ds ρ = some ρ' → es.length = ds.length
  | .nil, [], [], _, _, _, _ => rfl
  | .nil, [], _ :: _, _, _, h, _ => by rw [ckGs] at h; cases h
  | .nil, _ :: _, _, _, _, _, e => by unfold evOs at e; cases e
  | .cons t ts, [], _, _, _, _, e => by unfold evOs at e; cases e
  | .cons t ts, d :: ds, [], _, _, h, _ => by rw [ckGs] at h; cases h
  | .cons t ts, d :: ds, x :: xs, _, _, h, e => by
    rw [ckGs] at h
    rw [evOs] at e
    simp only [Bool.and_eq_true] at h
    obtain ⟨ρ1, _, e2⟩ := Option.bind_eq_some_iff.mp e
    exact congrArg (· + 1) (evOs_len h.2 e2)
mutual
theorem sndG (O : Ok X C S) {ws : List Nat} : ∀ {tg : TG} {e : Expr} {d : D} {ρ ρ' : List Sl} {Ψ : List Sl → Prop}, ckG S tg e = true → (∀ i ∈ tg.ws, i ∈ ws) → evG tg d ρ = some ρ' → Ψ ρ' → GT X B T ws ρ e d Ψ
  | .nm i, e, d, ρ, ρ', Ψ, h, hw, ev, k => by
    unfold ckG at h
    split at h
    · have st := ckSto_ok O h
      rw [evG] at ev
      cases ev
      exact g_name i O.nd k (hw i (by rw [TG.ws]; exact List.mem_cons_self)) st.N st.l st.f
    · cases h
  | .tup ts, e, d, ρ, ρ', Ψ, h, hw, ev, k => by
    unfold ckG at h
    split at h
    · cases d with
      | tuple ds =>
        rw [evG] at ev
        have l := ckGs_len X.env h
        exact g_tup (sndGs O h (fun i hi => hw i (by rw [TG.ws]; exact hi)) ev k) O.calm (by rw [l.1]; exact evGs_len h ev) l.2
      | _ => unfold evG at ev; cases ev
    · cases h
theorem sndGs (O : Ok X C S) {ws : List Nat} : ∀ {tg : TGs} {es : List Expr} {ds : List D} {ρ ρ' : List Sl} {Ψ : List Sl → Prop}, ckGs S tg es = true → (∀ i ∈ tg.ws, i ∈ ws) → evGs tg ds ρ = some ρ' → Ψ ρ' → GTs X B T ws ρ es ds Ψ
  | .nil, [], [], ρ, ρ', Ψ, h, hw, ev, k => by
    unfold evGs at ev; cases ev; exact gs_nil k
  | .nil, _ :: _, _, _, _, _, h, _, _, _ => by rw [ckGs] at h; cases h
  | .nil, [], _ :: _, _, _, _, _, _, ev, _ => by unfold evGs at ev; cases ev
  | .cons t ts, [], _, _, _, _, h, _, _, _ => by rw [ckGs] at h; cases h
  | .cons t ts, _ :: _, [], _, _, _, h, _, ev, _ => by unfold evGs at ev; cases ev
  | .cons t ts, e :: es, d :: ds, ρ, ρ', Ψ, h, hw, ev, k => by
    rw [ckGs] at h
    simp only [Bool.and_eq_true] at h
    obtain ⟨⟨h1, h2⟩, h3⟩ := h
    rw [evGs] at ev
    obtain ⟨ρ1, e1, e2⟩ := Option.bind_eq_some_iff.mp ev
    exact gs_cons (sndG O h2 (fun i hi => hw i (by rw [TGs.ws]; exact List.mem_append_left _ hi)) e1 (sndGs O h3 (fun i hi => hw i (by rw [TGs.ws]; exact List.mem_append_right _ hi)) e2 k)) (by rw [noStarG_ok es X.env h1]; rfl)
end
mutual
theorem sndO (O : Ok X C S) : ∀ {tg : TG} {e : Expr} {d : D} {ρ ρ' : List Sl} {Ψ : List Sl → Prop}, ckG S tg e = true → evO tg d ρ = some ρ' → Ψ ρ' → GO X B T ρ e d Ψ
  | .nm i, e, d, ρ, ρ', Ψ, h, ev, k => by
    unfold ckG at h
    split at h
    · have st := ckSto_ok O h
      rw [evO] at ev
      cases ev
      exact go_name i O.nd k st.N st.l st.f
    · cases h
  | .tup ts, e, d, ρ, ρ', Ψ, h, ev, k => by
    unfold ckG at h
    split at h
    · cases d with
      | tuple ds =>
        rw [evO] at ev
        have l := ckGs_len X.env h
        exact go_tup (sndOs O h ev k) O.calm (by rw [l.1]; exact evOs_len h ev) l.2
      | _ => unfold evO at ev; cases ev
    · cases h
theorem sndOs (O : Ok X C S) : ∀ {tg : TGs} {es : List Expr} {ds : List D} {ρ ρ' : List Sl} {Ψ : List Sl → Prop}, ckGs S tg es = true → evOs tg ds ρ = some ρ' → Ψ ρ' → GOs X B T ρ es ds Ψ
  | .nil, [], [], ρ, ρ', Ψ, h, ev, k => by
    unfold evOs at ev; cases ev; exact gos_nil k
  | .nil, _ :: _, _, _, _, _, h, _, _ => by rw [ckGs] at h; cases h
  | .nil, [], _ :: _, _, _, _, _, ev, _ => by unfold evOs at ev; cases ev
  | .cons t ts, [], _, _, _, _, h, _, _ => by rw [ckGs] at h; cases h
  | .cons t ts, _ :: _, [], _, _, _, h, ev, _ => by unfold evOs at ev; cases ev
  | .cons t ts, e :: es, d :: ds, ρ, ρ', Ψ, h, ev, k => by
    rw [ckGs] at h
    simp only [Bool.and_eq_true] at h
    obtain ⟨⟨h1, h2⟩, h3⟩ := h
    rw [evOs] at ev
    obtain ⟨ρ1, e1, e2⟩ := Option.bind_eq_some_iff.mp ev
    exact gos_cons (sndO O h2 e1 (sndOs O h3 e2 k)) (by rw [noStarG_ok es X.env h1]; rfl)
end
end
end DI
/-! DI, part 4: operators and builtins. -/
namespace DI
open PySem PySem.Spec L2 RZ DL
theorem guardO_some {β : Type} {c : Bool} {x : Option β} {y : β} (h : guardO c x = some y) : c = true ∧ x = some y := by
  cases c with
  | true => exact ⟨rfl, h⟩
  | false => cases h
section
variable {X : Cx} {C : FT} {S : SC} {K : FK} {B : Hp} {T : List Addr} {k : D → Bool → Prop}
def rO2 (K : FK) : O2 → R2
  | .add => rAddU K
  | .sub => rI0 fun i j => .int (i - j)
  | .mul => rMulU K
  | .fdiv => rI CDiv fun i j => .int (i / j)
  | .mod => rI (fun _ j => 0 < j) fun i j => .int (i % j)
theorem o2_op : ∀ o : O2, OpR X (binaryOp o.op) (rO2 X.K o)
  | .add => op_addU
  | .sub => op_sub
  | .mul => op_mulU
  | .fdiv => op_fdiv
  | .mod => op_mod
theorem o2_ok {o : O2} {x y z : D} (h : op2D o x y = some z) (hk : k z true) : Op2 K B T (rO2 K o) x y k := by
  unfold op2D at h
  split at h
  · cases h; exact add_int hk
  · obtain ⟨h1, h2⟩ := guardO_some h
    cases h2
    simp only [Bool.and_eq_true, decide_eq_true_eq] at h1
    exact add_tup h1.1.1 h1.1.2 (small h1.2) hk
  · obtain ⟨h1, h2⟩ := guardO_some h
    cases h2
    simp only [Bool.and_eq_true, decide_eq_true_eq] at h1
    exact add_lst h1.1.1 h1.1.2 (small h1.2) hk
  · cases h; exact DL.sub_int hk
  · obtain ⟨h1, h2⟩ := guardO_some h
    cases h2
    simp only [Bool.or_eq_true, decide_eq_true_eq] at h1
    exact DL.mul_int (h1.imp (fun h => ⟨by have := h.1; show -(2 ^ 64) < _; omega, by have := h.2; show _ < (2 : Int) ^ 64; omega⟩) (fun h => ⟨by have := h.1; show -(2 ^ 64) < _; omega, by have := h.2; show _ < (2 : Int) ^ 64; omega⟩)) hk
  · obtain ⟨h1, h2⟩ := guardO_some h
    cases h2
    simp only [Bool.and_eq_true, decide_eq_true_eq] at h1
    exact mul_rep h1.1.1 ⟨by have := h1.1.2.1; show -(2 ^ 63) ≤ _; omega, by have := h1.1.2.2; show _ < (2 : Int) ^ 63; omega⟩ (small h1.2) hk
  · obtain ⟨h1, h2⟩ := guardO_some h
    cases h2
    have h1 := of_decide_eq_true h1
    exact op2_I (C := CDiv) (g := fun i j => i / j) h1 hk
  · obtain ⟨h1, h2⟩ := guardO_some h
    cases h2
    exact op2_I (C := fun _ j => 0 < j) (g := fun i j => i % j) (of_decide_eq_true h1) hk
  · cases h
def rOC (K : FK) : OC → R2
  | .lt => rI0 fun i j => .bl (decide (i < j))
  | .le => rI0 fun i j => .bl (decide (i ≤ j))
  | .gt => rI0 fun i j => .bl (decide (j < i))
  | .ge => rI0 fun i j => .bl (decide (j ≤ i))
  | .eq => rEqD K
  | .ne => rNeD K
  | .is => rIsU
  | .isn => rNotU
  | .isin => DL.rInS K false
  | .notin => DL.rInS K true
theorem oc_op (hu : X.A.units + 65 < cLine) : ∀ o : OC, OpR X (compareOp o.op) (rOC X.K o)
  | .lt => op_lt
  | .le => op_le
  | .gt => op_gt
  | .ge => op_ge
  | .eq => op_eqD (by omega)
  | .ne => op_neD (by omega)
  | .is => op_isU
  | .isn => op_notU
  | .isin => DL.op_inS hu
  | .notin => DL.op_notInS hu
theorem oc_ok {o : OC} {x y : D} {c : Bool} (h : cmpD o x y = some c) (hk : k (.bool c) true) : Op2 K B T (rOC K o) x y k := by
  unfold cmpD at h
  split at h
  · cases h; exact op2_B0 hk
  · cases h; exact op2_B0 hk
  · cases h; exact op2_B0 (g := fun i j => decide (j < i)) hk
  · cases h; exact op2_B0 (g := fun i j => decide (j ≤ i)) hk
  · obtain ⟨h1, h2⟩ := guardO_some h
    cases h2
    simp only [Bool.and_eq_true] at h1
    exact eq_D h1.1 h1.2 hk
  · obtain ⟨h1, h2⟩ := guardO_some h
    cases h2
    simp only [Bool.and_eq_true] at h1
    exact ne_D h1.1 h1.2 hk
  · cases h; exact isU_non hk
  · cases h; exact isU_bl hk
  · cases h; exact notU_non hk
  · cases h; exact notU_bl hk
  · obtain ⟨h1, h2⟩ := guardO_some h
    cases h2
    simp only [Bool.and_eq_true] at h1
    exact inS_lst h1.1 h1.2 hk
  · obtain ⟨h1, h2⟩ := guardO_some h
    cases h2
    simp only [Bool.and_eq_true] at h1
    exact inS_tup h1.1 h1.2 hk
  · obtain ⟨h1, h2⟩ := guardO_some h
    cases h2
    simp only [Bool.and_eq_true] at h1
    exact inS_lst (neg := true) h1.1 h1.2 hk
  · obtain ⟨h1, h2⟩ := guardO_some h
    cases h2
    simp only [Bool.and_eq_true] at h1
    exact inS_tup (neg := true) h1.1 h1.2 hk
  · cases h
theorem ix_ok {x y z : D} (h : ixD x y = some z) (hk : k z (imm z)) : Op2 K B T (rIx K) x y k := by
  unfold ixD at h
  split at h
  · exact ix_lst h hk
  · exact ix_tpl h hk
  · cases h
theorem intsD_ok : ∀ {ds : List D} {ns : List Int}, intsD ds = some ns → ds = ns.map .int
  | [], _, h => by cases h; rfl
  | .int i :: r, ns, h => by
    unfold intsD at h
    obtain ⟨m, h1, rfl⟩ := Option.map_eq_some_iff.mp h
    rw [intsD_ok h1]; rfl
  | .none :: _, _, h => by cases h
  | .bool _ :: _, _, h => by cases h
  | .str _ :: _, _, h => by cases h
  | .tuple _ :: _, _, h => by cases h
  | .list _ :: _, _, h => by cases h
  | .dict _ :: _, _, h => by cases h
theorem boolsD_ok : ∀ {ds : List D} {ns : List Bool}, boolsD ds = some ns → ds = ns.map .bool
  | [], _, h => by cases h; rfl
  | .bool i :: r, ns, h => by
    unfold boolsD at h
    obtain ⟨m, h1, rfl⟩ := Option.map_eq_some_iff.mp h
    rw [boolsD_ok h1]; rfl
  | .none :: _, _, h => by cases h
  | .int _ :: _, _, h => by cases h
  | .str _ :: _, _, h => by cases h
  | .tuple _ :: _, _, h => by cases h
  | .list _ :: _, _, h => by cases h
  | .dict _ :: _, _, h => by cases h
theorem intsD_map (ns : List Int) : intsD (ns.map .int) = some ns := by
  induction ns with
  | nil => rfl
  | cons n r ih => show (intsD (r.map .int)).map (n :: ·) = _; rw [ih]; rfl
theorem boolsD_map (ns : List Bool) : boolsD (ns.map .bool) = some ns := by
  induction ns with
  | nil => rfl
  | cons n r ih => show (boolsD (r.map .bool)).map (n :: ·) = _; rw [ih]; rfl
theorem pairsD_ok : ∀ {ds : List D} {ps : List IP}, pairsD ds = some ps → ds = ps.map eIP
  | [], _, h => by cases h; rfl
  | d :: r, ns, h => by
    unfold pairsD at h
    split at h
    · rename_i e; cases e
    · rename_i e
      cases e
      obtain ⟨m, h1, rfl⟩ := Option.map_eq_some_iff.mp h
      rw [pairsD_ok h1]; rfl
    · cases h
theorem pairsD_map (ps : List IP) : pairsD (ps.map eIP) = some ps := by
  induction ps with
  | nil => rfl
  | cons n r ih => show (pairsD (r.map eIP)).map ((n.1, n.2) :: ·) = _; rw [ih]; rfl
theorem maxL_ok : ∀ {ns : List Int}, 0 < ns.length → maxL ns ∈ ns ∧ ∀ y ∈ ns, y ≤ maxL ns
  | [], h => by cases h
  | [x], _ => ⟨List.mem_cons_self, fun y hy => by simp at hy; rw [hy]; exact Int.le_refl _⟩
  | x :: y :: r, _ => by
    obtain ⟨h1, h2⟩ := maxL_ok (ns := y :: r) (Nat.succ_pos _)
    unfold maxL
    refine ⟨?_, fun z hz => ?_⟩
    · rcases Int.le_total x (maxL (y :: r)) with e | e
      · rw [Int.max_eq_right e]; exact List.mem_cons_of_mem _ h1
      · rw [Int.max_eq_left e]; exact List.mem_cons_self
    · rcases List.mem_cons.mp hz with rfl | hz
      · exact Int.le_max_left _ _
      · exact Int.le_trans (h2 z hz) (Int.le_max_right _ _)
theorem minL_ok : ∀ {ns : List Int}, 0 < ns.length → minL ns ∈ ns ∧ ∀ y ∈ ns, minL ns ≤ y
  | [], h => by cases h
  | [x], _ => ⟨List.mem_cons_self, fun y hy => by simp at hy; rw [hy]; exact Int.le_refl _⟩
  | x :: y :: r, _ => by
    obtain ⟨h1, h2⟩ := minL_ok (ns := y :: r) (Nat.succ_pos _)
    unfold minL
    refine ⟨?_, fun z hz => ?_⟩
    · rcases Int.le_total x (minL (y :: r)) with e | e
      · rw [Int.min_eq_left e]; exact List.mem_cons_self
      · rw [Int.min_eq_right e]; exact List.mem_cons_of_mem _ h1
    · rcases List.mem_cons.mp hz with rfl | hz
      · exact Int.min_le_left _ _
      · exact Int.le_trans (Int.min_le_right _ _) (h2 z hz)
theorem mem_anti {ns : List Int} {m m' : Int} (h1 : m ∈ ns) (h2 : ∀ y ∈ ns, y ≤ m) (h3 : m' ∈ ns) (h4 : ∀ y ∈ ns, y ≤ m') : m' = m := Int.le_antisymm (h2 _ h3) (h4 _ h1)
theorem mem_antiM {ns : List Int} {m m' : Int} (h1 : m ∈ ns) (h2 : ∀ y ∈ ns, m ≤ y) (h3 : m' ∈ ns) (h4 : ∀ y ∈ ns, m' ≤ y) : m' = m := Int.le_antisymm (h4 _ h1) (h2 _ h3)
variable {e : Expr} {es : List Expr} {x : Str} {p pos : Pos} {ρ : List Sl} {τ : D} {Ψ : D → D → Bool → Prop}
theorem bi_ok (O : Ok X C S) {b : Bi} (G : GlOk X b.nm) (hs : ∀ es', starEach (e :: es') X.env = (false, eval e X.env) :: starEach es' X.env) (hpl : (backTo pos (starEach es X.env)).any (·.1) = false)
    (h : AT X B T ρ τ (e :: es) fun τ1 ds _ => ∃ z, biD b ds = some z ∧ Ψ τ1 z true) : ET X B T ρ τ (.Call (.Name b.nm p) (e :: es) [] pos) Ψ := by
  have wk : ∀ {Φ Φ' : D → List D → List Bool → Prop}, AT X B T ρ τ (e :: es) Φ → (∀ t ds os, Φ t ds os → Φ' t ds os) → AT X B T ρ τ (e :: es) Φ' := fun h k σ H fps E =>
    (h σ H fps E).imp fun vs H' ⟨t, ds, os, hp, r⟩ => ⟨t, ds, os, k _ _ _ hp, r⟩
  cases b with
  | len =>
    refine e_callB call_len_seq (O.bi .len) boot_len (wk h fun t ds _ ⟨z, hz, hk⟩ => ?_) G.g G.n G.d (hs _) hpl
    unfold biD at hz; split at hz <;> first | (cases hz; done) | (cases hz; exact cl_len_lst hk) | (cases hz; exact cl_len_tup hk) | skip
    all_goals contradiction
  | all =>
    refine e_callB (cr_all O.calm) (O.bi .all) PyProof.Rows.boot_all (wk h fun t ds _ ⟨z, hz, hk⟩ => ?_) G.g G.n G.d (hs _) hpl
    unfold biD at hz; split at hz <;> first | contradiction | skip
    obtain ⟨bs, h1, rfl⟩ := Option.map_eq_some_iff.mp hz
    rw [boolsD_ok h1]; exact cl_all hk
  | any =>
    refine e_callB (cr_any O.calm) (O.bi .any) PyProof.Rows.boot_any (wk h fun t ds _ ⟨z, hz, hk⟩ => ?_) G.g G.n G.d (hs _) hpl
    unfold biD at hz; split at hz <;> first | contradiction | skip
    obtain ⟨bs, h1, rfl⟩ := Option.map_eq_some_iff.mp hz
    rw [boolsD_ok h1]; exact cl_any hk
  | sum =>
    refine e_callB (cr_sum O.calm) (O.bi .sum) PyProof.Rows.boot_sum (wk h fun t ds _ ⟨z, hz, hk⟩ => ?_) G.g G.n G.d (hs _) hpl
    unfold biD at hz; split at hz <;> first | contradiction | skip
    obtain ⟨bs, h1, rfl⟩ := Option.map_eq_some_iff.mp hz
    rw [intsD_ok h1]; exact cl_sum hk
  | max1 =>
    refine e_callB (cr_maxU O.calm) (O.bi .max1) PyProof.Rows.boot_max (wk h fun t ds _ ⟨z, hz, hk⟩ => ?_) G.g G.n G.d (hs _) hpl
    unfold biD at hz; split at hz <;> first | contradiction | skip
    · obtain ⟨h0, hz⟩ := guardO_some hz
      obtain ⟨bs, h1, rfl⟩ := Option.map_eq_some_iff.mp hz
      rw [intsD_ok h1] at h0 ⊢
      have hl : 0 < bs.length := by cases bs with | nil => cases h0 | cons _ _ => exact Nat.succ_pos _
      exact cl_maxU hl fun m hm1 hm2 => by rw [mem_anti (maxL_ok hl).1 (maxL_ok hl).2 hm1 hm2]; exact hk
    · obtain ⟨h0, hz⟩ := guardO_some hz
      obtain ⟨bs, h1, rfl⟩ := Option.map_eq_some_iff.mp hz
      rw [intsD_ok h1] at h0 ⊢
      have hl : 0 < bs.length := by cases bs with | nil => cases h0 | cons _ _ => exact Nat.succ_pos _
      exact cl_maxT hl fun m hm1 hm2 => by rw [mem_anti (maxL_ok hl).1 (maxL_ok hl).2 hm1 hm2]; exact hk
  | min1 =>
    refine e_callB (cr_minU O.calm) (O.bi .min1) PyProof.Rows.boot_min (wk h fun t ds _ ⟨z, hz, hk⟩ => ?_) G.g G.n G.d (hs _) hpl
    unfold biD at hz; split at hz <;> first | contradiction | skip
    · obtain ⟨h0, hz⟩ := guardO_some hz
      obtain ⟨bs, h1, rfl⟩ := Option.map_eq_some_iff.mp hz
      rw [intsD_ok h1] at h0 ⊢
      have hl : 0 < bs.length := by cases bs with | nil => cases h0 | cons _ _ => exact Nat.succ_pos _
      exact cl_minU hl fun m hm1 hm2 => by rw [mem_antiM (minL_ok hl).1 (minL_ok hl).2 hm1 hm2]; exact hk
    · obtain ⟨h0, hz⟩ := guardO_some hz
      obtain ⟨bs, h1, rfl⟩ := Option.map_eq_some_iff.mp hz
      rw [intsD_ok h1] at h0 ⊢
      have hl : 0 < bs.length := by cases bs with | nil => cases h0 | cons _ _ => exact Nat.succ_pos _
      exact cl_minT hl fun m hm1 hm2 => by rw [mem_antiM (minL_ok hl).1 (minL_ok hl).2 hm1 hm2]; exact hk
  | max2 =>
    refine e_callB (call_max2 O.calm) (O.bi .max2) PyProof.Rows.boot_max (wk h fun t ds _ ⟨z, hz, hk⟩ => ?_) G.g G.n G.d (hs _) hpl
    unfold biD at hz; split at hz <;> first | contradiction | (cases hz; exact cl_max2 hk)
  | min2 =>
    refine e_callB (call_min2 O.calm) (O.bi .min2) PyProof.Rows.boot_min (wk h fun t ds _ ⟨z, hz, hk⟩ => ?_) G.g G.n G.d (hs _) hpl
    unfold biD at hz; split at hz <;> first | contradiction | (cases hz; exact cl_min2 hk)
  | abs =>
    refine e_callB call_abs (O.bi .abs) PyProof.Rows.boot_abs (wk h fun t ds _ ⟨z, hz, hk⟩ => ?_) G.g G.n G.d (hs _) hpl
    unfold biD at hz; split at hz <;> first | contradiction | (cases hz; exact cl_abs hk)
  | int =>
    refine e_callTy call_int1 (O.bi .int) PyProof.Rows.boot_int (wk h fun t ds _ ⟨z, hz, hk⟩ => ?_) G.g G.n G.d (hs _) hpl
    unfold biD at hz; split at hz <;> first | contradiction | (cases hz; exact cl_int hk)
  | tuple =>
    refine e_callTy call_tuple_of (O.bi .tuple) PyProof.Rows.boot_tuple (wk h fun t ds _ ⟨z, hz, hk⟩ => ?_) G.g G.n G.d (hs _) hpl
    unfold biD at hz; split at hz <;> first | contradiction | skip
    · obtain ⟨h1, h2⟩ := guardO_some hz; cases h2; exact cl_tuple_lst h1 hk
    · obtain ⟨h1, h2⟩ := guardO_some hz; cases h2; exact cl_tuple_tup h1 hk
  | list =>
    refine e_callTy call_list_of (O.bi .list) PyProof.Rows.boot_list (wk h fun t ds _ ⟨z, hz, hk⟩ => ?_) G.g G.n G.d (hs _) hpl
    unfold biD at hz; split at hz <;> first | contradiction | skip
    · obtain ⟨h1, h2⟩ := guardO_some hz; cases h2; exact cl_list (.inl rfl) h1 hk
    · obtain ⟨h1, h2⟩ := guardO_some hz; cases h2; exact cl_list (.inr rfl) h1 hk
  | sorted =>
    refine e_callB (cr_sortD O.hu) (O.bi .sorted) PyProof.Rows.boot_sorted (wk h fun t ds _ ⟨z, hz, hk⟩ => ?_) G.g G.n G.d (hs _) hpl
    unfold biD at hz; split at hz <;> first | contradiction | skip
    obtain ⟨h1, h2⟩ := guardO_some hz; cases h2; exact cl_sorted h1 hk
end
end DI
/-! DI, part 5: expressions, tests, comprehensions: the evaluator is sound. -/
namespace DI
open PySem PySem.Spec L2 RZ DL
theorem bE_ok {β : Type} {x : RE} {f : D → D → Bool → Option β} {r : β} (h : bE x f = some r) : ∃ t d o, x = some (t, d, o) ∧ f t d o = some r := by
  cases x with
  | none => cases h
  | some p => exact ⟨p.1, p.2.1, p.2.2, rfl, h⟩
theorem bT_ok {β : Type} {x : Option (D × Bool)} {f : D → Bool → Option β} {r : β} (h : bT x f = some r) : ∃ t o, x = some (t, o) ∧ f t o = some r := by
  cases x with
  | none => cases h
  | some p => exact ⟨p.1, p.2, rfl, h⟩
theorem bO_ok {α β : Type} {x : Option α} {f : α → Option β} {r : β} (h : x.bind f = some r) : ∃ y, x = some y ∧ f y = some r := Option.bind_eq_some_iff.mp h
theorem ckA_pl {S : SC} : ∀ {es : IA} {xs : List Expr} (env : PySem.Env) (pos : Pos), ckA es S xs = true → (backTo pos (starEach xs env)).any (·.1) = false
  | .nil, [], _, _, _ => rfl
  | .nil, _ :: _, _, _, h => by unfold ckA at h; cases h
  | .cons _ _, [], _, _, _ => rfl
  | .cons a r, x :: xs, env, pos, h => by
    unfold ckA at h
    simp only [Bool.and_eq_true] at h
    rw [noStar_ok xs env h.1.1]
    show (false || (backTo pos (starEach xs env)).any (·.1)) = false
    rw [ckA_pl env pos h.2]; rfl
theorem lcL_drop {turn : D → D → Option (D × Option D)} {ds : List D} {i : Nat} {d τ : D} {q : D × List D} (hd : ds[i]? = some d) (h : lcL turn (ds.drop i) τ = some q) :
    ∃ p r, turn d τ = some p ∧ lcL turn (ds.drop (i + 1)) p.1 = some r ∧ q = (r.1, p.2.toList ++ r.2) := by
  have hi : i < ds.length := by
    rcases Nat.lt_or_ge i ds.length with h | h
    · exact h
    · rw [List.getElem?_eq_none h] at hd; cases hd
  rw [List.drop_eq_getElem_cons hi] at h
  rw [List.getElem?_eq_getElem hi] at hd
  cases hd
  unfold lcL at h
  obtain ⟨p, h1, h2⟩ := bO_ok h
  obtain ⟨r, h3, h4⟩ := bO_ok h2
  cases h4
  exact ⟨p, r, h1, h3, rfl⟩
section
variable {B : Hp} {T : List Addr}
theorem TW.imp {X : Cx} {ρ : List Sl} {τ : D} {e : Expr} {Ψ Ψ' : D → Bool → Prop} (h : TW X B T ρ τ e Ψ) (k : ∀ t b, Ψ t b → Ψ' t b) : TW X B T ρ τ e Ψ' := fun σ H fps E => (h σ H fps E).imp fun b H' ⟨t, hp, r⟩ => ⟨t, k _ _ hp, r⟩
mutual
theorem sndE : ∀ (ie : IE) {X : Cx} {C : FT} {S : SC} {ρ : List Sl} {τ : D} {e : Expr} {Ψ : D → D → Bool → Prop} {t d : D} {o : Bool}, Ok X C S → ckE ie S e = true → evE C ρ ie τ = some (t, d, o) → Ψ t d o → ET X B T ρ τ e Ψ
  | .var i, X, C, S, ρ, τ, e, Ψ, t, d, o, O, h, ev, k => by
    unfold ckE at h
    split at h
    · have v := ckVar_ok O h
      unfold evE at ev
      split at ev
      · cases ev; exact e_name i (by assumption) k v.N v.v v.d v.c
      · cases ev
    · cases h
  | .int z, X, C, S, ρ, τ, e, Ψ, t, d, o, O, h, ev, k => by
    unfold ckE at h
    split at h
    · rw [decide_eq_true_eq] at h; subst h; unfold evE at ev; cases ev; exact e_int k
    · cases h
  | .bl z, X, C, S, ρ, τ, e, Ψ, t, d, o, O, h, ev, k => by
    unfold ckE at h
    split at h
    · rw [decide_eq_true_eq] at h; subst h; unfold evE at ev; cases ev; exact e_bl k
    · cases h
  | .non, X, C, S, ρ, τ, e, Ψ, t, d, o, O, h, ev, k => by
    unfold ckE at h
    split at h
    · unfold evE at ev; cases ev; exact e_non k
    · cases h
  | .str z, X, C, S, ρ, τ, e, Ψ, t, d, o, O, h, ev, k => by
    unfold ckE at h
    split at h
    · rw [decide_eq_true_eq] at h; subst h; unfold evE at ev; cases ev; exact e_str k
    · cases h
  | .glob x, X, C, S, ρ, τ, e, Ψ, t, d, o, O, h, ev, k => by
    unfold ckE at h
    split at h
    · simp only [Bool.and_eq_true, decide_eq_true_eq] at h
      obtain ⟨h1, h2⟩ := h
      subst h1
      have g := ckGl_ok O h2
      unfold evE at ev
      split at ev
      · cases ev
        obtain ⟨t', hm⟩ := O.gl _ _ (by assumption)
        exact e_globI hm k g.g g.d
      · cases ev
    · cases h
  | .op2 o' a b, X, C, S, ρ, τ, e, Ψ, t, d, o, O, h, ev, k => by
    unfold ckE at h
    split at h
    · simp only [Bool.and_eq_true, decide_eq_true_eq] at h
      obtain ⟨⟨h1, h2⟩, h3⟩ := h
      subst h1
      unfold evE at ev
      obtain ⟨τ1, x, ox, e1, ev⟩ := bE_ok ev
      obtain ⟨τ2, y, oy, e2, ev⟩ := bE_ok ev
      obtain ⟨z, e3, ev⟩ := bO_ok ev
      cases ev
      exact e_op2 (o2_op o') (sndE a O h2 e1 (sndE b O h3 e2 (o2_ok e3 k)))
    · cases h
  | .cmp o' a b, X, C, S, ρ, τ, e, Ψ, t, d, o, O, h, ev, k => by
    unfold ckE at h
    split at h
    · simp only [Bool.and_eq_true, decide_eq_true_eq] at h
      obtain ⟨⟨⟨h1, h4⟩, h2⟩, h3⟩ := h
      subst h1
      unfold evE at ev
      obtain ⟨τ1, x, ox, e1, ev⟩ := bE_ok ev
      obtain ⟨τ2, y, oy, e2, ev⟩ := bE_ok ev
      obtain ⟨z, e3, ev⟩ := bO_ok ev
      cases ev
      exact e_cmp (oc_op O.hu o') (sndE a O h2 e1 (sndE b O h3 e2 (oc_ok e3 k))) (noMk_ok h4)
    · cases h
  | .chain o' p' a b c, X, C, S, ρ, τ, e, Ψ, t, d, o, O, h, ev, k => by
    unfold ckE at h
    split at h
    · simp only [Bool.and_eq_true, decide_eq_true_eq] at h
      obtain ⟨⟨⟨⟨⟨⟨h1, h2⟩, h3⟩, h4⟩, h5⟩, h6⟩, h7⟩ := h
      subst h1; subst h2
      unfold evE at ev
      obtain ⟨τ1, x, ox, e1, ev⟩ := bE_ok ev
      obtain ⟨τ2, y, oy, e2, ev⟩ := bE_ok ev
      obtain ⟨k1, e3, ev⟩ := bO_ok ev
      refine e_chain (oc_op O.hu o') (oc_op O.hu p') (sndE a O h5 e1 (sndE b O h6 e2 (oc_ok e3 (AsB.mk ?_)))) (by unfold lastMarks; exact noMk_ok h3)
      cases k1 with
      | true =>
        rw [if_pos rfl]
        simp only [iteB_true] at ev
        obtain ⟨τ3, z, oz, e4, ev⟩ := bE_ok ev
        obtain ⟨k2, e5, ev⟩ := bO_ok ev
        cases ev
        exact sndE c O h7 e4 (oc_ok e5 k)
      | false =>
        rw [if_neg Bool.false_ne_true]
        simp only [iteB_false] at ev
        cases ev
        exact k
    · cases h
  | .ix a b, X, C, S, ρ, τ, e, Ψ, t, d, o, O, h, ev, k => by
    unfold ckE at h
    split at h
    · simp only [Bool.and_eq_true, decide_eq_true_eq] at h
      obtain ⟨⟨h1, h2⟩, h3⟩ := h
      unfold evE at ev
      obtain ⟨τ1, x, ox, e1, ev⟩ := bE_ok ev
      obtain ⟨τ2, y, oy, e2, ev⟩ := bE_ok ev
      obtain ⟨z, e3, ev⟩ := bO_ok ev
      cases ev
      exact e_ix ix_seq (sndE a O h2 e1 (sndE b O h3 e2 (ix_ok e3 k))) (noSlice_ok h1)
    · cases h
  | .neg a, X, C, S, ρ, τ, e, Ψ, t, d, o, O, h, ev, k => by
    unfold ckE at h
    split at h
    · unfold evE at ev
      obtain ⟨τ1, x, ox, e1, ev⟩ := bE_ok ev
      split at ev
      · cases ev; exact e_op1 un_neg (sndE a O h e1 (op1_U k))
      · cases ev
    · cases h
  | .not a, X, C, S, ρ, τ, e, Ψ, t, d, o, O, h, ev, k => by
    unfold ckE at h
    split at h
    · unfold evE at ev
      obtain ⟨τ1, x, ox, e1, ev⟩ := bE_ok ev
      split at ev
      · cases ev; exact e_not (sndE a O h e1 (AsB.mk k))
      · cases ev
    · cases h
  | .and es, X, C, S, ρ, τ, e, Ψ, t, d, o, O, h, ev, k => by
    unfold ckE at h
    split at h
    · unfold evE at ev; exact sndAnd es O h ev k
    · cases h
  | .or es, X, C, S, ρ, τ, e, Ψ, t, d, o, O, h, ev, k => by
    unfold ckE at h
    split at h
    · unfold evE at ev; exact sndOr es O h ev k
    · cases h
  | .ife c a b, X, C, S, ρ, τ, e, Ψ, t, d, o, O, h, ev, k => by
    unfold ckE at h
    split at h
    · simp only [Bool.and_eq_true, decide_eq_true_eq] at h
      obtain ⟨⟨h1, h2⟩, h3⟩ := h
      unfold evE at ev
      obtain ⟨τ1, k1, e1, ev⟩ := bT_ok ev
      refine e_if (sndT c O h1 e1 ?_)
      cases k1 with
      | true => rw [if_pos rfl]; exact sndE a O h2 ev k
      | false => rw [if_neg Bool.false_ne_true]; exact sndE b O h3 ev k
    · cases h
  | .tup es, X, C, S, ρ, τ, e, Ψ, t, d, o, O, h, ev, k => by
    unfold ckE at h
    split at h
    · unfold evE at ev
      obtain ⟨⟨t1, ds, os⟩, e1, ev⟩ := bO_ok ev
      obtain ⟨g, ev⟩ := guardO_some ev
      cases ev
      simp only [Bool.and_eq_true, decide_eq_true_eq] at g
      exact e_tup (sndA es O h e1 ⟨g.1, small g.2, k⟩)
    · cases h
  | .lst es, X, C, S, ρ, τ, e, Ψ, t, d, o, O, h, ev, k => by
    unfold ckE at h
    split at h
    · unfold evE at ev
      obtain ⟨⟨t1, ds, os⟩, e1, ev⟩ := bO_ok ev
      obtain ⟨g, ev⟩ := guardO_some ev
      cases ev
      simp only [Bool.and_eq_true, decide_eq_true_eq] at g
      exact e_lst (sndA es O h e1 ⟨g.1, small g.2, k⟩)
    · cases h
  | .call f es, X, C, S, ρ, τ, e, Ψ, t, d, o, O, h, ev, k => by
    unfold ckE at h
    split at h
    · simp only [Bool.and_eq_true, decide_eq_true_eq] at h
      rename_i x0 p0 xs pos0
      obtain ⟨⟨⟨h1, h2⟩, h3⟩, h4⟩ := h
      subst h1
      have g := ckGl_ok O h2
      unfold evE at ev
      split at ev
      · rename_i gg hg
        obtain ⟨⟨t1, ds, os⟩, e1, ev⟩ := bO_ok ev
        obtain ⟨z, e2, ev⟩ := bO_ok ev
        cases ev
        obtain ⟨kk, ps, F, R⟩ := O.fs _ _ hg
        cases xs with
        | nil => cases h3
        | cons x xs =>
          have h5 : noStar x = true ∧ ∃ es', ckA es' S xs = true := by
            cases es with
            | nil => unfold ckA at h4; cases h4
            | cons a r => unfold ckA at h4; simp only [Bool.and_eq_true] at h4; exact ⟨h4.1.1, r, h4.2⟩
          obtain ⟨h5, es', h6⟩ := h5
          exact e_call F R (sndA es O h4 e1 ⟨_, e2, k⟩) rfl g.g g.d (noStar_ok xs X.env h5) (ckA_pl X.env _ h6)
      · cases ev
    · cases h
  | .callT f tt es, X, C, S, ρ, τ, e, Ψ, t, d, o, O, h, ev, k => by
    unfold ckE at h
    split at h
    · simp only [Bool.and_eq_true, decide_eq_true_eq] at h
      obtain ⟨⟨⟨h1, h2⟩, h3⟩, h4⟩ := h
      subst h1
      have g := ckGl_ok O h2
      have v := ckVar_ok O h3
      unfold evE at ev
      split at ev
      · rename_i gg hg ht
        obtain ⟨⟨t1, ds, os⟩, e1, ev⟩ := bO_ok ev
        obtain ⟨z, e2, ev⟩ := bO_ok ev
        cases ev
        obtain ⟨kk, ps, F, R⟩ := O.ft _ _ hg
        exact e_callT tt F R ht (sndA es O h4 e1 ⟨z, e2, k⟩) rfl v.N v.v v.d v.c g.g g.d rfl (ckA_pl X.env _ h4)
      · cases ev
    · cases h
  | .bi b es, X, C, S, ρ, τ, e, Ψ, t, d, o, O, h, ev, k => by
    unfold ckE at h
    split at h
    · simp only [Bool.and_eq_true, decide_eq_true_eq] at h
      rename_i x0 p0 xs pos0
      obtain ⟨⟨⟨h1, h2⟩, h3⟩, h4⟩ := h
      subst h1
      have g := ckGl_ok O h2
      unfold evE at ev
      obtain ⟨⟨t1, ds, os⟩, e1, ev⟩ := bO_ok ev
      obtain ⟨z, e2, ev⟩ := bO_ok ev
      cases ev
      cases xs with
      | nil => cases h3
      | cons x xs =>
        have h5 : noStar x = true ∧ ∃ es', ckA es' S xs = true := by
          cases es with
          | nil => unfold ckA at h4; cases h4
          | cons a r => unfold ckA at h4; simp only [Bool.and_eq_true] at h4; exact ⟨h4.1.1, r, h4.2⟩
        obtain ⟨h5, es', h6⟩ := h5
        exact bi_ok O g (fun es' => noStar_ok es' X.env h5) (ckA_pl X.env _ h6) (sndA es O h4 e1 ⟨_, e2, k⟩)
    · cases h
  | .sl a lo hi, X, C, S, ρ, τ, e, Ψ, t, d, o, O, h, ev, k => by
    unfold ckE at h
    split at h
    · simp only [Bool.and_eq_true] at h
      obtain ⟨⟨h1, h2⟩, h3⟩ := h
      unfold evE at ev
      obtain ⟨τ1, x, ox, e1, ev⟩ := bE_ok ev
      obtain ⟨⟨τ2, l⟩, e2, ev⟩ := bO_ok ev
      obtain ⟨⟨τ3, u⟩, e3, ev⟩ := bO_ok ev
      refine e_slice sl_U (sndE a O h1 e1 (sndP lo O h2 e2 (sndP hi O h3 e3 ?_)))
      split at ev
      · obtain ⟨g, ev⟩ := guardO_some ev; cases ev; exact sl_lst g k
      · obtain ⟨g, ev⟩ := guardO_some ev; cases ev; exact sl_tpl g k
      · cases ev
    · cases h
  | .lc own elt tg it, X, C, S, ρ, τ, e, Ψ, t, d, o, O, h, ev, k => by
    unfold ckE at h
    split at h
    · rename_i y tgE iter ifs scope pos
      simp only [Bool.and_eq_true] at h
      obtain ⟨⟨⟨⟨⟨h1, h2⟩, h3⟩, h4⟩, h5⟩, h6⟩ := h
      have bok : BlkOk X.N X.env.scope scope own := by rw [O.N, O.sc]; exact blkOk_by h1
      unfold evE at ev
      obtain ⟨⟨τ1, ds, oi⟩, e1, ev⟩ := bO_ok ev
      obtain ⟨g, ev⟩ := guardO_some ev
      obtain ⟨⟨τ2, r⟩, e2, ev⟩ := bO_ok ev
      cases ev
      have hif : ifs.length ≤ 1 := by
        cases elt with
        | el a => unfold ckC at h6; simp only [Bool.and_eq_true, List.isEmpty_iff] at h6; rw [h6.1]; decide
        | ift c a =>
          unfold ckC at h6
          split at h6
          · exact Nat.le_refl _
          · cases h6
      refine e_lc own O.nd bok (sndI it O h3 e1 ⟨small (by simpa using g), fun i τi acc => ∃ q, lcL (fun d t => (evG tg d (wipeL ρ (own.map (·.2)))).bind fun ρ2 => evC C ρ2 elt t) (ds.drop i) τi = some q ∧ (q.1, acc ++ q.2) = (τ2, r), ⟨_, e2, rfl⟩, ?_, ?_⟩) hif O.calm (noMk_fold h2)
      · rintro i di τi acc hd ⟨q, hq, eq⟩
        obtain ⟨p, rr, ht, hl, rfl⟩ := lcL_drop hd hq
        obtain ⟨ρ2, hg, hc⟩ := bO_ok ht
        have ww : ∀ i ∈ tg.ws, i ∈ own.map (·.2) := fun i hi => by
          have := List.all_eq_true.mp h5 i hi
          simpa using this
        have fin : (fun τ4 (y : Option D) => ∃ q, lcL (fun d t => (evG tg d (wipeL ρ (own.map (·.2)))).bind fun ρ2 => evC C ρ2 elt t) (ds.drop (i + 1)) τ4 = some q ∧ (q.1, (acc ++ y.toList) ++ q.2) = (τ2, r)) p.1 p.2 := ⟨rr, hl, by rw [List.append_assoc]; exact eq⟩
        cases elt with
        | el a =>
          unfold ckC at h6
          simp only [Bool.and_eq_true, List.isEmpty_iff] at h6
          obtain ⟨e6, h6⟩ := h6
          subst e6
          unfold evC at hc
          obtain ⟨t4, yd, yo, ey, hc⟩ := bE_ok hc
          obtain ⟨go, hc⟩ := guardO_some hc
          subst go
          cases hc
          exact turn0 fun s H0 Cc cl fp => sndG (O.blk scope bok.kind s H0 Cc cl fp) h4 ww hg fun s H0 Cc cl fp => sndE a (O.blk scope bok.kind s H0 Cc cl fp) h6 ey ⟨rfl, fin⟩
        | ift c a =>
          unfold ckC at h6
          split at h6
          · simp only [Bool.and_eq_true] at h6
            obtain ⟨h6, h7⟩ := h6
            unfold evC at hc
            obtain ⟨t3, kb, ec, hc⟩ := bT_ok hc
            refine turn1 fun s H0 Cc cl fp => sndG (O.blk scope bok.kind s H0 Cc cl fp) h4 ww hg fun s H0 Cc cl fp => sndT c (O.blk scope bok.kind s H0 Cc cl fp) h6 ec ?_
            cases kb with
            | true =>
              rw [if_pos rfl]
              simp only [iteB_true] at hc
              obtain ⟨t4, yd, yo, ey, hc⟩ := bE_ok hc
              obtain ⟨go, hc⟩ := guardO_some hc
              subst go
              cases hc
              exact fun s H0 Cc cl fp => sndE a (O.blk scope bok.kind s H0 Cc cl fp) h7 ey ⟨rfl, fin⟩
            | false =>
              rw [if_neg Bool.false_ne_true]
              simp only [iteB_false] at hc
              cases hc
              exact fin
          · cases h6
      · rintro τe acc ⟨q, hq, eq⟩
        rw [List.drop_length] at hq
        unfold lcL at hq
        cases hq
        simp only [List.append_nil, Prod.mk.injEq] at eq
        obtain ⟨rfl, rfl⟩ := eq
        exact k
    · cases h
  | .lrng a, X, C, S, ρ, τ, e, Ψ, t, d, o, O, h, ev, k => by
    unfold ckE at h
    split at h
    · simp only [Bool.and_eq_true, decide_eq_true_eq] at h
      obtain ⟨⟨⟨⟨⟨h1, h2⟩, h3⟩, h4⟩, h5⟩, h6⟩ := h
      subst h1; subst h2
      unfold evE at ev
      obtain ⟨τ1, x, ox, e1, ev⟩ := bE_ok ev
      split at ev
      · obtain ⟨g, ev⟩ := guardO_some ev
        cases ev
        rw [decide_eq_true_eq] at g
        exact e_lrng O.calm (ckGl_ok O h3).g (O.bi .list) (ckGl_ok O h4).g O.rng (noStar_ok _ _ h5) (sndE a O h6 e1 ⟨_, rfl, g.1, g.2, k⟩)
      · cases ev
    · cases h
  | .sset a, X, C, S, ρ, τ, e, Ψ, t, d, o, O, h, ev, k => by
    unfold ckE at h
    split at h
    · simp only [Bool.and_eq_true, decide_eq_true_eq] at h
      obtain ⟨⟨⟨⟨⟨h1, h2⟩, h3⟩, h4⟩, h5⟩, h6⟩ := h
      subst h1; subst h2
      unfold evE at ev
      obtain ⟨τ1, x, ox, e1, ev⟩ := bE_ok ev
      split at ev
      · obtain ⟨ps, e2, ev⟩ := bO_ok ev
        obtain ⟨g, ev⟩ := guardO_some ev
        cases ev
        simp only [Bool.and_eq_true, decide_eq_true_eq, List.all_eq_true] at g
        rw [pairsD_ok e2] at e1
        exact e_sset O.calm O.hu (ckGl_ok O h3).g (O.bi .sorted) (ckGl_ok O h4).g O.set (noStar_ok _ _ h5) (sndE a O h6 e1 ⟨ps, rfl, g.1, g.2, k⟩)
      · cases ev
    · cases h
  | .tget i f, X, C, S, ρ, τ, e, Ψ, t, d, o, O, h, ev, k => by
    unfold ckE at h
    split at h
    · simp only [Bool.and_eq_true, decide_eq_true_eq] at h
      obtain ⟨h1, h2⟩ := h
      subst h1
      have v := ckVar_ok O h2
      unfold evE at ev
      split at ev
      · rename_i hi ht
        cases ev
        have ht := decT_some ht
        subst ht
        exact e_tget f (by have := O.hu; omega) hi k v.N v.v v.d v.c
      · cases ev
    · cases h
  | .tlen i, X, C, S, ρ, τ, e, Ψ, t, d, o, O, h, ev, k => by
    unfold ckE at h
    split at h
    · simp only [Bool.and_eq_true, decide_eq_true_eq] at h
      obtain ⟨⟨⟨h1, h2⟩, h3⟩, h4⟩ := h
      subst h1; subst h2
      have v := ckVar_ok O h4
      unfold evE at ev
      split at ev
      · rename_i hi ht
        cases ev
        have ht := decT_some ht
        subst ht
        exact e_tlen (by have := O.hu; omega) hi k v.N v.v v.d v.c (ckGl_ok O h3).g (O.bi .len)
      · cases ev
    · cases h
  | .tcell i, X, C, S, ρ, τ, e, Ψ, t, d, o, O, h, ev, k => by
    unfold ckE at h
    split at h
    · simp only [Bool.and_eq_true, decide_eq_true_eq] at h
      obtain ⟨⟨⟨h1, h2⟩, h3⟩, h4⟩ := h
      subst h1; subst h2; subst h3
      have v := ckVar_ok O h4
      unfold evE at ev
      split at ev
      · rename_i hi ht
        obtain ⟨n, hn, ev⟩ := bO_ok ev
        cases ev
        have ht := decT_some ht
        subst ht
        exact e_tcell (by have := O.hu; omega) hi hn k v.N v.v v.d v.c
      · cases ev
    · cases h
  | .callS f j, X, C, S, ρ, τ, e, Ψ, t, d, o, O, h, ev, k => by
    unfold ckE at h
    split at h
    · simp only [Bool.and_eq_true, decide_eq_true_eq] at h
      obtain ⟨⟨h1, h2⟩, h3⟩ := h
      subst h1
      have g := ckGl_ok O h2
      have v := ckVar_ok O h3
      unfold evE at ev
      split at ev
      · rename_i gg hg hj
        obtain ⟨z, e2, ev⟩ := bO_ok ev
        cases ev
        obtain ⟨kk, ps, F, R⟩ := O.fc _ _ hg
        exact e_callS j F R hj ⟨_, e2, k⟩ v.N v.v v.d v.c g.g g.d
      · cases ev
    · cases h
theorem sndT : ∀ (ie : IT) {X : Cx} {C : FT} {S : SC} {ρ : List Sl} {τ : D} {e : Expr} {Ψ : D → Bool → Prop} {t : D} {o : Bool}, Ok X C S → ckT ie S e = true → evT C ρ ie τ = some (t, o) → Ψ t o → TT' X B T ρ τ e Ψ
  | .val a, X, C, S, ρ, τ, e, Ψ, t, o, O, h, ev, k => by
    unfold ckT at h
    simp only [Bool.and_eq_true, Bool.or_eq_true] at h
    obtain ⟨h1, h2⟩ := h
    unfold evT at ev
    obtain ⟨τ1, x, ox, e1, ev⟩ := bE_ok ev
    rcases h1 with h1 | h1
    · refine t_truth (sndE a O h2 e1 ?_) (plainT_ok h1)
      split at ev <;> first | (cases ev; exact ⟨_, rfl, (by intro _ z; cases z), k⟩) | cases ev
    · split at h1
      · rename_i l ops cs pos
        cases a with
        | cmp o' a b =>
          unfold ckE at h2
          split at h2
          · rename_i he
            cases he
            simp only [Bool.and_eq_true, decide_eq_true_eq] at h2
            obtain ⟨⟨⟨g1, g4⟩, g2⟩, g3⟩ := h2
            subst g1
            unfold evE at e1
            obtain ⟨τ2, x2, ox2, e2, e1⟩ := bE_ok e1
            obtain ⟨τ3, y, oy, e3, e1⟩ := bE_ok e1
            obtain ⟨z, e4, e1⟩ := bO_ok e1
            cases e1
            cases ev
            exact t_cmp (oc_op O.hu o') (sndE a O g2 e2 (sndE b O g3 e3 (oc_ok e4 (AsB.mk k)))) (noMk_ok g4)
          · cases h2
        | chain o' p' a b c =>
          unfold ckE at h2
          split at h2
          · rename_i he
            cases he
            simp only [Bool.and_eq_true, decide_eq_true_eq] at h2
            obtain ⟨⟨⟨⟨⟨⟨g1, g2⟩, g3⟩, g4⟩, g5⟩, g6⟩, g7⟩ := h2
            subst g1; subst g2
            unfold evE at e1
            obtain ⟨τ2, x2, ox2, e2, e1⟩ := bE_ok e1
            obtain ⟨τ3, y, oy, e3, e1⟩ := bE_ok e1
            obtain ⟨k1, e4, e1⟩ := bO_ok e1
            refine t_chain (oc_op O.hu o') (oc_op O.hu p') (sndE a O g5 e2 (sndE b O g6 e3 (oc_ok e4 (AsB.mk ?_)))) (by unfold lastMarks; exact noMk_ok g3)
            cases k1 with
            | true =>
              rw [if_pos rfl]
              simp only [iteB_true] at e1
              obtain ⟨τ4, z, oz, e5, e1⟩ := bE_ok e1
              obtain ⟨k2, e6, e1⟩ := bO_ok e1
              cases e1
              cases ev
              exact sndE c O g7 e5 (oc_ok e6 (AsB.mk k))
            | false =>
              rw [if_neg Bool.false_ne_true]
              simp only [iteB_false] at e1
              cases e1
              cases ev
              exact k
          · cases h2
        | _ => unfold ckE at h2; cases h2
      · cases h1
  | .not a, X, C, S, ρ, τ, e, Ψ, t, o, O, h, ev, k => by
    unfold ckT at h
    split at h
    · unfold evT at ev
      obtain ⟨τ1, k1, e1, ev⟩ := bT_ok ev
      cases ev
      exact t_not (sndT a O h e1 k)
    · cases h
  | .and es, X, C, S, ρ, τ, e, Ψ, t, o, O, h, ev, k => by
    unfold ckT at h
    split at h
    · unfold evT at ev
      exact t_w (sndLA es O h ev k)
    · cases h
  | .or es, X, C, S, ρ, τ, e, Ψ, t, o, O, h, ev, k => by
    unfold ckT at h
    split at h
    · unfold evT at ev
      exact t_w (sndLO es O h ev k)
    · cases h
theorem sndLA : ∀ (es : IL) {X : Cx} {C : FT} {S : SC} {ρ : List Sl} {τ : D} {xs : List Expr} {pos : Pos} {Ψ : D → Bool → Prop} {t : D} {o : Bool}, Ok X C S → ckL es S xs = true → tsAnd C ρ es τ = some (t, o) → Ψ t o → TW X B T ρ τ (.BoolOp .And xs pos) Ψ
  | .nil, X, C, S, ρ, τ, xs, pos, Ψ, t, o, O, h, ev, k => by unfold tsAnd at ev; cases ev
  | .cons a .nil, X, C, S, ρ, τ, xs, pos, Ψ, t, o, O, h, ev, k => by
    unfold ckL at h
    split at h
    · unfold ckL at h
      simp only [Bool.and_eq_true, List.isEmpty_iff] at h
      rw [h.2]
      unfold tsAnd at ev
      exact w_and1 (sndT a O h.1 ev k)
    · cases h
  | .cons a (.cons b r), X, C, S, ρ, τ, xs, pos, Ψ, t, o, O, h, ev, k => by
    unfold ckL at h
    split at h
    · simp only [Bool.and_eq_true] at h
      obtain ⟨h1, h2⟩ := h
      rename_i x xs
      cases xs with
      | nil => unfold ckL at h2; cases h2
      | cons y ys =>
        unfold tsAnd at ev
        obtain ⟨τ1, k1, e1, ev⟩ := bT_ok ev
        refine w_and (sndT a O h1 e1 ?_)
        cases k1 with
        | true => rw [if_pos rfl]; exact sndLA (.cons b r) O h2 ev k
        | false => rw [if_neg Bool.false_ne_true]; cases ev; exact k
    · cases h
theorem sndLO : ∀ (es : IL) {X : Cx} {C : FT} {S : SC} {ρ : List Sl} {τ : D} {xs : List Expr} {pos : Pos} {Ψ : D → Bool → Prop} {t : D} {o : Bool}, Ok X C S → ckL es S xs = true → tsOr C ρ es τ = some (t, o) → Ψ t o → TW X B T ρ τ (.BoolOp .Or xs pos) Ψ
  | .nil, X, C, S, ρ, τ, xs, pos, Ψ, t, o, O, h, ev, k => by unfold tsOr at ev; cases ev
  | .cons a .nil, X, C, S, ρ, τ, xs, pos, Ψ, t, o, O, h, ev, k => by
    unfold ckL at h
    split at h
    · unfold ckL at h
      simp only [Bool.and_eq_true, List.isEmpty_iff] at h
      rw [h.2]
      unfold tsOr at ev
      exact w_or1 (sndT a O h.1 ev k)
    · cases h
  | .cons a (.cons b r), X, C, S, ρ, τ, xs, pos, Ψ, t, o, O, h, ev, k => by
    unfold ckL at h
    split at h
    · simp only [Bool.and_eq_true] at h
      obtain ⟨h1, h2⟩ := h
      rename_i x xs
      cases xs with
      | nil => unfold ckL at h2; cases h2
      | cons y ys =>
        unfold tsOr at ev
        obtain ⟨τ1, k1, e1, ev⟩ := bT_ok ev
        refine w_or (sndT a O h1 e1 ?_)
        cases k1 with
        | true => rw [if_pos rfl]; cases ev; exact k
        | false => rw [if_neg Bool.false_ne_true]; exact sndLO (.cons b r) O h2 ev k
    · cases h
theorem sndA : ∀ (es : IA) {X : Cx} {C : FT} {S : SC} {ρ : List Sl} {τ : D} {xs : List Expr} {Ψ : D → List D → List Bool → Prop} {t : D} {ds : List D} {os : List Bool}, Ok X C S → ckA es S xs = true → evA C ρ es τ = some (t, ds, os) → Ψ t ds os → AT X B T ρ τ xs Ψ
  | .nil, X, C, S, ρ, τ, xs, Ψ, t, ds, os, O, h, ev, k => by
    unfold ckA at h
    rw [List.isEmpty_iff] at h
    subst h
    unfold evA at ev
    cases ev
    exact a_nil k
  | .cons a r, X, C, S, ρ, τ, xs, Ψ, t, ds, os, O, h, ev, k => by
    unfold ckA at h
    split at h
    · simp only [Bool.and_eq_true] at h
      obtain ⟨⟨h1, h2⟩, h3⟩ := h
      unfold evA at ev
      obtain ⟨τ1, x, ox, e1, ev⟩ := bE_ok ev
      obtain ⟨⟨t1, ds1, os1⟩, e2, ev⟩ := bO_ok ev
      cases ev
      exact a_cons (sndE a O h2 e1 (sndA r O h3 e2 k)) (noStar_ok _ X.env h1)
    · cases h
theorem sndAnd : ∀ (es : IA) {X : Cx} {C : FT} {S : SC} {ρ : List Sl} {τ : D} {xs : List Expr} {pos : Pos} {Ψ : D → D → Bool → Prop} {t d : D} {o : Bool}, Ok X C S → ckA es S xs = true → evAnd C ρ es τ = some (t, d, o) → Ψ t d o → ET X B T ρ τ (.BoolOp .And xs pos) Ψ
  | .nil, X, C, S, ρ, τ, xs, pos, Ψ, t, d, o, O, h, ev, k => by unfold evAnd at ev; cases ev
  | .cons a .nil, X, C, S, ρ, τ, xs, pos, Ψ, t, d, o, O, h, ev, k => by
    unfold ckA at h
    split at h
    · unfold ckA at h
      simp only [Bool.and_eq_true, List.isEmpty_iff] at h
      rw [h.2]
      unfold evAnd at ev
      exact e_and1 (sndE a O h.1.2 ev k)
    · cases h
  | .cons a (.cons b r), X, C, S, ρ, τ, xs, pos, Ψ, t, d, o, O, h, ev, k => by
    unfold ckA at h
    split at h
    · simp only [Bool.and_eq_true] at h
      obtain ⟨⟨h0, h1⟩, h2⟩ := h
      rename_i x xs
      cases xs with
      | nil => unfold ckA at h2; cases h2
      | cons y ys =>
        unfold evAnd at ev
        obtain ⟨τ1, x1, ox1, e1, ev⟩ := bE_ok ev
        split at ev
        · rename_i k1
          refine e_and (sndE a O h1 e1 (AsB.mk ?_))
          cases k1 with
          | true => rw [if_pos rfl]; exact sndAnd (.cons b r) O h2 ev k
          | false => rw [if_neg Bool.false_ne_true]; cases ev; exact k
        · cases ev
    · cases h
theorem sndOr : ∀ (es : IA) {X : Cx} {C : FT} {S : SC} {ρ : List Sl} {τ : D} {xs : List Expr} {pos : Pos} {Ψ : D → D → Bool → Prop} {t d : D} {o : Bool}, Ok X C S → ckA es S xs = true → evOr C ρ es τ = some (t, d, o) → Ψ t d o → ET X B T ρ τ (.BoolOp .Or xs pos) Ψ
  | .nil, X, C, S, ρ, τ, xs, pos, Ψ, t, d, o, O, h, ev, k => by unfold evOr at ev; cases ev
  | .cons a .nil, X, C, S, ρ, τ, xs, pos, Ψ, t, d, o, O, h, ev, k => by
    unfold ckA at h
    split at h
    · unfold ckA at h
      simp only [Bool.and_eq_true, List.isEmpty_iff] at h
      rw [h.2]
      unfold evOr at ev
      exact e_and1 (sndE a O h.1.2 ev k)
    · cases h
  | .cons a (.cons b r), X, C, S, ρ, τ, xs, pos, Ψ, t, d, o, O, h, ev, k => by
    unfold ckA at h
    split at h
    · simp only [Bool.and_eq_true] at h
      obtain ⟨⟨h0, h1⟩, h2⟩ := h
      rename_i x xs
      cases xs with
      | nil => unfold ckA at h2; cases h2
      | cons y ys =>
        unfold evOr at ev
        obtain ⟨τ1, x1, ox1, e1, ev⟩ := bE_ok ev
        split at ev
        · rename_i k1
          refine e_or (sndE a O h1 e1 (AsB.mk ?_))
          cases k1 with
          | true => rw [if_pos rfl]; cases ev; exact k
          | false => rw [if_neg Bool.false_ne_true]; exact sndOr (.cons b r) O h2 ev k
        · cases ev
    · cases h
theorem sndP : ∀ (p : IO) {X : Cx} {C : FT} {S : SC} {ρ : List Sl} {τ : D} {e : Option Expr} {Ψ : D → Option Int → Prop} {t : D} {o : Option Int}, Ok X C S → ckP p S e = true → evP C ρ p τ = some (t, o) → Ψ t o → PT2 X B T ρ τ e Ψ
  | .no, X, C, S, ρ, τ, e, Ψ, t, o, O, h, ev, k => by
    unfold ckP at h
    unfold evP at ev
    cases ev
    cases e with
    | none => exact k
    | some _ => cases h
  | .so a, X, C, S, ρ, τ, e, Ψ, t, o, O, h, ev, k => by
    unfold ckP at h
    unfold evP at ev
    obtain ⟨τ1, x, ox, e1, ev⟩ := bE_ok ev
    split at h
    · split at ev
      · cases ev; exact sndE a O h e1 ⟨_, rfl, k⟩
      · cases ev
    · cases h
theorem sndI : ∀ (it : II) {X : Cx} {C : FT} {S : SC} {ρ : List Sl} {τ : D} {tg e : Expr} {Ψ : D → List D → Bool → Prop} {t : D} {ds : List D} {o : Bool}, Ok X C S → ckI it S tg e = true → evI C ρ it τ = some (t, ds, o) → Ψ t ds o → DL.IT X B T ρ τ tg e Ψ
  | .seq a, X, C, S, ρ, τ, tg, e, Ψ, t, ds, o, O, h, ev, k => by
    unfold ckI at h
    unfold evI at ev
    obtain ⟨τ1, x, ox, e1, ev⟩ := bE_ok ev
    split at ev
    · cases ev; exact i_list (sndE a O h e1 ⟨_, rfl, k⟩)
    · cases ev; exact i_tup (sndE a O h e1 ⟨_, rfl, k⟩)
    · cases ev
  | .arg j, X, C, S, ρ, τ, tg, e, Ψ, t, ds, o, O, h, ev, k => by
    unfold ckI at h
    split at h
    · have v := ckVar_ok O h
      unfold evI at ev
      split at ev
      · cases ev; exact i_arg j (by assumption) k v.N v.v v.d v.c
      · cases ev
    · cases h
  | .scr j, X, C, S, ρ, τ, tg, e, Ψ, t, ds, o, O, h, ev, k => by
    unfold ckI at h
    split at h
    · have v := ckVar_ok O h
      unfold evI at ev
      split at ev
      · cases ev; exact i_scr j (by assumption) k v.N v.v v.d v.c
      · cases ev
    · cases h
  | .rng1 a, X, C, S, ρ, τ, tg, e, Ψ, t, ds, o, O, h, ev, k => by
    unfold ckI at h
    split at h
    · simp only [Bool.and_eq_true, decide_eq_true_eq] at h
      obtain ⟨⟨⟨h1, h2⟩, h3⟩, h4⟩ := h
      subst h1
      have g := ckGl_ok O h2
      unfold evI at ev
      obtain ⟨τ1, x, ox, e1, ev⟩ := bE_ok ev
      split at ev
      · obtain ⟨gg, ev⟩ := guardO_some ev
        cases ev
        rw [decide_eq_true_eq] at gg
        exact i_range1 O.rng (sndE a O h4 e1 ⟨_, rfl, ⟨by have := gg.1; show -(2 ^ 62) ≤ _; omega, by have := gg.2; show _ < (2 : Int) ^ 62; omega⟩, k⟩) g.g (by rw [noStar_ok [] X.env h3]; rfl)
      · cases ev
    · cases h
  | .rng2 a b, X, C, S, ρ, τ, tg, e, Ψ, t, ds, o, O, h, ev, k => by
    unfold ckI at h
    split at h
    · simp only [Bool.and_eq_true, decide_eq_true_eq] at h
      obtain ⟨⟨⟨⟨⟨h1, h2⟩, h3⟩, h4⟩, h5⟩, h6⟩ := h
      subst h1
      have g := ckGl_ok O h2
      unfold evI at ev
      obtain ⟨τ1, x, ox, e1, ev⟩ := bE_ok ev
      obtain ⟨τ2, y, oy, e2, ev⟩ := bE_ok ev
      split at ev
      · obtain ⟨gg, ev⟩ := guardO_some ev
        cases ev
        rw [decide_eq_true_eq] at gg
        have s2 : ∀ z : Expr, noStar z = true → starEach [z] X.env = [(false, eval z X.env)] := fun z hz => by rw [noStar_ok [] X.env hz]; rfl
        exact i_range2 O.rng (sndE a O h5 e1 (sndE b O h6 e2 ⟨_, _, rfl, rfl, ⟨by have := gg.1; show -(2 ^ 62) ≤ _; omega, by have := gg.2.1; show _ < (2 : Int) ^ 62; omega, by have := gg.2.2.1; show -(2 ^ 62) ≤ _; omega, by have := gg.2.2.2; show _ < (2 : Int) ^ 62; omega⟩, k⟩)) g.g
          (by rw [noStar_ok _ X.env h3, s2 _ h4]) (s2 _ h4)
      · cases ev
    · cases h
  | .enum a, X, C, S, ρ, τ, tg, e, Ψ, t, ds, o, O, h, ev, k => by
    unfold ckI at h
    split at h
    · simp only [Bool.and_eq_true, decide_eq_true_eq] at h
      obtain ⟨⟨⟨h1, h2⟩, h3⟩, h4⟩ := h
      subst h1
      have g := ckGl_ok O h2
      unfold evI at ev
      obtain ⟨τ1, x, ox, e1, ev⟩ := bE_ok ev
      split at ev
      · cases ev
        exact i_enum O.enu (sndE a O h4 e1 ⟨_, rfl, k⟩) g.g (by rw [noStar_ok [] X.env h3]; rfl)
      · cases ev
        exact i_enumT O.enu (sndE a O h4 e1 ⟨_, rfl, k⟩) g.g (by rw [noStar_ok [] X.env h3]; rfl)
      · cases ev
    · cases h
  | .zip a b, X, C, S, ρ, τ, tg, e, Ψ, t, ds, o, O, h, ev, k => by
    unfold ckI at h
    split at h
    · simp only [Bool.and_eq_true, decide_eq_true_eq] at h
      obtain ⟨⟨⟨⟨⟨h1, h2⟩, h3⟩, h4⟩, h5⟩, h6⟩ := h
      subst h1
      have g := ckGl_ok O h2
      unfold evI at ev
      obtain ⟨τ1, x, ox, e1, ev⟩ := bE_ok ev
      obtain ⟨τ2, y, oy, e2, ev⟩ := bE_ok ev
      have s2 : ∀ z : Expr, noStar z = true → starEach [z] X.env = [(false, eval z X.env)] := fun z hz => by rw [noStar_ok [] X.env hz]; rfl
      have pl : ∀ (pos : Pos) (z : Expr), noStar z = true → (backTo pos (starEach [z] X.env)).any (·.1) = false := fun pos z hz => by rw [s2 z hz]; rfl
      split at ev
      · obtain ⟨gg, ev⟩ := guardO_some ev
        cases ev
        simp only [Bool.and_eq_true] at gg
        exact i_zip O.zip (sndE a O h5 e1 (sndE b O h6 e2 ⟨_, _, .inl ⟨rfl, rfl⟩, gg.1, gg.2, k⟩)) g.g (noStar_ok _ X.env h3) (s2 _ h4) (pl _ _ h4)
      · obtain ⟨gg, ev⟩ := guardO_some ev
        cases ev
        simp only [Bool.and_eq_true] at gg
        exact i_zip O.zip (sndE a O h5 e1 (sndE b O h6 e2 ⟨_, _, .inr ⟨rfl, rfl⟩, gg.1, gg.2, k⟩)) g.g (noStar_ok _ X.env h3) (s2 _ h4) (pl _ _ h4)
      · cases ev
    · cases h
end
end
end DI
/-! DI, part 6: statements: the evaluator. -/
namespace DI
open PySem PySem.Spec L2 RZ DL
mutual
inductive IS where
  | set (i : Nat) (e : IE)
  | setLc (i : Nat) (own : List (Str × Nat)) (elt : IC) (tg : TG) (it : II)
  | move (i j : Nat)
  | unp (tg : TG) (e : IE)
  | par (i j : Nat) (a b : IE)
  | ife (c : DI.IT) (a b : ISs)
  | for_ (tg : TG) (it : II) (body : ISs)
  | forV (tg : TG) (j : Nat) (body : ISs)
  | while_ (c : DI.IT) (body : ISs)
  | ret (e : IE)
  | retV (i : Nat)
  | retN
  | expr (e : IE)
  | append (i : Nat) (e : IE)
  | extend (i : Nat) (e : IE)
  | put (i : Nat) (k e : IE)
  | put2 (i : Nat) (k m e : IE)
  | addI (i : Nat) (e : IE)
  | apop (i j : Nat) (e : IE)
  | tput (i : Nat) (f : TF) (e : IE)
  | retTape (i j : Nat)
  | pass
  | brk
  | cont
  | raise
inductive ISs where
  | nil
  | cons (s : IS) (r : ISs)
  | fgt (i : Nat) (r : ISs)
end
/-- how a statement ends -/
inductive SO where
  | nx (ρ : List Sl) (τ : D)
  | rt (τ d : D)
  | bk (ρ : List Sl) (τ : D)
  | ct (ρ : List Sl) (τ : D)
def bS (x : Option SO) (f : List Sl → D → Option SO) : Option SO := match x with
  | some (.nx ρ τ) => f ρ τ
  | some o => some o
  | none => none
@[simp] theorem bS_nx (ρ : List Sl) (τ : D) (f : List Sl → D → Option SO) : bS (some (.nx ρ τ)) f = f ρ τ := rfl
@[simp] theorem bS_rt (τ d : D) (f : List Sl → D → Option SO) : bS (some (.rt τ d)) f = some (.rt τ d) := rfl
@[simp] theorem bS_bk (ρ : List Sl) (τ : D) (f : List Sl → D → Option SO) : bS (some (.bk ρ τ)) f = some (.bk ρ τ) := rfl
@[simp] theorem bS_ct (ρ : List Sl) (τ : D) (f : List Sl → D → Option SO) : bS (some (.ct ρ τ)) f = some (.ct ρ τ) := rfl
/-- behind a turn of a loop -/
def bL (x : Option SO) (f : List Sl → D → Option SO) : Option SO := match x with
  | some (.nx ρ τ) => f ρ τ
  | some (.ct ρ τ) => f ρ τ
  | some (.bk ρ τ) => some (.nx ρ τ)
  | some (.rt τ d) => some (.rt τ d)
  | none => none
@[simp] theorem bL_nx (ρ : List Sl) (τ : D) (f : List Sl → D → Option SO) : bL (some (.nx ρ τ)) f = f ρ τ := rfl
@[simp] theorem bL_ct (ρ : List Sl) (τ : D) (f : List Sl → D → Option SO) : bL (some (.ct ρ τ)) f = f ρ τ := rfl
@[simp] theorem bL_bk (ρ : List Sl) (τ : D) (f : List Sl → D → Option SO) : bL (some (.bk ρ τ)) f = some (.nx ρ τ) := rfl
@[simp] theorem bL_rt (τ d : D) (f : List Sl → D → Option SO) : bL (some (.rt τ d)) f = some (.rt τ d) := rfl
def evFor (turn : D → List Sl → D → Option SO) : List D → List Sl → D → Option SO
  | [], ρ, τ => some (.nx ρ τ)
  | d :: ds, ρ, τ => bL (turn d ρ τ) fun ρ1 τ1 => evFor turn ds ρ1 τ1
def SO.unpin (j : Nat) : SO → SO
  | .nx ρ τ => .nx (DL.unpin j ρ) τ
  | o => o
open Classical in
/-- over a slot's own list: it has to stand at every turn -/
noncomputable def evPin (turn : D → List Sl → D → Option SO) (j : Nat) (s : Sl) : List D → List Sl → D → Option SO
  | [], ρ, τ => if ρ[j]? = some s then some (.nx (DL.unpin j ρ) τ) else none
  | d :: ds, ρ, τ => if ρ[j]? = some s then (match turn d ρ τ with
    | some (.nx ρ1 τ1) => evPin turn j s ds ρ1 τ1
    | some (.ct ρ1 τ1) => evPin turn j s ds ρ1 τ1
    | some (.bk ρ1 τ1) => some (.nx (DL.unpin j ρ1) τ1)
    | some (.rt τ1 d1) => some (.rt τ1 d1)
    | none => none) else none
open Classical in
/-- whatever the list's address -/
noncomputable def allA (F : Addr → Option SO) : Option SO := if h : ∃ o, ∀ a, F a = some o then some h.choose else none
theorem allA_eq {F : Addr → Option SO} {o : SO} (h : ∀ a, F a = some o) : allA F = some o := by
  unfold allA
  have hx : ∃ o, ∀ a, F a = some o := ⟨o, h⟩
  rw [dif_pos hx]
  have := hx.choose_spec 0
  rw [h 0] at this
  exact this.symm
theorem allA_ok {F : Addr → Option SO} {o : SO} (h : allA F = some o) : ∀ a, F a = some o := by
  unfold allA at h
  split at h
  · rename_i hx
    cases h
    exact hx.choose_spec
  · cases h
def evW (c : List Sl → D → Option (D × Bool)) (body : List Sl → D → Option SO) : Nat → List Sl → D → Option SO
  | 0, _, _ => none
  | n + 1, ρ, τ => bT (c ρ τ) fun τ1 k => iteB k (bL (body ρ τ1) (evW c body n)) (some (.nx ρ τ1))
theorem evW_mono {c : List Sl → D → Option (D × Bool)} {body : List Sl → D → Option SO} : ∀ {n m : Nat} {ρ : List Sl} {τ : D} {o : SO}, evW c body n ρ τ = some o → n ≤ m → evW c body m ρ τ = some o
  | 0, _, _, _, _, h, _ => by cases h
  | n + 1, 0, _, _, _, _, h => by cases h
  | n + 1, m + 1, ρ, τ, o, h, hl => by
    unfold evW at h ⊢
    obtain ⟨τ1, k, h1, h2⟩ := bT_ok h
    rw [h1, bT_some]
    cases k with
    | false => exact h2
    | true =>
      simp only [iteB_true] at h2 ⊢
      cases e : body ρ τ1 with
      | none => rw [e] at h2; cases h2
      | some q =>
        rw [e] at h2
        cases q with
        | nx ρ2 τ2 => exact evW_mono h2 (by omega)
        | ct ρ2 τ2 => exact evW_mono h2 (by omega)
        | bk ρ2 τ2 => exact h2
        | rt τ2 d => exact h2
open Classical in
noncomputable def evWh (c : List Sl → D → Option (D × Bool)) (body : List Sl → D → Option SO) (ρ : List Sl) (τ : D) : Option SO := if h : ∃ o n, evW c body n ρ τ = some o then some h.choose else none
theorem evWh_ok {c : List Sl → D → Option (D × Bool)} {body : List Sl → D → Option SO} {ρ : List Sl} {τ : D} {o : SO} (h : evWh c body ρ τ = some o) : ∃ n, evW c body n ρ τ = some o := by
  unfold evWh at h
  split at h
  · rename_i hx
    cases h
    exact hx.choose_spec
  · cases h
theorem evWh_eq {c : List Sl → D → Option (D × Bool)} {body : List Sl → D → Option SO} {ρ : List Sl} {τ : D} {o : SO} {n : Nat} (h : evW c body n ρ τ = some o) : evWh c body ρ τ = some o := by
  unfold evWh
  have hx : ∃ o n, evW c body n ρ τ = some o := ⟨o, n, h⟩
  rw [dif_pos hx]
  obtain ⟨m, hm⟩ := hx.choose_spec
  have h1 := evW_mono h (Nat.le_max_left n m)
  have h2 := evW_mono hm (Nat.le_max_right n m)
  rw [h1] at h2
  exact h2.symm
mutual
noncomputable def evS (C : FT) : IS → List Sl → D → Option SO
  | .set i e, ρ, τ => bE (evE C ρ e τ) fun τ1 d o => guardO o (some (.nx (ρ.set i (.v d)) τ1))
  | .setLc i own elt tg it, ρ, τ => bE (evE C ρ (.lc own elt tg it) τ) fun τ1 d _ => some (.nx (ρ.set i (.v d)) τ1)
  | .move i j, ρ, τ => match ρ[j]? with
    | some (.v d _) => guardO (decide (i ≠ j)) (some (.nx ((ρ.set j .any).set i (.v d)) τ))
    | _ => none
  | .unp tg e, ρ, τ => bE (evE C ρ e τ) fun τ1 d o => iteB o ((evO tg d ρ).bind fun ρ1 => some (.nx ρ1 τ1)) ((evG tg d ρ).bind fun ρ1 => some (.nx ρ1 τ1))
  | .par i j a b, ρ, τ => bE (evE C ρ a τ) fun τ1 x o1 => bE (evE C ρ b τ1) fun τ2 y o2 => guardO (o1 && o2 && decide (i ≠ j)) (some (.nx ((ρ.set i (.v x)).set j (.v y)) τ2))
  | .ife c a b, ρ, τ => bT (evT C ρ c τ) fun τ1 k => iteB k (evSs C a ρ τ1) (evSs C b ρ τ1)
  | .for_ tg it body, ρ, τ => (evI C ρ it τ).bind fun p => guardO p.2.2 (evFor (fun d ρ1 τ1 => (evG tg d ρ1).bind fun ρ2 => evSs C body ρ2 τ1) p.2.1 ρ p.1)
  | .forV tg j body, ρ, τ => match ρ[j]? with
    | some (.v (.list ds) _) => guardO (immAll ds) (allA fun a => evPin (fun d ρ1 τ1 => (evG tg d ρ1).bind fun ρ2 => evSs C body ρ2 τ1) j (.v (.list ds) (some a)) ds (ρ.set j (.v (.list ds) (some a))) τ)
    | _ => none
  | .while_ c body, ρ, τ => evWh (fun ρ τ => evT C ρ c τ) (fun ρ τ => evSs C body ρ τ) ρ τ
  | .ret e, ρ, τ => bE (evE C ρ e τ) fun τ1 d o => guardO o (some (.rt τ1 d))
  | .retV i, ρ, τ => match ρ[i]? with
    | some (.v d _) => some (.rt τ d)
    | _ => none
  | .retN, _, τ => some (.rt τ .none)
  | .expr e, ρ, τ => bE (evE C ρ e τ) fun τ1 _ _ => some (.nx ρ τ1)
  | .append i e, ρ, τ => match ρ[i]? with
    | some (.v (.list ds) sa) => bE (evE C ρ e τ) fun τ1 d o => guardO (o && nb? ρ && decide (ds.length < 1000000)) (some (.nx (ρ.set i (.v (.list (ds ++ [d])) sa)) τ1))
    | _ => none
  | .extend i e, ρ, τ => match ρ[i]? with
    | some (.v (.list ds) sa) => bE (evE C ρ e τ) fun τ1 d _ => match d with
      | .list es => guardO (immAll es && nb? ρ && decide (ds.length + es.length ≤ 1000000)) (some (.nx (ρ.set i (.v (.list (ds ++ es)) sa)) τ1))
      | _ => none
    | _ => none
  | .put i k e, ρ, τ => match ρ[i]? with
    | some (.v (.list ds) sa) => bE (evE C ρ e τ) fun τ1 d _ => bE (evE C ρ k τ1) fun τ2 kd _ => match kd with
      | .int z => (ixN ds.length z).bind fun j => guardO (imm d && nb? ρ) (some (.nx (ρ.set i (.v (.list (ds.set j d)) sa)) τ2))
      | _ => none
    | _ => none
  | .put2 i k m e, ρ, τ => match ρ[i]? with
    | some (.v (.list ds) sa) => bE (evE C ρ e τ) fun τ1 d _ => bE (evE C ρ k τ1) fun τ2 kd _ => match kd with
      | .int z => (ixN ds.length z).bind fun j => match ds[j]? with
        | some (.list es) => bE (evE C ρ m τ2) fun τ3 md _ => match md with
          | .int w => (ixN es.length w).bind fun l => guardO (imm d && nb? ρ) (some (.nx (ρ.set i (.v (.list (ds.set j (.list (es.set l d)))) sa)) τ3))
          | _ => none
        | _ => none
      | _ => none
    | _ => none
  | .addI i e, ρ, τ => match ρ[i]? with
    | some (.v (.int z) _) => bE (evE C ρ e τ) fun τ1 d _ => match d with
      | .int w => some (.nx (ρ.set i (.v (.int (z + w)))) τ1)
      | _ => none
    | _ => none
  | .apop i j e, ρ, τ => match ρ[i]?, ρ[j]? with
    | some (.v (.list ds) sa), some (.v (.list es) sb) => bE (evE C ρ e τ) fun τ1 d _ => match d with
      | .int z => (seqIndex? z es.length).bind fun k => (es[k]?).bind fun d1 => guardO (decide (i ≠ j) && immAll es && nb? ρ && decide (ds.length < 1000000) && decide (-9223372036854775808 ≤ z ∧ z < 9223372036854775808))
          (some (.nx ((ρ.set j (.v (.list (es.eraseIdx k)) sb)).set i (.v (.list (ds ++ [d1])) sa)) τ1))
      | _ => none
    | _, _ => none
  | .tput i f e, ρ, τ => bE (evE C ρ e τ) fun τ1 d _ => match ρ[i]?, decT τ1, d with
    | some .tp, some t, .int n => some (.nx ρ (eTape (t.put n f)))
    | _, _, _ => none
  | .retTape i j, ρ, τ => match ρ[i]?, ρ[j]? with
    | some (.v (.list ds) _), some (.v (.int z) _) => (intsD ds).bind fun ns => some (.rt τ (eTape ⟨ns, 0, 0, z, 0⟩))
    | _, _ => none
  | .pass, ρ, τ => some (.nx ρ τ)
  | .brk, ρ, τ => some (.bk ρ τ)
  | .cont, ρ, τ => some (.ct ρ τ)
  | .raise, _, _ => none
noncomputable def evSs (C : FT) : ISs → List Sl → D → Option SO
  | .nil, ρ, τ => some (.nx ρ τ)
  | .cons s r, ρ, τ => bS (evS C s ρ τ) fun ρ1 τ1 => evSs C r ρ1 τ1
  | .fgt i r, ρ, τ => evSs C r (ρ.set i .any) τ
end
end DI
/-! DI, part 7: when a statement of the program's text is one of the small language. -/
namespace DI
open PySem PySem.Spec L2 RZ DL
/-- a value whose store is a plain one -/
def sw0 (S : SC) (e : Expr) (y : Str) (py : Pos) : Bool := match e with
  | .ListComp _ _ s lp => !(isLoc S.sc y && (py.line == lp.line) && !(s.names.any fun (n, k) => n == y && (k == .local || k == .cell)))
  | .SetComp _ _ _ _ => false
  | .DictComp _ _ _ _ _ => false
  | _ => true
def noComp : Expr → Bool
  | .ListComp _ _ _ _ => false
  | .SetComp _ _ _ _ => false
  | .DictComp _ _ _ _ _ => false
  | _ => true
def isNameE : Expr → Bool
  | .Name _ _ => true
  | _ => false
def isTupE : Expr → Bool
  | .Tuple _ _ _ => true
  | _ => false
/-- names that are no plain locals: no stores are swapped -/
def swN (S : SC) (ts : List Expr) : Bool := ts.any fun e => match e with
  | .Name x _ => !isLoc S.sc x
  | _ => true
mutual
def ckS : IS → SC → Stmt → Bool
  | .set i e, S, st => match st with
    | .Assign [.Name y py] v _ => ckSto S i y && sw0 S v y py && ckE e S v
    | _ => false
  | .setLc i own elt tg it, S, st => match st with
    | .Assign [.Name y py] (.ListComp x [⟨t, it', ifs, 0⟩] scope lp) _ => ckE (.lc own elt tg it) S (.ListComp x [⟨t, it', ifs, 0⟩] scope lp) && decide (S.N[i]? = some y) && isLoc S.sc y && (py.line == lp.line) && !(scope.names.any fun (n, k) => n == y && (k == .local || k == .cell))
    | _ => false
  | .move i j, S, st => match st with
    | .Assign [.Name y _] (.Name x _) _ => ckSto S i y && ckVar S j x
    | _ => false
  | .unp tg e, S, st => match st with
    | .Assign [.Tuple ts k p] v _ => ckG S tg (.Tuple ts k p) && ckE e S v && (!isTupE v || swN S ts)
    | _ => false
  | .par i j a b, S, st => match st with
    | .Assign [.Tuple [.Name x px, .Name y py] _ _] (.Tuple [u, v] _ _) _ => decide (S.N[i]? = some x) && decide (S.N[j]? = some y) && isLoc S.sc x && isLoc S.sc y && (py.line == px.line) && !(x == y) && noStar u && noStar v && !([u, v].all (foldedForSure 8)) && !([u, v].all (constantsAlone 8)) && ckE a S u && ckE b S v
    | _ => false
  | .ife c a b, S, st => match st with
    | .If t x y _ => ckT c S t && ckSs a S x && ckSs b S y
    | _ => false
  | .for_ tg it body, S, st => match st with
    | .For t i x [] _ => noMk i && ckI it S t i && ckG S tg t && ckSs body S x
    | _ => false
  | .forV tg j body, S, st => match st with
    | .For t (.Name y _) x [] _ => ckVar S j y && ckG S tg t && ckSs body S x
    | _ => false
  | .while_ c body, S, st => match st with
    | .While t x [] _ => ckT c S t && ckSs body S x
    | _ => false
  | .ret e, S, st => match st with
    | .Return (some v) _ => ckE e S v
    | _ => false
  | .retV i, S, st => match st with
    | .Return (some (.Name x _)) _ => ckVar S i x
    | _ => false
  | .retN, _, st => match st with
    | .Return none _ => true
    | _ => false
  | .expr e, S, st => match st with
    | .Expr v _ => noComp v && ckE e S v
    | _ => false
  | .append i e, S, st => match st with
    | .Expr (.Call (.Attribute (.Name x _) a ap) [v] [] cp) _ => decide (a = ("append" : Str)) && (ap.endLine == cp.line) && ckVar S i x && noStar v && ckE e S v
    | _ => false
  | .extend i e, S, st => match st with
    | .Expr (.Call (.Attribute (.Name x _) a ap) [v] [] cp) _ => decide (a = ("extend" : Str)) && (ap.endLine == cp.line) && ckVar S i x && noStar v && ckE e S v
    | _ => false
  | .put i k e, S, st => match st with
    | .Assign [.Subscript (.Name x _) q _] v _ => ckVar S i x && noSlice q && noComp v && ckE k S q && ckE e S v
    | _ => false
  | .put2 i k m e, S, st => match st with
    | .Assign [.Subscript (.Subscript (.Name x _) q _) r _] v _ => ckVar S i x && noSlice q && noSlice r && noComp v && ckE k S q && ckE m S r && ckE e S v
    | _ => false
  | .addI i e, S, st => match st with
    | .AugAssign (.Name x _) .Add v _ => ckSto S i x && ckE e S v
    | _ => false
  | .apop i j e, S, st => match st with
    | .Expr (.Call (.Attribute (.Name x _) a ap) [.Call (.Attribute (.Name y _) b bp) [v] [] cp2] [] cp) _ => decide (a = ("append" : Str)) && decide (b = ("pop" : Str)) && (ap.endLine == cp.line) && (bp.endLine == cp2.line) && ckVar S i x && ckVar S j y && noStar v && ckE e S v
    | _ => false
  | .tput i f e, S, st => match st with
    | .Assign [.Subscript (.Name x _) (.Constant (.str k) _ _) _] v _ => decide (k = f.key) && ckVar S i x && noComp v && ckE e S v
    | _ => false
  | .retTape i j, S, st => match st with
    | .Return (some (.Dict [some (.Constant (.str k1) _ _), some (.Constant (.str k2) _ _), some (.Constant (.str k3) _ _), some (.Constant (.str k4) _ _), some (.Constant (.str k5) _ _)] [.Name x _, .Constant (.int z1) _ _, .Constant (.int z2) _ _, .Name y _, .Constant (.int z3) _ _] _)) _ =>
      decide (k1 = ("cells" : Str)) && decide (k2 = ("at" : Str)) && decide (k3 = ("left" : Str)) && decide (k4 = ("seed" : Str)) && decide (k5 = ("salt" : Str)) && decide (z1 = 0) && decide (z2 = 0) && decide (z3 = 0) && ckVar S i x && ckVar S j y
    | _ => false
  | .pass, _, st => match st with
    | .Pass _ => true
    | _ => false
  | .brk, _, st => match st with
    | .Break _ => true
    | _ => false
  | .cont, _, st => match st with
    | .Continue _ => true
    | _ => false
  | .raise, _, _ => true
def ckSs : ISs → SC → List Stmt → Bool
  | .nil, _, ss => ss.isEmpty
  | .cons s r, S, ss => match ss with
    | x :: xs => ckS s S x && ckSs r S xs
    | [] => false
  | .fgt _ r, S, ss => ckSs r S ss
end
section
variable {X : Cx} {C : FT} {S : SC}
theorem Ok.block (O : Ok X C S) : X.env.blockKind = .function := by unfold PySem.Env.blockKind; rw [O.kind]; rfl
theorem Ok.kindOf (O : Ok X C S) (x : Str) : X.env.kindOf x = S.sc.names.lookup x := by
  show X.env.scope.names.lookup x = _
  rw [O.sc]
theorem noComp_ok {e : Expr} (h : noComp e = true) (t : Option Expr) (l : Nat) (env : PySem.Env) : swapsWith e t l env = pure false := by
  cases e <;> first | rfl | cases h
theorem noComp_sole {e t : Expr} (h : noComp e = true) (l : Nat) (env : PySem.Env) : swapsWithSole [t] e l env = pure false := by
  cases e <;> first | rfl | cases h
theorem isLoc_iff {sc : Scope} {x : Str} : (sc.names.lookup x == some .local) = isLoc sc x := by
  unfold isLoc
  cases h : sc.names.lookup x with
  | none => rfl
  | some k => cases k <;> rfl
theorem sw0_ok (O : Ok X C S) {e : Expr} {y : Str} {py : Pos} (h : sw0 S e y py = true) (l : Nat) : swapsWith e (some (.Name y py)) l X.env = pure false := by
  cases e with
  | ListComp a b s lp =>
    unfold sw0 at h
    simp only [Bool.not_eq_true'] at h
    show (pure (X.env.blockKind == .function && X.env.kindOf y == some .local && py.line == lp.line && !(s.names.any fun (n, k) => n == y && (k == .local || k == .cell))) : Sem Bool) = pure false
    rw [O.block, O.kindOf, isLoc_iff]
    exact congrArg pure (by rw [show ((ScopeKind.function == ScopeKind.function) = true) from rfl, Bool.true_and]; exact h)
  | SetComp _ _ _ _ => cases h
  | DictComp _ _ _ _ _ => cases h
  | _ => rfl
def isS : Expr → Bool
  | .Starred _ _ => true
  | _ => false
def nmL (env : PySem.Env) (l : Nat) : Expr → Option Str
  | .Name id pos => if env.kindOf id == some .local && pos.line == l then some id else none
  | _ => none
theorem swS_eq {ts vs : List Expr} {kt k2 : Nat} {pt p2 : Pos} {env : PySem.Env} : swappedStores [.Tuple ts kt pt] (.Tuple vs k2 p2) env =
    (if (!(ts.length == 2 || ts.length == 3) || vs.length != ts.length || env.blockKind != .function) = true then pure none else if (vs.any isS) = true then pure none else
      if ((ts.filterMap (nmL env ((ts.head?.map (·.pos.line)).getD 0))).length != ts.length || (ts.filterMap (nmL env ((ts.head?.map (·.pos.line)).getD 0))).eraseDups.length != (ts.filterMap (nmL env ((ts.head?.map (·.pos.line)).getD 0))).length) = true then pure none else
      if (vs.all (foldedForSure 8)) = true then pure none else (do
        if vs.all (constantsAlone 8) then unsupported "assign.tuple-of-constant-expressions:order-of-the-stores"
        return some (ts.filterMap (nmL env ((ts.head?.map (·.pos.line)).getD 0))))) := by
  have e1 : ∀ l, (fun e => match e with
      | .Name id pos => if env.kindOf id == some .local && pos.line == l then some id else none
      | _ => none) = nmL env l := fun l => by
    funext e; cases e <;> rfl
  have e2 : (fun e => match e with | Expr.Starred .. => true | _ => false) = isS := by
    funext e; cases e <;> rfl
  rw [← e2, ← e1]
  rfl
theorem asg_sub {o q : Expr} {pos : Pos} {env : PySem.Env} (h : noSlice q = true) (v : Value) : assign (.Subscript o q pos) env v = (do
    let ov ← holding [v] (eval o env)
    let iv ← holding [v, ov] (eval q env)
    standAt pos
    holding [v, ov, iv] (setItem ov iv v)
    release [v, ov, iv] []) := by
  cases q <;> first | rfl | cases h
theorem isStar_no {e : Expr} (h : noStar e = true) : isS e = false := by
  cases e <;> first | rfl | cases h
theorem sw_par (O : Ok X C S) {x y : Str} {px py pt pt2 : Pos} {kt k2} {u v : Expr} (hx : isLoc S.sc x = true) (hy : isLoc S.sc y = true) (hl : (py.line == px.line) = true) (hxy : (x == y) = false) (hu : noStar u = true) (hv : noStar v = true)
    (hf : ([u, v].all (foldedForSure 8)) = false) (hc : ([u, v].all (constantsAlone 8)) = false) : swappedStores [.Tuple [.Name x px, .Name y py] kt pt] (.Tuple [u, v] k2 pt2) X.env = pure (some [x, y]) := by
  have kx : (X.env.kindOf x == some .local) = true := by rw [O.kindOf, isLoc_iff]; exact hx
  have ky : (X.env.kindOf y == some .local) = true := by rw [O.kindOf, isLoc_iff]; exact hy
  have hb : (X.env.blockKind != .function) = false := by rw [O.block]; rfl
  have hst : ([u, v].any isS) = false := by
    show (isS u || (isS v || false)) = false
    rw [isStar_no hu, isStar_no hv]; rfl
  have hn : ([Expr.Name x px, Expr.Name y py].filterMap (nmL X.env (([Expr.Name x px, Expr.Name y py].head?.map (·.pos.line)).getD 0))) = [x, y] := by
    have e0 : (([Expr.Name x px, Expr.Name y py].head?.map (·.pos.line)).getD 0) = px.line := rfl
    rw [e0]
    simp only [List.filterMap, nmL, kx, ky, hl, Bool.true_and, Bool.and_self, beq_self_eq_true, if_true]
  have hd : ([x, y] : List Str).eraseDups.length = 2 := by
    have : (y == x) = false := by
      rw [Bool.eq_false_iff]
      intro h
      rw [Bool.eq_false_iff] at hxy
      exact hxy (by rw [beq_iff_eq] at h ⊢; exact h.symm)
    rw [List.eraseDups_cons]
    simp only [List.filter_cons, this, Bool.not_false, if_true, List.filter_nil]
    rw [List.eraseDups_cons]
    rfl
  rw [swS_eq, hn, hb, hst, hf, hc, hd]
  rfl
theorem swN_ok (O : Ok X C S) {ts : List Expr} {k : Nat} {p : Pos} {v : Expr} (h : (!isTupE v || swN S ts) = true) : swappedStores [.Tuple ts k p] v X.env = pure none := by
  cases v with
  | Tuple vs k2 p2 =>
    replace h : swN S ts = true := h
    unfold swN at h
    rw [swS_eq]
    have hn : ∀ l, (ts.filterMap (nmL X.env l)).length < ts.length := fun l => by
      induction ts with
      | nil => cases h
      | cons e r ih =>
        rw [List.any_cons, Bool.or_eq_true] at h
        have lr : (r.filterMap (nmL X.env l)).length ≤ r.length := List.length_filterMap_le _ _
        rw [List.filterMap_cons]
        rcases h with h | h
        · have : nmL X.env l e = none := by
            cases e with
            | Name x px =>
              simp only [Bool.not_eq_true'] at h
              have kx : (X.env.kindOf x == some .local) = false := by rw [O.kindOf, isLoc_iff]; exact h
              show (if (X.env.kindOf x == some .local && px.line == l) = true then some x else none) = none
              rw [kx, Bool.false_and, if_neg Bool.false_ne_true]
            | _ => rfl
          rw [this]
          show (r.filterMap (nmL X.env l)).length < r.length + 1
          omega
        · have := ih h
          split
          · rw [List.length_cons]; omega
          · rw [List.length_cons, List.length_cons]; omega
    split
    · rfl
    · split
      · rfl
      · split
        · rfl
        · rename_i hq
          exfalso
          apply hq
          rw [Bool.or_eq_true, bne_iff_ne]
          exact .inl (Nat.ne_of_lt (hn _))
  | _ => rfl
end
end DI
/-! DI, part 8: statements: the evaluator is sound. -/
namespace DI
open PySem PySem.Spec L2 RZ DL
section
variable {B : Hp} {T : List Addr}
theorem sndLC {own : List (Str × Nat)} {elt : IC} {tg : TG} {it : II} {X : Cx} {C : FT} {S : SC} {ρ : List Sl} {τ t d : D} {o : Bool} {y tgE iter : Expr} {ifs : List Expr} {scope : Scope} {pos : Pos} (O : Ok X C S)
    (h : ckE (.lc own elt tg it) S (.ListComp y [⟨tgE, iter, ifs, 0⟩] scope pos) = true) (ev : evE C ρ (.lc own elt tg it) τ = some (t, d, o)) :
    BlkOk X.N X.env.scope scope own ∧ ifs.length ≤ 1 ∧ noMk iter = true ∧ ∃ r, d = .list r ∧ ∀ k : D → List D → Prop, k t r → LC X B T ρ τ scope own tgE iter y ifs k := by
  unfold ckE at h
  simp only [Bool.and_eq_true] at h
  obtain ⟨⟨⟨⟨⟨h1, h2⟩, h3⟩, h4⟩, h5⟩, h6⟩ := h
  have bok : BlkOk X.N X.env.scope scope own := by rw [O.N, O.sc]; exact blkOk_by h1
  unfold evE at ev
  obtain ⟨⟨τ1, ds, oi⟩, e1, ev⟩ := bO_ok ev
  obtain ⟨g, ev⟩ := guardO_some ev
  obtain ⟨⟨τ2, r⟩, e2, ev⟩ := bO_ok ev
  cases ev
  have hif : ifs.length ≤ 1 := by
    cases elt with
    | el a => unfold ckC at h6; simp only [Bool.and_eq_true, List.isEmpty_iff] at h6; rw [h6.1]; decide
    | ift c a =>
      unfold ckC at h6
      split at h6
      · exact Nat.le_refl _
      · cases h6
  refine ⟨bok, hif, h2, r, rfl, fun k hk => sndI it O h3 e1 ⟨small (by simpa using g), fun i τi acc => ∃ q, lcL (fun d t => (evG tg d (wipeL ρ (own.map (·.2)))).bind fun ρ2 => evC C ρ2 elt t) (ds.drop i) τi = some q ∧ (q.1, acc ++ q.2) = (τ2, r), ⟨_, e2, rfl⟩, ?_, ?_⟩⟩
  · rintro i di τi acc hd ⟨q, hq, eq⟩
    obtain ⟨p, rr, ht, hl, rfl⟩ := lcL_drop hd hq
    obtain ⟨ρ2, hg, hc⟩ := bO_ok ht
    have ww : ∀ i ∈ tg.ws, i ∈ own.map (·.2) := fun i hi => by
      have := List.all_eq_true.mp h5 i hi
      simpa using this
    have fin : (fun τ4 (y : Option D) => ∃ q, lcL (fun d t => (evG tg d (wipeL ρ (own.map (·.2)))).bind fun ρ2 => evC C ρ2 elt t) (ds.drop (i + 1)) τ4 = some q ∧ (q.1, (acc ++ y.toList) ++ q.2) = (τ2, r)) p.1 p.2 := ⟨rr, hl, by rw [List.append_assoc]; exact eq⟩
    cases elt with
    | el a =>
      unfold ckC at h6
      simp only [Bool.and_eq_true, List.isEmpty_iff] at h6
      obtain ⟨e6, h6⟩ := h6
      subst e6
      unfold evC at hc
      obtain ⟨t4, yd, yo, ey, hc⟩ := bE_ok hc
      obtain ⟨go, hc⟩ := guardO_some hc
      subst go
      cases hc
      exact turn0 fun s H0 Cc cl fp => sndG (O.blk scope bok.kind s H0 Cc cl fp) h4 ww hg fun s H0 Cc cl fp => sndE a (O.blk scope bok.kind s H0 Cc cl fp) h6 ey ⟨rfl, fin⟩
    | ift c a =>
      unfold ckC at h6
      split at h6
      · simp only [Bool.and_eq_true] at h6
        obtain ⟨h6, h7⟩ := h6
        unfold evC at hc
        obtain ⟨t3, kb, ec, hc⟩ := bT_ok hc
        refine turn1 fun s H0 Cc cl fp => sndG (O.blk scope bok.kind s H0 Cc cl fp) h4 ww hg fun s H0 Cc cl fp => sndT c (O.blk scope bok.kind s H0 Cc cl fp) h6 ec ?_
        cases kb with
        | true =>
          rw [if_pos rfl]
          simp only [iteB_true] at hc
          obtain ⟨t4, yd, yo, ey, hc⟩ := bE_ok hc
          obtain ⟨go, hc⟩ := guardO_some hc
          subst go
          cases hc
          exact fun s H0 Cc cl fp => sndE a (O.blk scope bok.kind s H0 Cc cl fp) h7 ey ⟨rfl, fin⟩
        | false =>
          rw [if_neg Bool.false_ne_true]
          simp only [iteB_false] at hc
          cases hc
          exact fin
      · cases h6
  · rintro τe acc ⟨q, hq, eq⟩
    rw [List.drop_length] at hq
    unfold lcL at hq
    cases hq
    simp only [List.append_nil, Prod.mk.injEq] at eq
    obtain ⟨rfl, rfl⟩ := eq
    exact hk
def sat (Φ : Phi) : SO → Prop
  | .nx ρ τ => Φ.nx ρ τ
  | .rt τ d => Φ.rt τ d
  | .bk ρ τ => Φ.bk ρ τ
  | .ct ρ τ => Φ.ct ρ τ
/-- how a chain ends -/
theorem bS_ok {x : Option SO} {f : List Sl → D → Option SO} {o : SO} (h : bS x f = some o) {Φ : Phi} (s : sat Φ o) : ∃ q, x = some q ∧ sat { Φ with nx := fun ρ τ => f ρ τ = some o } q := by
  cases x with
  | none => cases h
  | some q =>
    refine ⟨q, rfl, ?_⟩
    cases q with
    | nx ρ τ => exact h
    | rt τ d => cases h; exact s
    | bk ρ τ => cases h; exact s
    | ct ρ τ => cases h; exact s
theorem bL_ok {x : Option SO} {f : List Sl → D → Option SO} {o : SO} (h : bL x f = some o) {Φ : Phi} (s : sat Φ o) : ∃ q, x = some q ∧ sat (loopΦ Φ fun ρ τ => f ρ τ = some o) q := by
  cases x with
  | none => cases h
  | some q =>
    refine ⟨q, rfl, ?_⟩
    cases q with
    | nx ρ τ => exact h
    | rt τ d => cases h; exact s
    | bk ρ τ => cases h; exact s
    | ct ρ τ => exact h
theorem drop_cons {ds : List D} {i : Nat} {d : D} (hd : ds[i]? = some d) : ds.drop i = d :: ds.drop (i + 1) := by
  have hi : i < ds.length := by
    rcases Nat.lt_or_ge i ds.length with h | h
    · exact h
    · rw [List.getElem?_eq_none h] at hd; cases hd
  rw [List.getElem?_eq_getElem hi] at hd
  cases hd
  exact List.drop_eq_getElem_cons hi
theorem sat_mono {Φ Φ' : Phi} {o : SO} (h : sat Φ o) (hn : ∀ ρ τ, Φ.nx ρ τ → Φ'.nx ρ τ) (hr : ∀ τ d, Φ.rt τ d → Φ'.rt τ d) (hb : ∀ ρ τ, Φ.bk ρ τ → Φ'.bk ρ τ) (hc : ∀ ρ τ, Φ.ct ρ τ → Φ'.ct ρ τ) : sat Φ' o := by
  cases o with
  | nx ρ τ => exact hn _ _ h
  | rt τ d => exact hr _ _ h
  | bk ρ τ => exact hb _ _ h
  | ct ρ τ => exact hc _ _ h
theorem least {P : Nat → Prop} : ∀ n, P n → ∃ m, P m ∧ ∀ k, P k → m ≤ k := fun n => by
  induction n using Nat.strongRecOn with
  | ind n ih =>
    intro h
    by_cases e : ∃ k, k < n ∧ P k
    · obtain ⟨k, hk, pk⟩ := e; exact ih k hk pk
    · exact ⟨n, h, fun k pk => by
        rcases Nat.lt_or_ge k n with q | q
        · exact absurd ⟨k, q, pk⟩ e
        · exact q⟩
mutual
theorem sndS : ∀ (s : IS) {X : Cx} {C : FT} {S : SC} {ρ : List Sl} {τ : D} {st : Stmt} {Φ : Phi} {o : SO}, Ok X C S → PassesOwn (model X.prog X.w) X.A X.env X.xe → ckS s S st = true → evS C s ρ τ = some o → sat Φ o → ST X B T ρ τ st Φ
  | .set i e, X, C, S, ρ, τ, st, Φ, o, O, hp, h, ev, k => by
    unfold ckS at h
    split at h
    · simp only [Bool.and_eq_true] at h
      obtain ⟨⟨h1, h2⟩, h3⟩ := h
      have st := ckSto_ok O h1
      unfold evS at ev
      obtain ⟨τ1, d, od, e1, ev⟩ := bE_ok ev
      obtain ⟨g, ev⟩ := guardO_some ev
      subst g
      cases ev
      exact s_set i O.nd (sndE e O h3 e1 ⟨rfl, k⟩) st.N st.l (sw0_ok O h2 _) st.f
    · cases h
  | .setLc i own elt tg it, X, C, S, ρ, τ, st, Φ, o, O, hp, h, ev, k => by
    unfold ckS at h
    split at h
    · simp only [Bool.and_eq_true, decide_eq_true_eq, Bool.not_eq_true'] at h
      obtain ⟨⟨⟨⟨h1, h2⟩, h3⟩, h4⟩, h5⟩ := h
      unfold evS at ev
      obtain ⟨τ1, d, od, e1, ev⟩ := bE_ok ev
      cases ev
      obtain ⟨bok, hif, hmk, r, rfl, lc⟩ := sndLC (B := B) (T := T) O h1 e1
      have hl := isLoc_ok h3
      rw [← O.sc] at hl
      exact s_setLc own i O.nd bok (lc (fun τ2 acc => Φ.nx (ρ.set i (.v (.list acc))) τ2) k) (sw_true O.kind hl h4 h5) hif O.calm (by rw [O.N]; exact h2) hl (noMk_fold hmk)
    · cases h
  | .move i j, X, C, S, ρ, τ, st, Φ, o, O, hp, h, ev, k => by
    unfold ckS at h
    split at h
    · simp only [Bool.and_eq_true] at h
      obtain ⟨h1, h2⟩ := h
      have st := ckSto_ok O h1
      have v := ckVar_ok O h2
      unfold evS at ev
      split at ev
      · obtain ⟨g, ev⟩ := guardO_some ev
        cases ev
        rw [decide_eq_true_eq] at g
        exact s_move i j O.nd (by assumption) k g st.N st.l v.N v.v v.d v.c rfl st.f
      · cases ev
    · cases h
  | .unp tg e, X, C, S, ρ, τ, st, Φ, o, O, hp, h, ev, k => by
    unfold ckS at h
    split at h
    · simp only [Bool.and_eq_true] at h
      obtain ⟨⟨h1, h2⟩, h3⟩ := h
      unfold evS at ev
      obtain ⟨τ1, d, od, e1, ev⟩ := bE_ok ev
      have sole : ∀ (ts : List Expr) (kk : Nat) (p : Pos) (v : Expr) (l : Nat), swapsWithSole [.Tuple ts kk p] v l X.env = pure false := fun ts kk p v l => by cases v <;> rfl
      cases od with
      | true =>
        simp only [iteB_true] at ev
        obtain ⟨ρ1, e2, ev⟩ := bO_ok ev
        cases ev
        exact s_unpack (sndE e O h2 e1 ⟨rfl, sndO O h1 e2 k⟩) (sole _ _ _ _ _) (swN_ok O h3) rfl
      | false =>
        simp only [iteB_false] at ev
        obtain ⟨ρ1, e2, ev⟩ := bO_ok ev
        cases ev
        exact s_unpackB (ws := tg.ws) (sndE e O h2 e1 (sndG O h1 (fun _ z => z) e2 k)) (sole _ _ _ _ _) (swN_ok O h3) rfl
    · cases h
  | .par i j a b, X, C, S, ρ, τ, st, Φ, o, O, hp, h, ev, k => by
    unfold ckS at h
    split at h
    · simp only [Bool.and_eq_true, decide_eq_true_eq, Bool.not_eq_true'] at h
      obtain ⟨⟨⟨⟨⟨⟨⟨⟨⟨⟨⟨h1, h2⟩, h3⟩, h4⟩, h5⟩, h6⟩, h7⟩, h8⟩, h9⟩, h10⟩, h11⟩, h12⟩ := h
      unfold evS at ev
      obtain ⟨τ1, x, o1, e1, ev⟩ := bE_ok ev
      obtain ⟨τ2, y, o2, e2, ev⟩ := bE_ok ev
      obtain ⟨g, ev⟩ := guardO_some ev
      cases ev
      simp only [Bool.and_eq_true, decide_eq_true_eq] at g
      obtain ⟨⟨rfl, rfl⟩, g3⟩ := g
      have lx := isLoc_ok h3
      have ly := isLoc_ok h4
      rw [← O.sc] at lx ly
      exact s_par i j O.nd (a_cons (sndE a O h11 e1 (a_cons (sndE b O h12 e2 (a_nil ⟨_, _, rfl, rfl, k⟩)) (noStar_ok _ _ h8))) (noStar_ok _ _ h7)) (sw_par O h3 h4 h5 h6 h7 h8 h9 h10) O.calm (by rw [O.N]; exact h1) (by rw [O.N]; exact h2) g3 lx ly rfl
    · cases h
  | .ife c a b, X, C, S, ρ, τ, st, Φ, o, O, hp, h, ev, k => by
    unfold ckS at h
    split at h
    · simp only [Bool.and_eq_true] at h
      obtain ⟨⟨h1, h2⟩, h3⟩ := h
      unfold evS at ev
      obtain ⟨τ1, k1, e1, ev⟩ := bT_ok ev
      refine s_if (sndT c O h1 e1 ?_)
      cases k1 with
      | true => rw [if_pos rfl]; exact sndSs a O hp h2 ev k
      | false => rw [if_neg Bool.false_ne_true]; exact sndSs b O hp h3 ev k
    · cases h
  | .for_ tg it body, X, C, S, ρ, τ, st, Φ, o, O, hp, h, ev, k => by
    unfold ckS at h
    split at h
    · simp only [Bool.and_eq_true] at h
      obtain ⟨⟨⟨h1, h2⟩, h3⟩, h4⟩ := h
      unfold evS at ev
      obtain ⟨⟨τ1, ds, oi⟩, e1, ev⟩ := bO_ok ev
      obtain ⟨g, ev⟩ := guardO_some ev
      refine s_for (ws := tg.ws) hp (sndI it O h2 e1 ⟨g, fun i ρ' τ' => evFor (fun d ρ1 τ1 => (evG tg d ρ1).bind fun ρ2 => evSs C body ρ2 τ1) (ds.drop i) ρ' τ' = some o, ev, ?_, ?_⟩) O.calm (noMk_fold h1)
      · intro i d ρ' τ' hd hi
        rw [drop_cons hd] at hi
        unfold evFor at hi
        obtain ⟨q, hq, sq⟩ := bL_ok hi k
        obtain ⟨ρ2, hg, hb⟩ := bO_ok hq
        exact sndG O h3 (fun _ z => z) hg (sndSs body O hp h4 hb sq)
      · intro ρ' τ' hi
        rw [List.drop_length] at hi
        unfold evFor at hi
        cases hi
        exact k
    · cases h
  | .forV tg j body, X, C, S, ρ, τ, st, Φ, o, O, hp, h, ev, k => by
    unfold ckS at h
    split at h
    · simp only [Bool.and_eq_true] at h
      obtain ⟨⟨h1, h3⟩, h4⟩ := h
      have v := ckVar_ok O h1
      unfold evS at ev
      split at ev
      · rename_i ds sa hρ
        obtain ⟨g, ev⟩ := guardO_some ev
        have ev := allA_ok ev
        refine st_unpin j (s_forV j (ws := tg.ws) hp hρ g (fun a => ⟨fun i ρ' τ' => ρ'[j]? = some (.v (.list ds) (some a)) ∧ evPin (fun d ρ1 τ1 => (evG tg d ρ1).bind fun ρ2 => evSs C body ρ2 τ1) j (.v (.list ds) (some a)) (ds.drop i) ρ' τ' = some o, ?_, fun i ρ' τ' h => h.1, ?_, ?_⟩) (pe_var v.N v.v v.d v.c) O.calm fun _ => rfl)
        · have := ev a
          refine ⟨?_, this⟩
          rcases ds with _ | ⟨d0, dr⟩
          · unfold evPin at this
            split at this
            · assumption
            · cases this
          · unfold evPin at this
            split at this
            · assumption
            · cases this
        · rintro i d ρ' τ' hd ⟨hpin, hi⟩
          rw [drop_cons hd] at hi
          unfold evPin at hi
          rw [if_pos hpin] at hi
          have pin : ∀ {ρ1 : List Sl} {τ1 : D}, evPin (fun d ρ1 τ1 => (evG tg d ρ1).bind fun ρ2 => evSs C body ρ2 τ1) j (.v (.list ds) (some a)) (ds.drop (i + 1)) ρ1 τ1 = some o → ρ1[j]? = some (.v (.list ds) (some a)) ∧ evPin (fun d ρ1 τ1 => (evG tg d ρ1).bind fun ρ2 => evSs C body ρ2 τ1) j (.v (.list ds) (some a)) (ds.drop (i + 1)) ρ1 τ1 = some o := fun {ρ1 τ1} hh => by
            refine ⟨?_, hh⟩
            generalize ds.drop (i + 1) = l at hh
            cases l with
            | nil =>
              unfold evPin at hh
              split at hh
              · assumption
              · cases hh
            | cons x r =>
              unfold evPin at hh
              split at hh
              · assumption
              · cases hh
          cases eq : (evG tg d ρ').bind fun ρ2 => evSs C body ρ2 τ' with
          | none => rw [eq] at hi; cases hi
          | some q =>
            rw [eq] at hi
            obtain ⟨ρ2, hg, hb⟩ := bO_ok eq
            refine sndG O h3 (fun _ z => z) hg (sndSs body O hp h4 hb ?_)
            cases q with
            | nx ρ1 τ1 => exact pin hi
            | ct ρ1 τ1 => exact pin hi
            | bk ρ1 τ1 => cases hi; exact k
            | rt τ1 d1 => cases hi; exact k
        · rintro ρ' τ' ⟨hpin, hi⟩
          rw [List.drop_length] at hi
          unfold evPin at hi
          rw [if_pos hpin] at hi
          cases hi
          exact k
      · cases ev
    · cases h
  | .while_ c body, X, C, S, ρ, τ, st, Φ, o, O, hp, h, ev, k => by
    unfold ckS at h
    split at h
    · simp only [Bool.and_eq_true] at h
      obtain ⟨h1, h2⟩ := h
      unfold evS at ev
      obtain ⟨n0, ev⟩ := evWh_ok ev
      have mm : ∀ (ρ' : List Sl) (τ' : D), (∃ n, evW (fun ρ τ => evT C ρ c τ) (fun ρ τ => evSs C body ρ τ) n ρ' τ' = some o) → ∃ m, evW (fun ρ τ => evT C ρ c τ) (fun ρ τ => evSs C body ρ τ) m ρ' τ' = some o ∧ ∀ k, evW (fun ρ τ => evT C ρ c τ) (fun ρ τ => evSs C body ρ τ) k ρ' τ' = some o → m ≤ k := fun ρ' τ' ⟨n, hn⟩ => least n hn
      classical
      refine s_while hp (fun ρ' τ' => ∃ n, evW (fun ρ τ => evT C ρ c τ) (fun ρ τ => evSs C body ρ τ) n ρ' τ' = some o) (fun ρ' τ' => if h : ∃ n, evW (fun ρ τ => evT C ρ c τ) (fun ρ τ => evSs C body ρ τ) n ρ' τ' = some o then (mm ρ' τ' h).choose else 0) ⟨n0, ev⟩ ?_
      rintro ρ' τ' hex
      obtain ⟨hm, hl⟩ := (mm ρ' τ' hex).choose_spec
      generalize hmm : (mm ρ' τ' hex).choose = m at hm hl
      cases m with
      | zero => cases hm
      | succ m =>
        unfold evW at hm
        obtain ⟨τ1, k1, e1, hm⟩ := bT_ok hm
        refine sndT c O h1 e1 ?_
        cases k1 with
        | false =>
          rw [if_neg Bool.false_ne_true]
          simp only [iteB_false] at hm
          cases hm
          exact k
        | true =>
          rw [if_pos rfl]
          simp only [iteB_true] at hm
          obtain ⟨q, hq, sq⟩ := bL_ok hm k
          refine sndSs body O hp h2 hq ?_
          refine sat_mono sq (fun ρ2 τ2 h => ?_) (fun _ _ h => h) (fun _ _ h => h) (fun ρ2 τ2 h => ?_)
          all_goals
            refine ⟨⟨m, h⟩, ?_⟩
            rw [dif_pos ⟨m, h⟩, dif_pos hex, hmm]
            exact Nat.lt_succ_of_le ((mm ρ2 τ2 ⟨m, h⟩).choose_spec.2 m h)
    · cases h
  | .ret e, X, C, S, ρ, τ, st, Φ, o, O, hp, h, ev, k => by
    unfold ckS at h
    split at h
    · unfold evS at ev
      obtain ⟨τ1, d, od, e1, ev⟩ := bE_ok ev
      obtain ⟨g, ev⟩ := guardO_some ev
      subst g
      cases ev
      exact s_ret (sndE e O h e1 ⟨rfl, k⟩)
    · cases h
  | .retV i, X, C, S, ρ, τ, st, Φ, o, O, hp, h, ev, k => by
    unfold ckS at h
    split at h
    · have v := ckVar_ok O h
      unfold evS at ev
      split at ev
      · cases ev; exact s_retV i (by assumption) k v.N v.v v.d v.c
      · cases ev
    · cases h
  | .retN, X, C, S, ρ, τ, st, Φ, o, O, hp, h, ev, k => by
    unfold ckS at h
    split at h
    · unfold evS at ev; cases ev; exact s_retN k
    · cases h
  | .expr e, X, C, S, ρ, τ, st, Φ, o, O, hp, h, ev, k => by
    unfold ckS at h
    split at h
    · simp only [Bool.and_eq_true] at h
      obtain ⟨h1, h2⟩ := h
      unfold evS at ev
      obtain ⟨τ1, d, od, e1, ev⟩ := bE_ok ev
      cases ev
      exact s_expr (sndE e O h2 e1 k) (noComp_ok h1 _ _ _)
    · cases h
  | .append i e, X, C, S, ρ, τ, st, Φ, o, O, hp, h, ev, k => by
    unfold ckS at h
    split at h
    · simp only [Bool.and_eq_true, decide_eq_true_eq] at h
      obtain ⟨⟨⟨⟨h1, h0⟩, h2⟩, h3⟩, h4⟩ := h
      subst h1
      have v := ckVar_ok O h2
      have few : ∀ (p : Pos) (v : Expr), noStar v = true → ((backTo p (starEach [v] X.env)).all (fun x => !x.1) && (backToKw p (keywordEach [] X.env)).all (fun x => x.1.isSome) && decide (([v] : List Expr).length + ([] : List Keyword).length + (if ([] : List Keyword).isEmpty then 0 else 1) < 30)) = true := fun p v hv => by
        rw [noStar_ok [] X.env hv]; rfl
      unfold evS at ev
      split at ev
      · obtain ⟨τ1, d, od, e1, ev⟩ := bE_ok ev
        obtain ⟨g, ev⟩ := guardO_some ev
        cases ev
        simp only [Bool.and_eq_true, decide_eq_true_eq] at g
        obtain ⟨⟨rfl, g2⟩, g3⟩ := g
        exact s_append i (by assumption) (small' g3) (sndE e O h4 e1 ⟨rfl, k⟩) g2 (pe_bm PySem.F.plainAttrs_list PySem.F.slot_list_append PySem.F.type_list_append mt_append (pe_var v.N v.v v.d v.c) (pa_cons pe_wp pa_nil (noStar_ok _ _ h3)) rfl (few _ _ h3) h0 (noStar_ok _ _ h3) rfl) rfl
      · cases ev
    · cases h
  | .extend i e, X, C, S, ρ, τ, st, Φ, o, O, hp, h, ev, k => by
    unfold ckS at h
    split at h
    · simp only [Bool.and_eq_true, decide_eq_true_eq] at h
      obtain ⟨⟨⟨⟨h1, h0⟩, h2⟩, h3⟩, h4⟩ := h
      subst h1
      have v := ckVar_ok O h2
      have few : ∀ (p : Pos) (v : Expr), noStar v = true → ((backTo p (starEach [v] X.env)).all (fun x => !x.1) && (backToKw p (keywordEach [] X.env)).all (fun x => x.1.isSome) && decide (([v] : List Expr).length + ([] : List Keyword).length + (if ([] : List Keyword).isEmpty then 0 else 1) < 30)) = true := fun p v hv => by
        rw [noStar_ok [] X.env hv]; rfl
      unfold evS at ev
      split at ev
      · obtain ⟨τ1, d, od, e1, ev⟩ := bE_ok ev
        split at ev
        · obtain ⟨g, ev⟩ := guardO_some ev
          cases ev
          simp only [Bool.and_eq_true, decide_eq_true_eq] at g
          obtain ⟨⟨g1, g2⟩, g3⟩ := g
          exact s_extend i (by assumption) (sndE e O h4 e1 ⟨_, rfl, g1, small g3, k⟩) g2 (pe_bm PySem.F.plainAttrs_list PySem.F.slot_list_extend PySem.F.type_list_extend mt_extend (pe_var v.N v.v v.d v.c) (pa_cons pe_wp pa_nil (noStar_ok _ _ h3)) rfl (few _ _ h3) h0 (noStar_ok _ _ h3) rfl) rfl
        · cases ev
      · cases ev
    · cases h
  | .put i kk e, X, C, S, ρ, τ, st, Φ, o, O, hp, h, ev, k => by
    unfold ckS at h
    split at h
    · simp only [Bool.and_eq_true] at h
      obtain ⟨⟨⟨⟨h1, h2⟩, h3⟩, h4⟩, h5⟩ := h
      have v := ckVar_ok O h1
      unfold evS at ev
      split at ev
      · obtain ⟨τ1, d, od, e1, ev⟩ := bE_ok ev
        obtain ⟨τ2, kd, ok, e2, ev⟩ := bE_ok ev
        split at ev
        · obtain ⟨j, hj, ev⟩ := bO_ok ev
          obtain ⟨g, ev⟩ := guardO_some ev
          cases ev
          simp only [Bool.and_eq_true] at g
          exact s_put i (by assumption) (sndE e O h5 e1 ⟨g.1, sndE kk O h4 e2 ⟨_, j, rfl, hj, k⟩⟩) g.2 (pe_var v.N v.v v.d v.c) (asg_sub h2) (noComp_sole h3 _ _) rfl rfl
        · cases ev
      · cases ev
    · cases h
  | .put2 i kk m e, X, C, S, ρ, τ, st, Φ, o, O, hp, h, ev, k => by
    unfold ckS at h
    split at h
    · simp only [Bool.and_eq_true] at h
      obtain ⟨⟨⟨⟨⟨⟨h1, h2⟩, h3⟩, h4⟩, h5⟩, h6⟩, h7⟩ := h
      have v := ckVar_ok O h1
      unfold evS at ev
      split at ev
      · obtain ⟨τ1, d, od, e1, ev⟩ := bE_ok ev
        obtain ⟨τ2, kd, ok, e2, ev⟩ := bE_ok ev
        split at ev
        · obtain ⟨j, hj, ev⟩ := bO_ok ev
          split at ev
          · obtain ⟨τ3, md, om, e3, ev⟩ := bE_ok ev
            split at ev
            · obtain ⟨l, hl, ev⟩ := bO_ok ev
              obtain ⟨g, ev⟩ := guardO_some ev
              cases ev
              simp only [Bool.and_eq_true] at g
              exact s_put2 i (by assumption) (sndE e O h7 e1 ⟨g.1, sndE kk O h5 e2 ⟨_, j, _, rfl, hj, by assumption, sndE m O h6 e3 ⟨_, l, rfl, hl, k⟩⟩⟩) g.2 (pe_var v.N v.v v.d v.c) (noSlice_ok h2) (asg_sub h3) (noComp_sole h4 _ _) rfl rfl
            · cases ev
          · cases ev
        · cases ev
      · cases ev
    · cases h
  | .addI i e, X, C, S, ρ, τ, st, Φ, o, O, hp, h, ev, k => by
    unfold ckS at h
    split at h
    · simp only [Bool.and_eq_true] at h
      obtain ⟨h1, h2⟩ := h
      have st := ckSto_ok O h1
      unfold evS at ev
      split at ev
      · obtain ⟨τ1, d, od, e1, ev⟩ := bE_ok ev
        split at ev
        · cases ev
          exact s_addI i O.nd (by assumption) (sndE e O h2 e1 ⟨_, rfl, k⟩) st.N st.l st.f
        · cases ev
      · cases ev
    · cases h
  | .apop i j e, X, C, S, ρ, τ, st, Φ, o, O, hp, h, ev, k => by
    unfold ckS at h
    split at h
    · simp only [Bool.and_eq_true, decide_eq_true_eq] at h
      obtain ⟨⟨⟨⟨⟨⟨⟨h1, h2⟩, h3⟩, h4⟩, h5⟩, h6⟩, h7⟩, h8⟩ := h
      subst h1; subst h2
      have v := ckVar_ok O h5
      have v2 := ckVar_ok O h6
      have few : ∀ (p : Pos) (v : Expr), noStar v = true → ((backTo p (starEach [v] X.env)).all (fun x => !x.1) && (backToKw p (keywordEach [] X.env)).all (fun x => x.1.isSome) && decide (([v] : List Expr).length + ([] : List Keyword).length + (if ([] : List Keyword).isEmpty then 0 else 1) < 30)) = true := fun p v hv => by
        rw [noStar_ok [] X.env hv]; rfl
      unfold evS at ev
      split at ev
      · obtain ⟨τ1, d, od, e1, ev⟩ := bE_ok ev
        split at ev
        · obtain ⟨kk, hkk, ev⟩ := bO_ok ev
          obtain ⟨d1, hd1, ev⟩ := bO_ok ev
          obtain ⟨g, ev⟩ := guardO_some ev
          cases ev
          simp only [Bool.and_eq_true, decide_eq_true_eq] at g
          obtain ⟨⟨⟨⟨g1, g2⟩, g3⟩, g4⟩, g5, g6⟩ := g
          refine s_apop i j g1 (by assumption) (by assumption) g2 (small' g4) (sndE e O h8 e1 ⟨_, kk, d1, rfl, by show -(2 ^ 63) ≤ _; omega, by show _ < (2 : Int) ^ 63; omega, hkk, hd1, k⟩) g3 ?_
          exact pe_bm PySem.F.plainAttrs_list PySem.F.slot_list_append PySem.F.type_list_append mt_append (pe_var v.N v.v v.d v.c) (pa_cons (pe_bm PySem.F.plainAttrs_list PySem.F.slot_list_pop PySem.F.type_list_pop mt_popAt (pe_var v2.N v2.v v2.d v2.c) (pa_cons pe_wp pa_nil (noStar_ok _ _ h7)) rfl (few _ _ h7) h4 (noStar_ok _ _ h7) rfl) pa_nil rfl) rfl rfl h3 rfl rfl
        · cases ev
      · cases ev
    · cases h
  | .tput i f e, X, C, S, ρ, τ, st, Φ, o, O, hp, h, ev, k => by
    unfold ckS at h
    split at h
    · simp only [Bool.and_eq_true, decide_eq_true_eq] at h
      obtain ⟨⟨⟨h1, h2⟩, h3⟩, h4⟩ := h
      subst h1
      have v := ckVar_ok O h2
      unfold evS at ev
      obtain ⟨τ1, d, od, e1, ev⟩ := bE_ok ev
      split at ev
      · rename_i hi ht
        cases ev
        exact s_tput f (by have := O.hu; omega) hi (sndE e O h4 e1 ⟨_, _, rfl, decT_some ht, k⟩) v.N v.v v.d v.c (fun tg => noComp_ok h3 _ _ _)
      · cases ev
    · cases h
  | .retTape i j, X, C, S, ρ, τ, st, Φ, o, O, hp, h, ev, k => by
    unfold ckS at h
    split at h
    · simp only [Bool.and_eq_true, decide_eq_true_eq] at h
      obtain ⟨⟨⟨⟨⟨⟨⟨⟨⟨h1, h2⟩, h3⟩, h4⟩, h5⟩, h6⟩, h7⟩, h8⟩, h9⟩, h10⟩ := h
      subst h1; subst h2; subst h3; subst h4; subst h5; subst h6; subst h7; subst h8
      have v := ckVar_ok O h9
      have v2 := ckVar_ok O h10
      unfold evS at ev
      split at ev
      · rename_i hi hj
        obtain ⟨ns, e1, ev⟩ := bO_ok ev
        cases ev
        rw [intsD_ok e1] at hi
        exact s_retTape i j hi hj k v.N v.v v.d v.c v2.N v2.v v2.d v2.c
      · cases ev
    · cases h
  | .pass, X, C, S, ρ, τ, st, Φ, o, O, hp, h, ev, k => by
    unfold ckS at h
    split at h
    · unfold evS at ev; cases ev; exact s_pass k
    · cases h
  | .brk, X, C, S, ρ, τ, st, Φ, o, O, hp, h, ev, k => by
    unfold ckS at h
    split at h
    · unfold evS at ev; cases ev; exact s_break k
    · cases h
  | .cont, X, C, S, ρ, τ, st, Φ, o, O, hp, h, ev, k => by
    unfold ckS at h
    split at h
    · unfold evS at ev; cases ev; exact s_continue k
    · cases h
  | .raise, X, C, S, ρ, τ, st, Φ, o, O, hp, h, ev, k => by unfold evS at ev; cases ev
theorem sndSs : ∀ (ss : ISs) {X : Cx} {C : FT} {S : SC} {ρ : List Sl} {τ : D} {sts : List Stmt} {Φ : Phi} {o : SO}, Ok X C S → PassesOwn (model X.prog X.w) X.A X.env X.xe → ckSs ss S sts = true → evSs C ss ρ τ = some o → sat Φ o → SS X B T ρ τ sts Φ
  | .nil, X, C, S, ρ, τ, sts, Φ, o, O, hp, h, ev, k => by
    unfold ckSs at h
    rw [List.isEmpty_iff] at h
    subst h
    unfold evSs at ev
    cases ev
    exact ss_nil k
  | .cons s r, X, C, S, ρ, τ, sts, Φ, o, O, hp, h, ev, k => by
    unfold ckSs at h
    split at h
    · simp only [Bool.and_eq_true] at h
      obtain ⟨h1, h2⟩ := h
      unfold evSs at ev
      obtain ⟨q, hq, sq⟩ := bS_ok ev k
      exact ss_cons (sndS s O hp h1 hq (sat_mono sq (fun ρ1 τ1 h => sndSs r O hp h2 h k) (fun _ _ h => h) (fun _ _ h => h) (fun _ _ h => h)))
    · cases h
  | .fgt i r, X, C, S, ρ, τ, sts, Φ, o, O, hp, h, ev, k => by
    unfold ckSs at h
    unfold evSs at ev
    exact ss_fgt i (sndSs r O hp h ev k)
end
end
end DI
/-! DI, part 9: defs. -/
namespace DI
open PySem PySem.Spec L2 RZ DL
def outF : Option SO → Option D
  | some (.rt _ d) => some d
  | some (.nx _ _) => some .none
  | _ => none
def outT : Option SO → Option (D × D)
  | some (.rt τ d) => some (τ, d)
  | some (.nx _ τ) => some (τ, .none)
  | _ => none
/-- what a def computes: n slots, m parameters -/
noncomputable def runF (C : FT) (n m : Nat) (b : ISs) (ds : List D) : Option D := if ds.length = m then outF (evSs C b (argSl ds n) .none) else none
noncomputable def runT (C : FT) (n m : Nat) (b : ISs) (τ : D) (ds : List D) : Option (D × D) := if ds.length + 1 = m then outT (evSs C b (.tp :: argSl ds (n - 1)) τ) else none
def FT.addF (C : FT) (x : Str) (g : List D → Option D) : FT := { C with fs := fun y => if y = x then some g else C.fs y }
def FT.addT (C : FT) (x : Str) (g : D → List D → Option (D × D)) : FT := { C with ft := fun y => if y = x then some g else C.ft y }
def FT.addG (C : FT) (x : Str) (z : Int) : FT := { C with gl := fun y => if y = x then some z else C.gl y }
def FT.addC (C : FT) (x : Str) (g : List Int → Option D) : FT := { C with fc := fun y => if y = x then some g else C.fc y }
def FT.none : FT := ⟨fun _ => Option.none, fun _ => Option.none, fun _ => Option.none, fun _ => Option.none⟩
abbrev spR (K : FK) (g : List D → Option D) : Sp := spF K fun ds Ψ => ∃ r, g ds = some r ∧ Ψ r
abbrev spRT (K : FK) (g : D → List D → Option (D × D)) : Sp := spT K fun τ ds Ψ => ∃ r, g τ ds = some r ∧ Ψ r.1 r.2
abbrev spRS (K : FK) (g : List Int → Option D) : Sp := spS K fun ns Ψ => ∃ r, g ns = some r ∧ Ψ r
structure Lib (P : Program) (w : World) (K : FK) (mg : Str → Option Value) (base : Heap) (k : Nat) (C : FT) : Prop where
  gl : ∀ x z, C.gl x = some z → ∃ t, mg x = some (.int z t)
  bi : ∀ b : Bi, mg b.nm = none
  rng : mg "range" = none
  set : mg "set" = none
  enu : mg "enumerate" = none
  zip : mg "zip" = none
  fs : ∀ x g, C.fs x = some g → ∃ k' ps, k' ≤ k ∧ Fx P w K mg base k' x ps (spR K g)
  ft : ∀ x g, C.ft x = some g → ∃ k' ps, k' ≤ k ∧ Fx P w K mg base k' x ps (spRT K g)
  fc : ∀ x g, C.fc x = some g → ∃ k' ps, k' ≤ k ∧ Fx P w K mg base k' x ps (spRS K g)
section
variable {P : Program} {w : World} {K : FK} {mg : Str → Option Value} {base : Heap} {k : Nat} {C : FT}
theorem Lib.mono (L : Lib P w K mg base k C) {j : Nat} (h : k ≤ j) : Lib P w K mg base j C :=
  { L with fs := fun x g e => let ⟨k', ps, h1, h2⟩ := L.fs x g e; ⟨k', ps, Nat.le_trans h1 h, h2⟩, ft := fun x g e => let ⟨k', ps, h1, h2⟩ := L.ft x g e; ⟨k', ps, Nat.le_trans h1 h, h2⟩, fc := fun x g e => let ⟨k', ps, h1, h2⟩ := L.fc x g e; ⟨k', ps, Nat.le_trans h1 h, h2⟩ }
theorem Lib.addF (L : Lib P w K mg base k C) {x : Str} {g : List D → Option D} {ps : List Str} (F : Fx P w K mg base (k + 1) x ps (spR K g)) : Lib P w K mg base (k + 1) (C.addF x g) :=
  { L.mono (Nat.le_succ k) with
    fs := fun y g' e => by
      unfold FT.addF at e
      simp only [] at e
      split at e
      · rename_i h; subst h; cases e; exact ⟨k + 1, ps, Nat.le_refl _, F⟩
      · exact (L.mono (Nat.le_succ k)).fs y g' e }
theorem Lib.addT (L : Lib P w K mg base k C) {x : Str} {g : D → List D → Option (D × D)} {ps : List Str} (F : Fx P w K mg base (k + 1) x ps (spRT K g)) : Lib P w K mg base (k + 1) (C.addT x g) :=
  { L.mono (Nat.le_succ k) with
    ft := fun y g' e => by
      unfold FT.addT at e
      simp only [] at e
      split at e
      · rename_i h; subst h; cases e; exact ⟨k + 1, ps, Nat.le_refl _, F⟩
      · exact (L.mono (Nat.le_succ k)).ft y g' e }
theorem Lib.addC (L : Lib P w K mg base k C) {x : Str} {g : List Int → Option D} {ps : List Str} (F : Fx P w K mg base (k + 1) x ps (spRS K g)) : Lib P w K mg base (k + 1) (C.addC x g) :=
  { L.mono (Nat.le_succ k) with
    fc := fun y g' e => by
      unfold FT.addC at e
      simp only [] at e
      split at e
      · rename_i h; subst h; cases e; exact ⟨k + 1, ps, Nat.le_refl _, F⟩
      · exact (L.mono (Nat.le_succ k)).fc y g' e }
theorem Lib.addG (L : Lib P w K mg base k C) {x : Str} {z : Int} (h : ∃ t, mg x = some (.int z t)) : Lib P w K mg base k (C.addG x z) :=
  { L with
    gl := fun y z' e => by
      unfold FT.addG at e
      simp only [] at e
      split at e
      · rename_i h'; subst h'; cases e; exact h
      · exact L.gl y z' e }
variable {N ps : List Str} {x qual : Str} {st : Stmt} {f : Addr} {fd : FuncData}
theorem Lib.ok (L : Lib P w K mg base k C) (sc : FnScope N ps (defScope st)) {cdv : Value} {A : Around} {outer : List PySem.Env} {s : Shared} {H : Hp} {E : XK} (hr : Room k (A.deeper (PyProof.Rows.envOfC qual (defScope st) s.heap.objs.size f cdv))) :
    Ok (cxOf CX0 P w K mg base N qual (defScope st) f cdv A outer s H E).nox C ⟨N, defScope st, fun _ => true⟩ where
  N := rfl
  nd := sc.nd
  sc := rfl
  kind := sc.kind
  calm := rfl
  fn := fun _ _ => rfl
  hu := by have := hr.un; show (A.deeper _).units + 65 < _; omega
  gl := L.gl
  bi := L.bi
  rng := L.rng
  set := L.set
  enu := L.enu
  zip := L.zip
  fs := fun x g e => let ⟨k', ps, h1, h2⟩ := L.fs x g e; ⟨k', ps, h2, hr.mono h1⟩
  ft := fun x g e => let ⟨k', ps, h1, h2⟩ := L.ft x g e; ⟨k', ps, h2, hr.mono h1⟩
  fc := fun x g e => let ⟨k', ps, h1, h2⟩ := L.fc x g e; ⟨k', ps, h2, hr.mono h1⟩
theorem def_okF (L : Lib P w K mg base k C) (F : Fun K x qual st f fd) (sc : FnScope N ps (defScope st)) (b : ISs) (hck : ckSs b ⟨N, defScope st, fun _ => true⟩ (defBody st) = true) :
    FnOk P w K mg base CX0 (k + 1) f fd ps (spR K (runF C N.length ps.length b)) :=
  okF F sc (fun ds Ψ ⟨r, h, _⟩ => by
    unfold runF at h
    split at h
    · assumption
    · cases h) fun cdv A outer s H E ds Ψ hr ⟨r, h, hΨ⟩ => by
    unfold runF at h
    split at h
    · unfold outF at h
      split at h
      · rename_i τ' d e
        cases h
        exact sndSs b (L.ok sc hr) PassesOwn.never hck e (Φ := { nx := fun _ _ => Ψ .none, rt := fun _ d => Ψ d }) hΨ
      · rename_i ρ' τ' e
        cases h
        exact sndSs b (L.ok sc hr) PassesOwn.never hck e (Φ := { nx := fun _ _ => Ψ .none, rt := fun _ d => Ψ d }) hΨ
      · cases h
    · cases h
theorem def_okT (L : Lib P w K mg base k C) (F : Fun K x qual st f fd) (sc : FnScope N ps (defScope st)) (b : ISs) (hck : ckSs b ⟨N, defScope st, fun _ => true⟩ (defBody st) = true) :
    FnOk P w K mg base CX0 (k + 1) f fd ps (spRT K (runT C N.length ps.length b)) :=
  okT F sc (fun τ ds Ψ ⟨r, h, _⟩ => by
    unfold runT at h
    split at h
    · assumption
    · cases h) fun cdv A outer s H E a rr τ ds Ψ hr ⟨r, h, hΨ⟩ => by
    unfold runT at h
    split at h
    · unfold outT at h
      split at h
      · rename_i τ' d e
        cases h
        exact sndSs b (L.ok sc hr) PassesOwn.never hck e (Φ := { nx := fun _ τ' => Ψ τ' .none, rt := fun τ' d => Ψ τ' d }) hΨ
      · rename_i ρ' τ' e
        cases h
        exact sndSs b (L.ok sc hr) PassesOwn.never hck e (Φ := { nx := fun _ τ' => Ψ τ' .none, rt := fun τ' d => Ψ τ' d }) hΨ
      · cases h
    · cases h
/-- a def of the script alone -/
noncomputable def runS (C : FT) (n : Nat) (b : ISs) (ns : List Int) : Option D := match evSs C b (.scr ns :: List.replicate (n - 1) .any) .none with
  | some (.rt _ d) => some d
  | _ => none
theorem def_okS {y : Str} (L : Lib P w K mg base k C) (F : Fun K x qual st f fd) (sc : FnScope N [y] (defScope st)) (b : ISs) (hck : ckSs b ⟨N, defScope st, fun _ => true⟩ (defBody st) = true) :
    FnOk P w K mg base CX0 (k + 1) f fd [y] (spRS K (runS C N.length b)) :=
  okS F sc fun cdv A outer s H E ns Ψ hr ⟨r, h, hΨ⟩ => by
    unfold runS at h
    split at h
    · rename_i τ' d e
      cases h
      exact sndSs b (L.ok sc hr) PassesOwn.never hck e (Φ := { nx := fun _ _ => False, rt := fun _ d => Ψ d }) hΨ
    · cases h
/-- the law: its tape first -/
theorem def_okLaw {y : Str} (L : Lib P w K mg base k C) (F : Fun K x qual st f fd) (sc : FnScope N [y] (defScope st)) (s1 : IS) (b : ISs) (hck : ckSs (.cons s1 b) ⟨N, defScope st, fun _ => true⟩ (defBody st) = true) (i : Nat)
    (S : SFS) (hS : ∀ ns Ψ, S ns Ψ → ∃ (ρ : List Sl) (τ : D) (kds : List (D × D)) (τ' : D) (d : D), evS C s1 (.scr ns :: List.replicate (N.length - 1) .any) .none = some (.nx ρ τ) ∧ ρ[i]? = some (.v (.dict kds)) ∧ nb? ρ = true ∧ evSs C b (ρ.set i .tp) (.dict kds) = some (.rt τ' d) ∧ Ψ d) :
    FnOk P w K mg base CX0 (k + 1) f fd [y] (spS K S) :=
  okS F sc fun cdv A outer s H E ns Ψ hr h => by
    obtain ⟨ρ, τ, kds, τ', d, e1, e2, e3, e4, hΨ⟩ := hS ns Ψ h
    generalize defBody st = body at hck ⊢
    unfold ckSs at hck
    split at hck
    · simp only [Bool.and_eq_true] at hck
      refine ss_cons (sndS s1 (L.ok sc hr) PassesOwn.never hck.1 e1 ?_)
      show SS _ _ _ _ _ _ _
      exact ss_tape i e2 e3 fun T' => sndSs b (L.ok sc hr) PassesOwn.never hck.2 e4 (Φ := { nx := fun _ _ => False, rt := fun _ d => Ψ d }) hΨ
    · cases hck
end
end DI
/-! DI, part 10: the evaluator's equations; data by types. -/
namespace DI
open PySem PySem.Spec L2 RZ DL
section
variable {C : FT} {ρ : List Sl} {τ : D}
/-- what stands in a slot -/
def gS (ρ : List Sl) (i : Nat) : Option D := (ρ[i]?).bind rdS
@[simp] theorem gS_z {s : Sl} {r : List Sl} : gS (s :: r) 0 = rdS s := rfl
@[simp] theorem gS_s {s : Sl} {r : List Sl} {i : Nat} : gS (s :: r) (i + 1) = gS r i := rfl
@[simp] theorem rdS_v (d : D) (a : Option Addr) : rdS (.v d a) = some d := rfl
@[simp] theorem rdS_arg (d : D) : rdS (.arg d) = some d := rfl
@[simp] theorem rdS_bor (d : D) : rdS (.bor d) = some d := rfl
theorem evE_var {i : Nat} {d : D} (h : gS ρ i = some d) : evE C ρ (.var i) τ = some (τ, d, imm d) := by
  unfold evE
  have h : (ρ[i]?).bind rdS = some d := h
  rw [h]
theorem evE_varE {i : Nat} : evE C ρ (.var i) τ = (gS ρ i).bind fun d => some (τ, d, imm d) := by
  unfold evE gS
  cases (ρ[i]?).bind rdS <;> rfl
theorem evE_int {z : Int} : evE C ρ (.int z) τ = some (τ, .int z, true) := rfl
theorem evE_bl {z : Bool} : evE C ρ (.bl z) τ = some (τ, .bool z, true) := rfl
theorem evE_non : evE C ρ .non τ = some (τ, .none, true) := rfl
theorem evE_str {z : Str} : evE C ρ (.str z) τ = some (τ, .str z, true) := rfl
theorem evE_glob {x : Str} : evE C ρ (.glob x) τ = (C.gl x).bind fun z => some (τ, .int z, true) := by
  unfold evE
  cases C.gl x <;> rfl
theorem evE_op2 {o : O2} {a b : IE} : evE C ρ (.op2 o a b) τ = bE (evE C ρ a τ) fun τ1 x _ => bE (evE C ρ b τ1) fun τ2 y _ => (op2D o x y).bind fun z => some (τ2, z, true) := rfl
theorem evE_cmp {o : OC} {a b : IE} : evE C ρ (.cmp o a b) τ = bE (evE C ρ a τ) fun τ1 x _ => bE (evE C ρ b τ1) fun τ2 y _ => (cmpD o x y).bind fun z => some (τ2, .bool z, true) := rfl
theorem evE_chain {o p : OC} {a b c : IE} : evE C ρ (.chain o p a b c) τ = bE (evE C ρ a τ) fun τ1 x _ => bE (evE C ρ b τ1) fun τ2 y _ => (cmpD o x y).bind fun k =>
      iteB k (bE (evE C ρ c τ2) fun τ3 z _ => (cmpD p y z).bind fun k2 => some (τ3, .bool k2, true)) (some (τ2, .bool false, true)) := rfl
theorem evE_ix {a b : IE} : evE C ρ (.ix a b) τ = bE (evE C ρ a τ) fun τ1 x _ => bE (evE C ρ b τ1) fun τ2 y _ => (ixD x y).bind fun z => some (τ2, z, imm z) := rfl
def negD : D → Option D
  | .int i => some (.int (-i))
  | _ => none
@[simp] theorem negD_int (i : Int) : negD (.int i) = some (.int (-i)) := rfl
theorem evE_neg {a : IE} : evE C ρ (.neg a) τ = bE (evE C ρ a τ) fun τ1 x _ => (negD x).bind fun z => some (τ1, z, true) := by
  show bE (evE C ρ a τ) _ = _
  congr 1
  funext t x o
  cases x <;> rfl
def notD : D → Option D
  | .bool i => some (.bool (!i))
  | _ => none
@[simp] theorem notD_bl (i : Bool) : notD (.bool i) = some (.bool (!i)) := rfl
theorem evE_not {a : IE} : evE C ρ (.not a) τ = bE (evE C ρ a τ) fun τ1 x _ => (notD x).bind fun z => some (τ1, z, true) := by
  show bE (evE C ρ a τ) _ = _
  congr 1
  funext t x o
  cases x <;> rfl
theorem evE_and {es : IA} : evE C ρ (.and es) τ = evAnd C ρ es τ := rfl
theorem evE_or {es : IA} : evE C ρ (.or es) τ = evOr C ρ es τ := rfl
theorem evE_ife {t : DI.IT} {a b : IE} : evE C ρ (.ife t a b) τ = bT (evT C ρ t τ) fun τ1 k => iteB k (evE C ρ a τ1) (evE C ρ b τ1) := rfl
theorem evE_tup {es : IA} : evE C ρ (.tup es) τ = (evA C ρ es τ).bind fun p => guardO (p.2.2.all id && decide (p.2.1.length ≤ 1000000)) (some (p.1, .tuple p.2.1, true)) := rfl
theorem evE_lst {es : IA} : evE C ρ (.lst es) τ = (evA C ρ es τ).bind fun p => guardO (p.2.2.all id && decide (p.2.1.length ≤ 1000000)) (some (p.1, .list p.2.1, true)) := rfl
theorem evE_call {f : Str} {es : IA} : evE C ρ (.call f es) τ = (C.fs f).bind fun g => (evA C ρ es τ).bind fun p => (g p.2.1).bind fun z => some (p.1, z, true) := by
  show (match C.fs f with | some g => _ | none => _) = _
  cases C.fs f <;> rfl
theorem evE_bi {b : Bi} {es : IA} : evE C ρ (.bi b es) τ = (evA C ρ es τ).bind fun p => (biD b p.2.1).bind fun z => some (p.1, z, true) := rfl
def slD : D → Option Int → Option Int → Option D
  | .list ds, l, h => guardO (immAll ds) (some (.list (cutD ds l h)))
  | .tuple ds, l, h => guardO (immAll ds) (some (.tuple (cutD ds l h)))
  | _, _, _ => none
theorem evE_sl {a : IE} {lo hi : IO} : evE C ρ (.sl a lo hi) τ = bE (evE C ρ a τ) fun τ1 x _ => (evP C ρ lo τ1).bind fun l => (evP C ρ hi l.1).bind fun h => (slD x l.2 h.2).bind fun z => some (h.1, z, true) := by
  show bE (evE C ρ a τ) _ = _
  congr 1
  funext t x o
  cases evP C ρ lo t with
  | none => rfl
  | some l =>
    show (evP C ρ hi l.1).bind _ = (evP C ρ hi l.1).bind _
    cases evP C ρ hi l.1 with
    | none => rfl
    | some h =>
      cases x <;> first | rfl | (show guardO _ _ = (guardO _ _).bind _; cases immAll _ <;> rfl)
theorem evE_lc {own : List (Str × Nat)} {elt : IC} {tg : TG} {it : II} : evE C ρ (.lc own elt tg it) τ = (evI C ρ it τ).bind fun p => guardO (decide (p.2.1.length ≤ 1000000)) ((lcL (fun d t => (evG tg d (wipeL ρ (own.map (·.2)))).bind fun ρ2 => evC C ρ2 elt t) p.2.1 p.1).bind fun q => some (q.1, .list q.2, true)) := rfl
theorem evC_el {e : IE} : evC C ρ (.el e) τ = bE (evE C ρ e τ) fun t y o => guardO o (some (t, some y)) := rfl
theorem evC_ift {c : DI.IT} {e : IE} : evC C ρ (.ift c e) τ = bT (evT C ρ c τ) fun τ1 k => iteB k (bE (evE C ρ e τ1) fun t y o => guardO o (some (t, some y))) (some (τ1, none)) := rfl
theorem evT_not {a : DI.IT} : evT C ρ (.not a) τ = bT (evT C ρ a τ) fun t k => some (t, !k) := rfl
theorem evT_and {es : IL} : evT C ρ (.and es) τ = tsAnd C ρ es τ := rfl
theorem evT_or {es : IL} : evT C ρ (.or es) τ = tsOr C ρ es τ := rfl
def trD : D → Option Bool
  | .bool k => some k
  | .none => some false
  | .int z => some (z != 0)
  | .list xs => some (!xs.isEmpty)
  | .tuple xs => some (!xs.isEmpty)
  | _ => none
@[simp] theorem trD_bl (k : Bool) : trD (.bool k) = some k := rfl
@[simp] theorem trD_none : trD .none = some false := rfl
@[simp] theorem trD_tuple (xs : List D) : trD (.tuple xs) = some (!xs.isEmpty) := rfl
@[simp] theorem trD_list (xs : List D) : trD (.list xs) = some (!xs.isEmpty) := rfl
theorem evT_val {e : IE} : evT C ρ (.val e) τ = bE (evE C ρ e τ) fun t x _ => (trD x).bind fun k => some (t, k) := by
  show bE (evE C ρ e τ) _ = _
  congr 1
  funext t x o
  cases x <;> rfl
theorem evA_nil : evA C ρ .nil τ = some (τ, [], []) := rfl
theorem evA_cons {e : IE} {es : IA} : evA C ρ (.cons e es) τ = bE (evE C ρ e τ) fun τ1 d o => (evA C ρ es τ1).bind fun p => some (p.1, d :: p.2.1, o :: p.2.2) := rfl
theorem evAnd_one {e : IE} : evAnd C ρ (.cons e .nil) τ = evE C ρ e τ := rfl
def blD : D → Option Bool
  | .bool k => some k
  | _ => none
@[simp] theorem blD_bl (k : Bool) : blD (.bool k) = some k := rfl
theorem evAnd_cons {e f : IE} {es : IA} : evAnd C ρ (.cons e (.cons f es)) τ = bE (evE C ρ e τ) fun τ1 x _ => (blD x).bind fun k => iteB k (evAnd C ρ (.cons f es) τ1) (some (τ1, .bool false, true)) := by
  show bE (evE C ρ e τ) _ = _
  congr 1
  funext t x o
  cases x <;> rfl
theorem evOr_one {e : IE} : evOr C ρ (.cons e .nil) τ = evE C ρ e τ := rfl
theorem evOr_cons {e f : IE} {es : IA} : evOr C ρ (.cons e (.cons f es)) τ = bE (evE C ρ e τ) fun τ1 x _ => (blD x).bind fun k => iteB k (some (τ1, .bool true, true)) (evOr C ρ (.cons f es) τ1) := by
  show bE (evE C ρ e τ) _ = _
  congr 1
  funext t x o
  cases x <;> rfl
theorem tsAnd_one {e : DI.IT} : tsAnd C ρ (.cons e .nil) τ = evT C ρ e τ := rfl
theorem tsAnd_cons {e f : DI.IT} {es : IL} : tsAnd C ρ (.cons e (.cons f es)) τ = bT (evT C ρ e τ) fun τ1 k => iteB k (tsAnd C ρ (.cons f es) τ1) (some (τ1, false)) := rfl
theorem tsOr_one {e : DI.IT} : tsOr C ρ (.cons e .nil) τ = evT C ρ e τ := rfl
theorem tsOr_cons {e f : DI.IT} {es : IL} : tsOr C ρ (.cons e (.cons f es)) τ = bT (evT C ρ e τ) fun τ1 k => iteB k (some (τ1, true)) (tsOr C ρ (.cons f es) τ1) := rfl
theorem evP_no : evP C ρ .no τ = some (τ, none) := rfl
def inD : D → Option Int
  | .int k => some k
  | _ => none
@[simp] theorem inD_int (k : Int) : inD (.int k) = some k := rfl
theorem evP_so {e : IE} : evP C ρ (.so e) τ = bE (evE C ρ e τ) fun τ1 x _ => (inD x).bind fun i => some (τ1, some i) := by
  show bE (evE C ρ e τ) _ = _
  congr 1
  funext t x o
  cases x <;> rfl
def sqD : D → Option (List D)
  | .list ds => some ds
  | .tuple ds => some ds
  | _ => none
@[simp] theorem sqD_list (ds : List D) : sqD (.list ds) = some ds := rfl
@[simp] theorem sqD_tuple (ds : List D) : sqD (.tuple ds) = some ds := rfl
theorem evI_seq {e : IE} : evI C ρ (.seq e) τ = bE (evE C ρ e τ) fun τ1 x o => (sqD x).bind fun ds => some (τ1, ds, o) := by
  show bE (evE C ρ e τ) _ = _
  congr 1
  funext t x o
  cases x <;> rfl
theorem evI_rng1 {e : IE} : evI C ρ (.rng1 e) τ = bE (evE C ρ e τ) fun τ1 x _ => (inD x).bind fun j => guardO (decide (-1000000 ≤ j ∧ j ≤ 1000000)) (some (τ1, rngD 0 j.toNat, true)) := by
  show bE (evE C ρ e τ) _ = _
  congr 1
  funext t x o
  cases x <;> rfl
theorem evI_rng2 {a b : IE} : evI C ρ (.rng2 a b) τ = bE (evE C ρ a τ) fun τ1 x _ => bE (evE C ρ b τ1) fun τ2 y _ => (inD x).bind fun i => (inD y).bind fun j => guardO (decide (-1000000 ≤ i ∧ i ≤ 1000000 ∧ -1000000 ≤ j ∧ j ≤ 1000000)) (some (τ2, rngD i (j - i).toNat, true)) := by
  show bE (evE C ρ a τ) _ = _
  congr 1
  funext t x o
  congr 1
  funext t2 y o2
  cases x <;> first | rfl | (cases y <;> rfl)
theorem evI_enum {e : IE} : evI C ρ (.enum e) τ = bE (evE C ρ e τ) fun τ1 x o => (sqD x).bind fun ds => some (τ1, enumD ds, o) := by
  show bE (evE C ρ e τ) _ = _
  congr 1
  funext t x o
  cases x <;> rfl
end
end DI
/-! DI, part 11: the evaluator's equations: statements; loops and comprehensions over typed items. -/
namespace DI
open PySem PySem.Spec L2 RZ DL
/-- a list that stands in a slot -/
def gL (ρ : List Sl) (i : Nat) : Option (List D × Option Addr) := match ρ[i]? with
  | some (.v (.list ds) sa) => some (ds, sa)
  | _ => none
/-- a datum that stands in a slot -/
def gV (ρ : List Sl) (i : Nat) : Option (D × Option Addr) := match ρ[i]? with
  | some (.v d sa) => some (d, sa)
  | _ => none
/-- is the tape there -/
def gT (ρ : List Sl) (i : Nat) : Bool := match ρ[i]? with
  | some .tp => true
  | _ => false
section
variable {C : FT} {ρ r : List Sl} {τ : D} {s : Sl} {i : Nat}
@[simp] theorem gL_z (ds : List D) (sa : Option Addr) : gL (.v (.list ds) sa :: r) 0 = some (ds, sa) := rfl
@[simp] theorem gL_s : gL (s :: r) (i + 1) = gL r i := rfl
@[simp] theorem gV_z (d : D) (sa : Option Addr) : gV (.v d sa :: r) 0 = some (d, sa) := rfl
@[simp] theorem gV_s : gV (s :: r) (i + 1) = gV r i := rfl
@[simp] theorem gT_z : gT (.tp :: r) 0 = true := rfl
@[simp] theorem gT_s : gT (s :: r) (i + 1) = gT r i := rfl
theorem evSs_nil : evSs C .nil ρ τ = some (.nx ρ τ) := rfl
theorem evSs_cons {st : IS} {ss : ISs} : evSs C (.cons st ss) ρ τ = bS (evS C st ρ τ) fun ρ1 τ1 => evSs C ss ρ1 τ1 := rfl
theorem evSs_fgt {ss : ISs} : evSs C (.fgt i ss) ρ τ = evSs C ss (ρ.set i .any) τ := rfl
theorem evS_set {e : IE} : evS C (.set i e) ρ τ = bE (evE C ρ e τ) fun τ1 d o => guardO o (some (.nx (ρ.set i (.v d)) τ1)) := rfl
theorem evS_setLc {own : List (Str × Nat)} {elt : IC} {tg : TG} {it : II} : evS C (.setLc i own elt tg it) ρ τ = bE (evE C ρ (.lc own elt tg it) τ) fun τ1 d _ => some (.nx (ρ.set i (.v d)) τ1) := rfl
theorem evS_move {j : Nat} : evS C (.move i j) ρ τ = (gV ρ j).bind fun p => guardO (decide (i ≠ j)) (some (.nx ((ρ.set j .any).set i (.v p.1)) τ)) := by
  show (match ρ[j]? with | some (.v d _) => _ | _ => none) = _
  unfold gV
  split <;> simp_all
theorem evS_unp {tg : TG} {e : IE} : evS C (.unp tg e) ρ τ = bE (evE C ρ e τ) fun τ1 d o => iteB o ((evO tg d ρ).bind fun ρ1 => some (.nx ρ1 τ1)) ((evG tg d ρ).bind fun ρ1 => some (.nx ρ1 τ1)) := rfl
theorem evS_par {j : Nat} {a b : IE} : evS C (.par i j a b) ρ τ = bE (evE C ρ a τ) fun τ1 x o1 => bE (evE C ρ b τ1) fun τ2 y o2 => guardO (o1 && o2 && decide (i ≠ j)) (some (.nx ((ρ.set i (.v x)).set j (.v y)) τ2)) := rfl
theorem evS_ife {c : DI.IT} {a b : ISs} : evS C (.ife c a b) ρ τ = bT (evT C ρ c τ) fun τ1 k => iteB k (evSs C a ρ τ1) (evSs C b ρ τ1) := rfl
/-- a turn of a loop -/
noncomputable def turnF (C : FT) (tg : TG) (body : ISs) (d : D) (ρ : List Sl) (τ : D) : Option SO := (evG tg d ρ).bind fun ρ2 => evSs C body ρ2 τ
theorem evS_for {tg : TG} {it : II} {body : ISs} : evS C (.for_ tg it body) ρ τ = (evI C ρ it τ).bind fun p => guardO p.2.2 (evFor (turnF C tg body) p.2.1 ρ p.1) := rfl
theorem evS_forV {tg : TG} {body : ISs} : evS C (.forV tg i body) ρ τ = (gL ρ i).bind fun p => guardO (immAll p.1) (allA fun a => evPin (turnF C tg body) i (.v (.list p.1) (some a)) p.1 (ρ.set i (.v (.list p.1) (some a))) τ) := by
  show (match ρ[i]? with | some (.v (.list ds) _) => _ | _ => none) = _
  unfold gL
  split <;> simp_all <;> rfl
theorem evS_ret {e : IE} : evS C (.ret e) ρ τ = bE (evE C ρ e τ) fun τ1 d o => guardO o (some (.rt τ1 d)) := rfl
theorem evS_retV : evS C (.retV i) ρ τ = (gV ρ i).bind fun p => some (.rt τ p.1) := by
  show (match ρ[i]? with | some (.v d _) => _ | _ => none) = _
  unfold gV
  split <;> simp_all
theorem evS_retN : evS C .retN ρ τ = some (.rt τ .none) := rfl
theorem evS_expr {e : IE} : evS C (.expr e) ρ τ = bE (evE C ρ e τ) fun τ1 _ _ => some (.nx ρ τ1) := rfl
theorem evS_append {e : IE} : evS C (.append i e) ρ τ = (gL ρ i).bind fun p => bE (evE C ρ e τ) fun τ1 d o => guardO (o && nb? ρ && decide (p.1.length < 1000000)) (some (.nx (ρ.set i (.v (.list (p.1 ++ [d])) p.2)) τ1)) := by
  show (match ρ[i]? with | some (.v (.list ds) sa) => _ | _ => none) = _
  unfold gL
  split <;> simp_all
def lsD : D → Option (List D)
  | .list ds => some ds
  | _ => none
@[simp] theorem lsD_list (ds : List D) : lsD (.list ds) = some ds := rfl
theorem evS_extend {e : IE} : evS C (.extend i e) ρ τ = (gL ρ i).bind fun p => bE (evE C ρ e τ) fun τ1 d _ => (lsD d).bind fun es => guardO (immAll es && nb? ρ && decide (p.1.length + es.length ≤ 1000000)) (some (.nx (ρ.set i (.v (.list (p.1 ++ es)) p.2)) τ1)) := by
  show (match ρ[i]? with | some (.v (.list ds) sa) => _ | _ => none) = _
  unfold gL
  split
  · simp only [Option.bind_some]
    congr 1
    funext t x o
    cases x <;> rfl
  · simp_all
theorem evS_put {k e : IE} : evS C (.put i k e) ρ τ = (gL ρ i).bind fun p => bE (evE C ρ e τ) fun τ1 d _ => bE (evE C ρ k τ1) fun τ2 kd _ => (inD kd).bind fun z => (ixN p.1.length z).bind fun j => guardO (imm d && nb? ρ) (some (.nx (ρ.set i (.v (.list (p.1.set j d)) p.2)) τ2)) := by
  show (match ρ[i]? with | some (.v (.list ds) sa) => _ | _ => none) = _
  unfold gL
  split
  · simp only [Option.bind_some]
    congr 1
    funext t x o
    congr 1
    funext t2 y o2
    cases y <;> rfl
  · simp_all
theorem evS_put2 {k m e : IE} : evS C (.put2 i k m e) ρ τ = (gL ρ i).bind fun p => bE (evE C ρ e τ) fun τ1 d _ => bE (evE C ρ k τ1) fun τ2 kd _ => (inD kd).bind fun z => (ixN p.1.length z).bind fun j => (p.1[j]?.bind lsD).bind fun es => bE (evE C ρ m τ2) fun τ3 md _ => (inD md).bind fun w => (ixN es.length w).bind fun l =>
    guardO (imm d && nb? ρ) (some (.nx (ρ.set i (.v (.list (p.1.set j (.list (es.set l d)))) p.2)) τ3)) := by
  show (match ρ[i]? with | some (.v (.list ds) sa) => _ | _ => none) = _
  unfold gL
  split
  · simp only [Option.bind_some]
    congr 1
    funext t x o
    congr 1
    funext t2 y o2
    cases y with
    | int z =>
      simp only [inD_int, Option.bind_some]
      congr 1
      funext j
      rename_i q0 ds sa _
      cases ds[j]? with
      | none => rfl
      | some q =>
        cases q with
        | list es =>
          simp only [Option.bind_some, lsD_list]
          congr 1
          funext t3 u o3
          cases u <;> rfl
        | _ => rfl
    | _ => rfl
  · simp_all
theorem evS_addI {e : IE} : evS C (.addI i e) ρ τ = (gV ρ i).bind fun p => (inD p.1).bind fun z => bE (evE C ρ e τ) fun τ1 d _ => (inD d).bind fun w => some (.nx (ρ.set i (.v (.int (z + w)))) τ1) := by
  show (match ρ[i]? with | some (.v (.int z) _) => _ | _ => none) = _
  unfold gV
  cases ρ[i]? with
  | none => rfl
  | some s =>
    cases s with
    | v d sa =>
      cases d with
      | int z =>
        simp only [Option.bind_some, inD_int]
        congr 1
        funext t x o
        cases x <;> rfl
      | _ => rfl
    | _ => rfl
theorem evS_pass : evS C .pass ρ τ = some (.nx ρ τ) := rfl
theorem evS_brk : evS C .brk ρ τ = some (.bk ρ τ) := rfl
theorem evS_cont : evS C .cont ρ τ = some (.ct ρ τ) := rfl
theorem evO_nm {d : D} : evO (.nm i) d ρ = some (ρ.set i (.v d)) := rfl
theorem evO_tup {ts : TGs} {ds : List D} : evO (.tup ts) (.tuple ds) ρ = evOs ts ds ρ := rfl
theorem evOs_nil : evOs .nil [] ρ = some ρ := rfl
theorem evOs_cons {t : TG} {ts : TGs} {d : D} {ds : List D} : evOs (.cons t ts) (d :: ds) ρ = (evO t d ρ).bind fun ρ1 => evOs ts ds ρ1 := rfl
theorem evG_nm {d : D} : evG (.nm i) d ρ = some (ρ.set i (slOf d)) := rfl
theorem evG_tup {ts : TGs} {ds : List D} : evG (.tup ts) (.tuple ds) ρ = evGs ts ds ρ := rfl
theorem evGs_nil : evGs .nil [] ρ = some ρ := rfl
theorem evGs_cons {t : TG} {ts : TGs} {d : D} {ds : List D} : evGs (.cons t ts) (d :: ds) ρ = (evG t d ρ).bind fun ρ1 => evGs ts ds ρ1 := rfl
theorem slOf_imm {d : D} (h : imm d = true) : slOf d = .v d := by
  unfold slOf
  rw [if_pos h]
/-! tape -/
theorem evE_tget {f : TF} {t : Tape} (h : gT ρ i = true) : evE C ρ (.tget i f) (eTape t) = some (eTape t, .int (t.get f), true) := by
  unfold gT at h
  unfold evE
  split at h
  · rename_i hh; rw [hh, decT_tape]
  · cases h
theorem evE_tlen {t : Tape} (h : gT ρ i = true) : evE C ρ (.tlen i) (eTape t) = some (eTape t, .int t.cells.length, true) := by
  unfold gT at h
  unfold evE
  split at h
  · rename_i hh; rw [hh, decT_tape]
  · cases h
theorem evE_tcell {t : Tape} (h : gT ρ i = true) : evE C ρ (.tcell i) (eTape t) = (L2.atI t.cells t.pos).bind fun n => some (eTape t, .int n, true) := by
  unfold gT at h
  unfold evE
  split at h
  · rename_i hh; rw [hh, decT_tape]
  · cases h
theorem evE_callT {f : Str} {es : IA} (h : gT ρ i = true) : evE C ρ (.callT f i es) τ = (C.ft f).bind fun g => (evA C ρ es τ).bind fun p => (g p.1 p.2.1).bind fun z => some (z.1, z.2, true) := by
  unfold gT at h
  unfold evE
  split at h
  · rename_i hh
    rw [hh]
    cases C.ft f <;> rfl
  · cases h
theorem evS_tput {f : TF} {e : IE} {t : Tape} {n : Int} {o : Bool} (h : gT ρ i = true) (he : evE C ρ e τ = some (eTape t, .int n, o)) : evS C (.tput i f e) ρ τ = some (.nx ρ (eTape (t.put n f))) := by
  unfold gT at h
  unfold evS
  rw [he]
  split at h
  · rename_i hh
    simp only [bE_some]
    rw [hh, decT_tape]
  · cases h
end
/-! ### loops over typed items -/
theorem evFor_inv {α β : Type} {turn : D → List Sl → D → Option SO} {enc : α → D} {E : β → List Sl} {tp : β → D} {f : β → α → β} (I : β → Prop) : ∀ {xs : List α} {s : β}, I s → (∀ s x, I s → x ∈ xs → I (f s x) ∧ (turn (enc x) (E s) (tp s) = some (.nx (E (f s x)) (tp (f s x))) ∨ turn (enc x) (E s) (tp s) = some (.ct (E (f s x)) (tp (f s x))))) →
    evFor turn (xs.map enc) (E s) (tp s) = some (.nx (E (xs.foldl f s)) (tp (xs.foldl f s))) ∧ I (xs.foldl f s)
  | [], s, h, _ => ⟨rfl, h⟩
  | x :: xs, s, h, hs => by
    obtain ⟨h1, h2⟩ := hs s x h List.mem_cons_self
    obtain ⟨h3, h4⟩ := evFor_inv (turn := turn) (enc := enc) (E := E) (tp := tp) (f := f) I (xs := xs) h1 fun s y hi hy => hs s y hi (List.mem_cons_of_mem _ hy)
    refine ⟨?_, h4⟩
    show bL (turn (enc x) (E s) (tp s)) _ = _
    rcases h2 with h2 | h2
    · rw [h2]; exact h3
    · rw [h2]; exact h3
theorem lcL_map {α : Type} {turn : D → D → Option (D × Option D)} {enc : α → D} {g : α → D} {τ : D} : ∀ {xs : List α}, (∀ x ∈ xs, turn (enc x) τ = some (τ, some (g x))) → lcL turn (xs.map enc) τ = some (τ, xs.map g)
  | [], _ => rfl
  | x :: xs, h => by
    show lcL turn (enc x :: xs.map enc) τ = _
    unfold lcL
    rw [h x List.mem_cons_self]
    simp only [Option.bind_some]
    rw [lcL_map fun y hy => h y (List.mem_cons_of_mem _ hy)]
    rfl
theorem lcL_filter {α : Type} {turn : D → D → Option (D × Option D)} {enc : α → D} {p : α → Bool} {g : α → D} {τ : D} : ∀ {xs : List α}, (∀ x ∈ xs, turn (enc x) τ = some (τ, if p x = true then some (g x) else none)) → lcL turn (xs.map enc) τ = some (τ, (xs.filter p).map g)
  | [], _ => rfl
  | x :: xs, h => by
    show lcL turn (enc x :: xs.map enc) τ = _
    unfold lcL
    rw [h x List.mem_cons_self]
    simp only [Option.bind_some]
    rw [lcL_filter fun y hy => h y (List.mem_cons_of_mem _ hy)]
    rw [List.filter_cons]
    cases p x <;> rfl
/-- with the tape: what a turn takes and gives -/
theorem lcL_tape {α S : Type} {turn : D → D → Option (D × Option D)} {enc : α → D} {tp : S → D} (f : S → α → S × Option D) (I : S → Prop) : ∀ {xs : List α} {s : S}, I s → (∀ s x, I s → x ∈ xs → I (f s x).1 ∧ turn (enc x) (tp s) = some (tp (f s x).1, (f s x).2)) →
    ∃ r, lcL turn (xs.map enc) (tp s) = some (tp (xs.foldl (fun s x => (f s x).1) s), r) ∧ I (xs.foldl (fun s x => (f s x).1) s)
  | [], s, h, _ => ⟨[], rfl, h⟩
  | x :: xs, s, h, hs => by
    obtain ⟨h1, h2⟩ := hs s x h List.mem_cons_self
    obtain ⟨r, h3, h4⟩ := lcL_tape (turn := turn) (enc := enc) (tp := tp) f I (xs := xs) h1 fun s y hi hy => hs s y hi (List.mem_cons_of_mem _ hy)
    refine ⟨(f s x).2.toList ++ r, ?_, h4⟩
    show lcL turn (enc x :: xs.map enc) (tp s) = _
    unfold lcL
    rw [h2]
    simp only [Option.bind_some]
    rw [h3]
    rfl
/-- a turn of a comprehension -/
noncomputable def turnC (C : FT) (ρ : List Sl) (own : List (Str × Nat)) (tg : TG) (elt : IC) (d t : D) : Option (D × Option D) := (evG tg d (wipeL ρ (own.map (·.2)))).bind fun ρ2 => evC C ρ2 elt t
theorem turnC_eq {C : FT} {ρ : List Sl} {own : List (Str × Nat)} {tg : TG} {elt : IC} {d t : D} : turnC C ρ own tg elt d t = (evG tg d (wipeL ρ (own.map (·.2)))).bind fun ρ2 => evC C ρ2 elt t := rfl
theorem turnF_eq {C : FT} {tg : TG} {body : ISs} {d : D} {ρ : List Sl} {τ : D} : turnF C tg body d ρ τ = (evG tg d ρ).bind fun ρ2 => evSs C body ρ2 τ := rfl
theorem evLc_map {α : Type} {C : FT} {ρ : List Sl} {own : List (Str × Nat)} {elt : IC} {tg : TG} {it : II} {τ τ1 : D} {o : Bool} (enc : α → D) (g : α → D) (xs : List α) (hi : evI C ρ it τ = some (τ1, xs.map enc, o)) (hl : xs.length ≤ 1000000) (ht : ∀ x ∈ xs, turnC C ρ own tg elt (enc x) τ1 = some (τ1, some (g x))) :
    evE C ρ (.lc own elt tg it) τ = some (τ1, .list (xs.map g), true) := by
  rw [evE_lc, hi]
  simp only [Option.bind_some, List.length_map]
  rw [decide_eq_true hl, guardO_true]
  have := lcL_map (turn := turnC C ρ own tg elt) (enc := enc) (g := g) ht
  unfold turnC at this
  rw [this]
  rfl
theorem evLc_filter {α : Type} {C : FT} {ρ : List Sl} {own : List (Str × Nat)} {elt : IC} {tg : TG} {it : II} {τ τ1 : D} {o : Bool} (enc : α → D) (p : α → Bool) (g : α → D) (xs : List α) (hi : evI C ρ it τ = some (τ1, xs.map enc, o)) (hl : xs.length ≤ 1000000) (ht : ∀ x ∈ xs, turnC C ρ own tg elt (enc x) τ1 = some (τ1, if p x = true then some (g x) else none)) :
    evE C ρ (.lc own elt tg it) τ = some (τ1, .list ((xs.filter p).map g), true) := by
  rw [evE_lc, hi]
  simp only [Option.bind_some, List.length_map]
  rw [decide_eq_true hl, guardO_true]
  have := lcL_filter (turn := turnC C ρ own tg elt) (enc := enc) (g := g) (p := p) ht
  unfold turnC at this
  rw [this]
  rfl
@[simp] theorem outF_rt (τ d : D) : outF (some (.rt τ d)) = some d := rfl
@[simp] theorem outF_nx (ρ : List Sl) (τ : D) : outF (some (.nx ρ τ)) = some .none := rfl
@[simp] theorem outT_rt (τ d : D) : outT (some (.rt τ d)) = some (τ, d) := rfl
theorem runF_eq {C : FT} {n m : Nat} {b : ISs} {ds : List D} (ρ : List Sl) (hl : ds.length = m) (hρ : argSl ds n = ρ) : runF C n m b ds = outF (evSs C b ρ .none) := by
  unfold runF
  rw [if_pos hl, hρ]
theorem runT_eq {C : FT} {n m : Nat} {b : ISs} {ds : List D} {τ : D} (ρ : List Sl) (hl : ds.length + 1 = m) (hρ : .tp :: argSl ds (n - 1) = ρ) : runT C n m b τ ds = outT (evSs C b ρ τ) := by
  unfold runT
  rw [if_pos hl, hρ]
theorem runF_rt {C : FT} {n m : Nat} {b : ISs} {ds : List D} {ρ : List Sl} {τ d : D} (hl : ds.length = m) (hρ : argSl ds n = ρ) (h : evSs C b ρ .none = some (.rt τ d)) : runF C n m b ds = some d := by
  unfold runF
  rw [if_pos hl, hρ, h]; rfl
theorem runF_nx {C : FT} {n m : Nat} {b : ISs} {ds : List D} {ρ ρ' : List Sl} {τ : D} (hl : ds.length = m) (hρ : argSl ds n = ρ) (h : evSs C b ρ .none = some (.nx ρ' τ)) : runF C n m b ds = some .none := by
  unfold runF
  rw [if_pos hl, hρ, h]; rfl
theorem runT_rt {C : FT} {n m : Nat} {b : ISs} {ds : List D} {ρ : List Sl} {τ τ' d : D} (hl : ds.length + 1 = m) (hρ : .tp :: argSl ds (n - 1) = ρ) (h : evSs C b ρ τ = some (.rt τ' d)) : runT C n m b τ ds = some (τ', d) := by
  unfold runT
  rw [if_pos hl, hρ, h]; rfl
end DI
/-! DI, part 12: data by types: what is told of numbers, rows of numbers, comparing, sorting. -/
namespace DI
open PySem PySem.Spec L2 RZ DL
@[simp] theorem slOf_int (z : Int) : slOf (.int z) = .v (.int z) := rfl
@[simp] theorem slOf_bool (z : Bool) : slOf (.bool z) = .v (.bool z) := rfl
@[simp] theorem imm_int (z : Int) : imm (.int z) = true := rfl
@[simp] theorem imm_bool (z : Bool) : imm (.bool z) = true := rfl
@[simp] theorem imm_none : imm .none = true := rfl
theorem imm_tuple (ds : List D) : imm (.tuple ds) = immAll ds := rfl
theorem immAll_nil : immAll [] = true := rfl
theorem immAll_cons (d : D) (ds : List D) : immAll (d :: ds) = (imm d && immAll ds) := rfl
theorem immAll_mem {ds : List D} (h : ∀ d ∈ ds, imm d = true) : immAll ds = true := by
  induction ds with
  | nil => rfl
  | cons d r ih => rw [immAll_cons, h d List.mem_cons_self, ih fun d hd => h d (List.mem_cons_of_mem _ hd)]; rfl
theorem immAll_mapE {α : Type} {enc : α → D} {xs : List α} (h : ∀ x ∈ xs, imm (enc x) = true) : immAll (xs.map enc) = true := immAll_mem fun d hd => by
  obtain ⟨x, hx, rfl⟩ := List.mem_map.mp hd
  exact h x hx
theorem immAll_app (a b : List D) : immAll (a ++ b) = (immAll a && immAll b) := by
  induction a with
  | nil => rfl
  | cons d r ih => rw [List.cons_append, immAll_cons, immAll_cons, ih, Bool.and_assoc]
theorem evI_rngN {C : FT} {ρ : List Sl} {τ τ1 : D} {o : Bool} {e : IE} (m : Nat) (he : evE C ρ e τ = some (τ1, .int (m : Int), o)) (hm : m ≤ 1000000) : evI C ρ (.rng1 e) τ = some (τ1, (List.range m).map fun i : Nat => PyData.int (i : Int), true) := by
  rw [evI_rng1, he]
  have g : decide (-1000000 ≤ (m : Int) ∧ (m : Int) ≤ 1000000) = true := decide_eq_true ⟨by omega, by omega⟩
  simp only [bE_some, inD_int, Option.bind_some, g, guardO_true, Int.toNat_natCast]
  unfold rngD
  simp only [Int.zero_add]
theorem evI_rngP {C : FT} {ρ : List Sl} {τ τ1 τ2 : D} {o o2 : Bool} {e e2 : IE} (m l : Nat) (he : evE C ρ e τ = some (τ1, .int (m : Int), o)) (he2 : evE C ρ e2 τ1 = some (τ2, .int (m + l : Nat), o2)) (hm : m + l ≤ 1000000) : evI C ρ (.rng2 e e2) τ = some (τ2, (List.range l).map fun i : Nat => PyData.int ((m + i : Nat) : Int), true) := by
  rw [evI_rng2, he, bE_some, he2]
  have g : decide (-1000000 ≤ (m : Int) ∧ (m : Int) ≤ 1000000 ∧ -1000000 ≤ ((m + l : Nat) : Int) ∧ ((m + l : Nat) : Int) ≤ 1000000) = true := decide_eq_true ⟨by omega, by omega, by omega, by omega⟩
  simp only [bE_some, inD_int, Option.bind_some, g, guardO_true]
  unfold rngD
  have : (((m + l : Nat) : Int) - (m : Int)).toNat = l := by omega
  rw [this]
  simp only [Int.natCast_add]
theorem evE_lrng {C : FT} {ρ : List Sl} {τ τ1 : D} {o : Bool} {e : IE} (m : Nat) (he : evE C ρ e τ = some (τ1, .int (m : Int), o)) (hm : m ≤ 1000000) : evE C ρ (.lrng e) τ = some (τ1, .list ((List.range m).map fun i : Nat => PyData.int (i : Int)), true) := by
  show bE (evE C ρ e τ) _ = _
  rw [he]
  have g : decide (-1000000 ≤ (m : Int) ∧ (m : Int) ≤ 1000000) = true := decide_eq_true ⟨by omega, by omega⟩
  simp only [bE_some, g, guardO_true, Int.toNat_natCast]
  unfold rngD
  simp only [Int.zero_add]
theorem cmpD_is_non (x : D) : cmpD .is x .none = some (DL.isNon x) := by cases x <;> rfl
theorem cmpD_isn_non (x : D) : cmpD .isn x .none = some (!DL.isNon x) := by cases x <;> rfl
theorem cmpD_is_bl (a c : Bool) : cmpD .is (.bool a) (.bool c) = some (decide (a = c)) := rfl
theorem cmpD_isn_bl (a c : Bool) : cmpD .isn (.bool a) (.bool c) = some (!decide (a = c)) := rfl
theorem isNon_int (z : Int) : DL.isNon (.int z) = false := rfl
theorem isNon_none : DL.isNon .none = true := rfl
theorem cmpD_lt (i j : Int) : cmpD .lt (.int i) (.int j) = some (decide (i < j)) := rfl
theorem cmpD_le (i j : Int) : cmpD .le (.int i) (.int j) = some (decide (i ≤ j)) := rfl
theorem cmpD_gt (i j : Int) : cmpD .gt (.int i) (.int j) = some (decide (j < i)) := rfl
theorem cmpD_ge (i j : Int) : cmpD .ge (.int i) (.int j) = some (decide (j ≤ i)) := rfl
theorem op2D_add (i j : Int) : op2D .add (.int i) (.int j) = some (.int (i + j)) := rfl
theorem op2D_sub (i j : Int) : op2D .sub (.int i) (.int j) = some (.int (i - j)) := rfl
theorem op2D_mulL {i : Int} (j : Int) (h : -1000000 ≤ i ∧ i ≤ 1000000) : op2D .mul (.int i) (.int j) = some (.int (i * j)) := by
  show guardO _ _ = _
  rw [decide_eq_true (p := -18446744073709551616 < i ∧ i < 18446744073709551616) ⟨by omega, by omega⟩]
  rfl
theorem op2D_addT (xs ys : List D) (h1 : immAll xs = true) (h2 : immAll ys = true) (hl : xs.length + ys.length ≤ 1000000) : op2D .add (.tuple xs) (.tuple ys) = some (.tuple (xs ++ ys)) := by
  show guardO _ _ = _
  rw [h1, h2, decide_eq_true hl]; rfl
theorem op2D_addL (xs ys : List D) (h1 : immAll xs = true) (h2 : immAll ys = true) (hl : xs.length + ys.length ≤ 1000000) : op2D .add (.list xs) (.list ys) = some (.list (xs ++ ys)) := by
  show guardO _ _ = _
  rw [h1, h2, decide_eq_true hl]; rfl
theorem ixD_t (ds : List D) (i : Int) : ixD (.tuple ds) (.int i) = L2.atI ds i := rfl
theorem ixD_l (ds : List D) (i : Int) : ixD (.list ds) (.int i) = L2.atI ds i := rfl
theorem addG_gl (C : FT) (x y : PySem.Str) (z : Int) : (C.addG x z).gl y = if y = x then some z else C.gl y := rfl
theorem biD_allM {α : Type} (p : α → Bool) (xs : List α) : biD .all [.list (xs.map fun x => .bool (p x))] = some (.bool (xs.all p)) := by
  show (boolsD (xs.map fun x => .bool (p x))).map _ = _
  have e : xs.map (fun x => PyData.bool (p x)) = (xs.map p).map PyData.bool := by rw [List.map_map]; rfl
  rw [e, boolsD_map]
  simp
theorem biD_anyM {α : Type} (p : α → Bool) (xs : List α) : biD .any [.list (xs.map fun x => .bool (p x))] = some (.bool (xs.any p)) := by
  show (boolsD (xs.map fun x => .bool (p x))).map _ = _
  have e : xs.map (fun x => PyData.bool (p x)) = (xs.map p).map PyData.bool := by rw [List.map_map]; rfl
  rw [e, boolsD_map]
  simp
theorem intsD_mapE {α : Type} (g : α → Int) (xs : List α) : intsD (xs.map fun x => .int (g x)) = some (xs.map g) := by
  induction xs with
  | nil => rfl
  | cons x r ih => show (intsD (r.map _)).map _ = _; rw [ih]; rfl
theorem biD_sumM {α : Type} (g : α → Int) (xs : List α) : biD .sum [.list (xs.map fun x => .int (g x))] = some (.int (xs.map g).sum) := by
  show (intsD _).map _ = _
  rw [intsD_mapE]; rfl
theorem biD_max1M {α : Type} (g : α → Int) (xs : List α) (h : xs ≠ []) : biD .max1 [.list (xs.map fun x => .int (g x))] = some (.int (maxL (xs.map g))) := by
  show guardO _ ((intsD _).map _) = _
  rw [intsD_mapE]
  cases xs with
  | nil => exact absurd rfl h
  | cons x r => rfl
theorem biD_max1T {α : Type} (g : α → Int) (xs : List α) (h : xs ≠ []) : biD .max1 [.tuple (xs.map fun x => .int (g x))] = some (.int (maxL (xs.map g))) := by
  show guardO _ ((intsD _).map _) = _
  rw [intsD_mapE]
  cases xs with
  | nil => exact absurd rfl h
  | cons x r => rfl
theorem biD_max2 (i j : Int) : biD .max2 [.int i, .int j] = some (.int (max i j)) := rfl
theorem biD_min2 (i j : Int) : biD .min2 [.int i, .int j] = some (.int (min i j)) := rfl
theorem biD_int (i : Int) : biD .int [.int i] = some (.int i) := rfl
theorem biD_abs (i : Int) : biD .abs [.int i] = some (.int (if i < 0 then -i else i)) := rfl
theorem biD_len_l (ds : List D) : biD .len [.list ds] = some (.int ds.length) := rfl
theorem biD_len_t (ds : List D) : biD .len [.tuple ds] = some (.int ds.length) := rfl
theorem biD_tuple {ds : List D} (h : immAll ds = true) : biD .tuple [.list ds] = some (.tuple ds) := by
  show guardO (immAll ds) _ = _
  rw [h]; rfl
theorem biD_list_t {ds : List D} (h : immAll ds = true) : biD .list [.tuple ds] = some (.list ds) := by
  show guardO (immAll ds) _ = _
  rw [h]; rfl
theorem maxL_ge : ∀ {xs : List Int} {x : Int}, x ∈ xs → x ≤ maxL xs
  | [y], x, h => by rw [List.mem_singleton] at h; subst h; exact Int.le_refl _
  | y :: z :: r, x, h => by
    show x ≤ max y (maxL (z :: r))
    rcases List.mem_cons.mp h with rfl | h
    · omega
    · have := maxL_ge h; omega
theorem maxL_mem : ∀ {xs : List Int}, xs ≠ [] → maxL xs ∈ xs
  | [], h => absurd rfl h
  | [x], _ => List.mem_singleton.mpr rfl
  | x :: y :: r, _ => by
    show max x (maxL (y :: r)) ∈ _
    have := maxL_mem (xs := y :: r) (by simp)
    by_cases c : x ≤ maxL (y :: r)
    · rw [Int.max_eq_right c]; exact List.mem_cons_of_mem _ this
    · rw [Int.max_eq_left (by omega)]; exact List.mem_cons_self
/-! plain data: numbers, None, rows of them -/
mutual
def pl : D → Bool
  | .none => true
  | .int _ => true
  | .tuple xs => plA xs
  | .list xs => plA xs
  | _ => false
def plA : List D → Bool
  | [] => true
  | x :: xs => pl x && plA xs
end
mutual
theorem eqv_refl : ∀ x : D, pl x = true → PyData.eqv x x = true
  | .none, _ => rfl
  | .int i, _ => by simp [PyData.eqv]
  | .tuple xs, h => by simp only [PyData.eqv]; exact eqvA_refl xs h
  | .list xs, h => by simp only [PyData.eqv]; exact eqvA_refl xs h
  | .bool _, h => nomatch h
  | .str _, h => nomatch h
  | .dict _, h => nomatch h
theorem eqvA_refl : ∀ xs : List D, plA xs = true → PyData.eqvAll xs xs = true
  | [], _ => rfl
  | x :: xs, h => by
    unfold plA at h
    rw [Bool.and_eq_true] at h
    simp only [PyData.eqvAll, eqv_refl x h.1, eqvA_refl xs h.2, Bool.and_self]
end
mutual
theorem eqv_eq : ∀ x y : D, pl x = true → pl y = true → PyData.eqv x y = true → x = y
  | .none, y, _, h, e => by cases y <;> first | rfl | (simp [PyData.eqv] at e) 
  | .int i, y, _, h, e => by
    cases y with
    | int j => simp only [PyData.eqv, beq_iff_eq] at e; rw [e]
    | bool _ => cases h
    | _ => simp [PyData.eqv] at e
  | .tuple xs, y, g, h, e => by
    cases y with
    | tuple ys => simp only [PyData.eqv] at e; rw [eqvA_eq xs ys g h e]
    | _ => simp [PyData.eqv] at e
  | .list xs, y, g, h, e => by
    cases y with
    | list ys => simp only [PyData.eqv] at e; rw [eqvA_eq xs ys g h e]
    | _ => simp [PyData.eqv] at e
  | .bool _, _, g, _, _ => nomatch g
  | .str _, _, g, _, _ => nomatch g
  | .dict _, _, g, _, _ => nomatch g
theorem eqvA_eq : ∀ xs ys : List D, plA xs = true → plA ys = true → PyData.eqvAll xs ys = true → xs = ys
  | [], [], _, _, _ => rfl
  | [], _ :: _, _, _, e => nomatch e
  | _ :: _, [], _, _, e => nomatch e
  | x :: xs, y :: ys, g, h, e => by
    unfold plA at g h
    rw [Bool.and_eq_true] at g h
    simp only [PyData.eqvAll, Bool.and_eq_true] at e
    rw [eqv_eq x y g.1 h.1 e.1, eqvA_eq xs ys g.2 h.2 e.2]
end
mutual
theorem pl_lay : ∀ x : D, pl x = true → PyData.canLay0 x = true
  | .none, _ => rfl
  | .int i, _ => rfl
  | .tuple xs, h => by simp only [PyData.canLay0]; exact plA_lay xs h
  | .list xs, h => by simp only [PyData.canLay0]; exact plA_lay xs h
  | .bool _, h => nomatch h
  | .str _, h => nomatch h
  | .dict _, h => nomatch h
theorem plA_lay : ∀ xs : List D, plA xs = true → PyData.canLayAll0 xs = true
  | [], _ => rfl
  | x :: xs, h => by
    unfold plA at h
    rw [Bool.and_eq_true] at h
    simp only [PyData.canLayAll0, pl_lay x h.1, plA_lay xs h.2, Bool.and_self]
end
theorem plA_mem {ds : List D} (h : ∀ d ∈ ds, pl d = true) : plA ds = true := by
  induction ds with
  | nil => rfl
  | cons d r ih =>
    unfold plA
    rw [h d List.mem_cons_self, ih fun d hd => h d (List.mem_cons_of_mem _ hd)]; rfl
theorem plA_mapE {α : Type} {enc : α → D} {xs : List α} (h : ∀ x ∈ xs, pl (enc x) = true) : plA (xs.map enc) = true := plA_mem fun d hd => by
  obtain ⟨x, hx, rfl⟩ := List.mem_map.mp hd
  exact h x hx
theorem pl_of_mem {ds : List D} (h : plA ds = true) : ∀ d ∈ ds, pl d = true := by
  induction ds with
  | nil => intro d hd; cases hd
  | cons x r ih =>
    unfold plA at h
    rw [Bool.and_eq_true] at h
    intro d hd
    rcases List.mem_cons.mp hd with rfl | hd
    · exact h.1
    · exact ih h.2 d hd
theorem dep_mem {ds : List D} {k : Nat} (h : ∀ d ∈ ds, d.depth ≤ k) : PyData.depthAll ds ≤ k := by
  induction ds with
  | nil => simp [PyData.depthAll]
  | cons d r ih =>
    simp only [PyData.depthAll]
    have := h d List.mem_cons_self
    have := ih fun d hd => h d (List.mem_cons_of_mem _ hd)
    omega
theorem dep_mapE {α : Type} {enc : α → D} {xs : List α} {k : Nat} (h : ∀ x ∈ xs, (enc x).depth ≤ k) : PyData.depthAll (xs.map enc) ≤ k := dep_mem fun d hd => by
  obtain ⟨x, hx, rfl⟩ := List.mem_map.mp hd
  exact h x hx
theorem dep_t (ds : List D) : (PyData.tuple ds).depth = PyData.depthAll ds + 1 := by simp [PyData.depth]
theorem dep_l (ds : List D) : (PyData.list ds).depth = PyData.depthAll ds + 1 := by simp [PyData.depth]
theorem dep_i (i : Int) : (PyData.int i).depth = 0 := by simp [PyData.depth]
theorem dep_n : (PyData.none).depth = 0 := by simp [PyData.depth]
/-- plain and flat enough -/
def pf (d : D) : Bool := pl d && decide (d.depth ≤ 30)
theorem pf_i (i : Int) : pf (.int i) = true := by
  unfold pf
  rw [dep_i]; rfl
theorem pf_n : pf .none = true := by
  unfold pf
  rw [dep_n]; rfl
theorem pf_shaped {d : D} (h : pf d = true) : SeqAt.shaped d = true := by
  unfold pf at h
  rw [Bool.and_eq_true] at h
  unfold SeqAt.shaped
  rw [pl_lay d h.1, decide_eq_true (show d.depth ≤ 64 by have := of_decide_eq_true h.2; omega)]; rfl
theorem cmpD_eqP {x y : D} (hx : pf x = true) (hy : pf y = true) {b : Bool} (h : b = true ↔ x = y) : cmpD .eq x y = some b := by
  have hx' := hx
  have hy' := hy
  unfold pf at hx' hy'
  rw [Bool.and_eq_true] at hx' hy'
  have e : cmpD .eq x y = guardO (SeqAt.shaped x && SeqAt.shaped y) (some (PyData.eqv x y)) := by
    cases x <;> rfl
  rw [e, pf_shaped hx, pf_shaped hy]
  show some (PyData.eqv x y) = _
  congr 1
  rw [Bool.eq_iff_iff, h]
  exact ⟨eqv_eq x y hx'.1 hy'.1, fun q => by rw [← q]; exact eqv_refl x hx'.1⟩
theorem cmpD_neP {x y : D} (hx : pf x = true) (hy : pf y = true) {b : Bool} (h : b = true ↔ x ≠ y) : cmpD .ne x y = some b := by
  have hx' := hx
  have hy' := hy
  unfold pf at hx' hy'
  rw [Bool.and_eq_true] at hx' hy'
  have e : cmpD .ne x y = guardO (SeqAt.shaped x && SeqAt.shaped y) (some (!PyData.eqv x y)) := by
    cases x <;> rfl
  rw [e, pf_shaped hx, pf_shaped hy]
  show some (!PyData.eqv x y) = _
  congr 1
  rw [Bool.eq_iff_iff, h, Bool.not_eq_true', ← Bool.not_eq_true]
  refine not_congr ?_
  exact ⟨eqv_eq x y hx'.1 hy'.1, fun q => by rw [← q]; exact eqv_refl x hx'.1⟩
theorem cmpD_eq_int (i j : Int) : cmpD .eq (.int i) (.int j) = some (decide (i = j)) := cmpD_eqP (pf_i i) (pf_i j) (by simp)
theorem cmpD_ne_int (i j : Int) : cmpD .ne (.int i) (.int j) = some (decide (i ≠ j)) := cmpD_neP (pf_i i) (pf_i j) (by simp)
theorem shaped_bl (a : Bool) : SeqAt.shaped (.bool a) = true := by
  unfold SeqAt.shaped
  simp [PyData.canLay0, PyData.depth]
theorem cmpD_ne_bl (a b : Bool) : cmpD .ne (.bool a) (.bool b) = some (a != b) := by
  have e : cmpD .ne (.bool a) (.bool b) = guardO (SeqAt.shaped (.bool a) && SeqAt.shaped (.bool b)) (some (!PyData.eqv (.bool a) (.bool b))) := rfl
  rw [e, shaped_bl, shaped_bl]
  cases a <;> cases b <;> simp [PyData.eqv] <;> rfl
theorem cmpD_eq_bl (a b : Bool) : cmpD .eq (.bool a) (.bool b) = some (a == b) := by
  have e : cmpD .eq (.bool a) (.bool b) = guardO (SeqAt.shaped (.bool a) && SeqAt.shaped (.bool b)) (some (PyData.eqv (.bool a) (.bool b))) := rfl
  rw [e, shaped_bl, shaped_bl]
  cases a <;> cases b <;> simp [PyData.eqv] <;> rfl
theorem cmpD_eqS {x : D} (hx : pf x = true) : cmpD .eq x x = some true := cmpD_eqP hx hx (by simp)
theorem cmpD_neS {x : D} (hx : pf x = true) : cmpD .ne x x = some false := cmpD_neP hx hx (by simp)
theorem any_eqv {d : D} {ds : List D} (hd : pf d = true) (h : plA ds = true) {b : Bool} (hb : b = true ↔ d ∈ ds) : (ds.any fun z => PyData.eqv z d) = b := by
  unfold pf at hd
  rw [Bool.and_eq_true] at hd
  rw [Bool.eq_iff_iff, hb, List.any_eq_true]
  constructor
  · rintro ⟨z, hz, e⟩
    rw [← eqv_eq z d (pl_of_mem h z hz) hd.1 e]; exact hz
  · intro hm
    exact ⟨d, hm, eqv_refl d hd.1⟩
theorem cmpD_inT {d : D} {ds : List D} (hd : pf d = true) (h : plA ds = true) {b : Bool} (hb : b = true ↔ d ∈ ds) : cmpD .isin d (.tuple ds) = some b := by
  have e : cmpD .isin d (.tuple ds) = guardO (SeqAt.shaped d && PyData.canLayAll0 ds) (some (ds.any fun z => PyData.eqv z d)) := by
    cases d <;> rfl
  rw [e, pf_shaped hd, plA_lay ds h, any_eqv hd h hb]; rfl
theorem cmpD_ninT {d : D} {ds : List D} (hd : pf d = true) (h : plA ds = true) {b : Bool} (hb : b = true ↔ ¬ d ∈ ds) : cmpD .notin d (.tuple ds) = some b := by
  have e : cmpD .notin d (.tuple ds) = guardO (SeqAt.shaped d && PyData.canLayAll0 ds) (some (!ds.any fun z => PyData.eqv z d)) := by
    cases d <;> rfl
  rw [e, pf_shaped hd, plA_lay ds h, any_eqv hd h (b := !b) (by rw [Bool.not_eq_true', ← Bool.not_eq_true, hb, Classical.not_not])]
  show some (!!b) = _
  rw [Bool.not_not]
/-! sorting -/
theorem sort_map {α : Type} {enc : α → D} {xs : List α} (h1 : ∀ x ∈ xs, imm (enc x) = true) (h2 : ∀ x ∈ xs, pf (enc x) = true) (h3 : xs.length ≤ 1000000) (h4 : ∀ x ∈ xs, ∀ y ∈ xs, W.alike (enc x) (enc y) = true) (h5 : ∀ x ∈ xs, ∃ d ds, enc x = .tuple (d :: ds)) : ∃ ys : List α, ys.Perm xs ∧ biD .sorted [.list (xs.map enc)] = some (.list (ys.map enc)) := by
  refine ⟨xs.mergeSort fun a b => W.dataLe false (fun d => d) (enc a) (enc b), List.mergeSort_perm _ _, ?_⟩
  show guardO (sortB _) _ = _
  have g : sortB (xs.map enc) = true := by
    unfold sortB
    simp only [Bool.and_eq_true, Bool.or_eq_true]
    refine ⟨⟨⟨⟨immAll_mapE h1, plA_lay _ (plA_mapE fun x hx => ?_)⟩, decide_eq_true (by rw [List.length_map]; exact h3)⟩, ?_⟩, .inl ?_⟩
    · have := h2 x hx
      unfold pf at this
      rw [Bool.and_eq_true] at this
      exact this.1
    · rw [List.all_map, List.all_eq_true]
      intro x hx
      simp only [Function.comp, Bool.and_eq_true]
      refine ⟨decide_eq_true ?_, ?_⟩
      · have := h2 x hx
        unfold pf at this
        rw [Bool.and_eq_true] at this
        have := of_decide_eq_true this.2
        omega
      · rw [List.all_map, List.all_eq_true]
        intro y hy
        exact h4 x hx y hy
    · rw [List.all_map, List.all_eq_true]
      intro x hx
      obtain ⟨d, ds, e⟩ := h5 x hx
      simp only [Function.comp, e]
  rw [g, guardO_true]
  unfold sortL
  congr 2
  exact (List.map_mergeSort (r := fun a b => W.dataLe false (fun d : D => d) (enc a) (enc b)) (s := W.dataLe false fun d : D => d) (f := enc) (l := xs) fun a _ b _ => rfl).symm
theorem enumD_mapE {α : Type} (enc : α → D) (xs : List α) : enumD (xs.map enc) = (xs.zipIdx).map fun p => .tuple [.int (p.2 : Nat), enc p.1] := by
  apply List.ext_getElem?
  intro i
  unfold enumD
  rw [List.getElem?_zipWith, List.getElem?_map, List.getElem?_map, List.getElem?_zipIdx, List.length_map]
  by_cases h : i < xs.length
  · rw [List.getElem?_range h, List.getElem?_eq_getElem h]
    simp
  · rw [List.getElem?_eq_none (by simp; omega), List.getElem?_eq_none (l := xs) (by omega)]
    rfl
theorem range_get {α : Type} {m i : Nat} (g : Nat → α) (h : i < m) : ((List.range m).map g)[i]? = some (g i) := by
  rw [List.getElem?_map, List.getElem?_range h]; rfl
theorem range_set {α : Type} {m i : Nat} (g : Nat → α) (x : α) (h : i < m) : ((List.range m).map g).set i x = (List.range m).map fun k => if k = i then x else g k := by
  apply List.ext_getElem?
  intro k
  rw [List.getElem?_set]
  by_cases e : i = k
  · subst e
    rw [if_pos rfl, List.length_map, List.length_range, if_pos h, range_get _ h, if_pos rfl]
  · rw [if_neg e]
    by_cases hk : k < m
    · rw [range_get _ hk, range_get _ hk, if_neg (Ne.symm e)]
    · rw [List.getElem?_eq_none (by simp; omega), List.getElem?_eq_none (by simp; omega)]
theorem ixN_nat {n i : Nat} (h : i < n) : L2.ixN n (i : Int) = some i := by
  unfold L2.ixN
  rw [if_pos (by omega), if_pos (by omega)]
  rfl
theorem atI_range {α : Type} {m i : Nat} (g : Nat → α) (h : i < m) : L2.atI ((List.range m).map g) (i : Int) = some (g i) := by
  unfold L2.atI
  rw [List.length_map, List.length_range, ixN_nat h]
  exact range_get g h
theorem atI_nat {α : Type} {xs : List α} {i : Nat} (h : i < xs.length) : L2.atI xs (i : Int) = some xs[i] := by
  unfold L2.atI
  rw [ixN_nat h]
  exact List.getElem?_eq_getElem h
theorem atI_last {α : Type} {xs : List α} (h : xs ≠ []) : L2.atI xs (-1) = some (xs.getLast h) := by
  have hl : 0 < xs.length := List.length_pos_iff.mpr h
  unfold L2.atI L2.ixN
  rw [if_neg (by omega), if_pos (by omega)]
  simp only [Option.bind_some]
  have e : ((-1 : Int) + (xs.length : Int)).toNat = xs.length - 1 := by omega
  rw [e, ← List.getLast?_eq_getElem?, List.getLast?_eq_some_getLast h]
/-- a row of n numbers -/
def encV (n : Nat) (f : Nat → Int) : D := .tuple ((List.range n).map fun k => .int (f k))
def encVl (n : Nat) (f : Nat → Int) : D := .list ((List.range n).map fun k => .int (f k))
theorem encV_ix {n i : Nat} (f : Nat → Int) (h : i < n) : ixD (encV n f) (.int (i : Int)) = some (.int (f i)) := atI_range (fun i => PyData.int (f i)) h
theorem encVl_ix {n i : Nat} (f : Nat → Int) (h : i < n) : ixD (encVl n f) (.int (i : Int)) = some (.int (f i)) := atI_range (fun i => PyData.int (f i)) h
theorem imm_encV (n : Nat) (f : Nat → Int) : imm (encV n f) = true := immAll_mapE fun _ _ => rfl
theorem pf_encV (n : Nat) (f : Nat → Int) : pf (encV n f) = true := by
  unfold pf encV
  rw [Bool.and_eq_true]
  refine ⟨plA_mapE fun _ _ => rfl, decide_eq_true ?_⟩
  rw [dep_t]
  have : PyData.depthAll ((List.range n).map fun k => PyData.int (f k)) ≤ 0 := dep_mapE fun x _ => by rw [dep_i]; exact Nat.le_refl _
  omega
theorem encV_congr {n : Nat} {f g : Nat → Int} (h : ∀ k, k < n → f k = g k) : encV n f = encV n g := by
  unfold encV
  congr 1
  exact List.map_congr_left fun k hk => by rw [h k (List.mem_range.mp hk)]
theorem encVl_congr {n : Nat} {f g : Nat → Int} (h : ∀ k, k < n → f k = g k) : encVl n f = encVl n g := by
  unfold encVl
  congr 1
  exact List.map_congr_left fun k hk => by rw [h k (List.mem_range.mp hk)]
theorem evE_callE {C : FT} {ρ : List Sl} {τ : D} {f : Str} {es : IA} {g : List D → Option D} (h : C.fs f = some g) : evE C ρ (.call f es) τ = (evA C ρ es τ).bind fun p => (g p.2.1).bind fun z => some (p.1, z, true) := by
  rw [evE_call, h]; rfl
end DI
/-! DI, part 13: loops over ranges, rows of numbers. -/
namespace DI
open PySem PySem.Spec L2 RZ DL
/-- a loop over a range, by what stands after k turns -/
theorem evFor_rng {turn : D → List Sl → D → Option SO} {enc : Nat → D} {E : Nat → List Sl} {tp : Nat → D} : ∀ (n a : Nat), (∀ k, a ≤ k → k < a + n → turn (enc k) (E k) (tp k) = some (.nx (E (k + 1)) (tp (k + 1)))) → evFor turn ((List.range' a n).map enc) (E a) (tp a) = some (.nx (E (a + n)) (tp (a + n)))
  | 0, a, _ => rfl
  | n + 1, a, h => by
    rw [List.range'_succ, List.map_cons]
    show bL (turn (enc a) (E a) (tp a)) _ = _
    rw [h a (Nat.le_refl _) (by omega), bL_nx, evFor_rng n (a + 1) fun k h1 h2 => h k (by omega) (by omega)]
    rw [show a + 1 + n = a + (n + 1) by omega]
theorem evFor_range {turn : D → List Sl → D → Option SO} {enc : Nat → D} (E : Nat → List Sl) (tp : Nat → D) {n : Nat} (h : ∀ k, k < n → turn (enc k) (E k) (tp k) = some (.nx (E (k + 1)) (tp (k + 1)))) : evFor turn ((List.range n).map enc) (E 0) (tp 0) = some (.nx (E n) (tp n)) := by
  have := evFor_rng (turn := turn) (enc := enc) (E := E) (tp := tp) n 0 fun k _ hk => h k (by omega)
  rw [← List.range_eq_range', Nat.zero_add] at this
  exact this
theorem evFor_all {α β : Type} {turn : D → List Sl → D → Option SO} {enc : α → D} {E : β → List Sl} {τ : D} {f : β → α → β} {xs : List α} {s : β} (h : ∀ s x, x ∈ xs → turn (enc x) (E s) τ = some (.nx (E (f s x)) τ)) : evFor turn (xs.map enc) (E s) τ = some (.nx (E (xs.foldl f s)) τ) :=
  (evFor_inv (tp := fun _ => τ) (fun _ => True) trivial fun s x _ hx => ⟨trivial, .inl (h s x hx)⟩).1
theorem enumD_range (n : Nat) (g : Nat → D) : enumD ((List.range n).map g) = (List.range n).map fun k => .tuple [.int (k : Nat), g k] := by
  apply List.ext_getElem?
  intro i
  unfold enumD
  rw [List.getElem?_zipWith, List.length_map, List.length_range]
  by_cases h : i < n
  · rw [List.getElem?_range h, range_get g h, range_get _ h]
  · rw [List.getElem?_eq_none (by simp; omega), List.getElem?_eq_none (l := (List.range n).map fun k => PyData.tuple [.int (k : Nat), g k]) (by simp; omega)]
theorem boolsD_nil : biD .all [.list []] = some (.bool true) := rfl
theorem op2D_mulLI (xs : List D) (j : Int) : op2D .mul (.list xs) (.int j) = guardO (immAll xs && decide (-9223372036854775808 ≤ j ∧ j < 9223372036854775808) && decide (xs.length * j.toNat ≤ 1000000)) (some (.list (List.replicate j.toNat xs).flatten)) := by unfold op2D; rfl
theorem op2D_zeros (n : Nat) (h : n ≤ 1000000) : op2D .mul (.list [.int 0]) (.int (n : Int)) = some (encVl n fun _ => 0) := by
  rw [op2D_mulLI]
  have e1 : decide (-9223372036854775808 ≤ (n : Int) ∧ (n : Int) < 9223372036854775808) = true := decide_eq_true ⟨by omega, by omega⟩
  have e2 : decide ([PyData.int 0].length * ((n : Int)).toNat ≤ 1000000) = true := decide_eq_true (by simp; omega)
  rw [e1, e2]
  have e3 : immAll [PyData.int 0] = true := rfl
  rw [e3]
  simp only [Bool.and_self, guardO_true]
  unfold encVl
  refine congrArg (fun x => some (PyData.list x)) ?_
  rw [Int.toNat_natCast]
  have : ∀ m : Nat, (List.replicate m [PyData.int 0]).flatten = (List.range m).map fun _ => PyData.int 0 := by
    intro m
    induction m with
    | zero => rfl
    | succ m ih => rw [List.range_succ, List.map_append, ← ih, List.replicate_succ', List.flatten_append]; rfl
  exact this n
theorem encVl_set {n i : Nat} (f : Nat → Int) (z : Int) (h : i < n) : PyData.list (((List.range n).map fun k => PyData.int (f k)).set i (.int z)) = encVl n fun k => if k = i then z else f k := by
  rw [range_set _ _ h]
  unfold encVl
  congr 1
  apply List.map_congr_left
  intro k _
  by_cases e : k = i
  · simp only [if_pos e]
  · simp only [if_neg e]
theorem immAll_ints {α : Type} (g : α → Int) (xs : List α) : immAll (xs.map fun x => .int (g x)) = true := immAll_mapE fun _ _ => rfl
/-- a put into a row of numbers -/
theorem evS_putV {C : FT} {ρ : List Sl} {τ τ1 τ2 : D} {i n j : Nat} {f : Nat → Int} {sa : Option Addr} {k e : IE} {z : Int} {o o1 : Bool} (hρ : gV ρ i = some (encVl n f, sa)) (he : evE C ρ e τ = some (τ1, .int z, o)) (hk : evE C ρ k τ1 = some (τ2, .int (j : Int), o1)) (hj : j < n) (hn : nb? ρ = true) :
    evS C (.put i k e) ρ τ = some (.nx (ρ.set i (.v (encVl n fun k => if k = j then z else f k) sa)) τ2) := by
  have hL : gL ρ i = some ((List.range n).map fun k => .int (f k), sa) := by
    unfold gV at hρ
    unfold gL
    split at hρ
    · rename_i d sb e1
      cases hρ
      rw [e1]; rfl
    · cases hρ
  rw [evS_put, hL]
  simp only [Option.bind_some, he, bE_some, hk, inD_int, List.length_map, List.length_range, ixN_nat hj, imm_int, hn, Bool.and_self, guardO_true]
  rw [encVl_set f z hj]
theorem evE_mul2 {C : FT} {ρ : List Sl} {τ τ1 : D} {e : IE} {k : Nat} {o : Bool} (h : evE C ρ e τ = some (τ1, .int (k : Int), o)) : evE C ρ (.op2 .mul (.int 2) e) τ = some (τ1, .int ((2 * k : Nat) : Int), true) := by
  rw [evE_op2, evE_int, bE_some, h, bE_some, op2D_mulL _ (by omega)]
  simp only [Option.bind_some, Int.natCast_mul]
  rfl
theorem mul2 (k : Nat) : op2D .mul (.int 2) (.int (k : Int)) = some (.int ((2 * k : Nat) : Int)) := by
  rw [op2D_mulL _ (by omega)]
  simp only [Int.natCast_mul]
  rfl
theorem add1 (k : Nat) : op2D .add (.int (k : Int)) (.int 1) = some (.int ((k + 1 : Nat) : Int)) := by
  rw [op2D_add]
  simp only [Int.natCast_add]
  rfl
theorem addN (k l : Nat) : op2D .add (.int (k : Int)) (.int (l : Int)) = some (.int ((k + l : Nat) : Int)) := by
  rw [op2D_add]
  simp only [Int.natCast_add]
end DI
namespace DI
theorem dLe0 : decide ((0 : Nat) ≤ 1000000) = true := decide_eq_true (by omega)
theorem dLe1 : decide ((0 : Nat) + 1 ≤ 1000000) = true := decide_eq_true (by omega)
theorem dLe2 : decide ((0 : Nat) + 1 + 1 ≤ 1000000) = true := decide_eq_true (by omega)
theorem dLe3 : decide ((0 : Nat) + 1 + 1 + 1 ≤ 1000000) = true := decide_eq_true (by omega)
end DI
namespace DI
open DL
theorem nb_nil : nb? [] = true := rfl
theorem nb_cons (s : Sl) (r : List Sl) : nb? (s :: r) = (!isBor s && nb? r) := rfl
theorem isB_v (d : D) (a : Option PySem.Addr) : isBor (.v d a) = false := rfl
theorem isB_arg (d : D) : isBor (.arg d) = false := rfl
theorem isB_any : isBor .any = false := rfl
theorem isB_tp : isBor .tp = false := rfl
theorem isB_scr (ns : List Int) : isBor (.scr ns) = false := rfl
end DI
/-! DI, part 14: the tape of the laws: laid, drawn from. -/
namespace DI
open PySem PySem.Spec L2 RZ DL
local macro_rules
  | `(tactic| l_intsW) => `(tactic| simp -implicitDefEqProofs only [evSs_nil, evSs_cons, evSs_fgt, evS_set, evS_setLc, evS_move, evS_unp, evS_par, evS_ife, evS_for, evS_ret, evS_retV, evS_retN, evS_expr, evS_append, evS_extend, evS_addI, evS_pass, evS_brk, evS_cont, evO_nm, evO_tup, evOs_nil, evOs_cons, evG_nm, evG_tup, evGs_nil, evGs_cons,
  evE_varE, evE_int, evE_bl, evE_non, evE_str, evE_glob, evE_op2, evE_cmp, evE_chain, evE_ix, evE_neg, evE_not, evE_and, evE_or, evE_ife, evE_tup, evE_lst, evE_bi, evE_sl, evC_el, evC_ift, evT_not, evT_and, evT_or, evT_val, evA_nil, evA_cons, evAnd_one, evAnd_cons, evOr_one, evOr_cons, tsAnd_one, tsAnd_cons, tsOr_one, tsOr_cons, evP_no, evP_so, evI_seq, evI_enum,
  gS_z, gS_s, rdS_v, rdS_arg, gL_z, gL_s, gV_z, gV_s, negD_int, notD_bl, trD_bl, trD_none, trD_tuple, trD_list, blD_bl, inD_int, sqD_list, sqD_tuple, lsD_list, Option.bind_some, Option.bind_none, bE_some, bE_none, bT_some, bT_none, bS_nx, bS_rt, bS_bk, bS_ct, bL_nx, bL_ct, bL_bk, bL_rt, guardO_true, guardO_false, iteB_true, iteB_false, List.set_cons_zero, List.set_cons_succ, wipeL, List.map_cons, List.map_nil,
  List.all_cons, List.all_nil, id_eq, Bool.and_self, Bool.and_true, Bool.true_and, List.length_cons, List.length_nil, slOf_int, slOf_bool, imm_int, imm_bool, imm_none, turnC_eq, turnF_eq, cmpD_lt, cmpD_le, cmpD_gt, cmpD_ge, op2D_add, op2D_sub, ixD_t, ixD_l, addG_gl, decide_true, decide_false, Bool.not_true, Bool.not_false, ↓reduceIte, cmpD_is_non, cmpD_isn_non, isNon_int, isNon_none, biD_allM, biD_anyM, biD_len_l, biD_len_t, biD_tuple, List.length_map, cmpD_eq_int, cmpD_ne_int, cmpD_eq_bl, cmpD_ne_bl, cmpD_is_bl, cmpD_isn_bl, biD_max2, biD_min2, nb_nil, nb_cons, isB_v, isB_arg, isB_any, isB_tp, isB_scr, outF_rt, outF_nx, outT_rt, biD_int, biD_abs, dLe0, dLe1, dLe2, dLe3, imm_tuple, immAll_cons, immAll_nil])
  | `(tactic| push_cast [$ls,*]) => `(tactic| simp -implicitDefEqProofs only [evSs_nil, evSs_cons, evSs_fgt, evS_set, evS_setLc, evS_move, evS_unp, evS_par, evS_ife, evS_for, evS_ret, evS_retV, evS_retN, evS_expr, evS_append, evS_extend, evS_addI, evS_pass, evS_brk, evS_cont, evO_nm, evO_tup, evOs_nil, evOs_cons, evG_nm, evG_tup, evGs_nil, evGs_cons,
  evE_varE, evE_int, evE_bl, evE_non, evE_str, evE_glob, evE_op2, evE_cmp, evE_chain, evE_ix, evE_neg, evE_not, evE_and, evE_or, evE_ife, evE_tup, evE_lst, evE_bi, evE_sl, evC_el, evC_ift, evT_not, evT_and, evT_or, evT_val, evA_nil, evA_cons, evAnd_one, evAnd_cons, evOr_one, evOr_cons, tsAnd_one, tsAnd_cons, tsOr_one, tsOr_cons, evP_no, evP_so, evI_seq, evI_enum,
  gS_z, gS_s, rdS_v, rdS_arg, gL_z, gL_s, gV_z, gV_s, negD_int, notD_bl, trD_bl, trD_none, trD_tuple, trD_list, blD_bl, inD_int, sqD_list, sqD_tuple, lsD_list, Option.bind_some, Option.bind_none, bE_some, bE_none, bT_some, bT_none, bS_nx, bS_rt, bS_bk, bS_ct, bL_nx, bL_ct, bL_bk, bL_rt, guardO_true, guardO_false, iteB_true, iteB_false, List.set_cons_zero, List.set_cons_succ, wipeL, List.map_cons, List.map_nil,
  List.all_cons, List.all_nil, id_eq, Bool.and_self, Bool.and_true, Bool.true_and, List.length_cons, List.length_nil, slOf_int, slOf_bool, imm_int, imm_bool, imm_none, turnC_eq, turnF_eq, cmpD_lt, cmpD_le, cmpD_gt, cmpD_ge, op2D_add, op2D_sub, ixD_t, ixD_l, addG_gl, decide_true, decide_false, Bool.not_true, Bool.not_false, ↓reduceIte, cmpD_is_non, cmpD_isn_non, isNon_int, isNon_none, biD_allM, biD_anyM, biD_len_l, biD_len_t, biD_tuple, List.length_map, cmpD_eq_int, cmpD_ne_int, cmpD_eq_bl, cmpD_ne_bl, cmpD_is_bl, cmpD_isn_bl, biD_max2, biD_min2, nb_nil, nb_cons, isB_v, isB_arg, isB_any, isB_tp, isB_scr, outF_rt, outF_nx, outT_rt, biD_int, biD_abs, dLe0, dLe1, dLe2, dLe3, imm_tuple, immAll_cons, immAll_nil, $ls,*])

def bTape_1 : ISs := .cons (.set 2 (.op2 .mod (.bi .int (.cons (.op2 .add (.op2 .mul (.var 2) (.int 31)) (.var 3)) .nil)) (.int 2147483647))) (.fgt 3 .nil)
def bTape : ISs := .cons (.setLc 1 [("cell", 3)] (.el (.bi .abs (.cons (.bi .int (.cons (.var 3) .nil)) .nil))) (.nm 3) (.scr 0)) (.cons (.set 2 (.int 7)) (.cons (.forV (.nm 3) 1 bTape_1) (.cons (.retTape 1 2) .nil)))
def bTake : ISs := .cons (.ife (.and (.cons (.val (.cmp .eq (.tget 0 .left) (.int 0))) (.cons (.val (.cmp .lt (.tget 0 .at) (.tlen 0))) .nil))) (.cons (.tput 0 .left (.tcell 0)) (.cons (.tput 0 .at (.op2 .add (.tget 0 .at) (.int 1))) .nil)) .nil) (.cons (.ife (.val (.cmp .gt (.tget 0 .left) (.int 0))) (.cons (.set 2 (.op2 .mod (.bi .int (.cons (.tget 0 .left) .nil)) (.var 1))) (.cons (.tput 0 .left (.op2 .fdiv (.tget 0 .left) (.var 1))) (.cons (.retV 2) (.fgt 2 .nil)))) .nil) (.cons (.tput 0 .salt (.op2 .add (.tget 0 .salt) (.int 1))) (.cons (.set 3 (.op2 .mod (.bi .int (.cons (.op2 .add (.op2 .mul (.tget 0 .seed) (.int 48271)) (.op2 .mul (.tget 0 .salt) (.int 69621))) .nil)) (.int 2147483647))) (.cons (.set 3 (.op2 .mod (.bi .int (.cons (.op2 .add (.op2 .add (.op2 .mul (.var 3) (.var 3)) (.op2 .mul (.tget 0 .salt) (.int 40692))) (.int 12345)) .nil)) (.int 2147483399))) (.cons (.ret (.op2 .mod (.bi .int (.cons (.var 3) .nil)) (.var 1))) .nil)))))
theorem op2D_mulG {i j : Int} (h : (-18446744073709551616 < i ∧ i < 18446744073709551616) ∨ (-18446744073709551616 < j ∧ j < 18446744073709551616)) : op2D .mul (.int i) (.int j) = some (.int (i * j)) := by
  have e : op2D .mul (.int i) (.int j) = guardO (decide (-18446744073709551616 < i ∧ i < 18446744073709551616) || decide (-18446744073709551616 < j ∧ j < 18446744073709551616)) (some (.int (i * j))) := by unfold op2D; rfl
  rw [e]
  have : (decide (-18446744073709551616 < i ∧ i < 18446744073709551616) || decide (-18446744073709551616 < j ∧ j < 18446744073709551616)) = true := by
    rw [Bool.or_eq_true, decide_eq_true_iff, decide_eq_true_iff]; exact h
  rw [this]; rfl
theorem op2D_mod {i j : Int} (h : 0 < j) : op2D .mod (.int i) (.int j) = some (.int (i % j)) := by
  have e : op2D .mod (.int i) (.int j) = guardO (decide (0 < j)) (some (.int (i % j))) := by unfold op2D; rfl
  rw [e, decide_eq_true h]; rfl
theorem op2D_fdiv {i j : Int} (h : 0 < j) (h2 : j < 1073741824) : op2D .fdiv (.int i) (.int j) = some (.int (i / j)) := by
  have e : op2D .fdiv (.int i) (.int j) = guardO (decide (0 < j ∧ j < 1073741824)) (some (.int (i / j))) := by unfold op2D; rfl
  rw [e, decide_eq_true ⟨h, h2⟩]; rfl
theorem load_run (C : FT) (t : Tape) (h : t.ok) (r : List Sl) : evS C (.ife (.and (.cons (.val (.cmp .eq (.tget 0 .left) (.int 0))) (.cons (.val (.cmp .lt (.tget 0 .at) (.tlen 0))) .nil))) (.cons (.tput 0 .left (.tcell 0)) (.cons (.tput 0 .at (.op2 .add (.tget 0 .at) (.int 1))) .nil)) .nil) (.tp :: r) (eTape t) = some (.nx (.tp :: r) (eTape t.load)) := by
  have hg : ∀ (f : TF) (t : Tape), evE C (.tp :: r) (.tget 0 f) (eTape t) = some (eTape t, .int (t.get f), true) := fun f t => evE_tget rfl
  have hl : ∀ t : Tape, evE C (.tp :: r) (.tlen 0) (eTape t) = some (eTape t, .int t.cells.length, true) := fun t => evE_tlen rfl
  push_cast [hg, hl]
  unfold Tape.load
  by_cases c1 : t.left = 0
  · by_cases c2 : t.pos < t.cells.length
    · have c1' : t.get .left = 0 := c1
      have c2' : t.get .at < t.cells.length := c2
      push_cast [c1', c2', if_pos (And.intro c1 c2)]
      have hp : 0 ≤ t.pos := h
      obtain ⟨n, hn⟩ : ∃ n : Nat, t.pos = n := ⟨t.pos.toNat, by omega⟩
      have hnl : n < t.cells.length := by omega
      have ea : L2.atI t.cells t.pos = some (t.cells.getD t.pos.toNat 0) := by
        rw [hn, atI_nat hnl, Int.toNat_natCast, List.getD_eq_getElem?_getD, List.getElem?_eq_getElem hnl]; rfl
      rw [evS_tput (C := C) (i := 0) (ρ := .tp :: r) (f := .left) (e := .tcell 0) (t := t) (n := t.cells.getD t.pos.toNat 0) (o := true) rfl (by rw [evE_tcell rfl, ea]; rfl), bS_nx]
      rw [evS_tput (C := C) (i := 0) (ρ := .tp :: r) (f := .at) (t := t.put (t.cells.getD t.pos.toNat 0) .left) (n := t.pos + 1) (o := true) rfl (by push_cast [hg]; rfl), bS_nx]
      rfl
    · have c1' : t.get .left = 0 := c1
      have c2' : ¬ t.get .at < t.cells.length := c2
      push_cast [c1', c2', if_neg (show ¬ (t.left = 0 ∧ t.pos < t.cells.length) from fun z => c2 z.2)]
  · have c1' : ¬ t.get .left = 0 := c1
    push_cast [c1', if_neg (show ¬ (t.left = 0 ∧ t.pos < t.cells.length) from fun z => c1 z.1)]
theorem take_run (C : FT) (t : Tape) (h : t.ok) {many : Int} (h0 : 0 < many) (h1 : many < 1073741824) : runT C 4 2 bTake (eTape t) [.int many] = some (eTape (t.take many).1, .int (t.take many).2) := by
  refine (runT_eq [.tp, .arg (.int many), .any, .any] rfl rfl).trans ?_
  unfold bTake
  rw [evSs_cons, load_run C t h, bS_nx]
  unfold Tape.take
  generalize t.load = u
  have hg : ∀ (r : List Sl) (f : TF) (t : Tape), evE C (.tp :: r) (.tget 0 f) (eTape t) = some (eTape t, .int (t.get f), true) := fun r f t => evE_tget rfl
  push_cast [hg]
  by_cases c : u.left > 0
  · have c' : 0 < u.get .left := c
    push_cast [c', if_pos c, op2D_mod h0]
    rw [evS_tput (C := C) (i := 0) (f := .left) (t := u) (n := u.left / many) (o := true) rfl (by push_cast [hg, op2D_fdiv h0 h1]; rfl)]
    push_cast [evS_retV]
    rfl
  · have c' : ¬ 0 < u.get .left := c
    push_cast [c', if_neg c]
    rw [evS_tput (C := C) (i := 0) (f := .salt) (t := u) (n := u.salt + 1) (o := true) rfl (by push_cast [hg]; rfl)]
    have m1 : op2D .mul (.int u.seed) (.int 48271) = some (.int (u.seed * 48271)) := op2D_mulG (.inr (by omega))
    have m2 : op2D .mul (.int (u.salt + 1)) (.int 69621) = some (.int ((u.salt + 1) * 69621)) := op2D_mulG (.inr (by omega))
    have m4 : op2D .mul (.int (u.salt + 1)) (.int 40692) = some (.int ((u.salt + 1) * 40692)) := op2D_mulG (.inr (by omega))
    have m5 : ∀ x : Int, op2D .mod (.int x) (.int 2147483647) = some (.int (x % 2147483647)) := fun x => op2D_mod (by omega)
    have m6 : ∀ x : Int, op2D .mod (.int x) (.int 2147483399) = some (.int (x % 2147483399)) := fun x => op2D_mod (by omega)
    have m3 : op2D .mul (.int ((u.seed * 48271 + (u.salt + 1) * 69621) % 2147483647)) (.int ((u.seed * 48271 + (u.salt + 1) * 69621) % 2147483647)) = some (.int ((u.seed * 48271 + (u.salt + 1) * 69621) % 2147483647 * ((u.seed * 48271 + (u.salt + 1) * 69621) % 2147483647))) := op2D_mulG (.inl (by omega))
    have g1 : (u.put (u.salt + 1) .salt).get .seed = u.seed := rfl
    have g2 : (u.put (u.salt + 1) .salt).get .salt = u.salt + 1 := rfl
    push_cast [hg, g1, g2, m1, m2, m5, m3, m4, m6, op2D_mod h0]
    rfl
def tapeOf (ns : List Int) : Tape := ⟨ns.map fun n => if n < 0 then -n else n, 0, 0, (ns.map fun n => if n < 0 then -n else n).foldl (fun s c => (s * 31 + c) % 2147483647) 7, 0⟩
theorem tapeOf_ok (ns : List Int) : (tapeOf ns).ok := Int.le_refl _
theorem evE_callS {C : FT} {ρ : List Sl} {τ : D} {f : Str} {j : Nat} {g : List Int → Option D} {ns : List Int} (h : C.fc f = some g) (hj : ρ[j]? = some (.scr ns)) : evE C ρ (.callS f j) τ = (g ns).bind fun z => some (τ, z, true) := by
  unfold evE
  rw [h, hj]
theorem evPin_nil {turn : D → List Sl → D → Option SO} {j : Nat} {s : Sl} {ρ : List Sl} {τ : D} (h : ρ[j]? = some s) : evPin turn j s [] ρ τ = some (.nx (DL.unpin j ρ) τ) := by
  unfold evPin
  rw [if_pos h]
theorem evPin_nx {turn : D → List Sl → D → Option SO} {j : Nat} {s : Sl} {d : D} {ds : List D} {ρ ρ1 : List Sl} {τ τ1 : D} (h : ρ[j]? = some s) (ht : turn d ρ τ = some (.nx ρ1 τ1)) : evPin turn j s (d :: ds) ρ τ = evPin turn j s ds ρ1 τ1 := by
  conv => lhs; unfold evPin
  rw [if_pos h, ht]
theorem evPin_rt {turn : D → List Sl → D → Option SO} {j : Nat} {s : Sl} {d e : D} {ds : List D} {ρ : List Sl} {τ τ1 : D} (h : ρ[j]? = some s) (ht : turn d ρ τ = some (.rt τ1 e)) : evPin turn j s (d :: ds) ρ τ = some (.rt τ1 e) := by
  unfold evPin
  rw [if_pos h, ht]
/-- a loop over a slot's own list, by a fold -/
theorem evPin_all {α β : Type} {turn : D → List Sl → D → Option SO} {j : Nat} {s : Sl} {enc : α → D} {E : β → List Sl} {τ : D} {f : β → α → β} (hE : ∀ b, (E b)[j]? = some s) : ∀ {xs : List α} {b : β}, (∀ b x, x ∈ xs → turn (enc x) (E b) τ = some (.nx (E (f b x)) τ)) → evPin turn j s (xs.map enc) (E b) τ = some (.nx (DL.unpin j (E (xs.foldl f b))) τ)
  | [], b, _ => evPin_nil (hE b)
  | x :: xs, b, h => by
    rw [List.map_cons, evPin_nx (hE b) (h b x List.mem_cons_self)]
    exact evPin_all hE fun b y hy => h b y (List.mem_cons_of_mem _ hy)
theorem evS_retTape {C : FT} {ρ : List Sl} {τ : D} {i j : Nat} {ms : List Int} {z : Int} {sa sb : Option Addr} (hi : ρ[i]? = some (.v (.list (ms.map .int)) sa)) (hj : ρ[j]? = some (.v (.int z) sb)) : evS C (.retTape i j) ρ τ = some (.rt τ (eTape ⟨ms, 0, 0, z, 0⟩)) := by
  unfold evS
  rw [hi, hj]
  have := intsD_mapE (fun z : Int => z) ms
  rw [List.map_id'] at this
  show (intsD (ms.map .int)).bind _ = _
  rw [this]; rfl
theorem tape_run (C : FT) (ns : List Int) (hl : ns.length ≤ 1000) : runS C 4 bTape ns = some (eTape (tapeOf ns)) := by
  have hs : ∀ r : List Sl, evI C (.scr ns :: r) (.scr 0) .none = some (.none, ns.map .int, true) := fun r => by unfold evI; rfl
  have main : evSs C bTape [.scr ns, .any, .any, .any] .none = some (.rt .none (eTape (tapeOf ns))) := by
    unfold bTape
    rw [evSs_cons, evS_setLc]
    rw [evLc_map (τ1 := .none) (o := true) (fun n : Int => .int n) (fun n => .int (if n < 0 then -n else n)) ns (hs _) (by omega) fun n hn => by
      push_cast []]
    push_cast [evS_forV, immAll_ints]
    have key : ∀ a : Addr, evPin (turnF C (.nm 3) bTape_1) 1 (.v (.list (ns.map fun n => .int (if n < 0 then -n else n))) (some a)) (ns.map fun n => .int (if n < 0 then -n else n)) [.scr ns, .v (.list (ns.map fun n => .int (if n < 0 then -n else n))) (some a), .v (.int 7), .any] .none = some (.nx [.scr ns, .v (.list (ns.map fun n => .int (if n < 0 then -n else n))), .v (.int (tapeOf ns).seed), .any] .none) := by
      intro a
      have := evPin_all (turn := turnF C (.nm 3) bTape_1) (j := 1) (s := .v (.list (ns.map fun n => .int (if n < 0 then -n else n))) (some a)) (enc := fun n : Int => .int (if n < 0 then -n else n)) (E := fun s : Int => [.scr ns, .v (.list (ns.map fun n => .int (if n < 0 then -n else n))) (some a), .v (.int s), .any]) (τ := .none) (f := fun s n => (s * 31 + (if n < 0 then -n else n)) % 2147483647) (fun _ => rfl) (xs := ns) (b := 7) fun s n hn => by
        unfold bTape_1
        push_cast [op2D_mulG (i := s) (j := 31) (.inr (by omega)), op2D_mod (j := 2147483647) (by omega)]
      rw [this]
      unfold tapeOf
      rw [List.foldl_map]
      rfl
    rw [allA_eq key]
    push_cast []
    rw [evS_retTape (ms := ns.map fun n => if n < 0 then -n else n) (z := (tapeOf ns).seed) (sa := none) (sb := none) (by rw [List.map_map]; rfl) rfl]
    push_cast []
    rfl
  unfold runS
  show (match evSs C bTape [.scr ns, .any, .any, .any] .none with | some (.rt _ d) => some d | _ => none) = _
  rw [main]
end DI
/-! DI, part 15: loops and rows with a tape: what stands after them, as far as it is known. -/
namespace DI
open PySem PySem.Spec L2 RZ DL
local macro_rules
  | `(tactic| l_intsW) => `(tactic| simp -implicitDefEqProofs only [evSs_nil, evSs_cons, evSs_fgt, evS_set, evS_setLc, evS_move, evS_unp, evS_par, evS_ife, evS_for, evS_ret, evS_retV, evS_retN, evS_expr, evS_append, evS_extend, evS_addI, evS_pass, evS_brk, evS_cont, evO_nm, evO_tup, evOs_nil, evOs_cons, evG_nm, evG_tup, evGs_nil, evGs_cons,
  evE_varE, evE_int, evE_bl, evE_non, evE_str, evE_glob, evE_op2, evE_cmp, evE_chain, evE_ix, evE_neg, evE_not, evE_and, evE_or, evE_ife, evE_tup, evE_lst, evE_bi, evE_sl, evC_el, evC_ift, evT_not, evT_and, evT_or, evT_val, evA_nil, evA_cons, evAnd_one, evAnd_cons, evOr_one, evOr_cons, tsAnd_one, tsAnd_cons, tsOr_one, tsOr_cons, evP_no, evP_so, evI_seq, evI_enum,
  gS_z, gS_s, rdS_v, rdS_arg, gL_z, gL_s, gV_z, gV_s, negD_int, notD_bl, trD_bl, trD_none, trD_tuple, trD_list, blD_bl, inD_int, sqD_list, sqD_tuple, lsD_list, Option.bind_some, Option.bind_none, bE_some, bE_none, bT_some, bT_none, bS_nx, bS_rt, bS_bk, bS_ct, bL_nx, bL_ct, bL_bk, bL_rt, guardO_true, guardO_false, iteB_true, iteB_false, List.set_cons_zero, List.set_cons_succ, wipeL, List.map_cons, List.map_nil,
  List.all_cons, List.all_nil, id_eq, Bool.and_self, Bool.and_true, Bool.true_and, List.length_cons, List.length_nil, slOf_int, slOf_bool, imm_int, imm_bool, imm_none, turnC_eq, turnF_eq, cmpD_lt, cmpD_le, cmpD_gt, cmpD_ge, op2D_add, op2D_sub, ixD_t, ixD_l, addG_gl, decide_true, decide_false, Bool.not_true, Bool.not_false, ↓reduceIte, cmpD_is_non, cmpD_isn_non, isNon_int, isNon_none, biD_allM, biD_anyM, biD_len_l, biD_len_t, biD_tuple, List.length_map, cmpD_eq_int, cmpD_ne_int, cmpD_eq_bl, cmpD_ne_bl, cmpD_is_bl, cmpD_isn_bl, biD_max2, biD_min2, nb_nil, nb_cons, isB_v, isB_arg, isB_any, isB_tp, isB_scr, outF_rt, outF_nx, outT_rt, biD_int, biD_abs, dLe0, dLe1, dLe2, dLe3, imm_tuple, immAll_cons, immAll_nil])
  | `(tactic| push_cast [$ls,*]) => `(tactic| simp -implicitDefEqProofs only [evSs_nil, evSs_cons, evSs_fgt, evS_set, evS_setLc, evS_move, evS_unp, evS_par, evS_ife, evS_for, evS_ret, evS_retV, evS_retN, evS_expr, evS_append, evS_extend, evS_addI, evS_pass, evS_brk, evS_cont, evO_nm, evO_tup, evOs_nil, evOs_cons, evG_nm, evG_tup, evGs_nil, evGs_cons,
  evE_varE, evE_int, evE_bl, evE_non, evE_str, evE_glob, evE_op2, evE_cmp, evE_chain, evE_ix, evE_neg, evE_not, evE_and, evE_or, evE_ife, evE_tup, evE_lst, evE_bi, evE_sl, evC_el, evC_ift, evT_not, evT_and, evT_or, evT_val, evA_nil, evA_cons, evAnd_one, evAnd_cons, evOr_one, evOr_cons, tsAnd_one, tsAnd_cons, tsOr_one, tsOr_cons, evP_no, evP_so, evI_seq, evI_enum,
  gS_z, gS_s, rdS_v, rdS_arg, gL_z, gL_s, gV_z, gV_s, negD_int, notD_bl, trD_bl, trD_none, trD_tuple, trD_list, blD_bl, inD_int, sqD_list, sqD_tuple, lsD_list, Option.bind_some, Option.bind_none, bE_some, bE_none, bT_some, bT_none, bS_nx, bS_rt, bS_bk, bS_ct, bL_nx, bL_ct, bL_bk, bL_rt, guardO_true, guardO_false, iteB_true, iteB_false, List.set_cons_zero, List.set_cons_succ, wipeL, List.map_cons, List.map_nil,
  List.all_cons, List.all_nil, id_eq, Bool.and_self, Bool.and_true, Bool.true_and, List.length_cons, List.length_nil, slOf_int, slOf_bool, imm_int, imm_bool, imm_none, turnC_eq, turnF_eq, cmpD_lt, cmpD_le, cmpD_gt, cmpD_ge, op2D_add, op2D_sub, ixD_t, ixD_l, addG_gl, decide_true, decide_false, Bool.not_true, Bool.not_false, ↓reduceIte, cmpD_is_non, cmpD_isn_non, isNon_int, isNon_none, biD_allM, biD_anyM, biD_len_l, biD_len_t, biD_tuple, List.length_map, cmpD_eq_int, cmpD_ne_int, cmpD_eq_bl, cmpD_ne_bl, cmpD_is_bl, cmpD_isn_bl, biD_max2, biD_min2, nb_nil, nb_cons, isB_v, isB_arg, isB_any, isB_tp, isB_scr, outF_rt, outF_nx, outT_rt, biD_int, biD_abs, dLe0, dLe1, dLe2, dLe3, imm_tuple, immAll_cons, immAll_nil, $ls,*])

theorem evFor_exr {S : Type} {turn : D → List Sl → D → Option SO} {enc : Nat → D} (E : S → List Sl) (tp : S → D) (P : Nat → S → Prop) : ∀ (n a : Nat) (s : S), P a s → (∀ k s, a ≤ k → k < a + n → P k s → ∃ s', turn (enc k) (E s) (tp s) = some (.nx (E s') (tp s')) ∧ P (k + 1) s') → ∃ s', evFor turn ((List.range' a n).map enc) (E s) (tp s) = some (.nx (E s') (tp s')) ∧ P (a + n) s'
  | 0, a, s, h0, _ => ⟨s, rfl, h0⟩
  | n + 1, a, s, h0, h => by
    rw [List.range'_succ, List.map_cons]
    obtain ⟨s1, e1, p1⟩ := h a s (Nat.le_refl _) (by omega) h0
    obtain ⟨s2, e2, p2⟩ := evFor_exr E tp P n (a + 1) s1 p1 fun k s h1 h2 => h k s (by omega) (by omega)
    refine ⟨s2, ?_, ?_⟩
    · show bL (turn (enc a) (E s) (tp s)) _ = _
      rw [e1, bL_nx]; exact e2
    · rw [show a + (n + 1) = a + 1 + n by omega]; exact p2
theorem evFor_ex {S : Type} {turn : D → List Sl → D → Option SO} {enc : Nat → D} (E : S → List Sl) (tp : S → D) (P : Nat → S → Prop) {n : Nat} (s : S) (h0 : P 0 s) (h : ∀ k s, k < n → P k s → ∃ s', turn (enc k) (E s) (tp s) = some (.nx (E s') (tp s')) ∧ P (k + 1) s') : ∃ s', evFor turn ((List.range n).map enc) (E s) (tp s) = some (.nx (E s') (tp s')) ∧ P n s' := by
  have := evFor_exr (turn := turn) (enc := enc) E tp P n 0 s h0 fun k s _ hk => h k s (by omega)
  rw [← List.range_eq_range', Nat.zero_add] at this
  exact this
theorem lcL_ex {α β S : Type} {turn : D → D → Option (D × Option D)} {enc : α → D} (tp : S → D) (g : β → D) (I : S → Prop) (Q : β → Prop) : ∀ (xs : List α) (s : S), I s → (∀ s x, I s → x ∈ xs → ∃ (s' : S) (y : Option β), turn (enc x) (tp s) = some (tp s', y.map g) ∧ I s' ∧ ∀ z, y = some z → Q z) → ∃ (s' : S) (ys : List β), lcL turn (xs.map enc) (tp s) = some (tp s', ys.map g) ∧ I s' ∧ (∀ y ∈ ys, Q y) ∧ ys.length ≤ xs.length
  | [], s, h, _ => ⟨s, [], rfl, h, fun _ z => (nomatch z), Nat.le_refl _⟩
  | x :: xs, s, h, hs => by
    obtain ⟨s1, y, e1, h1, q1⟩ := hs s x h List.mem_cons_self
    obtain ⟨s2, ys, e2, h2, q2, l2⟩ := lcL_ex tp g I Q xs s1 h1 fun s y hi hy => hs s y hi (List.mem_cons_of_mem _ hy)
    refine ⟨s2, y.toList ++ ys, ?_, h2, ?_, ?_⟩
    · show lcL turn (enc x :: xs.map enc) (tp s) = _
      unfold lcL
      rw [e1]
      simp only [Option.bind_some]
      rw [e2]
      cases y <;> rfl
    · intro z hz
      rcases List.mem_append.mp hz with hz | hz
      · cases y with
        | none => cases hz
        | some w =>
          have : z = w := by simpa using hz
          exact q1 z (by rw [this])
      · exact q2 z hz
    · rw [List.length_append, List.length_cons]
      cases y with
      | none => simp; omega
      | some w => simp; omega
theorem evLc_ex {α β S : Type} {C : FT} {ρ : List Sl} {own : List (Str × Nat)} {elt : IC} {tg : TG} {it : II} {τ : D} {o : Bool} (enc : α → D) (tp : S → D) (g : β → D) (I : S → Prop) (Q : β → Prop) (xs : List α) (s : S) (h : I s) (hi : evI C ρ it τ = some (tp s, xs.map enc, o)) (hl : xs.length ≤ 1000000) (ht : ∀ s x, I s → x ∈ xs → ∃ (s' : S) (y : Option β), turnC C ρ own tg elt (enc x) (tp s) = some (tp s', y.map g) ∧ I s' ∧ ∀ z, y = some z → Q z) :
    ∃ (s' : S) (ys : List β), evE C ρ (.lc own elt tg it) τ = some (tp s', .list (ys.map g), true) ∧ I s' ∧ (∀ y ∈ ys, Q y) ∧ ys.length ≤ xs.length := by
  obtain ⟨s', ys, e, h1, h2, h3⟩ := lcL_ex (turn := turnC C ρ own tg elt) (enc := enc) tp g I Q xs s h ht
  refine ⟨s', ys, ?_, h1, h2, h3⟩
  rw [evE_lc, hi]
  simp only [Option.bind_some, List.length_map]
  rw [decide_eq_true hl, guardO_true]
  unfold turnC at e
  rw [e]
  rfl
/-- each item gives one -/
theorem lcL_ex1 {α β S : Type} {turn : D → D → Option (D × Option D)} {enc : α → D} (tp : S → D) (g : β → D) (I : S → Prop) (Q : β → Prop) : ∀ (xs : List α) (s : S), I s → (∀ s x, I s → x ∈ xs → ∃ s' y, turn (enc x) (tp s) = some (tp s', some (g y)) ∧ I s' ∧ Q y) → ∃ (s' : S) (ys : List β), lcL turn (xs.map enc) (tp s) = some (tp s', ys.map g) ∧ I s' ∧ (∀ y ∈ ys, Q y) ∧ ys.length = xs.length
  | [], s, h, _ => ⟨s, [], rfl, h, fun _ z => (nomatch z), rfl⟩
  | x :: xs, s, h, hs => by
    obtain ⟨s1, y, e1, h1, q1⟩ := hs s x h List.mem_cons_self
    obtain ⟨s2, ys, e2, h2, q2, l2⟩ := lcL_ex1 tp g I Q xs s1 h1 fun s y hi hy => hs s y hi (List.mem_cons_of_mem _ hy)
    refine ⟨s2, y :: ys, ?_, h2, ?_, ?_⟩
    · show lcL turn (enc x :: xs.map enc) (tp s) = _
      unfold lcL
      rw [e1]
      simp only [Option.bind_some]
      rw [e2]
      rfl
    · intro z hz
      rcases List.mem_cons.mp hz with rfl | hz
      · exact q1
      · exact q2 z hz
    · rw [List.length_cons, List.length_cons, l2]
theorem evLc_ex1 {α β S : Type} {C : FT} {ρ : List Sl} {own : List (Str × Nat)} {elt : IC} {tg : TG} {it : II} {τ : D} {o : Bool} (enc : α → D) (tp : S → D) (g : β → D) (I : S → Prop) (Q : β → Prop) (xs : List α) (s : S) (h : I s) (hi : evI C ρ it τ = some (tp s, xs.map enc, o)) (hl : xs.length ≤ 1000000) (ht : ∀ s x, I s → x ∈ xs → ∃ s' y, turnC C ρ own tg elt (enc x) (tp s) = some (tp s', some (g y)) ∧ I s' ∧ Q y) :
    ∃ (s' : S) (ys : List β), evE C ρ (.lc own elt tg it) τ = some (tp s', .list (ys.map g), true) ∧ I s' ∧ (∀ y ∈ ys, Q y) ∧ ys.length = xs.length := by
  obtain ⟨s', ys, e, h1, h2, h3⟩ := lcL_ex1 (turn := turnC C ρ own tg elt) (enc := enc) tp g I Q xs s h ht
  refine ⟨s', ys, ?_, h1, h2, h3⟩
  rw [evE_lc, hi]
  simp only [Option.bind_some, List.length_map]
  rw [decide_eq_true hl, guardO_true]
  unfold turnC at e
  rw [e]
  rfl
theorem evS_apopN {C : FT} {ρ : List Sl} {τ τ1 : D} {i j k : Nat} {e : IE} {ds es : List D} {sa sb : Option Addr} {o : Bool} (hi : ρ[i]? = some (.v (.list ds) sa)) (hj : ρ[j]? = some (.v (.list es) sb)) (he : evE C ρ e τ = some (τ1, .int (k : Int), o)) (hk : k < es.length) (hij : i ≠ j) (im : immAll es = true) (hn : nb? ρ = true) (hl : ds.length < 1000000) (hl2 : es.length ≤ 1000000) :
    evS C (.apop i j e) ρ τ = some (.nx ((ρ.set j (.v (.list (es.eraseIdx k)) sb)).set i (.v (.list (ds ++ [es[k]])) sa)) τ1) := by
  unfold evS
  rw [hi, hj]
  dsimp only
  rw [he, bE_some]
  have e1 : seqIndex? (k : Int) es.length = some k := by
    unfold seqIndex?
    have h1 : ¬ ((k : Int) < 0) := by omega
    have h2 : ((0 : Int) ≤ (k : Int) && decide ((k : Int) < (es.length : Int))) = true := by
      rw [Bool.and_eq_true]
      exact ⟨decide_eq_true (by omega), decide_eq_true (by omega)⟩
    simp only [h1, if_false, h2, if_true, Int.toNat_natCast]
  dsimp only
  rw [e1, Option.bind_some, List.getElem?_eq_getElem hk, Option.bind_some]
  have g1 : decide (i ≠ j) = true := decide_eq_true hij
  have g2 : decide (ds.length < 1000000) = true := decide_eq_true hl
  have g3 : decide (-9223372036854775808 ≤ (k : Int) ∧ (k : Int) < 9223372036854775808) = true := decide_eq_true ⟨by omega, by omega⟩
  rw [g1, g2, g3, im, hn]
  rfl
theorem map_eraseE {α β : Type} (f : α → β) : ∀ (xs : List α) (i : Nat), (xs.map f).eraseIdx i = (xs.eraseIdx i).map f
  | [], _ => rfl
  | _ :: _, 0 => rfl
  | x :: xs, i + 1 => by
    show f x :: (xs.map f).eraseIdx i = f x :: (xs.eraseIdx i).map f
    rw [map_eraseE f xs i]
theorem erase_perm {α : Type} : ∀ (xs : List α) (i : Nat) (h : i < xs.length), (xs[i] :: xs.eraseIdx i).Perm xs
  | [], _, h => absurd h (Nat.not_lt_zero _)
  | _ :: _, 0, _ => .refl _
  | x :: xs, i + 1, h => by
    have hi : i < xs.length := by simpa using h
    show (xs[i] :: x :: xs.eraseIdx i).Perm (x :: xs)
    exact (List.Perm.swap x xs[i] (xs.eraseIdx i)).trans ((erase_perm xs i hi).cons x)
/-- what is drawn, as a number -/
theorem Tape.take_nat (t : Tape) {many : Nat} (h : 0 < many) : ∃ k : Nat, k < many ∧ (t.take (many : Int)).2 = (k : Int) := by
  obtain ⟨a, b⟩ := t.take_lt (many := (many : Int)) (by omega)
  exact ⟨(t.take (many : Int)).2.toNat, by omega, by omega⟩
end DI
namespace K55
open PySem PySem.Spec L2 RZ DL DI
def topS (i : Nat) : Stmt := PySem.Challenge.pw_noshorterplan_k55_whole_steps_with_durat.main.body.getD i (.Pass ⟨0, 0, 0, 0⟩)

abbrev s_check_net : Stmt := topS 5
abbrev N_check_net : List Str := "net" :: "many" :: "bounds" :: "good" :: "a" :: "b" :: "most" :: []
abbrev p_check_net : List Str := ["net"]
def b_check_net : ISs := .cons (.unp (.tup (.cons (.nm 1) (.cons (.nm 2) .nil))) (.var 0)) (.cons (.setLc 3 [("a", 4), ("b", 5), ("most", 6)] (.el (.and (.cons (.chain .le .lt (.int 0) (.var 4) (.var 1)) (.cons (.chain .le .lt (.int 0) (.var 5) (.var 1)) (.cons (.chain .le .le (.neg (.int 99)) (.var 6) (.int 99)) .nil))))) (.tup (.cons (.nm 4) (.cons (.nm 5) (.cons (.nm 6) .nil)))) (.seq (.var 2))) (.cons (.ife (.or (.cons (.not (.val (.chain .le .le (.int 1) (.var 1) (.glob "MOST_POINTS")))) (.cons (.not (.val (.bi .all (.cons (.var 3) .nil)))) .nil))) (.cons .raise .nil) .nil) .nil))
abbrev s_closed_net : Stmt := topS 6
abbrev N_closed_net : List Str := "net" :: []
abbrev p_closed_net : List Str := ["net"]
def b_closed_net : ISs := .cons (.expr (.call "check_net" (.cons (.var 0) .nil))) (.cons (.ret (.call "closed_of" (.cons (.var 0) .nil))) .nil)
abbrev s_closed_of : Stmt := topS 7
abbrev N_closed_of : List Str := "net" :: "many" :: "bounds" :: "found" :: "a" :: "b" :: "most" :: "k" :: "i" :: "j" :: "told" :: "row" :: []
abbrev p_closed_of : List Str := ["net"]
def b_closed_of_1 : ISs := .cons (.ife (.or (.cons (.val (.cmp .is (.ix (.ix (.var 3) (.var 4)) (.var 5)) .non)) (.cons (.val (.cmp .lt (.var 6) (.ix (.ix (.var 3) (.var 4)) (.var 5)))) .nil))) (.cons (.put2 3 (.var 4) (.var 5) (.var 6)) .nil) .nil) (.fgt 4 (.fgt 5 (.fgt 6 .nil)))
def b_closed_of_2 : ISs := .cons (.ife (.and (.cons (.val (.cmp .isn (.ix (.ix (.var 3) (.var 8)) (.var 7)) .non)) (.cons (.val (.cmp .isn (.ix (.ix (.var 3) (.var 7)) (.var 9)) .non)) .nil))) (.cons (.set 10 (.op2 .add (.ix (.ix (.var 3) (.var 8)) (.var 7)) (.ix (.ix (.var 3) (.var 7)) (.var 9)))) (.cons (.ife (.or (.cons (.val (.cmp .is (.ix (.ix (.var 3) (.var 8)) (.var 9)) .non)) (.cons (.val (.cmp .lt (.var 10) (.ix (.ix (.var 3) (.var 8)) (.var 9)))) .nil))) (.cons (.put2 3 (.var 8) (.var 9) (.var 10)) .nil) .nil) (.fgt 10 .nil))) .nil) (.fgt 9 (.fgt 10 .nil))
def b_closed_of_3 : ISs := .cons (.for_ (.nm 9) (.rng1 (.var 1)) b_closed_of_2) (.fgt 8 (.fgt 9 (.fgt 10 .nil)))
def b_closed_of_4 : ISs := .cons (.for_ (.nm 8) (.rng1 (.var 1)) b_closed_of_3) (.fgt 7 (.fgt 8 (.fgt 9 (.fgt 10 .nil))))
def b_closed_of : ISs := .cons (.unp (.tup (.cons (.nm 1) (.cons (.nm 2) .nil))) (.var 0)) (.cons (.setLc 3 [("i", 8)] (.el (.lc [("j", 9)] (.el (.ife (.val (.cmp .eq (.var 8) (.var 9))) (.int 0) .non)) (.nm 9) (.rng1 (.var 1)))) (.nm 8) (.rng1 (.var 1))) (.cons (.for_ (.tup (.cons (.nm 4) (.cons (.nm 5) (.cons (.nm 6) .nil)))) (.seq (.var 2)) b_closed_of_1) (.cons (.for_ (.nm 7) (.rng1 (.var 1)) b_closed_of_4) (.cons (.ret (.bi .tuple (.cons (.lc [("row", 11)] (.el (.bi .tuple (.cons (.var 11) .nil))) (.nm 11) (.seq (.var 3))) .nil))) .nil))))
abbrev s_fits : Stmt := topS 8
abbrev N_fits : List Str := "net" :: "told" :: "k" :: []
abbrev p_fits : List Str := ["net"]
def b_fits : ISs := .cons (.set 1 (.call "closed_net" (.cons (.var 0) .nil))) (.cons (.ret (.bi .all (.cons (.lc [("k", 2)] (.el (.cmp .ge (.ix (.ix (.var 1) (.var 2)) (.var 2)) (.int 0))) (.nm 2) (.rng1 (.ix (.var 0) (.int 0)))) .nil))) .nil)
abbrev s_keeps : Stmt := topS 9
abbrev N_keeps : List Str := "net" :: "times" :: "a" :: "b" :: "most" :: []
abbrev p_keeps : List Str := ["net", "times"]
def b_keeps : ISs := .cons (.expr (.call "check_net" (.cons (.var 0) .nil))) (.cons (.ret (.and (.cons (.cmp .eq (.bi .len (.cons (.var 1) .nil)) (.ix (.var 0) (.int 0))) (.cons (.bi .all (.cons (.lc [("a", 2), ("b", 3), ("most", 4)] (.el (.cmp .le (.op2 .sub (.ix (.var 1) (.var 3)) (.ix (.var 1) (.var 2))) (.var 4))) (.tup (.cons (.nm 2) (.cons (.nm 3) (.cons (.nm 4) .nil)))) (.seq (.ix (.var 0) (.int 1)))) .nil)) .nil)))) .nil)
abbrev s_bad_circle : Stmt := topS 10
abbrev N_bad_circle : List Str := "net" :: "level" :: "_" :: "row" :: "total" :: "fresh" :: "k" :: "a" :: "b" :: "most" :: []
abbrev p_bad_circle : List Str := ["net"]
def b_bad_circle_1 : ISs := .cons (.ife (.and (.cons (.val (.cmp .eq (.ix (.ix (.ix (.var 0) (.int 1)) (.ix (.var 3) (.int 0))) (.int 0)) (.ix (.ix (.ix (.var 0) (.int 1)) (.ix (.var 3) (.neg (.int 1)))) (.int 1)))) (.cons (.val (.cmp .lt (.var 4) (.int 0))) .nil))) (.cons (.retV 3) .nil) .nil) .nil
def b_bad_circle_2 : ISs := .cons (.ife (.and (.cons (.val (.cmp .eq (.var 7) (.ix (.ix (.ix (.var 0) (.int 1)) (.ix (.var 3) (.neg (.int 1)))) (.int 1)))) (.cons (.val (.cmp .notin (.var 6) (.var 3))) .nil))) (.cons (.append 5 (.tup (.cons (.op2 .add (.var 3) (.tup (.cons (.var 6) .nil))) (.cons (.op2 .add (.var 4) (.var 9)) .nil)))) .nil) .nil) (.fgt 6 (.fgt 7 (.fgt 8 (.fgt 9 .nil))))
def b_bad_circle_3 : ISs := .cons (.for_ (.tup (.cons (.nm 6) (.cons (.tup (.cons (.nm 7) (.cons (.nm 8) (.cons (.nm 9) .nil)))) .nil))) (.enum (.ix (.var 0) (.int 1))) b_bad_circle_2) (.fgt 6 (.fgt 7 (.fgt 8 (.fgt 9 .nil))))
def b_bad_circle_4 : ISs := .cons (.forV (.tup (.cons (.nm 3) (.cons (.nm 4) .nil))) 1 b_bad_circle_1) (.cons (.set 5 (.lst .nil)) (.cons (.forV (.tup (.cons (.nm 3) (.cons (.nm 4) .nil))) 1 b_bad_circle_3) (.cons (.set 1 (.bi .sorted (.cons (.var 5) .nil))) (.fgt 2 (.fgt 3 (.fgt 4 (.fgt 5 (.fgt 6 (.fgt 7 (.fgt 8 (.fgt 9 .nil)))))))))))
def b_bad_circle : ISs := .cons (.expr (.call "check_net" (.cons (.var 0) .nil))) (.cons (.ife (.val (.call "fits" (.cons (.var 0) .nil))) (.cons (.ret .non) .nil) .nil) (.cons (.setLc 1 [("k", 6)] (.el (.tup (.cons (.tup (.cons (.var 6) .nil)) (.cons (.ix (.ix (.ix (.var 0) (.int 1)) (.var 6)) (.int 2)) .nil)))) (.nm 6) (.rng1 (.bi .len (.cons (.ix (.var 0) (.int 1)) .nil)))) (.cons (.for_ (.nm 2) (.rng1 (.ix (.var 0) (.int 0))) b_bad_circle_4) (.cons .raise .nil))))
abbrev s_takes_circle : Stmt := topS 11
abbrev N_takes_circle : List Str := "net" :: "row" :: "told" :: "k" :: "one" :: "other" :: "_" :: "most" :: []
abbrev p_takes_circle : List Str := ["net", "row"]
def b_takes_circle : ISs := .cons (.expr (.call "check_net" (.cons (.var 0) .nil))) (.cons (.ife (.or (.cons (.not (.val (.var 1))) (.cons (.not (.val (.bi .all (.cons (.lc [("k", 3)] (.el (.chain .le .lt (.int 0) (.var 3) (.bi .len (.cons (.ix (.var 0) (.int 1)) .nil)))) (.nm 3) (.seq (.var 1))) .nil)))) .nil))) (.cons (.ret (.bl false)) .nil) .nil) (.cons (.setLc 2 [("k", 3)] (.el (.ix (.ix (.var 0) (.int 1)) (.var 3))) (.nm 3) (.seq (.var 1))) (.cons (.ife (.not (.val (.bi .all (.cons (.lc [("one", 4), ("other", 5)] (.el (.cmp .eq (.ix (.var 4) (.int 1)) (.ix (.var 5) (.int 0)))) (.tup (.cons (.nm 4) (.cons (.nm 5) .nil))) (.zip (.var 2) (.op2 .add (.sl (.var 2) (.so (.int 1)) .no) (.sl (.var 2) .no (.so (.int 1)))))) .nil)))) (.cons (.ret (.bl false)) .nil) .nil) (.cons (.ret (.cmp .lt (.bi .sum (.cons (.lc [("_", 6), ("most", 7)] (.el (.var 7)) (.tup (.cons (.nm 6) (.cons (.nm 6) (.cons (.nm 7) .nil)))) (.seq (.var 2))) .nil)) (.int 0))) .nil))))
abbrev s_earliest : Stmt := topS 12
abbrev N_earliest : List Str := "net" :: []
abbrev p_earliest : List Str := ["net"]
def b_earliest : ISs := .cons (.expr (.call "check_net" (.cons (.var 0) .nil))) (.cons (.ret (.call "earliest_of" (.cons (.var 0) .nil))) .nil)
abbrev s_earliest_of : Stmt := topS 13
abbrev N_earliest_of : List Str := "net" :: "told" :: "k" :: "j" :: []
abbrev p_earliest_of : List Str := ["net"]
def b_earliest_of : ISs := .cons (.set 1 (.call "closed_of" (.cons (.var 0) .nil))) (.cons (.ife (.val (.bi .any (.cons (.lc [("k", 2)] (.el (.cmp .lt (.ix (.ix (.var 1) (.var 2)) (.var 2)) (.int 0))) (.nm 2) (.rng1 (.ix (.var 0) (.int 0)))) .nil))) (.cons (.ret .non) .nil) .nil) (.cons (.ret (.bi .tuple (.cons (.lc [("k", 2)] (.el (.bi .max1 (.cons (.op2 .add (.lst (.cons (.int 0) .nil)) (.lc [("j", 3)] (.ift (.val (.cmp .isn (.ix (.ix (.var 1) (.var 2)) (.var 3)) .non)) (.neg (.ix (.ix (.var 1) (.var 2)) (.var 3)))) (.nm 3) (.rng1 (.ix (.var 0) (.int 0))))) .nil))) (.nm 2) (.rng1 (.ix (.var 0) (.int 0)))) .nil))) .nil))
abbrev s_range_of : Stmt := topS 14
abbrev N_range_of : List Str := "net" :: "one" :: "other" :: "told" :: "back" :: []
abbrev p_range_of : List Str := ["net", "one", "other"]
def b_range_of : ISs := .cons (.ife (.not (.val (.call "fits" (.cons (.var 0) .nil)))) (.cons .raise .nil) .nil) (.cons (.set 3 (.call "closed_net" (.cons (.var 0) .nil))) (.cons (.set 4 (.ix (.ix (.var 3) (.var 2)) (.var 1))) (.cons (.ret (.tup (.cons (.ife (.val (.cmp .is (.ix (.ix (.var 3) (.var 1)) (.var 2)) .non)) .non (.neg (.ix (.ix (.var 3) (.var 1)) (.var 2)))) (.cons (.var 4) .nil)))) .nil)))
abbrev s_net_of : Stmt := topS 15
abbrev N_net_of : List Str := "durations" :: "pairs" :: "many" :: "bounds" :: "k" :: "time" :: "net" :: "a" :: "b" :: []
abbrev p_net_of : List Str := ["durations", "pairs"]
def b_net_of_1 : ISs := .cons (.extend 3 (.lst (.cons (.tup (.cons (.op2 .mul (.int 2) (.var 4)) (.cons (.op2 .add (.op2 .mul (.int 2) (.var 4)) (.int 1)) (.cons (.var 5) .nil)))) (.cons (.tup (.cons (.op2 .add (.op2 .mul (.int 2) (.var 4)) (.int 1)) (.cons (.op2 .mul (.int 2) (.var 4)) (.cons (.neg (.var 5)) .nil)))) .nil)))) (.fgt 4 (.fgt 5 .nil))
def b_net_of : ISs := .cons (.set 2 (.op2 .mul (.int 2) (.bi .len (.cons (.var 0) .nil)))) (.cons (.set 3 (.lst .nil)) (.cons (.for_ (.tup (.cons (.nm 4) (.cons (.nm 5) .nil))) (.enum (.var 0)) b_net_of_1) (.cons (.extend 3 (.lc [("a", 7), ("b", 8)] (.el (.tup (.cons (.op2 .mul (.int 2) (.var 8)) (.cons (.op2 .add (.op2 .mul (.int 2) (.var 7)) (.int 1)) (.cons (.int 0) .nil))))) (.tup (.cons (.nm 7) (.cons (.nm 8) .nil))) (.seq (.var 1)))) (.cons (.set 6 (.tup (.cons (.var 2) (.cons (.bi .tuple (.cons (.var 3) .nil)) .nil)))) (.cons (.expr (.call "check_net" (.cons (.var 6) .nil))) (.cons (.retV 6) .nil))))))
abbrev s__law_tape : Stmt := topS 17
abbrev N__law_tape : List Str := "script" :: "cells" :: "seed" :: "cell" :: []
abbrev p__law_tape : List Str := ["script"]
def b__law_tape_1 : ISs := .cons (.set 2 (.op2 .mod (.bi .int (.cons (.op2 .add (.op2 .mul (.var 2) (.int 31)) (.var 3)) .nil)) (.int 2147483647))) (.fgt 3 .nil)
def b__law_tape : ISs := .cons (.setLc 1 [("cell", 3)] (.el (.bi .abs (.cons (.bi .int (.cons (.var 3) .nil)) .nil))) (.nm 3) (.scr 0)) (.cons (.set 2 (.int 7)) (.cons (.forV (.nm 3) 1 b__law_tape_1) (.cons (.retTape 1 2) .nil)))
abbrev s__law_take : Stmt := topS 18
abbrev N__law_take : List Str := "tape" :: "many" :: "drawn" :: "mixed" :: []
abbrev p__law_take : List Str := ["tape", "many"]
def b__law_take : ISs := .cons (.ife (.and (.cons (.val (.cmp .eq (.tget 0 .left) (.int 0))) (.cons (.val (.cmp .lt (.tget 0 .at) (.tlen 0))) .nil))) (.cons (.tput 0 .left (.tcell 0)) (.cons (.tput 0 .at (.op2 .add (.tget 0 .at) (.int 1))) .nil)) .nil) (.cons (.ife (.val (.cmp .gt (.tget 0 .left) (.int 0))) (.cons (.set 2 (.op2 .mod (.bi .int (.cons (.tget 0 .left) .nil)) (.var 1))) (.cons (.tput 0 .left (.op2 .fdiv (.tget 0 .left) (.var 1))) (.cons (.retV 2) (.fgt 2 .nil)))) .nil) (.cons (.tput 0 .salt (.op2 .add (.tget 0 .salt) (.int 1))) (.cons (.set 3 (.op2 .mod (.bi .int (.cons (.op2 .add (.op2 .mul (.tget 0 .seed) (.int 48271)) (.op2 .mul (.tget 0 .salt) (.int 69621))) .nil)) (.int 2147483647))) (.cons (.set 3 (.op2 .mod (.bi .int (.cons (.op2 .add (.op2 .add (.op2 .mul (.var 3) (.var 3)) (.op2 .mul (.tget 0 .salt) (.int 40692))) (.int 12345)) .nil)) (.int 2147483399))) (.cons (.ret (.op2 .mod (.bi .int (.cons (.var 3) .nil)) (.var 1))) .nil)))))
abbrev s__law_pairs : Stmt := topS 19
abbrev N__law_pairs : List Str := "tape" :: "many" :: "left" :: "names" :: "k" :: "found" :: "j" :: "i" :: []
abbrev p__law_pairs : List Str := ["tape", "many"]
def b__law_pairs_1 : ISs := .cons (.apop 3 2 (.callT "_law_take" 0 (.cons (.bi .len (.cons (.var 2) .nil)) .nil))) (.fgt 4 .nil)
def b__law_pairs_2 : ISs := .cons (.set 5 (.op2 .add (.var 5) (.lc [("i", 7)] (.ift (.val (.cmp .eq (.callT "_law_take" 0 (.cons (.int 2) .nil)) (.int 0))) (.tup (.cons (.ix (.var 3) (.var 7)) (.cons (.ix (.var 3) (.var 6)) .nil)))) (.nm 7) (.rng1 (.var 6))))) (.fgt 6 .nil)
def b__law_pairs : ISs := .cons (.unp (.tup (.cons (.nm 2) (.cons (.nm 3) .nil))) (.tup (.cons (.lrng (.var 1)) (.cons (.lst .nil) .nil)))) (.cons (.for_ (.nm 4) (.rng1 (.var 1)) b__law_pairs_1) (.cons (.set 5 (.lst .nil)) (.cons (.for_ (.nm 6) (.rng1 (.var 1)) b__law_pairs_2) (.cons (.ret (.bi .tuple (.cons (.bi .sorted (.cons (.var 5) .nil)) .nil))) .nil))))
abbrev s__law_starts : Stmt := topS 20
abbrev N__law_starts : List Str := "durations" :: "pairs" :: "found" :: "turn" :: "a" :: "b" :: []
abbrev p__law_starts : List Str := ["durations", "pairs"]
def b__law_starts_1 : ISs := .cons (.put 2 (.var 5) (.bi .max2 (.cons (.ix (.var 2) (.var 5)) (.cons (.op2 .add (.ix (.var 2) (.var 4)) (.ix (.var 0) (.var 4))) .nil)))) (.fgt 4 (.fgt 5 .nil))
def b__law_starts_2 : ISs := .cons (.for_ (.tup (.cons (.nm 4) (.cons (.nm 5) .nil))) (.seq (.var 1)) b__law_starts_1) (.fgt 3 (.fgt 4 (.fgt 5 .nil)))
def b__law_starts : ISs := .cons (.set 2 (.op2 .mul (.lst (.cons (.int 0) .nil)) (.bi .len (.cons (.var 0) .nil)))) (.cons (.for_ (.nm 3) (.rng1 (.bi .len (.cons (.var 0) .nil))) b__law_starts_2) (.cons (.retV 2) .nil))
abbrev s__law_end : Stmt := topS 21
abbrev N__law_end : List Str := "durations" :: "pairs" :: "starts" :: "k" :: []
abbrev p__law_end : List Str := ["durations", "pairs"]
def b__law_end : ISs := .cons (.set 2 (.call "_law_starts" (.cons (.var 0) (.cons (.var 1) .nil)))) (.cons (.ret (.bi .max1 (.cons (.lc [("k", 3)] (.el (.op2 .add (.ix (.var 2) (.var 3)) (.ix (.var 0) (.var 3)))) (.nm 3) (.rng1 (.bi .len (.cons (.var 0) .nil)))) .nil))) .nil)
abbrev s__law_net_right : Stmt := topS 22
abbrev N__law_net_right : List Str := "durations" :: "pairs" :: "net" :: "starts" :: "due" :: "k" :: []
abbrev p__law_net_right : List Str := ["durations", "pairs"]
def b__law_net_right_1 : ISs := .cons (.set 4 (.op2 .add (.var 4) (.lst (.cons (.ix (.var 3) (.var 5)) (.cons (.op2 .add (.ix (.var 3) (.var 5)) (.ix (.var 0) (.var 5))) .nil))))) (.fgt 5 .nil)
def b__law_net_right : ISs := .cons (.set 2 (.call "net_of" (.cons (.var 0) (.cons (.var 1) .nil)))) (.cons (.set 3 (.call "_law_starts" (.cons (.var 0) (.cons (.var 1) .nil)))) (.cons (.set 4 (.lst .nil)) (.cons (.for_ (.nm 5) (.rng1 (.bi .len (.cons (.var 0) .nil))) b__law_net_right_1) (.cons (.ret (.and (.cons (.cmp .is (.call "fits" (.cons (.var 2) .nil)) (.bl true)) (.cons (.cmp .eq (.call "earliest" (.cons (.var 2) .nil)) (.bi .tuple (.cons (.var 4) .nil))) (.cons (.cmp .is (.call "keeps" (.cons (.var 2) (.cons (.bi .tuple (.cons (.var 4) .nil)) .nil))) (.bl true)) (.cons (.cmp .eq (.ix (.var 2) (.int 0)) (.op2 .mul (.int 2) (.bi .len (.cons (.var 0) .nil)))) .nil)))))) .nil))))
abbrev s_law : Stmt := topS 23
abbrev N_law : List Str := "script" :: "tape" :: "many" :: "durations" :: "pairs" :: "end" :: "net" :: "turned" :: "factor" :: "great" :: "told" :: "more" :: "starts" :: "round_free" :: "late" :: "longer" :: "i" :: "j" :: "least" :: "most" :: "last" :: "others" :: "bounds" :: "told_net" :: "ahead" :: "due" :: "one" :: "other" :: "first" :: "second" :: "behind" :: "up" :: "cross" :: "a" :: "row" :: "k" :: "b" :: "time" :: "start" :: []
abbrev p_law : List Str := ["script"]
def b_law_1 : ISs := .cons (.unp (.tup (.cons (.nm 18) (.cons (.nm 19) .nil))) (.call "range_of" (.cons (.var 6) (.cons (.op2 .mul (.int 2) (.var 17)) (.cons (.op2 .mul (.int 2) (.var 16)) .nil))))) (.cons (.ife (.and (.cons (.val (.cmp .isin (.tup (.cons (.var 16) (.cons (.var 17) .nil))) (.var 4))) (.cons (.or (.cons (.val (.cmp .is (.var 18) .non)) (.cons (.val (.cmp .lt (.var 18) (.ix (.var 3) (.var 16)))) .nil))) .nil))) (.cons (.ret (.bl false)) .nil) .nil) (.fgt 17 (.fgt 18 (.fgt 19 .nil))))
def b_law_2 : ISs := .cons (.ife (.val (.cmp .ne (.call "range_of" (.cons (.var 6) (.cons (.op2 .add (.op2 .mul (.int 2) (.var 16)) (.int 1)) (.cons (.op2 .mul (.int 2) (.var 16)) .nil)))) (.tup (.cons (.ix (.var 3) (.var 16)) (.cons (.ix (.var 3) (.var 16)) .nil))))) (.cons (.ret (.bl false)) .nil) .nil) (.cons (.for_ (.nm 17) (.rng1 (.var 2)) b_law_1) (.fgt 16 (.fgt 17 (.fgt 18 (.fgt 19 .nil)))))
def b_law_3 : ISs := .cons (.setLc 21 [("k", 35)] (.el (.op2 .mul (.int 2) (.var 35))) (.nm 35) (.rng1 (.var 2))) (.cons (.set 22 (.op2 .add (.ix (.var 6) (.int 1)) (.bi .tuple (.cons (.lc [("start", 38)] (.el (.tup (.cons (.var 38) (.cons (.op2 .add (.op2 .mul (.int 2) (.var 20)) (.int 1)) (.cons (.var 14) .nil))))) (.nm 38) (.seq (.var 21))) .nil)))) (.cons (.set 23 (.tup (.cons (.ix (.var 6) (.int 0)) (.cons (.var 22) .nil)))) (.cons (.set 24 (.lc [("k", 35)] (.ift (.val (.cmp .isn (.ix (.call "range_of" (.cons (.var 6) (.cons (.op2 .add (.op2 .mul (.int 2) (.var 20)) (.int 1)) (.cons (.op2 .mul (.int 2) (.var 35)) .nil)))) (.int 0)) .non)) (.var 35)) (.nm 35) (.rng1 (.var 2)))) (.cons (.set 25 (.bi .all (.cons (.lc [("k", 35)] (.el (.cmp .le (.ix (.call "range_of" (.cons (.var 6) (.cons (.op2 .add (.op2 .mul (.int 2) (.var 20)) (.int 1)) (.cons (.op2 .mul (.int 2) (.var 35)) .nil)))) (.int 0)) (.var 14))) (.nm 35) (.seq (.var 24))) .nil))) (.cons (.ife (.val (.cmp .ne (.call "fits" (.cons (.var 23) .nil)) (.var 25))) (.cons (.ret (.bl false)) .nil) .nil) (.cons (.ife (.and (.cons (.not (.val (.var 25))) (.cons (.val (.cmp .lt (.bi .len (.cons (.var 22) .nil)) (.int 15))) (.cons (.val (.cmp .isn (.call "takes_circle" (.cons (.var 23) (.cons (.call "bad_circle" (.cons (.var 23) .nil)) .nil))) (.bl true))) .nil)))) (.cons (.ret (.bl false)) .nil) .nil) (.fgt 20 (.fgt 21 (.fgt 22 (.fgt 23 (.fgt 25 .nil)))))))))))
def b_law_4 : ISs := .cons (.set 32 (.op2 .add (.var 32) (.lc [("b", 36)] (.el (.tup (.cons (.var 33) (.cons (.var 36) .nil)))) (.nm 36) (.rng2 (.var 26) (.op2 .add (.var 26) (.var 27)))))) (.fgt 33 .nil)
def b_law : ISs := .cons (.set 1 (.callS "_law_tape" 0)) (.cons (.set 2 (.op2 .add (.int 1) (.callT "_law_take" 1 (.cons (.int 4) .nil)))) (.cons (.unp (.tup (.cons (.nm 3) (.cons (.nm 4) .nil))) (.tup (.cons (.bi .tuple (.cons (.lc [("k", 35)] (.el (.callT "_law_take" 1 (.cons (.int 9) .nil))) (.nm 35) (.rng1 (.var 2))) .nil)) (.cons (.callT "_law_pairs" 1 (.cons (.var 2) .nil)) .nil)))) (.cons (.ife (.not (.val (.call "_law_net_right" (.cons (.var 3) (.cons (.var 4) .nil))))) (.cons (.ret (.bl false)) .nil) .nil) (.cons (.unp (.tup (.cons (.nm 5) (.cons (.nm 6) .nil))) (.tup (.cons (.call "_law_end" (.cons (.var 3) (.cons (.var 4) .nil))) (.cons (.call "net_of" (.cons (.var 3) (.cons (.var 4) .nil))) .nil)))) (.cons (.set 7 (.bi .tuple (.cons (.lc [("a", 33), ("b", 36)] (.el (.tup (.cons (.var 36) (.cons (.var 33) .nil)))) (.tup (.cons (.nm 33) (.cons (.nm 36) .nil))) (.seq (.var 4))) .nil))) (.cons (.ife (.or (.cons (.not (.val (.call "_law_net_right" (.cons (.var 3) (.cons (.var 7) .nil))))) (.cons (.val (.cmp .ne (.call "_law_end" (.cons (.var 3) (.cons (.var 7) .nil))) (.var 5))) .nil))) (.cons (.ret (.bl false)) .nil) .nil) (.cons (.set 8 (.op2 .add (.int 1) (.callT "_law_take" 1 (.cons (.int 9) .nil)))) (.cons (.set 9 (.bi .tuple (.cons (.lc [("time", 37)] (.el (.op2 .mul (.var 8) (.var 37))) (.nm 37) (.seq (.var 3))) .nil))) (.cons (.ife (.val (.cmp .ne (.call "earliest" (.cons (.call "net_of" (.cons (.var 9) (.cons (.var 4) .nil))) .nil)) (.bi .tuple (.cons (.lc [("time", 37)] (.el (.op2 .mul (.var 8) (.var 37))) (.nm 37) (.seq (.call "earliest" (.cons (.var 6) .nil)))) .nil)))) (.cons (.ret (.bl false)) .nil) .nil) (.cons (.set 10 (.call "earliest" (.cons (.var 6) .nil))) (.cons (.set 11 (.bi .tuple (.cons (.sset (.op2 .add (.bi .list (.cons (.var 4) .nil)) (.lc [("a", 33), ("b", 36)] (.ift (.val (.cmp .notin (.tup (.cons (.var 36) (.cons (.var 33) .nil))) (.var 4))) (.tup (.cons (.var 33) (.cons (.var 36) .nil)))) (.tup (.cons (.nm 33) (.cons (.nm 36) .nil))) (.seq (.callT "_law_pairs" 1 (.cons (.var 2) .nil)))))) .nil))) (.cons (.set 12 (.call "_law_starts" (.cons (.var 3) (.cons (.var 11) .nil)))) (.cons (.set 13 (.bi .all (.cons (.lc [("a", 33), ("b", 36)] (.el (.cmp .ge (.ix (.var 12) (.var 36)) (.op2 .add (.ix (.var 12) (.var 33)) (.ix (.var 3) (.var 33))))) (.tup (.cons (.nm 33) (.cons (.nm 36) .nil))) (.seq (.var 11))) .nil))) (.cons (.ife (.and (.cons (.val (.var 13)) (.cons (.val (.call "fits" (.cons (.call "net_of" (.cons (.var 3) (.cons (.var 11) .nil))) .nil))) .nil))) (.cons (.set 14 (.call "earliest" (.cons (.call "net_of" (.cons (.var 3) (.cons (.var 11) .nil))) .nil))) (.cons (.ife (.val (.bi .any (.cons (.lc [("k", 35)] (.el (.cmp .lt (.ix (.var 14) (.var 35)) (.ix (.var 10) (.var 35)))) (.nm 35) (.rng1 (.op2 .mul (.int 2) (.var 2)))) .nil))) (.cons (.ret (.bl false)) .nil) .nil) .nil)) .nil) (.cons (.set 15 (.bi .tuple (.cons (.lc [("time", 37)] (.el (.op2 .add (.var 37) (.callT "_law_take" 1 (.cons (.int 4) .nil)))) (.nm 37) (.seq (.var 3))) .nil))) (.cons (.ife (.val (.bi .any (.cons (.lc [("k", 35)] (.el (.cmp .lt (.ix (.call "earliest" (.cons (.call "net_of" (.cons (.var 15) (.cons (.var 4) .nil))) .nil)) (.var 35)) (.ix (.var 10) (.var 35)))) (.nm 35) (.rng1 (.op2 .mul (.int 2) (.var 2)))) .nil))) (.cons (.ret (.bl false)) .nil) .nil) (.cons (.for_ (.nm 16) (.rng1 (.var 2)) b_law_2) (.cons (.set 14 (.callT "_law_take" 1 (.cons (.int 30) .nil))) (.cons (.for_ (.nm 20) (.rng1 (.var 2)) b_law_3) (.cons (.set 26 (.op2 .add (.int 1) (.callT "_law_take" 1 (.cons (.int 2) .nil)))) (.cons (.set 27 (.op2 .add (.int 1) (.callT "_law_take" 1 (.cons (.int 2) .nil)))) (.cons (.unp (.tup (.cons (.nm 28) (.cons (.nm 29) .nil))) (.tup (.cons (.bi .tuple (.cons (.lc [("k", 35)] (.el (.callT "_law_take" 1 (.cons (.int 9) .nil))) (.nm 35) (.rng1 (.var 26))) .nil)) (.cons (.bi .tuple (.cons (.lc [("k", 35)] (.el (.callT "_law_take" 1 (.cons (.int 9) .nil))) (.nm 35) (.rng1 (.var 27))) .nil)) .nil)))) (.cons (.unp (.tup (.cons (.nm 24) (.cons (.nm 30) .nil))) (.tup (.cons (.callT "_law_pairs" 1 (.cons (.var 26) .nil)) (.cons (.callT "_law_pairs" 1 (.cons (.var 27) .nil)) .nil)))) (.cons (.set 31 (.bi .tuple (.cons (.lc [("a", 33), ("b", 36)] (.el (.tup (.cons (.op2 .add (.var 33) (.var 26)) (.cons (.op2 .add (.var 36) (.var 26)) .nil)))) (.tup (.cons (.nm 33) (.cons (.nm 36) .nil))) (.seq (.var 30))) .nil))) (.cons (.set 32 (.lst .nil)) (.cons (.for_ (.nm 33) (.rng1 (.var 26)) b_law_4) (.cons (.ife (.val (.cmp .ne (.call "_law_end" (.cons (.op2 .add (.var 28) (.var 29)) (.cons (.op2 .add (.var 24) (.var 31)) .nil))) (.bi .max2 (.cons (.call "_law_end" (.cons (.var 28) (.cons (.var 24) .nil))) (.cons (.call "_law_end" (.cons (.var 29) (.cons (.var 30) .nil))) .nil))))) (.cons (.ret (.bl false)) .nil) .nil) (.cons (.set 34 (.call "earliest" (.cons (.call "net_of" (.cons (.op2 .add (.var 28) (.var 29)) (.cons (.op2 .add (.op2 .add (.var 24) (.var 31)) (.bi .tuple (.cons (.var 32) .nil))) .nil))) .nil))) (.cons (.ife (.val (.cmp .ne (.bi .max1 (.cons (.var 34) .nil)) (.op2 .add (.call "_law_end" (.cons (.var 28) (.cons (.var 24) .nil))) (.call "_law_end" (.cons (.var 29) (.cons (.var 30) .nil)))))) (.cons (.ret (.bl false)) .nil) .nil) (.cons (.ret (.and (.cons (.cmp .eq (.sl (.var 34) .no (.so (.op2 .mul (.int 2) (.var 26)))) (.call "earliest" (.cons (.call "net_of" (.cons (.var 28) (.cons (.var 24) .nil))) .nil))) (.cons (.cmp .eq (.sl (.var 34) (.so (.op2 .mul (.int 2) (.var 26))) .no) (.bi .tuple (.cons (.lc [("time", 37)] (.el (.op2 .add (.var 37) (.call "_law_end" (.cons (.var 28) (.cons (.var 24) .nil))))) (.nm 37) (.seq (.call "earliest" (.cons (.call "net_of" (.cons (.var 29) (.cons (.var 30) .nil))) .nil)))) .nil))) .nil)))) .nil))))))))))))))))))))))))))))))
theorem sc_check_net : FnScope N_check_net p_check_net (defScope s_check_net) := ⟨rfl, rfl, rfl, by decide +kernel, rfl, by decide +kernel, by decide +kernel⟩
theorem ck_check_net : ckSs b_check_net ⟨N_check_net, defScope s_check_net, fun _ => true⟩ (defBody s_check_net) = true := by decide +kernel
theorem sc_closed_net : FnScope N_closed_net p_closed_net (defScope s_closed_net) := ⟨rfl, rfl, rfl, by decide +kernel, rfl, by decide +kernel, by decide +kernel⟩
theorem ck_closed_net : ckSs b_closed_net ⟨N_closed_net, defScope s_closed_net, fun _ => true⟩ (defBody s_closed_net) = true := by decide +kernel
theorem sc_closed_of : FnScope N_closed_of p_closed_of (defScope s_closed_of) := ⟨rfl, rfl, rfl, by decide +kernel, rfl, by decide +kernel, by decide +kernel⟩
theorem ck_closed_of : ckSs b_closed_of ⟨N_closed_of, defScope s_closed_of, fun _ => true⟩ (defBody s_closed_of) = true := by decide +kernel
theorem sc_fits : FnScope N_fits p_fits (defScope s_fits) := ⟨rfl, rfl, rfl, by decide +kernel, rfl, by decide +kernel, by decide +kernel⟩
theorem ck_fits : ckSs b_fits ⟨N_fits, defScope s_fits, fun _ => true⟩ (defBody s_fits) = true := by decide +kernel
theorem sc_keeps : FnScope N_keeps p_keeps (defScope s_keeps) := ⟨rfl, rfl, rfl, by decide +kernel, rfl, by decide +kernel, by decide +kernel⟩
theorem ck_keeps : ckSs b_keeps ⟨N_keeps, defScope s_keeps, fun _ => true⟩ (defBody s_keeps) = true := by decide +kernel
theorem sc_bad_circle : FnScope N_bad_circle p_bad_circle (defScope s_bad_circle) := ⟨rfl, rfl, rfl, by decide +kernel, rfl, by decide +kernel, by decide +kernel⟩
theorem ck_bad_circle : ckSs b_bad_circle ⟨N_bad_circle, defScope s_bad_circle, fun _ => true⟩ (defBody s_bad_circle) = true := by decide +kernel
theorem sc_takes_circle : FnScope N_takes_circle p_takes_circle (defScope s_takes_circle) := ⟨rfl, rfl, rfl, by decide +kernel, rfl, by decide +kernel, by decide +kernel⟩
theorem ck_takes_circle : ckSs b_takes_circle ⟨N_takes_circle, defScope s_takes_circle, fun _ => true⟩ (defBody s_takes_circle) = true := by decide +kernel
theorem sc_earliest : FnScope N_earliest p_earliest (defScope s_earliest) := ⟨rfl, rfl, rfl, by decide +kernel, rfl, by decide +kernel, by decide +kernel⟩
theorem ck_earliest : ckSs b_earliest ⟨N_earliest, defScope s_earliest, fun _ => true⟩ (defBody s_earliest) = true := by decide +kernel
theorem sc_earliest_of : FnScope N_earliest_of p_earliest_of (defScope s_earliest_of) := ⟨rfl, rfl, rfl, by decide +kernel, rfl, by decide +kernel, by decide +kernel⟩
theorem ck_earliest_of : ckSs b_earliest_of ⟨N_earliest_of, defScope s_earliest_of, fun _ => true⟩ (defBody s_earliest_of) = true := by decide +kernel
theorem sc_range_of : FnScope N_range_of p_range_of (defScope s_range_of) := ⟨rfl, rfl, rfl, by decide +kernel, rfl, by decide +kernel, by decide +kernel⟩
theorem ck_range_of : ckSs b_range_of ⟨N_range_of, defScope s_range_of, fun _ => true⟩ (defBody s_range_of) = true := by decide +kernel
theorem sc_net_of : FnScope N_net_of p_net_of (defScope s_net_of) := ⟨rfl, rfl, rfl, by decide +kernel, rfl, by decide +kernel, by decide +kernel⟩
theorem ck_net_of : ckSs b_net_of ⟨N_net_of, defScope s_net_of, fun _ => true⟩ (defBody s_net_of) = true := by decide +kernel
theorem sc__law_tape : FnScope N__law_tape p__law_tape (defScope s__law_tape) := ⟨rfl, rfl, rfl, by decide +kernel, rfl, by decide +kernel, by decide +kernel⟩
theorem ck__law_tape : ckSs b__law_tape ⟨N__law_tape, defScope s__law_tape, fun _ => true⟩ (defBody s__law_tape) = true := by decide +kernel
theorem sc__law_take : FnScope N__law_take p__law_take (defScope s__law_take) := ⟨rfl, rfl, rfl, by decide +kernel, rfl, by decide +kernel, by decide +kernel⟩
theorem ck__law_take : ckSs b__law_take ⟨N__law_take, defScope s__law_take, fun _ => true⟩ (defBody s__law_take) = true := by decide +kernel
theorem sc__law_pairs : FnScope N__law_pairs p__law_pairs (defScope s__law_pairs) := ⟨rfl, rfl, rfl, by decide +kernel, rfl, by decide +kernel, by decide +kernel⟩
theorem ck__law_pairs : ckSs b__law_pairs ⟨N__law_pairs, defScope s__law_pairs, fun _ => true⟩ (defBody s__law_pairs) = true := by decide +kernel
theorem sc__law_starts : FnScope N__law_starts p__law_starts (defScope s__law_starts) := ⟨rfl, rfl, rfl, by decide +kernel, rfl, by decide +kernel, by decide +kernel⟩
theorem ck__law_starts : ckSs b__law_starts ⟨N__law_starts, defScope s__law_starts, fun _ => true⟩ (defBody s__law_starts) = true := by decide +kernel
theorem sc__law_end : FnScope N__law_end p__law_end (defScope s__law_end) := ⟨rfl, rfl, rfl, by decide +kernel, rfl, by decide +kernel, by decide +kernel⟩
theorem ck__law_end : ckSs b__law_end ⟨N__law_end, defScope s__law_end, fun _ => true⟩ (defBody s__law_end) = true := by decide +kernel
theorem sc__law_net_right : FnScope N__law_net_right p__law_net_right (defScope s__law_net_right) := ⟨rfl, rfl, rfl, by decide +kernel, rfl, by decide +kernel, by decide +kernel⟩
theorem ck__law_net_right : ckSs b__law_net_right ⟨N__law_net_right, defScope s__law_net_right, fun _ => true⟩ (defBody s__law_net_right) = true := by decide +kernel
theorem sc_law : FnScope N_law p_law (defScope s_law) := ⟨rfl, rfl, rfl, by decide +kernel, rfl, by decide +kernel, by decide +kernel⟩
theorem ck_law : ckSs b_law ⟨N_law, defScope s_law, fun _ => true⟩ (defBody s_law) = true := by decide +kernel
end K55
namespace K55
open PySem PySem.Spec L2 RZ DL DI
theorem fsH (C : FT) (x : Str) (r : List D → Option D) : (FT.addF C x r).fs x = some r := if_pos rfl
theorem fsN (C : FT) {x y : Str} (r : List D → Option D) (h : y ≠ x) : (FT.addF C x r).fs y = C.fs y := if_neg h
theorem ftH (C : FT) (x : Str) (r : D → List D → Option (D × D)) : (FT.addT C x r).ft x = some r := if_pos rfl
theorem ftN (C : FT) {x y : Str} (r : D → List D → Option (D × D)) (h : y ≠ x) : (FT.addT C x r).ft y = C.ft y := if_neg h
theorem fcH (C : FT) (x : Str) (r : List Int → Option D) : (FT.addC C x r).fc x = some r := if_pos rfl
theorem fcN (C : FT) {x y : Str} (r : List Int → Option D) (h : y ≠ x) : (FT.addC C x r).fc y = C.fc y := if_neg h
/-! ### what each def computes -/
noncomputable abbrev C_0 : FT := (FT.none.addG "MOST_POINTS" 8)
noncomputable def r_check_net : List D → Option D := runF C_0 N_check_net.length p_check_net.length b_check_net
noncomputable def C_1 : FT := C_0.addF "check_net" r_check_net
noncomputable def r_closed_of : List D → Option D := runF C_1 N_closed_of.length p_closed_of.length b_closed_of
noncomputable def C_2 : FT := C_1.addF "closed_of" r_closed_of
noncomputable def r_closed_net : List D → Option D := runF C_2 N_closed_net.length p_closed_net.length b_closed_net
noncomputable def C_3 : FT := C_2.addF "closed_net" r_closed_net
noncomputable def r_fits : List D → Option D := runF C_3 N_fits.length p_fits.length b_fits
noncomputable def C_4 : FT := C_3.addF "fits" r_fits
noncomputable def r_bad_circle : List D → Option D := runF C_4 N_bad_circle.length p_bad_circle.length b_bad_circle
noncomputable def C_5 : FT := C_4.addF "bad_circle" r_bad_circle
noncomputable def r_takes_circle : List D → Option D := runF C_5 N_takes_circle.length p_takes_circle.length b_takes_circle
noncomputable def C_6 : FT := C_5.addF "takes_circle" r_takes_circle
noncomputable def r_earliest_of : List D → Option D := runF C_6 N_earliest_of.length p_earliest_of.length b_earliest_of
noncomputable def C_7 : FT := C_6.addF "earliest_of" r_earliest_of
noncomputable def r_earliest : List D → Option D := runF C_7 N_earliest.length p_earliest.length b_earliest
noncomputable def C_8 : FT := C_7.addF "earliest" r_earliest
noncomputable def r_range_of : List D → Option D := runF C_8 N_range_of.length p_range_of.length b_range_of
noncomputable def C_9 : FT := C_8.addF "range_of" r_range_of
noncomputable def r_net_of : List D → Option D := runF C_9 N_net_of.length p_net_of.length b_net_of
noncomputable def C_10 : FT := C_9.addF "net_of" r_net_of
noncomputable def r__law_tape : List Int → Option D := runS C_10 N__law_tape.length b__law_tape
noncomputable def C_11 : FT := C_10.addC "_law_tape" r__law_tape
noncomputable def r__law_take : D → List D → Option (D × D) := runT C_11 N__law_take.length p__law_take.length b__law_take
noncomputable def C_12 : FT := C_11.addT "_law_take" r__law_take
noncomputable def r__law_pairs : D → List D → Option (D × D) := runT C_12 N__law_pairs.length p__law_pairs.length b__law_pairs
noncomputable def C_13 : FT := C_12.addT "_law_pairs" r__law_pairs
noncomputable def r__law_starts : List D → Option D := runF C_13 N__law_starts.length p__law_starts.length b__law_starts
noncomputable def C_14 : FT := C_13.addF "_law_starts" r__law_starts
noncomputable def r__law_end : List D → Option D := runF C_14 N__law_end.length p__law_end.length b__law_end
noncomputable def C_15 : FT := C_14.addF "_law_end" r__law_end
noncomputable def r_keeps : List D → Option D := runF C_15 N_keeps.length p_keeps.length b_keeps
noncomputable def C_16 : FT := C_15.addF "keeps" r_keeps
noncomputable def r__law_net_right : List D → Option D := runF C_16 N__law_net_right.length p__law_net_right.length b__law_net_right
noncomputable def C_17 : FT := C_16.addF "_law_net_right" r__law_net_right
noncomputable abbrev C_law : FT := C_17
@[simp] theorem c2_check_net : C_2.fs "check_net" = some r_check_net := (fsN C_1 r_closed_of (by decide)).trans <| fsH C_0 "check_net" r_check_net
@[simp] theorem c2_closed_of : C_2.fs "closed_of" = some r_closed_of := fsH C_1 "closed_of" r_closed_of
@[simp] theorem c3_closed_net : C_3.fs "closed_net" = some r_closed_net := fsH C_2 "closed_net" r_closed_net
@[simp] theorem c4_check_net : C_4.fs "check_net" = some r_check_net := (fsN C_3 r_fits (by decide)).trans <| (fsN C_2 r_closed_net (by decide)).trans <| (fsN C_1 r_closed_of (by decide)).trans <| fsH C_0 "check_net" r_check_net
@[simp] theorem c4_fits : C_4.fs "fits" = some r_fits := fsH C_3 "fits" r_fits
@[simp] theorem c5_check_net : C_5.fs "check_net" = some r_check_net := (fsN C_4 r_bad_circle (by decide)).trans <| (fsN C_3 r_fits (by decide)).trans <| (fsN C_2 r_closed_net (by decide)).trans <| (fsN C_1 r_closed_of (by decide)).trans <| fsH C_0 "check_net" r_check_net
@[simp] theorem c6_closed_of : C_6.fs "closed_of" = some r_closed_of := (fsN C_5 r_takes_circle (by decide)).trans <| (fsN C_4 r_bad_circle (by decide)).trans <| (fsN C_3 r_fits (by decide)).trans <| (fsN C_2 r_closed_net (by decide)).trans <| fsH C_1 "closed_of" r_closed_of
@[simp] theorem c7_check_net : C_7.fs "check_net" = some r_check_net := (fsN C_6 r_earliest_of (by decide)).trans <| (fsN C_5 r_takes_circle (by decide)).trans <| (fsN C_4 r_bad_circle (by decide)).trans <| (fsN C_3 r_fits (by decide)).trans <| (fsN C_2 r_closed_net (by decide)).trans <| (fsN C_1 r_closed_of (by decide)).trans <| fsH C_0 "check_net" r_check_net
@[simp] theorem c7_earliest_of : C_7.fs "earliest_of" = some r_earliest_of := fsH C_6 "earliest_of" r_earliest_of
@[simp] theorem c8_closed_net : C_8.fs "closed_net" = some r_closed_net := (fsN C_7 r_earliest (by decide)).trans <| (fsN C_6 r_earliest_of (by decide)).trans <| (fsN C_5 r_takes_circle (by decide)).trans <| (fsN C_4 r_bad_circle (by decide)).trans <| (fsN C_3 r_fits (by decide)).trans <| fsH C_2 "closed_net" r_closed_net
@[simp] theorem c8_fits : C_8.fs "fits" = some r_fits := (fsN C_7 r_earliest (by decide)).trans <| (fsN C_6 r_earliest_of (by decide)).trans <| (fsN C_5 r_takes_circle (by decide)).trans <| (fsN C_4 r_bad_circle (by decide)).trans <| fsH C_3 "fits" r_fits
@[simp] theorem c9_check_net : C_9.fs "check_net" = some r_check_net := (fsN C_8 r_range_of (by decide)).trans <| (fsN C_7 r_earliest (by decide)).trans <| (fsN C_6 r_earliest_of (by decide)).trans <| (fsN C_5 r_takes_circle (by decide)).trans <| (fsN C_4 r_bad_circle (by decide)).trans <| (fsN C_3 r_fits (by decide)).trans <| (fsN C_2 r_closed_net (by decide)).trans <| (fsN C_1 r_closed_of (by decide)).trans <| fsH C_0 "check_net" r_check_net
@[simp] theorem c12__law_take : C_12.ft "_law_take" = some r__law_take := ftH C_11 "_law_take" r__law_take
@[simp] theorem c14__law_starts : C_14.fs "_law_starts" = some r__law_starts := fsH C_13 "_law_starts" r__law_starts
@[simp] theorem c15_check_net : C_15.fs "check_net" = some r_check_net := (fsN C_14 r__law_end (by decide)).trans <| (fsN C_13 r__law_starts (by decide)).trans <| (show C_13.fs ("check_net" : Str) = C_12.fs ("check_net" : Str) from rfl).trans <| (show C_12.fs ("check_net" : Str) = C_11.fs ("check_net" : Str) from rfl).trans <| (show C_11.fs ("check_net" : Str) = C_10.fs ("check_net" : Str) from rfl).trans <| (fsN C_9 r_net_of (by decide)).trans <| (fsN C_8 r_range_of (by decide)).trans <| (fsN C_7 r_earliest (by decide)).trans <| (fsN C_6 r_earliest_of (by decide)).trans <| (fsN C_5 r_takes_circle (by decide)).trans <| (fsN C_4 r_bad_circle (by decide)).trans <| (fsN C_3 r_fits (by decide)).trans <| (fsN C_2 r_closed_net (by decide)).trans <| (fsN C_1 r_closed_of (by decide)).trans <| fsH C_0 "check_net" r_check_net
@[simp] theorem c16_net_of : C_16.fs "net_of" = some r_net_of := (fsN C_15 r_keeps (by decide)).trans <| (fsN C_14 r__law_end (by decide)).trans <| (fsN C_13 r__law_starts (by decide)).trans <| (show C_13.fs ("net_of" : Str) = C_12.fs ("net_of" : Str) from rfl).trans <| (show C_12.fs ("net_of" : Str) = C_11.fs ("net_of" : Str) from rfl).trans <| (show C_11.fs ("net_of" : Str) = C_10.fs ("net_of" : Str) from rfl).trans <| fsH C_9 "net_of" r_net_of
@[simp] theorem c16_keeps : C_16.fs "keeps" = some r_keeps := fsH C_15 "keeps" r_keeps
@[simp] theorem c16_fits : C_16.fs "fits" = some r_fits := (fsN C_15 r_keeps (by decide)).trans <| (fsN C_14 r__law_end (by decide)).trans <| (fsN C_13 r__law_starts (by decide)).trans <| (show C_13.fs ("fits" : Str) = C_12.fs ("fits" : Str) from rfl).trans <| (show C_12.fs ("fits" : Str) = C_11.fs ("fits" : Str) from rfl).trans <| (show C_11.fs ("fits" : Str) = C_10.fs ("fits" : Str) from rfl).trans <| (fsN C_9 r_net_of (by decide)).trans <| (fsN C_8 r_range_of (by decide)).trans <| (fsN C_7 r_earliest (by decide)).trans <| (fsN C_6 r_earliest_of (by decide)).trans <| (fsN C_5 r_takes_circle (by decide)).trans <| (fsN C_4 r_bad_circle (by decide)).trans <| fsH C_3 "fits" r_fits
@[simp] theorem c16_earliest : C_16.fs "earliest" = some r_earliest := (fsN C_15 r_keeps (by decide)).trans <| (fsN C_14 r__law_end (by decide)).trans <| (fsN C_13 r__law_starts (by decide)).trans <| (show C_13.fs ("earliest" : Str) = C_12.fs ("earliest" : Str) from rfl).trans <| (show C_12.fs ("earliest" : Str) = C_11.fs ("earliest" : Str) from rfl).trans <| (show C_11.fs ("earliest" : Str) = C_10.fs ("earliest" : Str) from rfl).trans <| (fsN C_9 r_net_of (by decide)).trans <| (fsN C_8 r_range_of (by decide)).trans <| fsH C_7 "earliest" r_earliest
@[simp] theorem c16__law_starts : C_16.fs "_law_starts" = some r__law_starts := (fsN C_15 r_keeps (by decide)).trans <| (fsN C_14 r__law_end (by decide)).trans <| fsH C_13 "_law_starts" r__law_starts
@[simp] theorem c17_net_of : C_17.fs "net_of" = some r_net_of := (fsN C_16 r__law_net_right (by decide)).trans <| (fsN C_15 r_keeps (by decide)).trans <| (fsN C_14 r__law_end (by decide)).trans <| (fsN C_13 r__law_starts (by decide)).trans <| (show C_13.fs ("net_of" : Str) = C_12.fs ("net_of" : Str) from rfl).trans <| (show C_12.fs ("net_of" : Str) = C_11.fs ("net_of" : Str) from rfl).trans <| (show C_11.fs ("net_of" : Str) = C_10.fs ("net_of" : Str) from rfl).trans <| fsH C_9 "net_of" r_net_of
@[simp] theorem c17_fits : C_17.fs "fits" = some r_fits := (fsN C_16 r__law_net_right (by decide)).trans <| (fsN C_15 r_keeps (by decide)).trans <| (fsN C_14 r__law_end (by decide)).trans <| (fsN C_13 r__law_starts (by decide)).trans <| (show C_13.fs ("fits" : Str) = C_12.fs ("fits" : Str) from rfl).trans <| (show C_12.fs ("fits" : Str) = C_11.fs ("fits" : Str) from rfl).trans <| (show C_11.fs ("fits" : Str) = C_10.fs ("fits" : Str) from rfl).trans <| (fsN C_9 r_net_of (by decide)).trans <| (fsN C_8 r_range_of (by decide)).trans <| (fsN C_7 r_earliest (by decide)).trans <| (fsN C_6 r_earliest_of (by decide)).trans <| (fsN C_5 r_takes_circle (by decide)).trans <| (fsN C_4 r_bad_circle (by decide)).trans <| fsH C_3 "fits" r_fits
@[simp] theorem c17_bad_circle : C_17.fs "bad_circle" = some r_bad_circle := (fsN C_16 r__law_net_right (by decide)).trans <| (fsN C_15 r_keeps (by decide)).trans <| (fsN C_14 r__law_end (by decide)).trans <| (fsN C_13 r__law_starts (by decide)).trans <| (show C_13.fs ("bad_circle" : Str) = C_12.fs ("bad_circle" : Str) from rfl).trans <| (show C_12.fs ("bad_circle" : Str) = C_11.fs ("bad_circle" : Str) from rfl).trans <| (show C_11.fs ("bad_circle" : Str) = C_10.fs ("bad_circle" : Str) from rfl).trans <| (fsN C_9 r_net_of (by decide)).trans <| (fsN C_8 r_range_of (by decide)).trans <| (fsN C_7 r_earliest (by decide)).trans <| (fsN C_6 r_earliest_of (by decide)).trans <| (fsN C_5 r_takes_circle (by decide)).trans <| fsH C_4 "bad_circle" r_bad_circle
@[simp] theorem c17__law_take : C_17.ft "_law_take" = some r__law_take := (show C_17.ft ("_law_take" : Str) = C_16.ft ("_law_take" : Str) from rfl).trans <| (show C_16.ft ("_law_take" : Str) = C_15.ft ("_law_take" : Str) from rfl).trans <| (show C_15.ft ("_law_take" : Str) = C_14.ft ("_law_take" : Str) from rfl).trans <| (show C_14.ft ("_law_take" : Str) = C_13.ft ("_law_take" : Str) from rfl).trans <| (ftN C_12 r__law_pairs (by decide)).trans <| ftH C_11 "_law_take" r__law_take
@[simp] theorem c17_earliest : C_17.fs "earliest" = some r_earliest := (fsN C_16 r__law_net_right (by decide)).trans <| (fsN C_15 r_keeps (by decide)).trans <| (fsN C_14 r__law_end (by decide)).trans <| (fsN C_13 r__law_starts (by decide)).trans <| (show C_13.fs ("earliest" : Str) = C_12.fs ("earliest" : Str) from rfl).trans <| (show C_12.fs ("earliest" : Str) = C_11.fs ("earliest" : Str) from rfl).trans <| (show C_11.fs ("earliest" : Str) = C_10.fs ("earliest" : Str) from rfl).trans <| (fsN C_9 r_net_of (by decide)).trans <| (fsN C_8 r_range_of (by decide)).trans <| fsH C_7 "earliest" r_earliest
@[simp] theorem c17__law_tape : C_17.fc "_law_tape" = some r__law_tape := (show C_17.fc ("_law_tape" : Str) = C_16.fc ("_law_tape" : Str) from rfl).trans <| (show C_16.fc ("_law_tape" : Str) = C_15.fc ("_law_tape" : Str) from rfl).trans <| (show C_15.fc ("_law_tape" : Str) = C_14.fc ("_law_tape" : Str) from rfl).trans <| (show C_14.fc ("_law_tape" : Str) = C_13.fc ("_law_tape" : Str) from rfl).trans <| (show C_13.fc ("_law_tape" : Str) = C_12.fc ("_law_tape" : Str) from rfl).trans <| (show C_12.fc ("_law_tape" : Str) = C_11.fc ("_law_tape" : Str) from rfl).trans <| fcH C_10 "_law_tape" r__law_tape
@[simp] theorem c17__law_pairs : C_17.ft "_law_pairs" = some r__law_pairs := (show C_17.ft ("_law_pairs" : Str) = C_16.ft ("_law_pairs" : Str) from rfl).trans <| (show C_16.ft ("_law_pairs" : Str) = C_15.ft ("_law_pairs" : Str) from rfl).trans <| (show C_15.ft ("_law_pairs" : Str) = C_14.ft ("_law_pairs" : Str) from rfl).trans <| (show C_14.ft ("_law_pairs" : Str) = C_13.ft ("_law_pairs" : Str) from rfl).trans <| ftH C_12 "_law_pairs" r__law_pairs
@[simp] theorem c17_takes_circle : C_17.fs "takes_circle" = some r_takes_circle := (fsN C_16 r__law_net_right (by decide)).trans <| (fsN C_15 r_keeps (by decide)).trans <| (fsN C_14 r__law_end (by decide)).trans <| (fsN C_13 r__law_starts (by decide)).trans <| (show C_13.fs ("takes_circle" : Str) = C_12.fs ("takes_circle" : Str) from rfl).trans <| (show C_12.fs ("takes_circle" : Str) = C_11.fs ("takes_circle" : Str) from rfl).trans <| (show C_11.fs ("takes_circle" : Str) = C_10.fs ("takes_circle" : Str) from rfl).trans <| (fsN C_9 r_net_of (by decide)).trans <| (fsN C_8 r_range_of (by decide)).trans <| (fsN C_7 r_earliest (by decide)).trans <| (fsN C_6 r_earliest_of (by decide)).trans <| fsH C_5 "takes_circle" r_takes_circle
@[simp] theorem c17__law_starts : C_17.fs "_law_starts" = some r__law_starts := (fsN C_16 r__law_net_right (by decide)).trans <| (fsN C_15 r_keeps (by decide)).trans <| (fsN C_14 r__law_end (by decide)).trans <| fsH C_13 "_law_starts" r__law_starts
@[simp] theorem c17__law_net_right : C_17.fs "_law_net_right" = some r__law_net_right := fsH C_16 "_law_net_right" r__law_net_right
@[simp] theorem c17__law_end : C_17.fs "_law_end" = some r__law_end := (fsN C_16 r__law_net_right (by decide)).trans <| (fsN C_15 r_keeps (by decide)).trans <| fsH C_14 "_law_end" r__law_end
@[simp] theorem c17_range_of : C_17.fs "range_of" = some r_range_of := (fsN C_16 r__law_net_right (by decide)).trans <| (fsN C_15 r_keeps (by decide)).trans <| (fsN C_14 r__law_end (by decide)).trans <| (fsN C_13 r__law_starts (by decide)).trans <| (show C_13.fs ("range_of" : Str) = C_12.fs ("range_of" : Str) from rfl).trans <| (show C_12.fs ("range_of" : Str) = C_11.fs ("range_of" : Str) from rfl).trans <| (show C_11.fs ("range_of" : Str) = C_10.fs ("range_of" : Str) from rfl).trans <| (fsN C_9 r_net_of (by decide)).trans <| fsH C_8 "range_of" r_range_of
end K55
namespace K55
/-! ### nets of bounds: closing -/
abbrev Bd := Nat × Nat × Int
structure Net where
  many : Nat
  bounds : List Bd
def Net.ok (n : Net) : Prop := (1 ≤ n.many ∧ n.many ≤ 8) ∧ (∀ b ∈ n.bounds, b.1 < n.many ∧ b.2.1 < n.many ∧ (-99 ≤ b.2.2 ∧ b.2.2 ≤ 99)) ∧ n.bounds.length ≤ 1000
def Net.sol (n : Net) (t : Nat → Int) : Prop := ∀ b ∈ n.bounds, t b.2.1 - t b.1 ≤ b.2.2
abbrev Mx := Nat → Nat → Option Int
def Mx.put (f : Mx) (i j : Nat) (z : Int) : Mx := fun i' j' => if i' = i ∧ j' = j then some z else f i' j'
/-- a bound taken in -/
def st1 (f : Mx) (b : Bd) : Mx := match f b.1 b.2.1 with
  | none => f.put b.1 b.2.1 b.2.2
  | some z => if b.2.2 < z then f.put b.1 b.2.1 b.2.2 else f
/-- one step of the closing -/
def st2 (k i : Nat) (f : Mx) (j : Nat) : Mx := match f i k, f k j with
  | some x, some y => (match f i j with
    | none => f.put i j (x + y)
    | some z => if x + y < z then f.put i j (x + y) else f)
  | _, _ => f
def init : Mx := fun i j => if i = j then some 0 else none
def rnd (m k : Nat) (f : Mx) : Mx := (List.range m).foldl (fun f i => (List.range m).foldl (st2 k i) f) f
def FwK (n : Net) (K : Nat) : Mx := (List.range K).foldl (fun f k => rnd n.many k f) (n.bounds.foldl st1 init)
def closeF (n : Net) : Mx := FwK n n.many
/-! folds -/
theorem foldl_inv {α β : Type} {f : β → α → β} (P : β → Prop) : ∀ {xs : List α} {s : β}, P s → (∀ s x, x ∈ xs → P s → P (f s x)) → P (xs.foldl f s)
  | [], _, h, _ => h
  | x :: xs, s, h, hs => foldl_inv P (xs := xs) (hs s x List.mem_cons_self h) fun s y hy => hs s y (List.mem_cons_of_mem _ hy)
theorem foldl_hit {α β : Type} {f : β → α → β} (P Q : β → Prop) {x : α} : ∀ {xs : List α} {s : β}, x ∈ xs → P s → (∀ s y, y ∈ xs → P s → P (f s y)) → (∀ s, P s → Q (f s x)) → (∀ s y, y ∈ xs → P s → Q s → Q (f s y)) → Q (xs.foldl f s)
  | [], _, h, _, _, _, _ => nomatch h
  | y :: xs, s, h, h0, hP, hQ, hk => by
    by_cases e : x = y
    · subst e
      exact (foldl_inv (fun s => P s ∧ Q s) (xs := xs) ⟨hP s x List.mem_cons_self h0, hQ s h0⟩ fun s y hy ⟨p, q⟩ => ⟨hP s y (List.mem_cons_of_mem _ hy) p, hk s y (List.mem_cons_of_mem _ hy) p q⟩).2
    · have h' : x ∈ xs := by
        rcases List.mem_cons.mp h with z | z
        · exact absurd z e
        · exact z
      exact foldl_hit P Q (xs := xs) h' (hP s y List.mem_cons_self h0) (fun s y hy => hP s y (List.mem_cons_of_mem _ hy)) hQ fun s y hy => hk s y (List.mem_cons_of_mem _ hy)
/-! what stands in the matrix is some way's length -/
theorem put_at (f : Mx) (i j : Nat) (z : Int) : f.put i j z i j = some z := by simp [Mx.put]
theorem put_of (f : Mx) (i j : Nat) (z : Int) {i' j' : Nat} (h : ¬ (i' = i ∧ j' = j)) : f.put i j z i' j' = f i' j' := by simp only [Mx.put, if_neg h]
def AllR (R : Nat → Nat → Int → Prop) (f : Mx) : Prop := ∀ i j z, f i j = some z → R i j z
theorem AllR.put {R : Nat → Nat → Int → Prop} {f : Mx} (h : AllR R f) {i j : Nat} {z : Int} (hz : R i j z) : AllR R (f.put i j z) := by
  intro i' j' z' e
  by_cases c : i' = i ∧ j' = j
  · obtain ⟨rfl, rfl⟩ := c
    rw [put_at] at e
    cases e; exact hz
  · rw [put_of _ _ _ _ c] at e
    exact h _ _ _ e
theorem AllR.st1 {R : Nat → Nat → Int → Prop} {f : Mx} (h : AllR R f) {b : Bd} (hz : R b.1 b.2.1 b.2.2) : AllR R (st1 f b) := by
  unfold K55.st1
  split
  · exact h.put hz
  · split
    · exact h.put hz
    · exact h
theorem AllR.st2 {R : Nat → Nat → Int → Prop} {f : Mx} (h : AllR R f) (ht : ∀ i k j x y, R i k x → R k j y → R i j (x + y)) (k i j : Nat) : AllR R (st2 k i f j) := by
  unfold K55.st2
  split
  · rename_i x y e1 e2
    have hz := ht _ _ _ _ _ (h _ _ _ e1) (h _ _ _ e2)
    split
    · exact h.put hz
    · split
      · exact h.put hz
      · exact h
  · exact h
theorem closeF_R (n : Net) {R : Nat → Nat → Int → Prop} (h0 : ∀ i, R i i 0) (hb : ∀ b ∈ n.bounds, R b.1 b.2.1 b.2.2) (ht : ∀ i k j x y, R i k x → R k j y → R i j (x + y)) : AllR R (closeF n) := by
  refine foldl_inv (AllR R) (foldl_inv (AllR R) ?_ fun s b hb' h => h.st1 (hb b hb')) fun s k _ h => foldl_inv (AllR R) h fun s i _ h => foldl_inv (AllR R) h fun s j _ h => h.st2 ht k i j
  intro i j z e
  unfold init at e
  split at e
  · rename_i c; subst c; cases e; exact h0 i
  · cases e
theorem sound {n : Net} {t : Nat → Int} (h : n.sol t) {i j : Nat} {z : Int} (e : closeF n i j = some z) : t j - t i ≤ z :=
  closeF_R n (R := fun i j z => t j - t i ≤ z) (fun i => by omega) (fun b hb => h b hb) (fun i k j x y h1 h2 => by omega) i j z e
/-! below -/
def dn (f : Mx) (i j : Nat) (z : Int) : Prop := ∃ y, f i j = some y ∧ y ≤ z
def Mle (f g : Mx) : Prop := ∀ i j z, g i j = some z → dn f i j z
theorem Mle.refl (f : Mx) : Mle f f := fun i j z h => ⟨z, h, Int.le_refl _⟩
theorem Mle.trans {f g h : Mx} (a : Mle f g) (b : Mle g h) : Mle f h := fun i j z e => by
  obtain ⟨y, e1, l1⟩ := b i j z e
  obtain ⟨x, e2, l2⟩ := a i j y e1
  exact ⟨x, e2, by omega⟩
theorem Mle.dn {f g : Mx} (a : Mle f g) {i j : Nat} {z : Int} (h : dn g i j z) : dn f i j z := by
  obtain ⟨y, e1, l1⟩ := h
  obtain ⟨x, e2, l2⟩ := a i j y e1
  exact ⟨x, e2, by omega⟩
theorem dn.mono {f : Mx} {i j : Nat} {z w : Int} (h : dn f i j z) (l : z ≤ w) : dn f i j w := by
  obtain ⟨y, e, l1⟩ := h
  exact ⟨y, e, by omega⟩
theorem put_le {f : Mx} {i j : Nat} {z : Int} (h : ∀ y, f i j = some y → z ≤ y) : Mle (f.put i j z) f := by
  intro i' j' z' e
  by_cases c : i' = i ∧ j' = j
  · obtain ⟨rfl, rfl⟩ := c
    exact ⟨z, put_at _ _ _ _, h _ e⟩
  · exact ⟨z', by rw [put_of _ _ _ _ c]; exact e, Int.le_refl _⟩
theorem st1_le (f : Mx) (b : Bd) : Mle (st1 f b) f := by
  unfold st1
  split
  · rename_i e; exact put_le fun y h => by rw [e] at h; cases h
  · rename_i z e
    split
    · exact put_le fun y h => by rw [e] at h; cases h; omega
    · exact .refl _
theorem st1_dn (f : Mx) (b : Bd) : dn (st1 f b) b.1 b.2.1 b.2.2 := by
  unfold st1
  split
  · exact ⟨_, put_at _ _ _ _, Int.le_refl _⟩
  · rename_i z e
    split
    · exact ⟨_, put_at _ _ _ _, Int.le_refl _⟩
    · exact ⟨z, e, by omega⟩
theorem st2_le (k i : Nat) (f : Mx) (j : Nat) : Mle (st2 k i f j) f := by
  unfold st2
  split
  · split
    · rename_i e; exact put_le fun y h => by rw [e] at h; cases h
    · rename_i z e
      split
      · exact put_le fun y h => by rw [e] at h; cases h; omega
      · exact .refl _
  · exact .refl _
theorem st2_dn {k i : Nat} {f : Mx} {j : Nat} {x y : Int} (hx : f i k = some x) (hy : f k j = some y) : dn (st2 k i f j) i j (x + y) := by
  unfold st2
  rw [hx, hy]
  dsimp only
  split
  · exact ⟨_, put_at _ _ _ _, Int.le_refl _⟩
  · rename_i z e
    split
    · exact ⟨_, put_at _ _ _ _, Int.le_refl _⟩
    · exact ⟨z, e, by omega⟩
theorem rnd_le (m k : Nat) (f : Mx) : Mle (rnd m k f) f :=
  foldl_inv (fun g => Mle g f) (.refl _) fun s i _ h => foldl_inv (fun g => Mle g f) h fun s j _ h => (st2_le k i s j).trans h
theorem FK_succ (n : Net) (K : Nat) : FwK n (K + 1) = rnd n.many K (FwK n K) := by
  unfold FwK
  rw [List.range_succ, List.foldl_append]
  rfl
theorem FK_le (n : Net) (K : Nat) : ∀ L, K ≤ L → Mle (FwK n L) (FwK n K) := by
  intro L h
  induction h with
  | refl => exact .refl _
  | step h ih => rw [FK_succ]; exact (rnd_le _ _ _).trans ih
theorem FK_bound (n : Net) (K : Nat) {b : Bd} (hb : b ∈ n.bounds) : dn (FwK n K) b.1 b.2.1 b.2.2 := by
  refine (FK_le n 0 K (Nat.zero_le _)).dn ?_
  show dn (n.bounds.foldl st1 init) _ _ _
  exact foldl_hit (fun _ => True) (fun g => dn g b.1 b.2.1 b.2.2) hb trivial (fun _ _ _ _ => trivial) (fun s _ => st1_dn s b) fun s y _ _ h => (st1_le s y).dn h
theorem FK_diag (n : Net) (K i : Nat) : dn (FwK n K) i i 0 := by
  refine (FK_le n 0 K (Nat.zero_le _)).dn ?_
  show dn (n.bounds.foldl st1 init) _ _ _
  refine foldl_inv (fun g => dn g i i 0) ⟨0, by simp [init], Int.le_refl _⟩ fun s b _ h => (st1_le s b).dn h
/-- while k is closed over -/
structure Mid (k : Nat) (f g : Mx) : Prop where
  le : Mle g f
  c : ∀ i j, g i j = f i j ∨ ∃ x y, f i k = some x ∧ f k j = some y ∧ g i j = some (x + y)
  col : ∀ i, g i k = f i k
  row : ∀ j, g k j = f k j
theorem st2_case (k i : Nat) (g : Mx) (j i' j' : Nat) : st2 k i g j i' j' = g i' j' ∨ (i' = i ∧ j' = j ∧ ∃ x y, g i k = some x ∧ g k j = some y ∧ st2 k i g j i' j' = some (x + y) ∧ ∀ z, g i j = some z → x + y < z) := by
  unfold st2
  cases e1 : g i k with
  | none => exact .inl rfl
  | some x =>
    cases e2 : g k j with
    | none => exact .inl rfl
    | some y =>
      dsimp only
      by_cases c : i' = i ∧ j' = j
      · obtain ⟨rfl, rfl⟩ := c
        cases e3 : g i' j' with
        | none =>
          exact .inr ⟨rfl, rfl, x, y, rfl, rfl, put_at _ _ _ _, fun z h => by cases h⟩
        | some z =>
          dsimp only
          by_cases c2 : x + y < z
          · rw [if_pos c2]
            exact .inr ⟨rfl, rfl, x, y, rfl, rfl, put_at _ _ _ _, fun z h => by cases h; omega⟩
          · rw [if_neg c2]
            exact .inl e3
      · left
        cases e3 : g i j with
        | none => exact put_of _ _ _ _ c
        | some z =>
          dsimp only
          by_cases c2 : x + y < z
          · rw [if_pos c2]; exact put_of _ _ _ _ c
          · rw [if_neg c2]
theorem Mid.step {k : Nat} {f g : Mx} (h : Mid k f g) (h0 : f k k = some 0) (i j : Nat) : Mid k f (st2 k i g j) := by
  refine ⟨(st2_le k i g j).trans h.le, ?_, ?_, ?_⟩
  · intro i' j'
    rcases st2_case k i g j i' j' with e | ⟨rfl, rfl, x, y, e1, e2, e, _⟩
    · rw [e]; exact h.c i' j'
    · rw [h.col] at e1; rw [h.row] at e2
      exact .inr ⟨x, y, e1, e2, e⟩
  · intro i'
    rcases st2_case k i g j i' k with e | ⟨rfl, rfl, x, y, e1, e2, e, l⟩
    · rw [e]; exact h.col i'
    · rw [h.col, h0] at e2
      cases e2
      have := l _ e1
      omega
  · intro j'
    rcases st2_case k i g j k j' with e | ⟨rfl, rfl, x, y, e1, e2, e, l⟩
    · rw [e]; exact h.row j'
    · rw [h.row, h0] at e1
      cases e1
      have := l _ e2
      omega
theorem rnd_mid {m k : Nat} {f : Mx} (h0 : f k k = some 0) : Mid k f (rnd m k f) :=
  foldl_inv (Mid k f) ⟨.refl _, fun _ _ => .inl rfl, fun _ => rfl, fun _ => rfl⟩ fun s i _ h => foldl_inv (Mid k f) h fun s j _ h => h.step h0 i j
theorem rnd_dn {m k : Nat} {f : Mx} (h0 : f k k = some 0) {i j : Nat} (hi : i < m) (hj : j < m) {x y : Int} (hx : f i k = some x) (hy : f k j = some y) : dn (rnd m k f) i j (x + y) := by
  refine foldl_hit (Mid k f) (fun g => dn g i j (x + y)) (List.mem_range.mpr hi) ⟨.refl _, fun _ _ => .inl rfl, fun _ => rfl, fun _ => rfl⟩ (fun s y _ h => foldl_inv (Mid k f) h fun s j _ h => h.step h0 y j) (fun s h => ?_) fun s y _ _ h => foldl_inv (fun g => dn g i j _) h fun s j' _ h => (st2_le k y s j').dn h
  exact foldl_hit (Mid k f) (fun g => dn g i j (x + y)) (List.mem_range.mpr hj) h (fun s y _ h => h.step h0 i y) (fun s h => st2_dn (by rw [h.col]; exact hx) (by rw [h.row]; exact hy)) fun s y _ _ h => (st2_le k i s y).dn h
/-- the net fits: no way back to where it starts is below 0 -/
def Fits (n : Net) : Prop := ∀ k, k < n.many → ∀ z, closeF n k k = some z → 0 ≤ z
theorem Fits.diag {n : Net} (h : Fits n) {K k : Nat} (hK : K ≤ n.many) (hk : k < n.many) : FwK n K k k = some 0 := by
  obtain ⟨z, e, l⟩ := FK_diag n K k
  obtain ⟨y, e2, l2⟩ := FK_le n K n.many hK k k z e
  have := h k hk y e2
  have : z = 0 := by omega
  rw [e, this]
theorem tri_at {n : Net} (h : Fits n) : ∀ K, K ≤ n.many → ∀ l, l < K → ∀ i j, i < n.many → j < n.many → ∀ x y, FwK n K i l = some x → FwK n K l j = some y → dn (FwK n K) i j (x + y)
  | 0, _, l, hl, _, _, _, _, _, _, _, _ => absurd hl (Nat.not_lt_zero _)
  | K + 1, hK, l, hl, i, j, hi, hj, x, y, hx, hy => by
    have h0 := h.diag (K := K) (k := K) (by omega) (by omega)
    have M := rnd_mid (m := n.many) h0
    have ih := tri_at h K (by omega)
    rw [FK_succ] at *
    have hB : ∀ {i j : Nat} {x y : Int}, i < n.many → j < n.many → FwK n K i K = some x → FwK n K K j = some y → dn (rnd n.many K (FwK n K)) i j (x + y) := fun hi hj hx hy => rnd_dn h0 hi hj hx hy
    have hKm : K < n.many := by omega
    have hlm : l < n.many := by omega
    by_cases c : l = K
    · subst c
      rw [M.col] at hx; rw [M.row] at hy
      exact hB hi hj hx hy
    · have hl' : l < K := by omega
      rcases M.c i l with e1 | ⟨u, v, e1, e2, e3⟩
      · rw [e1] at hx
        rcases M.c l j with f1 | ⟨u, v, f1, f2, f3⟩
        · rw [f1] at hy
          exact M.le.dn (ih l hl' i j hi hj x y hx hy)
        · rw [f3] at hy; cases hy
          obtain ⟨w, g1, g2⟩ := ih l hl' i K hi hKm x u hx f1
          exact (hB hi hj g1 f2).mono (by omega)
      · rw [e3] at hx; cases hx
        rcases M.c l j with f1 | ⟨u', v', f1, f2, f3⟩
        · rw [f1] at hy
          obtain ⟨w, g1, g2⟩ := ih l hl' K j hKm hj v y e2 hy
          exact (hB hi hj e1 g1).mono (by omega)
        · rw [f3] at hy; cases hy
          obtain ⟨w, g1, g2⟩ := ih l hl' K K hKm hKm v u' e2 f1
          rw [h0] at g1; cases g1
          exact (hB hi hj e1 f2).mono (by omega)
theorem tri {n : Net} (h : Fits n) {i l j : Nat} (hi : i < n.many) (hl : l < n.many) (hj : j < n.many) {x y : Int} (hx : closeF n i l = some x) (hy : closeF n l j = some y) : dn (closeF n) i j (x + y) :=
  tri_at h n.many (Nat.le_refl _) l hl i j hi hj x y hx hy
theorem close_bound (n : Net) {b : Bd} (hb : b ∈ n.bounds) : dn (closeF n) b.1 b.2.1 b.2.2 := FK_bound n _ hb
theorem close_diag {n : Net} (h : Fits n) {k : Nat} (hk : k < n.many) : closeF n k k = some 0 := h.diag (Nat.le_refl _) hk
theorem fits_of {n : Net} {t : Nat → Int} (h : n.sol t) : Fits n := fun k _ z e => by have := sound h e; omega
/-! ### earliest times -/
structure IsEarly (n : Net) (k : Nat) (e : Int) : Prop where
  nn : 0 ≤ e
  ge : ∀ j, j < n.many → ∀ z, closeF n k j = some z → -z ≤ e
  at_ : e = 0 ∨ ∃ j, j < n.many ∧ closeF n k j = some (-e)
structure Least (n : Net) (e : Nat → Int) : Prop where
  nn : ∀ k, k < n.many → 0 ≤ e k
  sol : n.sol e
  le : ∀ t : Nat → Int, (∀ k, k < n.many → 0 ≤ t k) → n.sol t → ∀ k, k < n.many → e k ≤ t k
theorem Least.uniq {n : Net} {e f : Nat → Int} (a : Least n e) (b : Least n f) {k : Nat} (hk : k < n.many) : e k = f k := by
  have := a.le f b.nn b.sol k hk
  have := b.le e a.nn a.sol k hk
  omega
theorem early_least {n : Net} (hok : n.ok) (h : Fits n) {e : Nat → Int} (he : ∀ k, k < n.many → IsEarly n k (e k)) : Least n e := by
  refine ⟨fun k hk => (he k hk).nn, fun b hb => ?_, fun t h0 ht k hk => ?_⟩
  · obtain ⟨ha, hb2, _⟩ := hok.2.1 b hb
    obtain ⟨z, e1, l1⟩ := close_bound n hb
    rcases (he b.2.1 hb2).at_ with q | ⟨j, hj, q⟩
    · have := (he b.1 ha).ge _ hb2 _ e1
      omega
    · obtain ⟨w, e2, l2⟩ := tri h ha hb2 hj e1 q
      have := (he b.1 ha).ge _ hj _ e2
      omega
  · rcases (he k hk).at_ with q | ⟨j, hj, q⟩
    · rw [q]; exact h0 k hk
    · have := sound ht q
      have := h0 j hj
      omega
/-! ### steps with durations: starts by rounds -/
abbrev Prs := List (Nat × Nat)
def stS (d : Nat → Int) (f : Nat → Int) (q : Nat × Nat) : Nat → Int := fun k => if k = q.2 then max (f q.2) (f q.1 + d q.1) else f k
def startsR (d : Nat → Int) (p : Prs) (r : Nat) : Nat → Int := (List.range r).foldl (fun f _ => p.foldl (stS d) f) fun _ => 0
def startsF (n : Nat) (d : Nat → Int) (p : Prs) : Nat → Int := startsR d p n
theorem startsR_succ (d : Nat → Int) (p : Prs) (r : Nat) : startsR d p (r + 1) = p.foldl (stS d) (startsR d p r) := by
  unfold startsR
  rw [List.range_succ, List.foldl_append]
  rfl
def Acyc (n : Nat) (p : Prs) : Prop := ∃ r : Nat → Nat, ∀ q ∈ p, (q.1 < n ∧ q.2 < n) ∧ r q.1 < r q.2 ∧ r q.2 < n
theorem stS_ge (d f : Nat → Int) (q : Nat × Nat) (k : Nat) : f k ≤ stS d f q k := by
  unfold stS
  split
  · rename_i c; subst c; omega
  · omega
theorem stS_hit (d f : Nat → Int) (q : Nat × Nat) : f q.1 + d q.1 ≤ stS d f q q.2 := by
  unfold stS
  rw [if_pos rfl]; omega
theorem starts_nn (n : Nat) (d : Nat → Int) (p : Prs) (k : Nat) : 0 ≤ startsF n d p k :=
  foldl_inv (fun f : Nat → Int => 0 ≤ f k) (Int.le_refl 0) fun s _ _ h => foldl_inv (fun f : Nat → Int => 0 ≤ f k) h fun s q _ h => Int.le_trans h (stS_ge d s q k)
theorem starts_le {n : Nat} {d u : Nat → Int} {p : Prs} (hp : ∀ q ∈ p, q.1 < n ∧ q.2 < n) (h0 : ∀ k, k < n → 0 ≤ u k) (hu : ∀ q ∈ p, u q.1 + d q.1 ≤ u q.2) : ∀ k, k < n → startsF n d p k ≤ u k := by
  refine foldl_inv (fun f : Nat → Int => ∀ k, k < n → f k ≤ u k) h0 fun s _ _ h => foldl_inv (fun f : Nat → Int => ∀ k, k < n → f k ≤ u k) h fun s q hq h k hk => ?_
  unfold stS
  split
  · have a := h q.2 (hp q hq).2
    have b := h q.1 (hp q hq).1
    have c := hu q hq
    rename_i e; subst e; omega
  · exact h k hk
theorem starts_mono {n : Nat} {d d' : Nat → Int} {p : Prs} (hd : ∀ q ∈ p, d q.1 ≤ d' q.1) (k : Nat) : startsF n d p k ≤ startsF n d' p k := by
  have inner : ∀ (p' : Prs), (∀ q ∈ p', d q.1 ≤ d' q.1) → ∀ f g : Nat → Int, (∀ k, f k ≤ g k) → ∀ k, p'.foldl (stS d) f k ≤ p'.foldl (stS d') g k := by
    intro p'
    induction p' with
    | nil => intro _ f g h k; exact h k
    | cons q r ih =>
      intro hq f g h k
      refine ih (fun q hq' => hq q (List.mem_cons_of_mem _ hq')) _ _ (fun k => ?_) k
      unfold stS
      have a := h q.2
      have b := h q.1
      have c := hq q List.mem_cons_self
      split
      · omega
      · exact h k
  have outer : ∀ r, ∀ k, startsR d p r k ≤ startsR d' p r k := by
    intro r
    induction r with
    | zero => intro k; exact Int.le_refl _
    | succ r ih => intro k; rw [startsR_succ, startsR_succ]; exact inner p hd _ _ ih k
  exact outer n k
theorem starts_scale {n : Nat} {c : Int} (hc : 0 ≤ c) {d : Nat → Int} {p : Prs} (k : Nat) : startsF n (fun k => c * d k) p k = c * startsF n d p k := by
  have mx : ∀ x y : Int, max (c * x) (c * y) = c * max x y := by
    intro x y
    by_cases h : x ≤ y
    · have := Int.mul_le_mul_of_nonneg_left h hc
      rw [Int.max_eq_right h, Int.max_eq_right this]
    · have h : y ≤ x := by omega
      have := Int.mul_le_mul_of_nonneg_left h hc
      rw [Int.max_eq_left h, Int.max_eq_left this]
  have inner : ∀ (p' : Prs) (f g : Nat → Int), (∀ k, g k = c * f k) → ∀ k, p'.foldl (stS fun k => c * d k) g k = c * p'.foldl (stS d) f k := by
    intro p'
    induction p' with
    | nil => intro f g h k; exact h k
    | cons q r ih =>
      intro f g h k
      refine ih _ _ (fun k => ?_) k
      unfold stS
      rw [h q.2, h q.1, ← Int.mul_add, mx]
      split
      · rfl
      · exact h k
  have outer : ∀ r, ∀ k, startsR (fun k => c * d k) p r k = c * startsR d p r k := by
    intro r
    induction r with
    | zero => intro k; show (0 : Int) = c * 0; rw [Int.mul_zero]
    | succ r ih => intro k; rw [startsR_succ, startsR_succ]; exact inner p _ _ ih k
  exact outer n k
/-- a round keeps what is right already, and rights one rank more -/
theorem round_ok {n : Nat} {d : Nat → Int} {p : Prs} {r : Nat → Nat} (hr : ∀ q ∈ p, r q.1 < r q.2) (R : Nat) {f : Nat → Int} (h : ∀ q ∈ p, r q.2 ≤ R → f q.1 + d q.1 ≤ f q.2) : ∀ q ∈ p, r q.2 ≤ R + 1 → p.foldl (stS d) f q.1 + d q.1 ≤ p.foldl (stS d) f q.2 := by
  have same : ∀ g : Nat → Int, (∀ k, r k ≤ R → g k = f k) → ∀ q ∈ p, ∀ k, r k ≤ R → stS d g q k = f k := by
    intro g hg q hq k hk
    unfold stS
    split
    · rename_i e; subst e
      have a := hg q.2 hk
      have b := hg q.1 (by have := hr q hq; omega)
      have c := h q hq hk
      omega
    · exact hg k hk
  have all : ∀ k, r k ≤ R → p.foldl (stS d) f k = f k := by
    exact foldl_inv (fun g : Nat → Int => ∀ k, r k ≤ R → g k = f k) (fun _ _ => rfl) fun s q hq hs => same s hs q hq
  intro q hq hR
  by_cases c : r q.2 ≤ R
  · have := hr q hq
    rw [all q.1 (by omega), all q.2 c]
    exact h q hq c
  · have h1 : r q.1 ≤ R := by have := hr q hq; omega
    rw [all q.1 h1]
    refine foldl_hit (fun g : Nat → Int => ∀ k, r k ≤ R → g k = f k) (fun g => f q.1 + d q.1 ≤ g q.2) hq (fun _ _ => rfl) (fun s q hq hs => same s hs q hq) (fun s hs => ?_) fun s q' _ _ h => Int.le_trans h (stS_ge d s q' q.2)
    rw [← hs q.1 h1]
    exact stS_hit d s q
theorem starts_sol {n : Nat} {d : Nat → Int} {p : Prs} (h : Acyc n p) : ∀ q ∈ p, startsF n d p q.1 + d q.1 ≤ startsF n d p q.2 := by
  obtain ⟨r, hr⟩ := h
  have main : ∀ R, ∀ q ∈ p, r q.2 ≤ R → startsR d p R q.1 + d q.1 ≤ startsR d p R q.2 := by
    intro R
    induction R with
    | zero => intro q hq hR; have := (hr q hq).2.1; omega
    | succ R ih => intro q hq hR; rw [startsR_succ]; exact round_ok (n := n) (fun q hq => (hr q hq).2.1) R ih q hq hR
  intro q hq
  exact main n q hq (by have := (hr q hq).2.2; omega)
/-- least starts -/
structure LeastS (n : Nat) (d : Nat → Int) (p : Prs) (s : Nat → Int) : Prop where
  nn : ∀ k, k < n → 0 ≤ s k
  sol : ∀ q ∈ p, s q.1 + d q.1 ≤ s q.2
  le : ∀ u : Nat → Int, (∀ k, k < n → 0 ≤ u k) → (∀ q ∈ p, u q.1 + d q.1 ≤ u q.2) → ∀ k, k < n → s k ≤ u k
theorem Acyc.lt {n : Nat} {p : Prs} (h : Acyc n p) : ∀ q ∈ p, q.1 < n ∧ q.2 < n := fun q hq => by
  obtain ⟨r, hr⟩ := h
  exact (hr q hq).1
theorem starts_least {n : Nat} {d : Nat → Int} {p : Prs} (h : Acyc n p) : LeastS n d p (startsF n d p) :=
  ⟨fun k _ => starts_nn n d p k, starts_sol h, fun u h0 hu => starts_le h.lt h0 hu⟩
theorem LeastS.uniq {n : Nat} {d : Nat → Int} {p : Prs} {s s' : Nat → Int} (a : LeastS n d p s) (b : LeastS n d p s') {k : Nat} (hk : k < n) : s k = s' k := by
  have := a.le s' b.nn b.sol k hk
  have := b.le s a.nn a.sol k hk
  omega
/-- the end of all -/
structure IsEnd (n : Nat) (d : Nat → Int) (s : Nat → Int) (E : Int) : Prop where
  ge : ∀ k, k < n → s k + d k ≤ E
  at_ : ∃ k, k < n ∧ s k + d k = E
def swp (p : Prs) : Prs := p.map fun q => (q.2, q.1)
theorem Acyc.swp {n : Nat} {p : Prs} (h : Acyc n p) : Acyc n (swp p) := by
  obtain ⟨r, hr⟩ := h
  refine ⟨fun k => n - 1 - r k, fun q hq => ?_⟩
  obtain ⟨q', hq', e⟩ := List.mem_map.mp hq
  subst e
  obtain ⟨⟨a, b⟩, c, e⟩ := hr q' hq'
  dsimp only
  omega
theorem end_turned_le {n : Nat} {d : Nat → Int} {p p' : Prs} {s s' : Nat → Int} {E E' : Int} (hp : ∀ q, q ∈ p' → (q.2, q.1) ∈ p) (a : LeastS n d p s) (b : LeastS n d p' s') (ha : IsEnd n d s E) (hb : IsEnd n d s' E') : E' ≤ E := by
  obtain ⟨k, hk, e⟩ := hb.at_
  have := b.le (fun k => E - s k - d k) (fun k hk => by have := ha.ge k hk; show 0 ≤ E - s k - d k; omega) (fun q hq => by
    have := a.sol _ (hp q hq)
    show E - s q.1 - d q.1 + d q.1 ≤ E - s q.2 - d q.2
    dsimp only at this
    omega) k hk
  have := a.nn k hk
  omega
theorem end_turned {n : Nat} {d : Nat → Int} {p : Prs} {s s' : Nat → Int} {E E' : Int} (a : LeastS n d p s) (b : LeastS n d (swp p) s') (ha : IsEnd n d s E) (hb : IsEnd n d s' E') : E' = E := by
  have h1 := end_turned_le (fun q hq => by
    obtain ⟨q', hq', e⟩ := List.mem_map.mp hq
    subst e; exact hq') a b ha hb
  have h2 := end_turned_le (p := swp p) (p' := p) (fun q hq => List.mem_map.mpr ⟨q, hq, rfl⟩) b a hb ha
  omega
/-! the net of steps -/
def netB (n : Nat) (d : Nat → Int) : List Bd := (List.range n).flatMap fun k => [(2 * k, 2 * k + 1, d k), (2 * k + 1, 2 * k, -d k)]
def netP (p : Prs) : List Bd := p.map fun q => (2 * q.2, 2 * q.1 + 1, 0)
def netOf (n : Nat) (d : Nat → Int) (p : Prs) : Net := ⟨2 * n, netB n d ++ netP p⟩
theorem netOf_sol {n : Nat} {d : Nat → Int} {p : Prs} {t : Nat → Int} : (netOf n d p).sol t ↔ (∀ k, k < n → t (2 * k + 1) = t (2 * k) + d k) ∧ ∀ q ∈ p, t (2 * q.1 + 1) ≤ t (2 * q.2) := by
  constructor
  · intro h
    refine ⟨fun k hk => ?_, fun q hq => ?_⟩
    · have a := h (2 * k, 2 * k + 1, d k) (List.mem_append.mpr (.inl (List.mem_flatMap.mpr ⟨k, List.mem_range.mpr hk, by simp⟩)))
      have b := h (2 * k + 1, 2 * k, -d k) (List.mem_append.mpr (.inl (List.mem_flatMap.mpr ⟨k, List.mem_range.mpr hk, by simp⟩)))
      dsimp only at a b
      omega
    · have a := h (2 * q.2, 2 * q.1 + 1, 0) (List.mem_append.mpr (.inr (List.mem_map.mpr ⟨q, hq, rfl⟩)))
      dsimp only at a
      omega
  · rintro ⟨h1, h2⟩ b hb
    rcases List.mem_append.mp hb with hb | hb
    · obtain ⟨k, hk, hb⟩ := List.mem_flatMap.mp hb
      have := h1 k (List.mem_range.mp hk)
      simp only [List.mem_cons, List.not_mem_nil, or_false] at hb
      rcases hb with rfl | rfl
      · dsimp only; omega
      · dsimp only; omega
    · obtain ⟨q, hq, rfl⟩ := List.mem_map.mp hb
      have := h2 q hq
      dsimp only; omega
/-- starts and ends in a row -/
def due (d s : Nat → Int) (i : Nat) : Int := if i % 2 = 0 then s (i / 2) else s (i / 2) + d (i / 2)
theorem due_even (d s : Nat → Int) (k : Nat) : due d s (2 * k) = s k := by
  unfold due
  rw [if_pos (by omega), show 2 * k / 2 = k by omega]
theorem due_odd (d s : Nat → Int) (k : Nat) : due d s (2 * k + 1) = s k + d k := by
  unfold due
  rw [if_neg (by omega), show (2 * k + 1) / 2 = k by omega]
theorem due_sol {n : Nat} {d : Nat → Int} {p : Prs} {s : Nat → Int} (h : ∀ q ∈ p, s q.1 + d q.1 ≤ s q.2) : (netOf n d p).sol (due d s) := by
  refine netOf_sol.mpr ⟨fun k hk => ?_, fun q hq => ?_⟩
  · rw [due_even, due_odd]
  · rw [due_even, due_odd]; exact h q hq
theorem par (i : Nat) : i = 2 * (i / 2) ∨ i = 2 * (i / 2) + 1 := by omega
theorem due_least {n : Nat} {d : Nat → Int} {p : Prs} {s : Nat → Int} (hp : ∀ q ∈ p, q.1 < n ∧ q.2 < n) (hd : ∀ k, k < n → 0 ≤ d k) (h : LeastS n d p s) : Least (netOf n d p) (due d s) := by
  refine ⟨fun k hk => ?_, due_sol h.sol, fun t h0 ht k hk => ?_⟩
  · have hk : k < 2 * n := hk
    unfold due
    have a := h.nn (k / 2) (by omega)
    have b := hd (k / 2) (by omega)
    split <;> omega
  · have hk : k < 2 * n := hk
    obtain ⟨h1, h2⟩ := netOf_sol.mp ht
    have key : ∀ k, k < n → s k ≤ t (2 * k) := h.le (fun k => t (2 * k)) (fun k hk => h0 _ (by show 2 * k < 2 * n; omega)) fun q hq => by
      have a := h1 q.1 (hp q hq).1
      have b := h2 q hq
      omega
    have a := key (k / 2) (by omega)
    have b := h1 (k / 2) (by omega)
    unfold due
    split
    · have e : 2 * (k / 2) = k := by omega
      rw [e] at a
      exact a
    · have e : 2 * (k / 2) + 1 = k := by omega
      rw [e] at b
      omega
theorem acyc_fits {n : Nat} {d : Nat → Int} {p : Prs} (h : Acyc n p) : Fits (netOf n d p) := fits_of (due_sol (starts_sol h))
end K55
namespace K55
/-! ### more pairs; ranges; later bounds -/
theorem netOf_mono {n : Nat} {d : Nat → Int} {p p' : Prs} (h : ∀ q ∈ p, q ∈ p') {e e' : Nat → Int} (a : Least (netOf n d p) e) (b : Least (netOf n d p') e') : ∀ k, k < 2 * n → e k ≤ e' k :=
  a.le e' b.nn (by
    obtain ⟨h1, h2⟩ := netOf_sol.mp b.sol
    exact netOf_sol.mpr ⟨h1, fun q hq => h2 q (h q hq)⟩)
theorem range_exact {n : Nat} {d : Nat → Int} {p : Prs} {t : Nat → Int} (ht : (netOf n d p).sol t) {i : Nat} (hi : i < n) : closeF (netOf n d p) (2 * i + 1) (2 * i) = some (-d i) ∧ closeF (netOf n d p) (2 * i) (2 * i + 1) = some (d i) := by
  obtain ⟨h1, h2⟩ := netOf_sol.mp ht
  have e := h1 i hi
  constructor
  · obtain ⟨z, e1, l⟩ := close_bound (netOf n d p) (b := (2 * i + 1, 2 * i, -d i)) (List.mem_append.mpr (.inl (List.mem_flatMap.mpr ⟨i, List.mem_range.mpr hi, by simp⟩)))
    have := sound ht e1
    dsimp only at *
    rw [e1]
    congr 1
    omega
  · obtain ⟨z, e1, l⟩ := close_bound (netOf n d p) (b := (2 * i, 2 * i + 1, d i)) (List.mem_append.mpr (.inl (List.mem_flatMap.mpr ⟨i, List.mem_range.mpr hi, by simp⟩)))
    have := sound ht e1
    dsimp only at *
    rw [e1]
    congr 1
    omega
theorem range_pair {n : Nat} {d : Nat → Int} {p : Prs} (hf : Fits (netOf n d p)) {q : Nat × Nat} (hq : q ∈ p) (h1 : q.1 < n) (h2 : q.2 < n) : dn (closeF (netOf n d p)) (2 * q.2) (2 * q.1) (-d q.1) := by
  obtain ⟨z, e1, l1⟩ := close_bound (netOf n d p) (b := (2 * q.2, 2 * q.1 + 1, 0)) (List.mem_append.mpr (.inr (List.mem_map.mpr ⟨q, hq, rfl⟩)))
  obtain ⟨w, e2, l2⟩ := close_bound (netOf n d p) (b := (2 * q.1 + 1, 2 * q.1, -d q.1)) (List.mem_append.mpr (.inl (List.mem_flatMap.mpr ⟨q.1, List.mem_range.mpr h1, by simp⟩)))
  dsimp only at *
  have hm : (netOf n d p).many = 2 * n := rfl
  exact (tri hf (by omega) (by omega) (by omega) e1 e2).mono (by omega)
theorem early_ex (n : Net) (k : Nat) : ∃ e, IsEarly n k e := by
  have : ∀ m, ∃ e : Int, 0 ≤ e ∧ (∀ j, j < m → ∀ z, closeF n k j = some z → -z ≤ e) ∧ (e = 0 ∨ ∃ j, j < m ∧ closeF n k j = some (-e)) := by
    intro m
    induction m with
    | zero => exact ⟨0, Int.le_refl _, fun j h => absurd h (Nat.not_lt_zero _), .inl rfl⟩
    | succ m ih =>
      obtain ⟨e, h0, h1, h2⟩ := ih
      cases c : closeF n k m with
      | none =>
        refine ⟨e, h0, fun j hj z hz => ?_, h2.imp id fun ⟨j, hj, q⟩ => ⟨j, by omega, q⟩⟩
        by_cases ej : j = m
        · subst ej; rw [c] at hz; cases hz
        · exact h1 j (by omega) z hz
      | some w =>
        by_cases l : -w ≤ e
        · refine ⟨e, h0, fun j hj z hz => ?_, h2.imp id fun ⟨j, hj, q⟩ => ⟨j, by omega, q⟩⟩
          by_cases ej : j = m
          · subst ej; rw [c] at hz; cases hz; exact l
          · exact h1 j (by omega) z hz
        · refine ⟨-w, by omega, fun j hj z hz => ?_, .inr ⟨m, by omega, by rw [c, Int.neg_neg]⟩⟩
          by_cases ej : j = m
          · subst ej; rw [c] at hz; cases hz; exact Int.le_refl _
          · have := h1 j (by omega) z hz; omega
  obtain ⟨e, h0, h1, h2⟩ := this n.many
  exact ⟨e, h0, h1, h2⟩
theorem fits_sol {n : Net} (hok : n.ok) (h : Fits n) : ∃ t, Least n t :=
  ⟨fun k => (early_ex n k).choose, early_least hok h fun k _ => (early_ex n k).choose_spec⟩
theorem big_ex (f : Nat → Option Int) (m : Nat) : ∃ B : Int, 0 ≤ B ∧ ∀ j, j < m → ∀ z, f j = some z → z ≤ B := by
  induction m with
  | zero => exact ⟨0, Int.le_refl _, fun j h => absurd h (Nat.not_lt_zero _)⟩
  | succ m ih =>
    obtain ⟨B, h0, h1⟩ := ih
    cases c : f m with
    | none =>
      refine ⟨B, h0, fun j hj z hz => ?_⟩
      by_cases ej : j = m
      · subst ej; rw [c] at hz; cases hz
      · exact h1 j (by omega) z hz
    | some w =>
      refine ⟨max B w, by omega, fun j hj z hz => ?_⟩
      by_cases ej : j = m
      · subst ej; rw [c] at hz; cases hz; omega
      · have := h1 j (by omega) z hz; omega
def Net.late (n : Net) (S : List Nat) (L : Nat) (late : Int) : Net := ⟨n.many, n.bounds ++ S.map fun s => (s, L, late)⟩
theorem late_fits {n : Net} (hok : n.ok) (h : Fits n) {S : List Nat} {L : Nat} {late : Int} (hok2 : (n.late S L late).ok) (hL : L < n.many) (hS : ∀ s ∈ S, s < n.many) (h0 : 0 ≤ late) : Fits (n.late S L late) ↔ ∀ s ∈ S, ∀ z, closeF n L s = some z → -z ≤ late := by
  constructor
  · intro hf s hs z hz
    obtain ⟨t, ht⟩ := fits_sol hok2 hf
    have a : n.sol t := fun b hb => ht.sol b (List.mem_append.mpr (.inl hb))
    have b := ht.sol (s, L, late) (List.mem_append.mpr (.inr (List.mem_map.mpr ⟨s, hs, rfl⟩)))
    have c := sound a hz
    dsimp only at b
    omega
  · intro hd
    obtain ⟨e, he⟩ := fits_sol hok h
    obtain ⟨B, hB0, hB⟩ := big_ex (closeF n L) n.many
    refine fits_of (t := fun j => (closeF n L j).getD (B + 99 + e j)) fun b hb => ?_
    rcases List.mem_append.mp hb with hb | hb
    · obtain ⟨h1, h2, h3, h4⟩ := hok.2.1 b hb
      have hs := he.sol b hb
      have ea := he.nn b.1 h1
      cases c1 : closeF n L b.1 with
      | none =>
        cases c2 : closeF n L b.2.1 with
        | none =>
          dsimp only
          rw [c1, c2]
          simp only [Option.getD_none]; omega
        | some w =>
          have := hB _ h2 w c2
          dsimp only
          rw [c1, c2]
          simp only [Option.getD_none, Option.getD_some]; omega
      | some v =>
        obtain ⟨w, e1, l1⟩ := close_bound n hb
        obtain ⟨u, e2, l2⟩ := tri h hL h1 h2 c1 e1
        dsimp only
        rw [e2, c1]
        simp only [Option.getD_some]; omega
    · obtain ⟨s, hs, rfl⟩ := List.mem_map.mp hb
      dsimp only
      rw [close_diag h hL]
      have hm : s < n.many := hS s hs
      have := he.nn s hm
      cases c : closeF n L s with
      | none => simp only [Option.getD_none, Option.getD_some]; omega
      | some z =>
        have := hd s hs z c
        simp only [Option.getD_some]; omega
/-! ### beside and behind -/
def cat (m : Nat) (d d' : Nat → Int) (k : Nat) : Int := if k < m then d k else d' (k - m)
def upP (m : Nat) (p : Prs) : Prs := p.map fun q => (q.1 + m, q.2 + m)
def crossP (m m' : Nat) : Prs := (List.range m).flatMap fun a => (List.range m').map fun b => (a, m + b)
theorem acyc_cat {m m' : Nat} {p p' : Prs} (h : Acyc m p) (h' : Acyc m' p') : Acyc (m + m') (p ++ upP m p' ++ crossP m m') := by
  obtain ⟨r, hr⟩ := h
  obtain ⟨r', hr'⟩ := h'
  refine ⟨fun k => if k < m then min (r k) (m - 1) else m + min (r' (k - m)) (m' - 1), fun q hq => ?_⟩
  rcases List.mem_append.mp hq with hq | hq
  · rcases List.mem_append.mp hq with hq | hq
    · obtain ⟨⟨a, b⟩, c, e⟩ := hr q hq
      dsimp only
      rw [if_pos a, if_pos b]
      omega
    · obtain ⟨q', hq', rfl⟩ := List.mem_map.mp hq
      obtain ⟨⟨a, b⟩, c, e⟩ := hr' q' hq'
      dsimp only
      rw [if_neg (by omega), if_neg (by omega), show q'.1 + m - m = q'.1 by omega, show q'.2 + m - m = q'.2 by omega]
      omega
  · obtain ⟨a, ha, hq⟩ := List.mem_flatMap.mp hq
    obtain ⟨b, hb, rfl⟩ := List.mem_map.mp hq
    have ha := List.mem_range.mp ha
    have hb := List.mem_range.mp hb
    dsimp only
    rw [if_pos ha, if_neg (by omega)]
    omega
theorem Acyc.sub {n : Nat} {p p' : Prs} (h : Acyc n p) (hs : ∀ q ∈ p', q ∈ p) : Acyc n p' := by
  obtain ⟨r, hr⟩ := h
  exact ⟨r, fun q hq => hr q (hs q hq)⟩
/-- beside each other -/
theorem beside {m m' : Nat} {d d' s s' : Nat → Int} {p p' : Prs} (hp : ∀ q ∈ p, q.1 < m ∧ q.2 < m) (hp' : ∀ q ∈ p', q.1 < m' ∧ q.2 < m') (a : LeastS m d p s) (b : LeastS m' d' p' s') : LeastS (m + m') (cat m d d') (p ++ upP m p') (cat m s s') := by
  refine ⟨fun k hk => ?_, fun q hq => ?_, fun u h0 hu k hk => ?_⟩
  · unfold cat
    split
    · rename_i c; exact a.nn k c
    · exact b.nn _ (by omega)
  · rcases List.mem_append.mp hq with hq | hq
    · obtain ⟨h1, h2⟩ := hp q hq
      unfold cat
      rw [if_pos h1, if_pos h1, if_pos h2]
      exact a.sol q hq
    · obtain ⟨q', hq', rfl⟩ := List.mem_map.mp hq
      unfold cat
      dsimp only
      rw [if_neg (by omega), if_neg (by omega), if_neg (by omega), show q'.1 + m - m = q'.1 by omega, show q'.2 + m - m = q'.2 by omega]
      exact b.sol q' hq'
  · unfold cat
    split
    · rename_i c
      refine a.le u (fun k hk => h0 k (by omega)) (fun q hq => ?_) k c
      have := hu q (List.mem_append.mpr (.inl hq))
      unfold cat at this
      rw [if_pos (hp q hq).1] at this
      exact this
    · have := b.le (fun k => u (k + m)) (fun k hk => h0 _ (by omega)) (fun q hq => ?_) (k - m) (by omega)
      · rw [show k - m + m = k by omega] at this
        exact this
      · have := hu (q.1 + m, q.2 + m) (List.mem_append.mpr (.inr (List.mem_map.mpr ⟨q, hq, rfl⟩)))
        unfold cat at this
        dsimp only at this
        rw [if_neg (by omega), show q.1 + m - m = q.1 by omega] at this
        exact this
theorem end_beside {m m' : Nat} {d d' s s' : Nat → Int} {E E' : Int} (a : IsEnd m d s E) (b : IsEnd m' d' s' E') : IsEnd (m + m') (cat m d d') (cat m s s') (max E E') := by
  refine ⟨fun k hk => ?_, ?_⟩
  · unfold cat
    split
    · rename_i c; have := a.ge k c; omega
    · have := b.ge (k - m) (by omega); omega
  · obtain ⟨i, hi, e⟩ := a.at_
    obtain ⟨j, hj, f⟩ := b.at_
    by_cases c : E ≤ E'
    · refine ⟨m + j, by omega, ?_⟩
      unfold cat
      rw [if_neg (by omega), if_neg (by omega), show m + j - m = j by omega]
      omega
    · refine ⟨i, by omega, ?_⟩
      unfold cat
      rw [if_pos hi, if_pos hi]
      omega
theorem IsEnd.uniq {n : Nat} {d s : Nat → Int} {E E' : Int} (a : IsEnd n d s E) (b : IsEnd n d s E') : E = E' := by
  obtain ⟨k, hk, e⟩ := a.at_
  obtain ⟨j, hj, f⟩ := b.at_
  have := a.ge j hj
  have := b.ge k hk
  omega
theorem IsEnd.congr {n : Nat} {d s s' : Nat → Int} {E : Int} (a : IsEnd n d s E) (h : ∀ k, k < n → s k = s' k) : IsEnd n d s' E := by
  obtain ⟨k, hk, e⟩ := a.at_
  exact ⟨fun k hk => by rw [← h k hk]; exact a.ge k hk, k, hk, by rw [← h k hk]; exact e⟩
/-- behind each other -/
theorem behind {m m' : Nat} {d d' s s' : Nat → Int} {p p' : Prs} {E : Int} (hp : ∀ q ∈ p, q.1 < m ∧ q.2 < m) (hp' : ∀ q ∈ p', q.1 < m' ∧ q.2 < m') (a : LeastS m d p s) (b : LeastS m' d' p' s') (hE : IsEnd m d s E) (hd : ∀ k, k < m → 0 ≤ d k) : LeastS (m + m') (cat m d d') (p ++ upP m p' ++ crossP m m') (cat m s fun k => s' k + E) := by
  have hE0 : 0 ≤ E := by
    obtain ⟨k, hk, e⟩ := hE.at_
    have := a.nn k hk
    have := hd k hk
    omega
  refine ⟨fun k hk => ?_, fun q hq => ?_, fun u h0 hu k hk => ?_⟩
  · unfold cat
    split
    · rename_i c; exact a.nn k c
    · have := b.nn (k - m) (by omega); dsimp only; omega
  · rcases List.mem_append.mp hq with hq | hq
    · rcases List.mem_append.mp hq with hq | hq
      · obtain ⟨h1, h2⟩ := hp q hq
        unfold cat
        rw [if_pos h1, if_pos h1, if_pos h2]
        exact a.sol q hq
      · obtain ⟨q', hq', rfl⟩ := List.mem_map.mp hq
        unfold cat
        dsimp only
        rw [if_neg (by omega), if_neg (by omega), if_neg (by omega), show q'.1 + m - m = q'.1 by omega, show q'.2 + m - m = q'.2 by omega]
        have := b.sol q' hq'
        omega
    · obtain ⟨i, hi, hq⟩ := List.mem_flatMap.mp hq
      obtain ⟨j, hj, rfl⟩ := List.mem_map.mp hq
      have hi := List.mem_range.mp hi
      have hj := List.mem_range.mp hj
      unfold cat
      dsimp only
      rw [if_pos hi, if_pos hi, if_neg (by omega), show m + j - m = j by omega]
      have := hE.ge i hi
      have := b.nn j hj
      omega
  · have hu1 : ∀ q ∈ p, u q.1 + d q.1 ≤ u q.2 := fun q hq => by
      have := hu q (List.mem_append.mpr (.inl (List.mem_append.mpr (.inl hq))))
      unfold cat at this
      rw [if_pos (hp q hq).1] at this
      exact this
    have key : ∀ k, k < m → s k ≤ u k := a.le u (fun k hk => h0 k (by omega)) hu1
    unfold cat
    split
    · rename_i c
      exact key k c
    · have := b.le (fun k => u (k + m) - E) (fun k hk => ?_) (fun q hq => ?_) (k - m) (by omega)
      · rw [show k - m + m = k by omega] at this
        show s' (k - m) + E ≤ u k
        omega
      · obtain ⟨i, hi, e⟩ := hE.at_
        have h2 := hu (i, m + k) (List.mem_append.mpr (.inr (List.mem_flatMap.mpr ⟨i, List.mem_range.mpr hi, List.mem_map.mpr ⟨k, List.mem_range.mpr hk, rfl⟩⟩)))
        unfold cat at h2
        dsimp only at h2
        rw [if_pos hi] at h2
        have := key i hi
        show 0 ≤ u (k + m) - E
        rw [show k + m = m + k by omega]
        omega
      · have := hu (q.1 + m, q.2 + m) (List.mem_append.mpr (.inl (List.mem_append.mpr (.inr (List.mem_map.mpr ⟨q, hq, rfl⟩)))))
        unfold cat at this
        dsimp only at this
        rw [if_neg (by omega), show q.1 + m - m = q.1 by omega] at this
        omega
end K55
namespace K55
/-! ### circles -/
def src (bs : List Bd) (k : Nat) : Nat := (bs.getD k (0, 0, 0)).1
def dst (bs : List Bd) (k : Nat) : Nat := (bs.getD k (0, 0, 0)).2.1
def wgt (bs : List Bd) (k : Nat) : Int := (bs.getD k (0, 0, 0)).2.2
inductive Wk (bs : List Bd) : Nat → List Nat → Nat → Int → Prop
  | nil (i : Nat) : Wk bs i [] i 0
  | cons {k j : Nat} {ks : List Nat} {z : Int} : k < bs.length → Wk bs (dst bs k) ks j z → Wk bs (src bs k) (k :: ks) j (wgt bs k + z)
theorem Wk.app {bs : List Bd} {i j l : Nat} {ks ms : List Nat} {x y : Int} (a : Wk bs i ks j x) (b : Wk bs j ms l y) : Wk bs i (ks ++ ms) l (x + y) := by
  induction a with
  | nil i => rw [Int.zero_add]; exact b
  | cons h _ ih =>
    have := Wk.cons h (ih b)
    rw [← Int.add_assoc] at this
    exact this
theorem Wk.split {bs : List Bd} {ms : List Nat} : ∀ {ks : List Nat} {i l : Nat} {z : Int}, Wk bs i (ks ++ ms) l z → ∃ j x y, Wk bs i ks j x ∧ Wk bs j ms l y ∧ z = x + y
  | [], i, l, z, h => ⟨i, 0, z, .nil i, h, by omega⟩
  | k :: ks, i, l, z, h => by
    cases h with
    | cons hk h =>
      obtain ⟨j, x, y, a, b, e⟩ := Wk.split h
      exact ⟨j, _, y, .cons hk a, b, by omega⟩
theorem Wk.lt {bs : List Bd} {i j : Nat} {ks : List Nat} {z : Int} (h : Wk bs i ks j z) : ∀ k ∈ ks, k < bs.length := by
  induction h with
  | nil => intro k hk; cases hk
  | cons hk _ ih =>
    intro k' hk'
    rcases List.mem_cons.mp hk' with rfl | hk'
    · exact hk
    · exact ih k' hk'
theorem Wk.src {bs : List Bd} {i j k : Nat} {ks : List Nat} {z : Int} (h : Wk bs i (k :: ks) j z) : i = src bs k := by
  cases h; rfl
theorem Wk.nil_inv {bs : List Bd} {i j : Nat} {z : Int} (h : Wk bs i [] j z) : i = j ∧ z = 0 := by
  generalize e : ([] : List Nat) = ks at h
  cases h with
  | nil => exact ⟨rfl, rfl⟩
  | cons => cases e
theorem Wk.dst {bs : List Bd} {j k : Nat} : ∀ {ks : List Nat} {i : Nat} {z : Int}, Wk bs i (ks ++ [k]) j z → j = dst bs k
  | [], i, z, h => by cases h with | cons _ h => exact h.nil_inv.1.symm
  | _ :: ks, i, z, h => by cases h with | cons _ h => exact Wk.dst h
theorem Wk.sum {bs : List Bd} {i j : Nat} {ks : List Nat} {z : Int} (h : Wk bs i ks j z) : z = (ks.map (wgt bs)).sum := by
  induction h with
  | nil => rfl
  | cons _ _ ih => rw [List.map_cons, List.sum_cons, ← ih]
theorem close_walk (n : Net) {i j : Nat} {z : Int} (e : closeF n i j = some z) : ∃ ks, Wk n.bounds i ks j z := by
  refine closeF_R n (R := fun i j z => ∃ ks, Wk n.bounds i ks j z) (fun i => ⟨[], .nil i⟩) (fun b hb => ?_) (fun i k j x y ⟨ks, a⟩ ⟨ms, b⟩ => ⟨ks ++ ms, a.app b⟩) i j z e
  obtain ⟨k, hk, e⟩ := List.getElem_of_mem hb
  have e2 : n.bounds.getD k (0, 0, 0) = b := by
    rw [List.getD_eq_getElem?_getD, List.getElem?_eq_getElem hk, e]; rfl
  have := Wk.cons (bs := n.bounds) hk (.nil _)
  unfold K55.src K55.dst wgt at this
  rw [e2, Int.add_zero] at this
  exact ⟨_, this⟩
theorem not_nodup {α : Type} [DecidableEq α] (f : Nat → α) : ∀ {ks : List Nat}, ¬ (ks.map f).Nodup → ∃ a k b k' c, ks = a ++ k :: b ++ k' :: c ∧ f k = f k'
  | [], h => absurd (by simp) h
  | k :: ks, h => by
    rw [List.map_cons, List.nodup_cons] at h
    by_cases c : f k ∈ ks.map f
    · obtain ⟨k', hk', e⟩ := List.mem_map.mp c
      obtain ⟨b, c, e2⟩ := List.append_of_mem hk'
      exact ⟨[], k, b, k', c, by rw [e2]; simp, e.symm⟩
    · have : ¬ (ks.map f).Nodup := fun z => h ⟨c, z⟩
      obtain ⟨a, k1, b, k', c, e, e2⟩ := not_nodup f this
      exact ⟨k :: a, k1, b, k', c, by rw [e]; simp, e2⟩
theorem neg_simple {bs : List Bd} : ∀ (L : Nat) {i : Nat} {ks : List Nat} {z : Int}, ks.length ≤ L → Wk bs i ks i z → z < 0 → ∃ i ks z, Wk bs i ks i z ∧ z < 0 ∧ (ks.map (src bs)).Nodup
  | 0, i, ks, z, hl, h, hz => by
    have : ks = [] := List.length_eq_zero_iff.mp (Nat.le_zero.mp hl)
    subst this
    cases h; omega
  | L + 1, i, ks, z, hl, h, hz => by
    by_cases c : (ks.map (src bs)).Nodup
    · exact ⟨i, ks, z, h, hz, c⟩
    · obtain ⟨a, k, b, k', c, e, e2⟩ := not_nodup (src bs) c
      subst e
      rw [List.append_assoc] at h hl
      obtain ⟨j, x, y, ha, hb, e⟩ := h.split
      have ej : j = src bs k := hb.src
      obtain ⟨j', u, v, hb, hc, e'⟩ := hb.split
      have ej' : j' = src bs k' := hc.src
      have ejj : j = j' := by rw [ej, ej', e2]
      subst ejj
      rw [List.length_append, List.length_append, List.length_cons, List.length_cons] at hl
      by_cases hu : u < 0
      · exact neg_simple L (by rw [List.length_cons]; omega) hb hu
      · exact neg_simple L (by rw [List.length_append, List.length_cons]; omega) (ha.app hc) (by omega)
theorem nodup_len : ∀ (m : Nat) (xs : List Nat), xs.Nodup → (∀ x ∈ xs, x < m) → xs.length ≤ m
  | 0, [], _, _ => Nat.le_refl _
  | 0, x :: _, _, h => absurd (h x List.mem_cons_self) (Nat.not_lt_zero _)
  | m + 1, xs, hn, h => by
    have := nodup_len m (xs.erase m) (hn.erase m) fun x hx => by
      have h1 := h x (List.mem_of_mem_erase hx)
      have h2 : x ≠ m := by
        intro e; subst e
        exact (List.Nodup.not_mem_erase hn) hx
      omega
    rw [List.length_erase] at this
    split at this <;> omega
theorem src_lt {n : Net} (h : n.ok) {k : Nat} (hk : k < n.bounds.length) : src n.bounds k < n.many := by
  unfold src
  rw [List.getD_eq_getElem?_getD, List.getElem?_eq_getElem hk]
  exact (h.2.1 _ (List.getElem_mem hk)).1
/-- where the net does not fit, there is a circle of at most as many bounds as there are points -/
theorem circle_ex {n : Net} (hok : n.ok) (h : ¬ Fits n) : ∃ i ks z, Wk n.bounds i ks i z ∧ z < 0 ∧ ks.Nodup ∧ ks ≠ [] ∧ ks.length ≤ n.many := by
  unfold Fits at h
  have : ∃ k, k < n.many ∧ ∃ z, closeF n k k = some z ∧ z < 0 := by
    apply Classical.byContradiction
    intro hc
    apply h
    intro k hk z e
    apply Classical.byContradiction
    intro hz
    exact hc ⟨k, hk, z, e, by omega⟩
  obtain ⟨k, hk, z, e, hz⟩ := this
  obtain ⟨ks, hw⟩ := close_walk n e
  obtain ⟨i, ks, z, a, b, c⟩ := neg_simple ks.length (Nat.le_refl _) hw hz
  refine ⟨i, ks, z, a, b, ?_, ?_, ?_⟩
  · exact (List.pairwise_map.mp c).imp fun h e => h (by rw [e])
  · intro e; subst e; cases a; omega
  · have := nodup_len n.many _ c fun x hx => by
      obtain ⟨k, hk, rfl⟩ := List.mem_map.mp hx
      exact src_lt hok (a.lt k hk)
    rw [List.length_map] at this
    exact this
/-! rows of bounds, one longer each time -/
abbrev Row := List Nat × Int
def lastD (row : List Nat) : Nat := row.getLastD 0
def goesOn (bs : List Bd) (row : List Nat) (k : Nat) : Bool := decide (src bs k = dst bs (lastD row)) && !row.contains k
def freshOf (bs : List Bd) (q : Row) : List Row := ((List.range bs.length).filter (goesOn bs q.1)).map fun k => (q.1 ++ [k], q.2 + wgt bs k)
def bad (bs : List Bd) (q : Row) : Bool := decide (src bs (q.1.headD 0) = dst bs (lastD q.1)) && decide (q.2 < 0)
structure Lev (bs : List Bd) (D r : Nat) (lev : List Row) : Prop where
  sound : ∀ q ∈ lev, q.1.length = r + 1 ∧ ∃ i j, Wk bs i q.1 j q.2
  full : ∀ ks i j z, ks.length = r + 1 → ks.Nodup → Wk bs i ks j z → (ks, z) ∈ lev
  size : lev.length ≤ bs.length * D ^ r
def lev0 (bs : List Bd) : List Row := (List.range bs.length).map fun k => ([k], wgt bs k)
theorem lev_zero (bs : List Bd) (D : Nat) : Lev bs D 0 (lev0 bs) := by
  refine ⟨fun q hq => ?_, fun ks i j z hl hn hw => ?_, by simp [lev0]⟩
  · obtain ⟨k, hk, rfl⟩ := List.mem_map.mp hq
    have := Wk.cons (List.mem_range.mp hk) (.nil (dst bs k))
    rw [Int.add_zero] at this
    exact ⟨rfl, _, _, this⟩
  · match ks, hl with
    | [k], _ =>
      cases hw with
      | cons hk h =>
        obtain ⟨_, e⟩ := h.nil_inv
        exact List.mem_map.mpr ⟨k, List.mem_range.mpr hk, by rw [e, Int.add_zero]⟩
theorem flat_len {α β : Type} (f : α → List β) (D : Nat) : ∀ (xs : List α), (∀ x ∈ xs, (f x).length ≤ D) → (xs.flatMap f).length ≤ xs.length * D
  | [], _ => by simp
  | x :: xs, h => by
    rw [List.flatMap_cons, List.length_append, List.length_cons, Nat.succ_mul]
    have a := h x List.mem_cons_self
    have b := flat_len f D xs fun y hy => h y (List.mem_cons_of_mem _ hy)
    omega
theorem lev_succ {bs : List Bd} {D r : Nat} {lev lev' : List Row} (h : Lev bs D r lev) (hp : lev'.Perm (lev.flatMap (freshOf bs))) (hD : ∀ v, ((List.range bs.length).filter fun k => decide (src bs k = v)).length ≤ D) : Lev bs D (r + 1) lev' := by
  refine ⟨fun q hq => ?_, fun ks i j z hl hn hw => ?_, ?_⟩
  · obtain ⟨q', hq', hq⟩ := List.mem_flatMap.mp (hp.mem_iff.mp hq)
    obtain ⟨k, hk, rfl⟩ := List.mem_map.mp hq
    obtain ⟨hk1, hk2⟩ := List.mem_filter.mp hk
    obtain ⟨hl, i, j, hw⟩ := h.sound q' hq'
    refine ⟨by simp [hl], i, dst bs k, ?_⟩
    unfold goesOn at hk2
    rw [Bool.and_eq_true] at hk2
    have e := of_decide_eq_true hk2.1
    have ej : j = dst bs (lastD q'.1) := by
      have hne : q'.1 ≠ [] := by intro z; rw [z] at hl; simp at hl
      have e2 := List.dropLast_concat_getLast hne
      rw [← e2] at hw
      rw [Wk.dst hw]
      unfold lastD
      rw [List.getLastD_eq_getLast?, List.getLast?_eq_some_getLast hne]
      rfl
    have := Wk.cons (List.mem_range.mp hk1) (.nil (dst bs k))
    rw [Int.add_zero, e, ← ej] at this
    exact hw.app this
  · have hne : ks ≠ [] := by intro z; rw [z] at hl; simp at hl
    have e2 := List.dropLast_concat_getLast hne
    rw [← e2] at hw hn hl ⊢
    generalize ks.dropLast = as at *
    generalize ks.getLast hne = k at *
    obtain ⟨m, x, y, ha, hb, e⟩ := hw.split
    rw [List.length_append] at hl
    have hl : as.length = r + 1 := by simpa using hl
    rw [List.nodup_append] at hn
    have hm := h.full as i m x hl hn.1 ha
    refine hp.mem_iff.mpr (List.mem_flatMap.mpr ⟨_, hm, ?_⟩)
    cases hb with
    | cons hk hb =>
      obtain ⟨_, e0⟩ := hb.nil_inv
      refine List.mem_map.mpr ⟨k, List.mem_filter.mpr ⟨List.mem_range.mpr hk, ?_⟩, by rw [e, e0, Int.add_zero]⟩
      unfold goesOn
      have hne : as ≠ [] := by intro z; rw [z] at hl; simp at hl
      have e3 := List.dropLast_concat_getLast hne
      have : src bs k = dst bs (lastD as) := by
        rw [← e3] at ha
        rw [Wk.dst ha]
        unfold lastD
        rw [List.getLastD_eq_getLast?, List.getLast?_eq_some_getLast hne]
        rfl
      rw [decide_eq_true this, Bool.true_and, Bool.not_eq_true']
      rw [← Bool.not_eq_true]
      intro z
      rw [List.contains_iff_mem] at z
      exact hn.2.2 k z k (by simp) rfl
  · rw [hp.length_eq]
    refine Nat.le_trans (flat_len (freshOf bs) D lev fun q _ => ?_) ?_
    · unfold freshOf
      rw [List.length_map]
      refine Nat.le_trans ?_ (hD (dst bs (lastD q.1)))
      refine List.Sublist.length_le ?_
      have : (List.range bs.length).filter (goesOn bs q.1) = ((List.range bs.length).filter fun k => decide (src bs k = dst bs (lastD q.1))).filter fun k => !q.1.contains k := by
        rw [List.filter_filter]
        congr 1
        funext k
        unfold goesOn
        rw [Bool.and_comm]
      rw [this]
      exact List.filter_sublist
    · rw [Nat.pow_succ, ← Nat.mul_assoc]
      exact Nat.mul_le_mul_right _ h.size
/-- what is given out is a circle -/
theorem bad_sound {bs : List Bd} {D r : Nat} {lev : List Row} (h : Lev bs D r lev) {q : Row} (hq : q ∈ lev) (hb : bad bs q = true) : q.1 ≠ [] ∧ ∃ i, Wk bs i q.1 i q.2 ∧ q.2 < 0 := by
  obtain ⟨hl, i, j, hw⟩ := h.sound q hq
  have hne : q.1 ≠ [] := by intro z; rw [z] at hl; simp at hl
  unfold bad at hb
  rw [Bool.and_eq_true] at hb
  have h1 := of_decide_eq_true hb.1
  have h2 := of_decide_eq_true hb.2
  have ei : i = src bs (q.1.headD 0) := by
    cases hh : q.1 with
    | nil => exact absurd hh hne
    | cons k ks => rw [hh] at hw; exact hw.src
  have ej : j = dst bs (lastD q.1) := by
    have e2 := List.dropLast_concat_getLast hne
    rw [← e2] at hw
    rw [Wk.dst hw]
    unfold lastD
    rw [List.getLastD_eq_getLast?, List.getLast?_eq_some_getLast hne]
    rfl
  have e : i = j := by rw [ei, ej, h1]
  subst e
  exact ⟨hne, i, hw, h2⟩
theorem bad_full {bs : List Bd} {D r : Nat} {lev : List Row} (h : Lev bs D r lev) {i : Nat} {ks : List Nat} {z : Int} (hw : Wk bs i ks i z) (hz : z < 0) (hn : ks.Nodup) (hl : ks.length = r + 1) : ∃ q ∈ lev, bad bs q = true := by
  refine ⟨(ks, z), h.full ks i i z hl hn hw, ?_⟩
  have hne : ks ≠ [] := by intro z; rw [z] at hl; simp at hl
  have ei : i = src bs (ks.headD 0) := by
    cases hh : ks with
    | nil => exact absurd hh hne
    | cons k ks => rw [hh] at hw; exact hw.src
  have ej : i = dst bs (lastD ks) := by
    have e2 := List.dropLast_concat_getLast hne
    rw [← e2] at hw
    rw [Wk.dst hw]
    unfold lastD
    rw [List.getLastD_eq_getLast?, List.getLast?_eq_some_getLast hne]
    rfl
  unfold bad
  rw [Bool.and_eq_true]
  exact ⟨decide_eq_true (by dsimp only; rw [← ei, ← ej]), decide_eq_true hz⟩
/-- what takes_circle asks, one bound with the next one -/
theorem circle_links {bs : List Bd} {i : Nat} {ks : List Nat} {z : Int} (h : Wk bs i ks i z) (hne : ks ≠ []) : ∀ q ∈ ks.zip (ks.drop 1 ++ ks.take 1), dst bs q.1 = src bs q.2 := by
  have main : ∀ (ks : List Nat) (a j e : Nat) (z : Int), Wk bs a ks j z → e < bs.length → j = src bs e → ∀ q ∈ ks.zip (ks.drop 1 ++ [e]), dst bs q.1 = src bs q.2 := by
    intro ks
    induction ks with
    | nil => intro a j e z _ _ _ q hq; cases hq
    | cons k ks ih =>
      intro a j e z hw he hj q hq
      cases hw with
      | cons hk hw =>
        cases ks with
        | nil =>
          obtain ⟨e1, _⟩ := hw.nil_inv
          simp only [List.drop_succ_cons, List.drop_zero, List.nil_append, List.zip_cons_cons, List.zip_nil_left, List.mem_singleton] at hq
          subst hq
          exact e1.trans hj
        | cons k2 ks =>
          simp only [List.drop_succ_cons, List.drop_zero, List.cons_append, List.zip_cons_cons, List.mem_cons] at hq
          rcases hq with rfl | hq
          · exact hw.src
          · refine ih _ _ e _ hw he hj q ?_
            simpa using hq
  cases ks with
  | nil => exact absurd rfl hne
  | cons k ks =>
    have hs := h.src
    have := main (k :: ks) i i k z h (h.lt k List.mem_cons_self) hs
    simpa using this
end K55
namespace K55
theorem cnt_src (bs : List Bd) (v : Nat) : ((List.range bs.length).filter fun k => decide (src bs k = v)).length = (bs.filter fun b => decide (b.1 = v)).length := by
  have e : bs = (List.range bs.length).map fun k => bs.getD k (0, 0, 0) := by
    apply List.ext_getElem
    · simp
    · intro i h1 h2
      simp [List.getD_eq_getElem?_getD, List.getElem?_eq_getElem h1]
  conv => rhs; rw [e]
  rw [List.filter_map, List.length_map]
  rfl
theorem netB_succ (n : Nat) (d : Nat → Int) : netB (n + 1) d = netB n d ++ [(2 * n, 2 * n + 1, d n), (2 * n + 1, 2 * n, -d n)] := by
  unfold netB
  rw [List.range_succ, List.flatMap_append]
  simp
theorem netB_len (n : Nat) (d : Nat → Int) : (netB n d).length = 2 * n := by
  induction n with
  | zero => rfl
  | succ n ih => rw [netB_succ, List.length_append, ih]; simp; omega
theorem netB_cnt (n : Nat) (d : Nat → Int) (v : Nat) : ((netB n d).filter fun b => decide (b.1 = v)).length ≤ 1 ∧ (2 * n ≤ v → ((netB n d).filter fun b => decide (b.1 = v)).length = 0) := by
  induction n with
  | zero => exact ⟨by simp [netB], fun _ => by simp [netB]⟩
  | succ n ih =>
    rw [netB_succ, List.filter_append, List.length_append]
    by_cases h1 : 2 * n = v
    · have := ih.2 (by omega)
      have h2 : ¬ (2 * n + 1 = v) := by omega
      refine ⟨?_, fun h => by omega⟩
      rw [this]
      simp [h1, h2]
    · by_cases h2 : 2 * n + 1 = v
      · have := ih.2 (by omega)
        refine ⟨?_, fun h => by omega⟩
        simp [h1, h2, this]
      · refine ⟨by simpa [h1, h2] using ih.1, fun h => ?_⟩
        have := ih.2 (by omega)
        simp [h1, h2, this]
def evens (n : Nat) : List Nat := (List.range n).map fun k => 2 * k
theorem late_cnt (n : Nat) (L : Nat) (late : Int) (v : Nat) : ((((evens n).map fun s => ((s, L, late) : Bd))).filter fun b => decide (b.1 = v)).length ≤ 1 ∧ (2 * n ≤ v → ((((evens n).map fun s => ((s, L, late) : Bd))).filter fun b => decide (b.1 = v)).length = 0) := by
  unfold evens
  induction n with
  | zero => exact ⟨by simp, fun _ => by simp⟩
  | succ n ih =>
    rw [List.range_succ, List.map_append, List.map_append, List.filter_append, List.length_append]
    by_cases h1 : 2 * n = v
    · have := ih.2 (by omega)
      refine ⟨?_, fun h => by omega⟩
      rw [this]
      simp [h1]
    · refine ⟨by simpa [h1] using ih.1, fun h => ?_⟩
      have := ih.2 (by omega)
      rw [this]
      simp [h1]
def lateNet (n : Nat) (d : Nat → Int) (p : Prs) (L : Nat) (late : Int) : Net := (netOf n d p).late (evens n) (2 * L + 1) late
theorem lateNet_len (n : Nat) (d : Nat → Int) (p : Prs) (L : Nat) (late : Int) : (lateNet n d p L late).bounds.length = 3 * n + p.length := by
  show ((netB n d ++ netP p) ++ (evens n).map _).length = _
  rw [List.length_append, List.length_append, netB_len]
  simp [netP, evens]
  omega
theorem lateNet_D (n : Nat) (d : Nat → Int) (p : Prs) (L : Nat) (late : Int) (v : Nat) : ((List.range (lateNet n d p L late).bounds.length).filter fun k => decide (src (lateNet n d p L late).bounds k = v)).length ≤ 2 + p.length := by
  rw [cnt_src]
  show (((netB n d ++ netP p) ++ (evens n).map _).filter _).length ≤ _
  rw [List.filter_append, List.filter_append, List.length_append, List.length_append]
  have a := (netB_cnt n d v).1
  have b := (late_cnt n (2 * L + 1) late v).1
  have c : ((netP p).filter fun b => decide (b.1 = v)).length ≤ p.length := by
    refine Nat.le_trans (List.length_filter_le _ _) ?_
    simp [netP]
  refine Nat.le_trans (Nat.add_le_add (Nat.add_le_add a c) b) ?_
  omega
theorem lateNet_size {n : Nat} {d : Nat → Int} {p : Prs} {L : Nat} {late : Int} (h1 : 1 ≤ n) (h4 : n ≤ 4) (hl : (lateNet n d p L late).bounds.length < 15) {r : Nat} (hr : r < 2 * n) : (lateNet n d p L late).bounds.length * (2 + p.length) ^ r ≤ 500000 := by
  rw [lateNet_len] at *
  have hD : (2 + p.length) ^ r ≤ (2 + p.length) ^ (2 * n - 1) := Nat.pow_le_pow_right (by omega) (by omega)
  have key : ∀ c, 2 + p.length ≤ c → c ^ (2 * n - 1) ≤ 33614 → (3 * n + p.length) * (2 + p.length) ^ r ≤ 500000 := by
    intro c hc h
    have h2 : (2 + p.length) ^ (2 * n - 1) ≤ c ^ (2 * n - 1) := Nat.pow_le_pow_left hc _
    have h3 : (2 + p.length) ^ r ≤ 33614 := by omega
    refine Nat.le_trans (Nat.mul_le_mul (show 3 * n + p.length ≤ 14 by omega) h3) (by decide)
  have : n = 1 ∨ n = 2 ∨ n = 3 ∨ n = 4 := by omega
  rcases this with rfl | rfl | rfl | rfl
  · exact key 13 (by omega) (by decide)
  · exact key 10 (by omega) (by decide)
  · exact key 7 (by omega) (by decide)
  · exact key 4 (by omega) (by decide)
theorem netOf_ok {n : Nat} {d : Nat → Int} {p : Prs} (h1 : 1 ≤ n) (h4 : n ≤ 4) (hd : ∀ k, k < n → 0 ≤ d k ∧ d k ≤ 99) (hp : ∀ q ∈ p, q.1 < n ∧ q.2 < n) (hl : p.length ≤ 400) : (netOf n d p).ok := by
  refine ⟨⟨by show 1 ≤ 2 * n; omega, by show 2 * n ≤ 8; omega⟩, fun b hb => ?_, ?_⟩
  · show b.1 < 2 * n ∧ b.2.1 < 2 * n ∧ _
    rcases List.mem_append.mp hb with hb | hb
    · obtain ⟨k, hk, hb⟩ := List.mem_flatMap.mp hb
      have hk := List.mem_range.mp hk
      have := hd k hk
      simp only [List.mem_cons, List.not_mem_nil, or_false] at hb
      rcases hb with rfl | rfl <;> (dsimp only; omega)
    · obtain ⟨q, hq, rfl⟩ := List.mem_map.mp hb
      have := hp q hq
      dsimp only; omega
  · show (netB n d ++ netP p).length ≤ 1000
    rw [List.length_append, netB_len]
    simp [netP]; omega
theorem lateNet_ok {n : Nat} {d : Nat → Int} {p : Prs} {L : Nat} {late : Int} (h : (netOf n d p).ok) (hL : L < n) (hl : 0 ≤ late ∧ late ≤ 99) (hp : p.length ≤ 400) : (lateNet n d p L late).ok := by
  refine ⟨h.1, fun b hb => ?_, ?_⟩
  · show b.1 < 2 * n ∧ b.2.1 < 2 * n ∧ _
    rcases List.mem_append.mp hb with hb | hb
    · exact h.2.1 b hb
    · obtain ⟨s, hs, rfl⟩ := List.mem_map.mp hb
      obtain ⟨k, hk, rfl⟩ := List.mem_map.mp hs
      have hk := List.mem_range.mp hk
      dsimp only; omega
  · have h8 : 2 * n ≤ 8 := h.1.2
    rw [lateNet_len]; omega
/-! ### pairs that go round nowhere -/
theorem acyc_names {n : Nat} {names : List Nat} (hn : names.Nodup) (hl : names.length = n) (hb : ∀ x ∈ names, x < n) {p : Prs} (hp : ∀ q ∈ p, ∃ i j, i < j ∧ j < n ∧ names[i]? = some q.1 ∧ names[j]? = some q.2) : Acyc n p := by
  refine ⟨fun k => names.idxOf k, fun q hq => ?_⟩
  obtain ⟨i, j, hij, hj, e1, e2⟩ := hp q hq
  have hi' : i < names.length := by omega
  have hj' : j < names.length := by omega
  rw [List.getElem?_eq_getElem hi'] at e1
  rw [List.getElem?_eq_getElem hj'] at e2
  have f1 := Option.some.inj e1
  have f2 := Option.some.inj e2
  have g1 := hn.idxOf_getElem i hi'
  have g2 := hn.idxOf_getElem j hj'
  rw [f1] at g1
  rw [f2] at g2
  refine ⟨⟨hb _ (f1 ▸ List.getElem_mem hi'), hb _ (f2 ▸ List.getElem_mem hj')⟩, ?_, ?_⟩
  · show names.idxOf q.1 < names.idxOf q.2; omega
  · show names.idxOf q.2 < n; omega
end K55
namespace K55
open PySem PySem.Spec L2 RZ DL DI
local macro_rules
  | `(tactic| l_intsW) => `(tactic| simp -implicitDefEqProofs only [evSs_nil, evSs_cons, evSs_fgt, evS_set, evS_setLc, evS_move, evS_unp, evS_par, evS_ife, evS_for, evS_ret, evS_retV, evS_retN, evS_expr, evS_append, evS_extend, evS_addI, evS_pass, evS_brk, evS_cont, evO_nm, evO_tup, evOs_nil, evOs_cons, evG_nm, evG_tup, evGs_nil, evGs_cons,
  evE_varE, evE_int, evE_bl, evE_non, evE_str, evE_glob, evE_op2, evE_cmp, evE_chain, evE_ix, evE_neg, evE_not, evE_and, evE_or, evE_ife, evE_tup, evE_lst, evE_bi, evE_sl, evC_el, evC_ift, evT_not, evT_and, evT_or, evT_val, evA_nil, evA_cons, evAnd_one, evAnd_cons, evOr_one, evOr_cons, tsAnd_one, tsAnd_cons, tsOr_one, tsOr_cons, evP_no, evP_so, evI_seq, evI_enum,
  gS_z, gS_s, rdS_v, rdS_arg, gL_z, gL_s, gV_z, gV_s, negD_int, notD_bl, trD_bl, trD_none, trD_tuple, trD_list, blD_bl, inD_int, sqD_list, sqD_tuple, lsD_list, Option.bind_some, Option.bind_none, bE_some, bE_none, bT_some, bT_none, bS_nx, bS_rt, bS_bk, bS_ct, bL_nx, bL_ct, bL_bk, bL_rt, guardO_true, guardO_false, iteB_true, iteB_false, List.set_cons_zero, List.set_cons_succ, wipeL, List.map_cons, List.map_nil,
  List.all_cons, List.all_nil, id_eq, Bool.and_self, Bool.and_true, Bool.true_and, List.length_cons, List.length_nil, slOf_int, slOf_bool, imm_int, imm_bool, imm_none, turnC_eq, turnF_eq, cmpD_lt, cmpD_le, cmpD_gt, cmpD_ge, op2D_add, op2D_sub, ixD_t, ixD_l, addG_gl, decide_true, decide_false, Bool.not_true, Bool.not_false, ↓reduceIte, cmpD_is_non, cmpD_isn_non, isNon_int, isNon_none, biD_allM, biD_anyM, biD_len_l, biD_len_t, biD_tuple, List.length_map, cmpD_eq_int, cmpD_ne_int, cmpD_eq_bl, cmpD_ne_bl, cmpD_is_bl, cmpD_isn_bl, biD_max2, biD_min2, nb_nil, nb_cons, isB_v, isB_arg, isB_any, isB_tp, isB_scr, outF_rt, outF_nx, outT_rt, biD_int, biD_abs, dLe0, dLe1, dLe2, dLe3, imm_tuple, immAll_cons, immAll_nil])
  | `(tactic| push_cast [$ls,*]) => `(tactic| simp -implicitDefEqProofs only [evSs_nil, evSs_cons, evSs_fgt, evS_set, evS_setLc, evS_move, evS_unp, evS_par, evS_ife, evS_for, evS_ret, evS_retV, evS_retN, evS_expr, evS_append, evS_extend, evS_addI, evS_pass, evS_brk, evS_cont, evO_nm, evO_tup, evOs_nil, evOs_cons, evG_nm, evG_tup, evGs_nil, evGs_cons,
  evE_varE, evE_int, evE_bl, evE_non, evE_str, evE_glob, evE_op2, evE_cmp, evE_chain, evE_ix, evE_neg, evE_not, evE_and, evE_or, evE_ife, evE_tup, evE_lst, evE_bi, evE_sl, evC_el, evC_ift, evT_not, evT_and, evT_or, evT_val, evA_nil, evA_cons, evAnd_one, evAnd_cons, evOr_one, evOr_cons, tsAnd_one, tsAnd_cons, tsOr_one, tsOr_cons, evP_no, evP_so, evI_seq, evI_enum,
  gS_z, gS_s, rdS_v, rdS_arg, gL_z, gL_s, gV_z, gV_s, negD_int, notD_bl, trD_bl, trD_none, trD_tuple, trD_list, blD_bl, inD_int, sqD_list, sqD_tuple, lsD_list, Option.bind_some, Option.bind_none, bE_some, bE_none, bT_some, bT_none, bS_nx, bS_rt, bS_bk, bS_ct, bL_nx, bL_ct, bL_bk, bL_rt, guardO_true, guardO_false, iteB_true, iteB_false, List.set_cons_zero, List.set_cons_succ, wipeL, List.map_cons, List.map_nil,
  List.all_cons, List.all_nil, id_eq, Bool.and_self, Bool.and_true, Bool.true_and, List.length_cons, List.length_nil, slOf_int, slOf_bool, imm_int, imm_bool, imm_none, turnC_eq, turnF_eq, cmpD_lt, cmpD_le, cmpD_gt, cmpD_ge, op2D_add, op2D_sub, ixD_t, ixD_l, addG_gl, decide_true, decide_false, Bool.not_true, Bool.not_false, ↓reduceIte, cmpD_is_non, cmpD_isn_non, isNon_int, isNon_none, biD_allM, biD_anyM, biD_len_l, biD_len_t, biD_tuple, List.length_map, cmpD_eq_int, cmpD_ne_int, cmpD_eq_bl, cmpD_ne_bl, cmpD_is_bl, cmpD_isn_bl, biD_max2, biD_min2, nb_nil, nb_cons, isB_v, isB_arg, isB_any, isB_tp, isB_scr, outF_rt, outF_nx, outT_rt, biD_int, biD_abs, dLe0, dLe1, dLe2, dLe3, imm_tuple, immAll_cons, immAll_nil, $ls,*])

def encB (b : Bd) : D := .tuple [.int (b.1 : Int), .int (b.2.1 : Int), .int b.2.2]
def encN (n : Net) : D := .tuple [.int (n.many : Int), .tuple (n.bounds.map encB)]
@[simp] theorem imm_encB (b : Bd) : imm (encB b) = true := rfl
@[simp] theorem immAll_encB (bs : List Bd) : immAll (bs.map encB) = true := by simp
@[simp] theorem imm_encN (n : Net) : imm (encN n) = true := by simp [encN, imm, immAll]
theorem f_check_net (n : Net) (h : n.ok) : r_check_net [encN n] = some .none := by
  obtain ⟨⟨h0, h1⟩, h2, h3⟩ := h
  have h0 : (1 : Int) ≤ (n.many : Int) := by omega
  have h1 : (n.many : Int) ≤ 8 := by omega
  refine (runF_eq [.arg (encN n), .any, .any, .any, .any, .any, .any] rfl rfl).trans ?_
  unfold b_check_net
  l_intsW
  simp only [imm_encN, iteB_true]
  unfold encN
  l_intsW
  rw [evLc_map (τ1 := .none) (o := true) encB (fun _ => .bool true) n.bounds (by l_intsW; simp [imm]) (by omega) fun b hb => by
    obtain ⟨a2, b2, c1, c2⟩ := h2 b hb
    have a1 : (0 : Int) ≤ (b.1 : Int) := by omega
    have b1 : (0 : Int) ≤ (b.2.1 : Int) := by omega
    have a2 : (b.1 : Int) < (n.many : Int) := by omega
    have b2 : (b.2.1 : Int) < (n.many : Int) := by omega
    unfold encB
    l_intsW
    simp only [a1, a2, b1, b2, c1, c2, decide_true]
    l_intsW]
  l_intsW
  simp only [h0, h1, decide_true]
  l_intsW
  have e : (n.bounds.all fun _ => true) = true := by simp
  rw [e]
  l_intsW
/-! ### matrices -/
def encO : Option Int → D
  | none => .none
  | some z => .int z
@[simp] theorem imm_encO (o : Option Int) : imm (encO o) = true := by cases o <;> rfl
def encR (m : Nat) (g : Nat → Option Int) : D := .list ((List.range m).map fun j => encO (g j))
def encF (m : Nat) (f : Mx) : D := .list ((List.range m).map fun i => encR m (f i))
theorem encF_ix {m i : Nat} (f : Mx) (h : i < m) : ixD (encF m f) (.int (i : Int)) = some (encR m (f i)) := atI_range (fun i => encR m (f i)) h
theorem encR_ix {m i : Nat} (g : Nat → Option Int) (h : i < m) : ixD (encR m g) (.int (i : Int)) = some (encO (g i)) := atI_range (fun i => encO (g i)) h
theorem encF_put {m i j : Nat} (f : Mx) (z : Int) (hi : i < m) (hj : j < m) : PyData.list (((List.range m).map fun i => encR m (f i)).set i (.list (((List.range m).map fun j => encO (f i j)).set j (.int z)))) = encF m (f.put i j z) := by
  rw [range_set _ _ hj, range_set _ _ hi]
  unfold encF
  congr 1
  apply List.map_congr_left
  intro i' _
  unfold Mx.put
  by_cases e : i' = i
  · subst e
    rw [if_pos rfl]
    unfold encR
    congr 1
    apply List.map_congr_left
    intro j' _
    by_cases e2 : j' = j
    · subst e2; simp [encO]
    · simp [e2]
  · rw [if_neg e]
    unfold encR
    congr 1
    apply List.map_congr_left
    intro j' _
    simp [e]
theorem evS_put2F {C : FT} {ρ : List Sl} {τ : D} {i m a b : Nat} {f : Mx} {sa : Option Addr} {k mm e : IE} {z : Int} {o o1 o2 : Bool} (hρ : gV ρ i = some (encF m f, sa)) (he : evE C ρ e τ = some (τ, .int z, o)) (hk : evE C ρ k τ = some (τ, .int (a : Int), o1)) (hm : evE C ρ mm τ = some (τ, .int (b : Int), o2))
    (ha : a < m) (hb : b < m) (hn : nb? ρ = true) : evS C (.put2 i k mm e) ρ τ = some (.nx (ρ.set i (.v (encF m (f.put a b z)) sa)) τ) := by
  have hL : gL ρ i = some ((List.range m).map fun i => encR m (f i), sa) := by
    unfold gV at hρ
    unfold gL
    split at hρ
    · rename_i d sb e1
      cases hρ
      rw [e1]; rfl
    · cases hρ
  rw [evS_put2, hL]
  simp only [Option.bind_some, he, bE_some, hk, inD_int, List.length_map, List.length_range, ixN_nat ha, range_get _ ha]
  show bE (evE C ρ mm τ) _ = _
  rw [hm]
  simp only [bE_some, inD_int, Option.bind_some, List.length_map, List.length_range, ixN_nat hb, imm_int, hn, Bool.and_self, guardO_true]
  have := encF_put f z ha hb
  rw [← this]
def E1 (n : Net) (f : Mx) : List Sl := [.arg (encN n), .v (.int (n.many : Int)), .v (.tuple (n.bounds.map encB)), .v (encF n.many f), .any, .any, .any, .any, .any, .any, .any, .any]
theorem turn_bounds (n : Net) (h : n.ok) (f : Mx) (b : Bd) (hb : b ∈ n.bounds) (τ : D) : turnF C_1 (.tup (.cons (.nm 4) (.cons (.nm 5) (.cons (.nm 6) .nil)))) b_closed_of_1 (encB b) (E1 n f) τ = some (.nx (E1 n (st1 f b)) τ) := by
  obtain ⟨_, h2, _⟩ := h
  obtain ⟨a2, b2, c1, c2⟩ := h2 b hb
  unfold encB E1 b_closed_of_1
  l_intsW
  simp only [encF_ix f a2, Option.bind_some, encR_ix (f b.1) b2, bE_some]
  unfold st1
  cases e : f b.1 b.2.1 with
  | none =>
    simp only [encO]
    l_intsW
    rw [evS_put2F (sa := none) (a := b.1) (b := b.2.1) (m := n.many) (f := f) (z := b.2.2) rfl (by l_intsW; rfl) (by l_intsW; rfl) (by l_intsW; rfl) a2 b2 rfl]
    l_intsW
  | some z =>
    simp only [encO]
    l_intsW
    by_cases c : b.2.2 < z
    · simp only [c, decide_true, if_true]
      l_intsW
      rw [evS_put2F (sa := none) (a := b.1) (b := b.2.1) (m := n.many) (f := f) (z := b.2.2) rfl (by l_intsW; rfl) (by l_intsW; rfl) (by l_intsW; rfl) a2 b2 rfl]
      l_intsW
    · simp only [c, decide_false, if_false]
      l_intsW
def E2 (n : Net) (f : Mx) (k i : Nat) : List Sl := [.arg (encN n), .v (.int (n.many : Int)), .v (.tuple (n.bounds.map encB)), .v (encF n.many f), .any, .any, .any, .v (.int (k : Int)), .v (.int (i : Int)), .any, .any, .any]
theorem turn_j (n : Net) (f : Mx) {k i j : Nat} (hk : k < n.many) (hi : i < n.many) (hj : j < n.many) (τ : D) : turnF C_1 (.nm 9) b_closed_of_2 (.int (j : Int)) (E2 n f k i) τ = some (.nx (E2 n (st2 k i f j) k i) τ) := by
  unfold E2 b_closed_of_2
  push_cast [encF_ix f hi, encF_ix f hk, encR_ix (f i) hk, encR_ix (f k) hj, encR_ix (f i) hj]
  unfold st2
  cases e1 : f i k with
  | none => push_cast [encO]
  | some x =>
    cases e2 : f k j with
    | none => push_cast [encO]
    | some y =>
      push_cast [encO, encF_ix f hi, encF_ix f hk, encR_ix (f i) hk, encR_ix (f k) hj, encR_ix (f i) hj]
      cases e3 : f i j with
      | none =>
        push_cast [encO]
        rw [evS_put2F (sa := none) (a := i) (b := j) (m := n.many) (f := f) (z := x + y) rfl (by l_intsW; rfl) (by l_intsW; rfl) (by l_intsW; rfl) hi hj rfl]
        l_intsW
      | some z =>
        push_cast [encO]
        by_cases c : x + y < z
        · push_cast [c, if_true]
          rw [evS_put2F (sa := none) (a := i) (b := j) (m := n.many) (f := f) (z := x + y) rfl (by l_intsW; rfl) (by l_intsW; rfl) (by l_intsW; rfl) hi hj rfl]
          l_intsW
        · push_cast [c, if_false]
def E3 (n : Net) (f : Mx) (k : Nat) : List Sl := [.arg (encN n), .v (.int (n.many : Int)), .v (.tuple (n.bounds.map encB)), .v (encF n.many f), .any, .any, .any, .v (.int (k : Int)), .any, .any, .any, .any]
theorem turn_i (n : Net) (h : n.ok) (f : Mx) {k i : Nat} (hk : k < n.many) (hi : i < n.many) (τ : D) : turnF C_1 (.nm 8) b_closed_of_3 (.int (i : Int)) (E3 n f k) τ = some (.nx (E3 n ((List.range n.many).foldl (st2 k i) f) k) τ) := by
  obtain ⟨⟨h0, h1⟩, _⟩ := h
  unfold E3 b_closed_of_3
  l_intsW
  rw [evI_rngN n.many (by l_intsW; rfl) (by omega)]
  l_intsW
  have := evFor_all (turn := turnF C_1 (.nm 9) b_closed_of_2) (enc := fun j : Nat => .int (j : Int)) (E := fun f => E2 n f k i) (τ := τ) (f := st2 k i) (xs := List.range n.many) (s := f) fun s j hj => turn_j n s hk hi (List.mem_range.mp hj) τ
  unfold E2 at this
  rw [this]
  l_intsW
theorem turn_k (n : Net) (h : n.ok) (f : Mx) {k : Nat} (hk : k < n.many) (τ : D) : turnF C_1 (.nm 7) b_closed_of_4 (.int (k : Int)) (E1 n f) τ = some (.nx (E1 n ((List.range n.many).foldl (fun f i => (List.range n.many).foldl (st2 k i) f) f)) τ) := by
  have h' := h
  obtain ⟨⟨h0, h1⟩, _⟩ := h
  unfold E1 b_closed_of_4
  l_intsW
  rw [evI_rngN n.many (by l_intsW; rfl) (by omega)]
  l_intsW
  have := evFor_all (turn := turnF C_1 (.nm 8) b_closed_of_3) (enc := fun j : Nat => .int (j : Int)) (E := fun f => E3 n f k) (τ := τ) (f := fun f i => (List.range n.many).foldl (st2 k i) f) (xs := List.range n.many) (s := f) fun s j hj => turn_i n h' s hk (List.mem_range.mp hj) τ
  unfold E3 at this
  rw [this]
  l_intsW
/-- a closed matrix, as it is given out -/
def encT (m : Nat) (f : Mx) : D := .tuple ((List.range m).map fun i => .tuple ((List.range m).map fun j => encO (f i j)))
theorem imm_encT (m : Nat) (f : Mx) : imm (encT m f) = true := immAll_mapE fun i _ => immAll_mapE fun j _ => imm_encO _
theorem f_closed_of (n : Net) (h : n.ok) : r_closed_of [encN n] = some (encT n.many (closeF n)) := by
  have h' := h
  obtain ⟨⟨h0, h1⟩, h2, h3⟩ := h
  refine (runF_eq [.arg (encN n), .any, .any, .any, .any, .any, .any, .any, .any, .any, .any, .any] rfl rfl).trans ?_
  unfold b_closed_of
  l_intsW
  simp only [imm_encN, iteB_true]
  have e1 : encN n = .tuple [.int (n.many : Int), .tuple (n.bounds.map encB)] := rfl
  rw [e1]
  l_intsW
  have inner : ∀ i : Nat, i ∈ List.range n.many → turnC C_1 [.arg (.tuple [.int (n.many : Int), .tuple (n.bounds.map encB)]), .v (.int (n.many : Int)), .v (.tuple (n.bounds.map encB)), .any, .any, .any, .any, .any, .any, .any, .any, .any] [("i", 8)] (.nm 8) (.el (.lc [("j", 9)] (.el (.ife (.val (.cmp .eq (.var 8) (.var 9))) (.int 0) .non)) (.nm 9) (.rng1 (.var 1)))) (.int (i : Int)) .none = some (.none, some (encR n.many (init i))) := by
    intro i _
    l_intsW
    rw [evLc_map (τ1 := .none) (o := true) (fun j : Nat => .int (j : Int)) (fun j => encO (init i j)) (List.range n.many) (evI_rngN n.many (by l_intsW; rfl) (by omega)) (by rw [List.length_range]; omega) fun j hj => by
      l_intsW
      unfold init
      by_cases c : i = j
      · subst c
        simp only [decide_true, if_true]
        l_intsW
        rfl
      · have c' : ¬ ((i : Int) = (j : Int)) := by omega
        simp only [c, c', decide_false, if_false]
        l_intsW
        rfl]
    l_intsW
    rfl
  rw [evLc_map (τ1 := .none) (o := true) (fun i : Nat => .int (i : Int)) (fun i => encR n.many (init i)) (List.range n.many) (evI_rngN n.many (by l_intsW; rfl) (by omega)) (by rw [List.length_range]; omega) inner]
  l_intsW
  have hb := evFor_all (turn := turnF C_1 (.tup (.cons (.nm 4) (.cons (.nm 5) (.cons (.nm 6) .nil)))) b_closed_of_1) (enc := encB) (E := E1 n) (τ := .none) (f := st1) (xs := n.bounds) (s := init) fun s b hb => turn_bounds n h' s b hb _
  have hk := evFor_all (turn := turnF C_1 (.nm 7) b_closed_of_4) (enc := fun j : Nat => .int (j : Int)) (E := E1 n) (τ := .none) (f := fun f k => rnd n.many k f) (xs := List.range n.many) (s := n.bounds.foldl st1 init) fun s k hk => turn_k n h' s (List.mem_range.mp hk) _
  unfold E1 at hb hk
  rw [e1] at hb hk
  unfold encF at hb hk
  rw [hb]
  push_cast [immAll_encB]
  rw [evI_rngN n.many (by l_intsW; rfl) (by omega)]
  l_intsW
  rw [hk]
  l_intsW
  rw [evLc_map (τ1 := .none) (o := false) (fun i : Nat => encR n.many (closeF n i)) (fun i => .tuple ((List.range n.many).map fun j => encO (closeF n i j))) (List.range n.many) (by l_intsW; rfl) (by rw [List.length_range]; omega) fun i hi => by
    have im : immAll ((List.range n.many).map fun j => encO (closeF n i j)) = true := immAll_mapE fun j _ => imm_encO _
    unfold encR
    push_cast [slOf]
    simp only [imm, Bool.false_eq_true, if_false]
    push_cast [rdS_bor, biD_tuple im]]
  have im : immAll ((List.range n.many).map fun i => PyData.tuple ((List.range n.many).map fun j => encO (closeF n i j))) = true := immAll_mapE fun i _ => immAll_mapE fun j _ => imm_encO _
  push_cast [biD_tuple im]
  rfl
end K55
namespace K55
open PySem PySem.Spec L2 RZ DL DI
local macro_rules
  | `(tactic| l_intsW) => `(tactic| simp -implicitDefEqProofs only [evSs_nil, evSs_cons, evSs_fgt, evS_set, evS_setLc, evS_move, evS_unp, evS_par, evS_ife, evS_for, evS_ret, evS_retV, evS_retN, evS_expr, evS_append, evS_extend, evS_addI, evS_pass, evS_brk, evS_cont, evO_nm, evO_tup, evOs_nil, evOs_cons, evG_nm, evG_tup, evGs_nil, evGs_cons,
  evE_varE, evE_int, evE_bl, evE_non, evE_str, evE_glob, evE_op2, evE_cmp, evE_chain, evE_ix, evE_neg, evE_not, evE_and, evE_or, evE_ife, evE_tup, evE_lst, evE_bi, evE_sl, evC_el, evC_ift, evT_not, evT_and, evT_or, evT_val, evA_nil, evA_cons, evAnd_one, evAnd_cons, evOr_one, evOr_cons, tsAnd_one, tsAnd_cons, tsOr_one, tsOr_cons, evP_no, evP_so, evI_seq, evI_enum,
  gS_z, gS_s, rdS_v, rdS_arg, gL_z, gL_s, gV_z, gV_s, negD_int, notD_bl, trD_bl, trD_none, trD_tuple, trD_list, blD_bl, inD_int, sqD_list, sqD_tuple, lsD_list, Option.bind_some, Option.bind_none, bE_some, bE_none, bT_some, bT_none, bS_nx, bS_rt, bS_bk, bS_ct, bL_nx, bL_ct, bL_bk, bL_rt, guardO_true, guardO_false, iteB_true, iteB_false, List.set_cons_zero, List.set_cons_succ, wipeL, List.map_cons, List.map_nil,
  List.all_cons, List.all_nil, id_eq, Bool.and_self, Bool.and_true, Bool.true_and, List.length_cons, List.length_nil, slOf_int, slOf_bool, imm_int, imm_bool, imm_none, turnC_eq, turnF_eq, cmpD_lt, cmpD_le, cmpD_gt, cmpD_ge, op2D_add, op2D_sub, ixD_t, ixD_l, addG_gl, decide_true, decide_false, Bool.not_true, Bool.not_false, ↓reduceIte, cmpD_is_non, cmpD_isn_non, isNon_int, isNon_none, biD_allM, biD_anyM, biD_len_l, biD_len_t, biD_tuple, List.length_map, cmpD_eq_int, cmpD_ne_int, cmpD_eq_bl, cmpD_ne_bl, cmpD_is_bl, cmpD_isn_bl, biD_max2, biD_min2, nb_nil, nb_cons, isB_v, isB_arg, isB_any, isB_tp, isB_scr, outF_rt, outF_nx, outT_rt, biD_int, biD_abs, dLe0, dLe1, dLe2, dLe3, imm_tuple, immAll_cons, immAll_nil])
  | `(tactic| push_cast [$ls,*]) => `(tactic| simp -implicitDefEqProofs only [evSs_nil, evSs_cons, evSs_fgt, evS_set, evS_setLc, evS_move, evS_unp, evS_par, evS_ife, evS_for, evS_ret, evS_retV, evS_retN, evS_expr, evS_append, evS_extend, evS_addI, evS_pass, evS_brk, evS_cont, evO_nm, evO_tup, evOs_nil, evOs_cons, evG_nm, evG_tup, evGs_nil, evGs_cons,
  evE_varE, evE_int, evE_bl, evE_non, evE_str, evE_glob, evE_op2, evE_cmp, evE_chain, evE_ix, evE_neg, evE_not, evE_and, evE_or, evE_ife, evE_tup, evE_lst, evE_bi, evE_sl, evC_el, evC_ift, evT_not, evT_and, evT_or, evT_val, evA_nil, evA_cons, evAnd_one, evAnd_cons, evOr_one, evOr_cons, tsAnd_one, tsAnd_cons, tsOr_one, tsOr_cons, evP_no, evP_so, evI_seq, evI_enum,
  gS_z, gS_s, rdS_v, rdS_arg, gL_z, gL_s, gV_z, gV_s, negD_int, notD_bl, trD_bl, trD_none, trD_tuple, trD_list, blD_bl, inD_int, sqD_list, sqD_tuple, lsD_list, Option.bind_some, Option.bind_none, bE_some, bE_none, bT_some, bT_none, bS_nx, bS_rt, bS_bk, bS_ct, bL_nx, bL_ct, bL_bk, bL_rt, guardO_true, guardO_false, iteB_true, iteB_false, List.set_cons_zero, List.set_cons_succ, wipeL, List.map_cons, List.map_nil,
  List.all_cons, List.all_nil, id_eq, Bool.and_self, Bool.and_true, Bool.true_and, List.length_cons, List.length_nil, slOf_int, slOf_bool, imm_int, imm_bool, imm_none, turnC_eq, turnF_eq, cmpD_lt, cmpD_le, cmpD_gt, cmpD_ge, op2D_add, op2D_sub, ixD_t, ixD_l, addG_gl, decide_true, decide_false, Bool.not_true, Bool.not_false, ↓reduceIte, cmpD_is_non, cmpD_isn_non, isNon_int, isNon_none, biD_allM, biD_anyM, biD_len_l, biD_len_t, biD_tuple, List.length_map, cmpD_eq_int, cmpD_ne_int, cmpD_eq_bl, cmpD_ne_bl, cmpD_is_bl, cmpD_isn_bl, biD_max2, biD_min2, nb_nil, nb_cons, isB_v, isB_arg, isB_any, isB_tp, isB_scr, outF_rt, outF_nx, outT_rt, biD_int, biD_abs, dLe0, dLe1, dLe2, dLe3, imm_tuple, immAll_cons, immAll_nil, $ls,*])

theorem encN_0 (n : Net) : ixD (encN n) (.int 0) = some (.int (n.many : Int)) := rfl
theorem encN_1 (n : Net) : ixD (encN n) (.int 1) = some (.tuple (n.bounds.map encB)) := rfl
theorem f_closed_net (n : Net) (h : n.ok) : r_closed_net [encN n] = some (encT n.many (closeF n)) := by
  refine (runF_eq [.arg (encN n)] rfl rfl).trans ?_
  unfold b_closed_net
  push_cast [evE_call, c2_check_net, c2_closed_of, f_check_net n h, f_closed_of n h]
def encTr (m : Nat) (g : Nat → Option Int) : D := .tuple ((List.range m).map fun j => encO (g j))
theorem encT_ix {m i : Nat} (f : Mx) (h : i < m) : ixD (encT m f) (.int (i : Int)) = some (encTr m (f i)) := atI_range (fun i => encTr m (f i)) h
theorem encTr_ix {m i : Nat} (g : Nat → Option Int) (h : i < m) : ixD (encTr m g) (.int (i : Int)) = some (encO (g i)) := atI_range (fun i => encO (g i)) h
def dg (n : Net) (k : Nat) : Int := (closeF n k k).getD 0
theorem dg_eq (n : Net) (k : Nat) : closeF n k k = some (dg n k) := by
  obtain ⟨z, e, _⟩ := FK_diag n n.many k
  unfold dg
  show FwK n n.many k k = some ((FwK n n.many k k).getD 0)
  rw [e]; rfl
def fitsB (n : Net) : Bool := (List.range n.many).all fun k => decide (0 ≤ dg n k)
theorem fitsB_iff (n : Net) : fitsB n = true ↔ Fits n := by
  unfold fitsB Fits
  rw [List.all_eq_true]
  constructor
  · intro h k hk z e
    have := of_decide_eq_true (h k (List.mem_range.mpr hk))
    rw [dg_eq] at e
    cases e
    exact this
  · intro h k hk
    exact decide_eq_true (h k (List.mem_range.mp hk) _ (dg_eq n k))
theorem f_fits (n : Net) (h : n.ok) : r_fits [encN n] = some (.bool (fitsB n)) := by
  have h8 := h.1.2
  refine (runF_eq [.arg (encN n), .any, .any] rfl rfl).trans ?_
  unfold b_fits
  push_cast [evE_call, c3_closed_net, f_closed_net n h]
  rw [evLc_map (τ1 := .none) (o := true) (fun k : Nat => .int (k : Int)) (fun k => .bool (decide (0 ≤ dg n k))) (List.range n.many) (evI_rngN n.many (by push_cast [encN_0]; rfl) (by omega)) (by rw [List.length_range]; omega) fun k hk => by
    have hk := List.mem_range.mp hk
    push_cast [encT_ix _ hk, encTr_ix _ hk, dg_eq, encO]]
  push_cast []
  rfl
theorem f_check (n : Net) (h : n.ok) : r_check_net [encN n] = some .none := f_check_net n h
def earl (n : Net) (k : Nat) : Int := maxL (0 :: ((List.range n.many).filter fun j => (closeF n k j).isSome).map fun j => -((closeF n k j).getD 0))
theorem earl_is (n : Net) (k : Nat) : IsEarly n k (earl n k) := by
  refine ⟨maxL_ge List.mem_cons_self, fun j hj z e => maxL_ge (List.mem_cons_of_mem _ (List.mem_map.mpr ⟨j, List.mem_filter.mpr ⟨List.mem_range.mpr hj, by rw [e]; rfl⟩, by rw [e]; rfl⟩)), ?_⟩
  have := maxL_mem (xs := 0 :: ((List.range n.many).filter fun j => (closeF n k j).isSome).map fun j => -((closeF n k j).getD 0)) (by simp)
  rcases List.mem_cons.mp this with h | h
  · exact .inl h
  · right
    obtain ⟨j, hj, e⟩ := List.mem_map.mp h
    obtain ⟨hj, hs⟩ := List.mem_filter.mp hj
    refine ⟨j, List.mem_range.mp hj, ?_⟩
    have e : -((closeF n k j).getD 0) = earl n k := e
    rw [← e, Int.neg_neg]
    cases c : closeF n k j with
    | none => rw [c] at hs; cases hs
    | some z => rfl
theorem earl_least {n : Net} (hok : n.ok) (h : Fits n) : Least n (earl n) := early_least hok h fun k _ => earl_is n k
theorem encO_some (o : Option Int) (h : o.isSome = true) : encO o = .int (o.getD 0) := by
  cases o with
  | none => cases h
  | some z => rfl
theorem isNon_encO (o : Option Int) : DL.isNon (encO o) = !o.isSome := by cases o <;> rfl
theorem f_earliest_of (n : Net) (h : n.ok) (hf : Fits n) : r_earliest_of [encN n] = some (encV n.many (earl n)) := by
  have h8 := h.1.2
  refine (runF_eq [.arg (encN n), .any, .any, .any] rfl rfl).trans ?_
  unfold b_earliest_of
  push_cast [evE_call, c6_closed_of, f_closed_of n h]
  rw [evLc_map (τ1 := .none) (o := true) (fun k : Nat => .int (k : Int)) (fun k => .bool (decide (dg n k < 0))) (List.range n.many) (evI_rngN n.many (by push_cast [encN_0]; rfl) (by omega)) (by rw [List.length_range]; omega) fun k hk => by
    have hk := List.mem_range.mp hk
    push_cast [encT_ix _ hk, encTr_ix _ hk, dg_eq, encO]]
  have hn : ((List.range n.many).any fun k => decide (dg n k < 0)) = false := by
    rw [List.any_eq_false]
    intro k hk
    have := hf k (List.mem_range.mp hk) _ (dg_eq n k)
    simp; omega
  push_cast [hn]
  rw [evLc_map (τ1 := .none) (o := true) (fun k : Nat => .int (k : Int)) (fun k => .int (earl n k)) (List.range n.many) (evI_rngN n.many (by push_cast [encN_0]; rfl) (by omega)) (by rw [List.length_range]; omega) fun k hk => by
    have hk := List.mem_range.mp hk
    push_cast []
    rw [evLc_filter (τ1 := .none) (o := true) (fun k : Nat => .int (k : Int)) (fun j => (closeF n k j).isSome) (fun j => .int (-((closeF n k j).getD 0))) (List.range n.many) (evI_rngN n.many (by push_cast [encN_0]; rfl) (by omega)) (by rw [List.length_range]; omega) fun j hj => by
      have hj := List.mem_range.mp hj
      push_cast [encT_ix _ hk, encTr_ix _ hj, isNon_encO]
      cases c : (closeF n k j).isSome with
      | false => push_cast [Bool.false_eq_true, if_false]
      | true => push_cast [encO_some _ c, encT_ix _ hk, encTr_ix _ hj, if_true]]
    have hlen : (0 : Nat) + 1 + (((List.range n.many).filter fun j => (closeF n k j).isSome).map fun j => PyData.int (-((closeF n k j).getD 0))).length ≤ 1000000 := by
      rw [List.length_map]
      have := List.length_filter_le (fun j => (closeF n k j).isSome) (List.range n.many)
      rw [List.length_range] at this
      omega
    push_cast [op2D_addL [.int 0] _ rfl (immAll_ints (fun j => -((closeF n k j).getD 0)) _) hlen]
    have e : (PyData.int 0 :: ((List.range n.many).filter fun j => (closeF n k j).isSome).map fun j => PyData.int (-((closeF n k j).getD 0))) = ((0 : Int) :: ((List.range n.many).filter fun j => (closeF n k j).isSome).map fun j => -((closeF n k j).getD 0)).map fun z => .int z := by
      rw [List.map_cons, List.map_map]; rfl
    rw [List.singleton_append, e, biD_max1M (fun z => z) _ (by simp)]
    push_cast [List.map_id']
    rfl]
  push_cast [biD_tuple (immAll_ints (earl n) _)]
  rfl
theorem f_earliest (n : Net) (h : n.ok) (hf : Fits n) : r_earliest [encN n] = some (encV n.many (earl n)) := by
  refine (runF_eq [.arg (encN n)] rfl rfl).trans ?_
  unfold b_earliest
  push_cast [evE_call, c7_check_net, c7_earliest_of, f_check_net n h, f_earliest_of n h hf]
theorem encO_n : encO none = .none := rfl
theorem encO_s (z : Int) : encO (some z) = .int z := rfl
def negO (o : Option Int) : Option Int := o.map fun z => -z
theorem f_range_of (n : Net) (h : n.ok) (hf : Fits n) {i j : Nat} (hi : i < n.many) (hj : j < n.many) : r_range_of [encN n, .int (i : Int), .int (j : Int)] = some (.tuple [encO (negO (closeF n i j)), encO (closeF n j i)]) := by
  refine (runF_eq [.arg (encN n), .arg (.int (i : Int)), .arg (.int (j : Int)), .any, .any] rfl rfl).trans ?_
  unfold b_range_of
  push_cast [evE_call, c8_fits, c8_closed_net, f_fits n h, f_closed_net n h, (fitsB_iff n).mpr hf, encT_ix _ hi, encT_ix _ hj, encTr_ix (closeF n i) hj, encTr_ix (closeF n j) hi, isNon_encO]
  cases c : closeF n i j with
  | none =>
    push_cast [encO_n, Option.isSome_none, imm_encO, encT_ix _ hi, encTr_ix (closeF n i) hj, c, isNon_encO]
    rfl
  | some z =>
    push_cast [encO_s, Option.isSome_some, imm_encO, encT_ix _ hi, encTr_ix (closeF n i) hj, c, isNon_encO]
    rfl
end K55
namespace K55
open PySem PySem.Spec L2 RZ DL DI
local macro_rules
  | `(tactic| l_intsW) => `(tactic| simp -implicitDefEqProofs only [evSs_nil, evSs_cons, evSs_fgt, evS_set, evS_setLc, evS_move, evS_unp, evS_par, evS_ife, evS_for, evS_ret, evS_retV, evS_retN, evS_expr, evS_append, evS_extend, evS_addI, evS_pass, evS_brk, evS_cont, evO_nm, evO_tup, evOs_nil, evOs_cons, evG_nm, evG_tup, evGs_nil, evGs_cons,
  evE_varE, evE_int, evE_bl, evE_non, evE_str, evE_glob, evE_op2, evE_cmp, evE_chain, evE_ix, evE_neg, evE_not, evE_and, evE_or, evE_ife, evE_tup, evE_lst, evE_bi, evE_sl, evC_el, evC_ift, evT_not, evT_and, evT_or, evT_val, evA_nil, evA_cons, evAnd_one, evAnd_cons, evOr_one, evOr_cons, tsAnd_one, tsAnd_cons, tsOr_one, tsOr_cons, evP_no, evP_so, evI_seq, evI_enum,
  gS_z, gS_s, rdS_v, rdS_arg, gL_z, gL_s, gV_z, gV_s, negD_int, notD_bl, trD_bl, trD_none, trD_tuple, trD_list, blD_bl, inD_int, sqD_list, sqD_tuple, lsD_list, Option.bind_some, Option.bind_none, bE_some, bE_none, bT_some, bT_none, bS_nx, bS_rt, bS_bk, bS_ct, bL_nx, bL_ct, bL_bk, bL_rt, guardO_true, guardO_false, iteB_true, iteB_false, List.set_cons_zero, List.set_cons_succ, wipeL, List.map_cons, List.map_nil,
  List.all_cons, List.all_nil, id_eq, Bool.and_self, Bool.and_true, Bool.true_and, List.length_cons, List.length_nil, slOf_int, slOf_bool, imm_int, imm_bool, imm_none, turnC_eq, turnF_eq, cmpD_lt, cmpD_le, cmpD_gt, cmpD_ge, op2D_add, op2D_sub, ixD_t, ixD_l, addG_gl, decide_true, decide_false, Bool.not_true, Bool.not_false, ↓reduceIte, cmpD_is_non, cmpD_isn_non, isNon_int, isNon_none, biD_allM, biD_anyM, biD_len_l, biD_len_t, biD_tuple, List.length_map, cmpD_eq_int, cmpD_ne_int, cmpD_eq_bl, cmpD_ne_bl, cmpD_is_bl, cmpD_isn_bl, biD_max2, biD_min2, nb_nil, nb_cons, isB_v, isB_arg, isB_any, isB_tp, isB_scr, outF_rt, outF_nx, outT_rt, biD_int, biD_abs, dLe0, dLe1, dLe2, dLe3, imm_tuple, immAll_cons, immAll_nil])
  | `(tactic| push_cast [$ls,*]) => `(tactic| simp -implicitDefEqProofs only [evSs_nil, evSs_cons, evSs_fgt, evS_set, evS_setLc, evS_move, evS_unp, evS_par, evS_ife, evS_for, evS_ret, evS_retV, evS_retN, evS_expr, evS_append, evS_extend, evS_addI, evS_pass, evS_brk, evS_cont, evO_nm, evO_tup, evOs_nil, evOs_cons, evG_nm, evG_tup, evGs_nil, evGs_cons,
  evE_varE, evE_int, evE_bl, evE_non, evE_str, evE_glob, evE_op2, evE_cmp, evE_chain, evE_ix, evE_neg, evE_not, evE_and, evE_or, evE_ife, evE_tup, evE_lst, evE_bi, evE_sl, evC_el, evC_ift, evT_not, evT_and, evT_or, evT_val, evA_nil, evA_cons, evAnd_one, evAnd_cons, evOr_one, evOr_cons, tsAnd_one, tsAnd_cons, tsOr_one, tsOr_cons, evP_no, evP_so, evI_seq, evI_enum,
  gS_z, gS_s, rdS_v, rdS_arg, gL_z, gL_s, gV_z, gV_s, negD_int, notD_bl, trD_bl, trD_none, trD_tuple, trD_list, blD_bl, inD_int, sqD_list, sqD_tuple, lsD_list, Option.bind_some, Option.bind_none, bE_some, bE_none, bT_some, bT_none, bS_nx, bS_rt, bS_bk, bS_ct, bL_nx, bL_ct, bL_bk, bL_rt, guardO_true, guardO_false, iteB_true, iteB_false, List.set_cons_zero, List.set_cons_succ, wipeL, List.map_cons, List.map_nil,
  List.all_cons, List.all_nil, id_eq, Bool.and_self, Bool.and_true, Bool.true_and, List.length_cons, List.length_nil, slOf_int, slOf_bool, imm_int, imm_bool, imm_none, turnC_eq, turnF_eq, cmpD_lt, cmpD_le, cmpD_gt, cmpD_ge, op2D_add, op2D_sub, ixD_t, ixD_l, addG_gl, decide_true, decide_false, Bool.not_true, Bool.not_false, ↓reduceIte, cmpD_is_non, cmpD_isn_non, isNon_int, isNon_none, biD_allM, biD_anyM, biD_len_l, biD_len_t, biD_tuple, List.length_map, cmpD_eq_int, cmpD_ne_int, cmpD_eq_bl, cmpD_ne_bl, cmpD_is_bl, cmpD_isn_bl, biD_max2, biD_min2, nb_nil, nb_cons, isB_v, isB_arg, isB_any, isB_tp, isB_scr, outF_rt, outF_nx, outT_rt, biD_int, biD_abs, dLe0, dLe1, dLe2, dLe3, imm_tuple, immAll_cons, immAll_nil, $ls,*])

def encP (q : Nat × Nat) : D := .tuple [.int (q.1 : Int), .int (q.2 : Int)]
def encPs (p : Prs) : D := .tuple (p.map encP)
theorem imm_encP (q : Nat × Nat) : imm (encP q) = true := rfl
theorem immAll_encP (p : Prs) : immAll (p.map encP) = true := immAll_mapE fun _ _ => rfl
theorem imm_encPs (p : Prs) : imm (encPs p) = true := immAll_encP p
theorem f_net_of {n : Nat} {d : Nat → Int} {p : Prs} (hok : (netOf n d p).ok) (hl : p.length ≤ 400) : r_net_of [encV n d, encPs p] = some (encN (netOf n d p)) := by
  have h8 : 2 * n ≤ 8 := hok.1.2
  refine (runF_eq [.arg (encV n d), .arg (encPs p), .any, .any, .any, .any, .any, .any, .any] rfl rfl).trans ?_
  unfold b_net_of
  have eV : encV n d = .tuple ((List.range n).map fun k => .int (d k)) := rfl
  have eP : encPs p = .tuple (p.map encP) := rfl
  rw [eV, eP]
  push_cast [mul2, List.length_range, enumD_range, imm_encP, immAll_ints, Bool.and_self]
  have hf := evFor_range (turn := turnF C_9 (.tup (.cons (.nm 4) (.cons (.nm 5) .nil))) b_net_of_1) (enc := fun k => .tuple [.int (k : Nat), .int (d k)]) (fun k => [.arg (.tuple ((List.range n).map fun k => .int (d k))), .arg (.tuple (p.map encP)), .v (.int ((2 * n : Nat) : Int)), .v (.list ((netB k d).map encB)), .any, .any, .any, .any, .any]) (fun _ => .none) (n := n) fun k hk => by
    have hlen : (netB k d).length + (0 + 1 + 1) ≤ 1000000 := by rw [netB_len]; omega
    unfold b_net_of_1
    push_cast [mul2, add1, nb?, isBor, decide_eq_true hlen, netB_succ, List.map_append, immAll_encB]
    rfl
  have e0 : netB 0 d = [] := rfl
  rw [e0, List.map_nil] at hf
  rw [hf]
  push_cast []
  rw [evLc_map (τ1 := .none) (o := true) encP (fun q => encB (2 * q.2, 2 * q.1 + 1, 0)) p (by push_cast [immAll_encP]) (by omega) fun q hq => by
    unfold encP
    push_cast [mul2, add1]
    rfl]
  have hlen : (netB n d).length + p.length ≤ 1000000 := by rw [netB_len]; omega
  have e1 : (netB n d).map encB ++ p.map (fun q => encB (2 * q.2, 2 * q.1 + 1, 0)) = (netOf n d p).bounds.map encB := by
    show _ = (netB n d ++ netP p).map encB
    rw [List.map_append]
    unfold netP
    rw [List.map_map]; rfl
  have e2 : immAll (p.map fun q => encB (2 * q.2, 2 * q.1 + 1, 0)) = true := immAll_mapE fun _ _ => rfl
  push_cast [e2, nb?, isBor, decide_eq_true hlen, e1, biD_tuple (immAll_encB _)]
  have e3 : PyData.tuple [.int ((2 * n : Nat) : Int), .tuple ((netOf n d p).bounds.map encB)] = encN (netOf n d p) := rfl
  push_cast [e3, evE_call, c9_check_net, f_check_net _ hok, evS_retV]
theorem f_keeps {n : Net} (h : n.ok) {t : Nat → Int} (ht : n.sol t) : r_keeps [encN n, encV n.many t] = some (.bool true) := by
  have h8 := h.1.2
  refine (runF_eq [.arg (encN n), .arg (encV n.many t), .any, .any, .any] rfl rfl).trans ?_
  unfold b_keeps
  have el : biD .len [encV n.many t] = some (.int (n.many : Int)) := by
    unfold encV
    rw [biD_len_t, List.length_map, List.length_range]
  push_cast [evE_call, c15_check_net, f_check_net n h, encN_0, encN_1, el]
  rw [evLc_map (τ1 := .none) (o := true) encB (fun _ => .bool true) n.bounds (by push_cast [encN_1, immAll_encB]) (by have := h.2.2; omega) fun b hb => by
    obtain ⟨h1, h2, _⟩ := h.2.1 b hb
    have h3 := ht b hb
    unfold encB
    push_cast [encV_ix t h1, encV_ix t h2, decide_eq_true h3]]
  have e : (n.bounds.all fun _ => true) = true := by simp
  push_cast [e]
theorem len_encV (n : Nat) (d : Nat → Int) : biD .len [encV n d] = some (.int (n : Int)) := by
  unfold encV
  rw [biD_len_t, List.length_map, List.length_range]
theorem starts_zeros {C : FT} {n : Nat} {d : Nat → Int} {r : List Sl} (hn : n ≤ 1000) : evE C (.arg (encV n d) :: r) (.op2 .mul (.lst (.cons (.int 0) .nil)) (.bi .len (.cons (.var 0) .nil))) .none = some (.none, encVl n fun _ => 0, true) := by
  have e1 : evE C (.arg (encV n d) :: r) (.lst (.cons (.int 0) .nil)) .none = some (.none, .list [.int 0], true) := by push_cast []
  have e2 : evE C (.arg (encV n d) :: r) (.bi .len (.cons (.var 0) .nil)) .none = some (.none, .int (n : Int), true) := by push_cast [len_encV]
  rw [evE_op2, e1, bE_some, e2, bE_some, op2D_zeros n (by omega)]
  rfl
def E4 (n : Nat) (d : Nat → Int) (p : Prs) (x : Sl) (f : Nat → Int) : List Sl := [.arg (encV n d), .arg (encPs p), .v (encVl n f), x, .any, .any]
theorem turn_pairs {n : Nat} {d : Nat → Int} {p : Prs} {x : Sl} (f : Nat → Int) (q : Nat × Nat) (h1 : q.1 < n) (h2 : q.2 < n) (hx : isBor x = false) : turnF C_13 (.tup (.cons (.nm 4) (.cons (.nm 5) .nil))) b__law_starts_1 (encP q) (E4 n d p x f) .none = some (.nx (E4 n d p x (stS d f q)) .none) := by
  unfold E4 b__law_starts_1 encP
  push_cast []
  rw [evS_putV (sa := none) (n := n) (f := f) (j := q.2) (z := max (f q.2) (f q.1 + d q.1)) rfl (by push_cast [encVl_ix f h2, encVl_ix f h1, encV_ix d h1]; rfl) (by push_cast []; rfl) h2 (by simp only [nb?, List.all_cons, hx]; rfl)]
  push_cast []
  rfl
theorem turn_round {n : Nat} {d : Nat → Int} {p : Prs} (hp : ∀ q ∈ p, q.1 < n ∧ q.2 < n) (f : Nat → Int) (k : Nat) : turnF C_13 (.nm 3) b__law_starts_2 (.int (k : Int)) (E4 n d p .any f) .none = some (.nx (E4 n d p .any (p.foldl (stS d) f)) .none) := by
  have := evFor_all (turn := turnF C_13 (.tup (.cons (.nm 4) (.cons (.nm 5) .nil))) b__law_starts_1) (enc := encP) (E := E4 n d p (.v (.int (k : Int)))) (τ := .none) (f := stS d) (xs := p) (s := f) fun s q hq => turn_pairs s q (hp q hq).1 (hp q hq).2 rfl
  unfold E4 b__law_starts_2 at *
  unfold encPs at *
  push_cast [immAll_encP]
  rw [this]
  push_cast []
theorem f_starts {n : Nat} {d : Nat → Int} {p : Prs} (hn : n ≤ 1000) (hp : ∀ q ∈ p, q.1 < n ∧ q.2 < n) : r__law_starts [encV n d, encPs p] = some (encVl n (startsF n d p)) := by
  refine (runF_eq [.arg (encV n d), .arg (encPs p), .any, .any, .any, .any] rfl rfl).trans ?_
  unfold b__law_starts
  rw [evSs_cons, evS_set, starts_zeros hn]
  push_cast []
  rw [evI_rngN n (by push_cast [len_encV]; rfl) (by omega)]
  push_cast []
  have := evFor_range (turn := turnF C_13 (.nm 3) b__law_starts_2) (enc := fun k => .int (k : Int)) (fun k => E4 n d p .any (startsR d p k)) (fun _ => .none) (n := n) fun k hk => by
    rw [startsR_succ]
    exact turn_round hp _ k
  have e0 : startsR d p 0 = fun _ => 0 := rfl
  rw [e0] at this
  unfold E4 at this
  rw [this]
  unfold startsF
  push_cast [evS_retV]
def endF (n : Nat) (d : Nat → Int) (p : Prs) : Int := maxL ((List.range n).map fun k => startsF n d p k + d k)
theorem endF_is {n : Nat} (hn : 1 ≤ n) (d : Nat → Int) (p : Prs) : IsEnd n d (startsF n d p) (endF n d p) := by
  refine ⟨fun k hk => maxL_ge (List.mem_map.mpr ⟨k, List.mem_range.mpr hk, rfl⟩), ?_⟩
  have := maxL_mem (xs := (List.range n).map fun k => startsF n d p k + d k) (by
    intro e
    have := congrArg List.length e
    simp at this; omega)
  obtain ⟨k, hk, e⟩ := List.mem_map.mp this
  exact ⟨k, List.mem_range.mp hk, e⟩
theorem f_end {n : Nat} {d : Nat → Int} {p : Prs} (h1 : 1 ≤ n) (hn : n ≤ 1000) (hp : ∀ q ∈ p, q.1 < n ∧ q.2 < n) : r__law_end [encV n d, encPs p] = some (.int (endF n d p)) := by
  refine (runF_eq [.arg (encV n d), .arg (encPs p), .any, .any] rfl rfl).trans ?_
  unfold b__law_end
  push_cast [evE_call, c14__law_starts, f_starts hn hp]
  rw [evLc_map (τ1 := .none) (o := true) (fun k : Nat => .int (k : Int)) (fun k => .int (startsF n d p k + d k)) (List.range n) (evI_rngN n (by push_cast [len_encV]; rfl) (by omega)) (by rw [List.length_range]; omega) fun k hk => by
    have hk := List.mem_range.mp hk
    push_cast [encV_ix _ hk, encVl_ix _ hk]]
  push_cast []
  rw [biD_max1M (fun k => startsF n d p k + d k) (List.range n) (by
    intro e
    have := congrArg List.length e
    simp at this; omega)]
  rfl
theorem dueRow (d s : Nat → Int) (k : Nat) : (List.range (2 * (k + 1))).map (fun i => PyData.int (due d s i)) = (List.range (2 * k)).map (fun i => PyData.int (due d s i)) ++ [.int (s k), .int (s k + d k)] := by
  rw [show 2 * (k + 1) = 2 * k + 1 + 1 by omega, List.range_succ, List.range_succ, List.map_append, List.map_append, List.append_assoc]
  simp only [List.map_cons, List.map_nil, due_even, due_odd]
  rfl
theorem f_net_right {n : Nat} {d : Nat → Int} {p : Prs} (h1 : 1 ≤ n) (h4 : n ≤ 4) (hd : ∀ k, k < n → 0 ≤ d k ∧ d k ≤ 99) (ha : Acyc n p) (hl : p.length ≤ 400) : r__law_net_right [encV n d, encPs p] = some (.bool true) := by
  have hok := netOf_ok h1 h4 hd ha.lt hl
  have hf := acyc_fits (d := d) ha
  have hL := due_least ha.lt (fun k hk => (hd k hk).1) (starts_least (d := d) ha)
  refine (runF_eq [.arg (encV n d), .arg (encPs p), .any, .any, .any, .any] rfl rfl).trans ?_
  unfold b__law_net_right
  push_cast [evE_call, c16_net_of, f_net_of hok hl, c16__law_starts, f_starts (show n ≤ 1000 by omega) ha.lt]
  rw [evI_rngN n (by push_cast [len_encV]; rfl) (by omega)]
  push_cast []
  have hlp := evFor_range (turn := turnF C_16 (.nm 5) b__law_net_right_1) (enc := fun k => .int (k : Int)) (fun k => [.arg (encV n d), .arg (encPs p), .v (encN (netOf n d p)), .v (encVl n (startsF n d p)), .v (encVl (2 * k) (due d (startsF n d p))), .any]) (fun _ => .none) (n := n) fun k hk => by
    unfold b__law_net_right_1
    have hlen : ((List.range (2 * k)).map fun i => PyData.int (due d (startsF n d p) i)).length + (0 + 1 + 1) ≤ 1000000 := by rw [List.length_map, List.length_range]; omega
    have ea : op2D .add (encVl (2 * k) (due d (startsF n d p))) (.list [.int (startsF n d p k), .int (startsF n d p k + d k)]) = some (encVl (2 * (k + 1)) (due d (startsF n d p))) := by
      unfold encVl
      rw [op2D_addL _ _ (immAll_ints (due d (startsF n d p)) _) rfl hlen, dueRow]
    push_cast [encV_ix _ hk, encVl_ix _ hk, ea]
  have e0 : encVl (2 * 0) (due d (startsF n d p)) = .list [] := rfl
  rw [e0] at hlp
  rw [hlp]
  have et : biD .tuple [encVl (2 * n) (due d (startsF n d p))] = some (encV (2 * n) (due d (startsF n d p))) := biD_tuple (immAll_ints _ _)
  have ek : r_keeps [encN (netOf n d p), encV (2 * n) (due d (startsF n d p))] = some (.bool true) := f_keeps hok hL.sol
  have ee : encV (netOf n d p).many (earl (netOf n d p)) = encV (2 * n) (due d (startsF n d p)) := encV_congr fun k hk => (earl_least hok hf).uniq hL hk
  push_cast [evE_call, c16_fits, c16_earliest, c16_keeps, f_fits _ hok, (fitsB_iff _).mpr hf, f_earliest _ hok hf, ee, et, ek, cmpD_eqS (pf_encV _ _), encN_0, len_encV, mul2]
  rw [show (netOf n d p).many = 2 * n from rfl]
  push_cast []
end K55
namespace K55
open PySem PySem.Spec L2 RZ DL DI
local macro_rules
  | `(tactic| l_intsW) => `(tactic| simp -implicitDefEqProofs only [evSs_nil, evSs_cons, evSs_fgt, evS_set, evS_setLc, evS_move, evS_unp, evS_par, evS_ife, evS_for, evS_ret, evS_retV, evS_retN, evS_expr, evS_append, evS_extend, evS_addI, evS_pass, evS_brk, evS_cont, evO_nm, evO_tup, evOs_nil, evOs_cons, evG_nm, evG_tup, evGs_nil, evGs_cons,
  evE_varE, evE_int, evE_bl, evE_non, evE_str, evE_glob, evE_op2, evE_cmp, evE_chain, evE_ix, evE_neg, evE_not, evE_and, evE_or, evE_ife, evE_tup, evE_lst, evE_bi, evE_sl, evC_el, evC_ift, evT_not, evT_and, evT_or, evT_val, evA_nil, evA_cons, evAnd_one, evAnd_cons, evOr_one, evOr_cons, tsAnd_one, tsAnd_cons, tsOr_one, tsOr_cons, evP_no, evP_so, evI_seq, evI_enum,
  gS_z, gS_s, rdS_v, rdS_arg, gL_z, gL_s, gV_z, gV_s, negD_int, notD_bl, trD_bl, trD_none, trD_tuple, trD_list, blD_bl, inD_int, sqD_list, sqD_tuple, lsD_list, Option.bind_some, Option.bind_none, bE_some, bE_none, bT_some, bT_none, bS_nx, bS_rt, bS_bk, bS_ct, bL_nx, bL_ct, bL_bk, bL_rt, guardO_true, guardO_false, iteB_true, iteB_false, List.set_cons_zero, List.set_cons_succ, wipeL, List.map_cons, List.map_nil,
  List.all_cons, List.all_nil, id_eq, Bool.and_self, Bool.and_true, Bool.true_and, List.length_cons, List.length_nil, slOf_int, slOf_bool, imm_int, imm_bool, imm_none, turnC_eq, turnF_eq, cmpD_lt, cmpD_le, cmpD_gt, cmpD_ge, op2D_add, op2D_sub, ixD_t, ixD_l, addG_gl, decide_true, decide_false, Bool.not_true, Bool.not_false, ↓reduceIte, cmpD_is_non, cmpD_isn_non, isNon_int, isNon_none, biD_allM, biD_anyM, biD_len_l, biD_len_t, biD_tuple, List.length_map, cmpD_eq_int, cmpD_ne_int, cmpD_eq_bl, cmpD_ne_bl, cmpD_is_bl, cmpD_isn_bl, biD_max2, biD_min2, nb_nil, nb_cons, isB_v, isB_arg, isB_any, isB_tp, isB_scr, outF_rt, outF_nx, outT_rt, biD_int, biD_abs, dLe0, dLe1, dLe2, dLe3, imm_tuple, immAll_cons, immAll_nil])
  | `(tactic| push_cast [$ls,*]) => `(tactic| simp -implicitDefEqProofs only [evSs_nil, evSs_cons, evSs_fgt, evS_set, evS_setLc, evS_move, evS_unp, evS_par, evS_ife, evS_for, evS_ret, evS_retV, evS_retN, evS_expr, evS_append, evS_extend, evS_addI, evS_pass, evS_brk, evS_cont, evO_nm, evO_tup, evOs_nil, evOs_cons, evG_nm, evG_tup, evGs_nil, evGs_cons,
  evE_varE, evE_int, evE_bl, evE_non, evE_str, evE_glob, evE_op2, evE_cmp, evE_chain, evE_ix, evE_neg, evE_not, evE_and, evE_or, evE_ife, evE_tup, evE_lst, evE_bi, evE_sl, evC_el, evC_ift, evT_not, evT_and, evT_or, evT_val, evA_nil, evA_cons, evAnd_one, evAnd_cons, evOr_one, evOr_cons, tsAnd_one, tsAnd_cons, tsOr_one, tsOr_cons, evP_no, evP_so, evI_seq, evI_enum,
  gS_z, gS_s, rdS_v, rdS_arg, gL_z, gL_s, gV_z, gV_s, negD_int, notD_bl, trD_bl, trD_none, trD_tuple, trD_list, blD_bl, inD_int, sqD_list, sqD_tuple, lsD_list, Option.bind_some, Option.bind_none, bE_some, bE_none, bT_some, bT_none, bS_nx, bS_rt, bS_bk, bS_ct, bL_nx, bL_ct, bL_bk, bL_rt, guardO_true, guardO_false, iteB_true, iteB_false, List.set_cons_zero, List.set_cons_succ, wipeL, List.map_cons, List.map_nil,
  List.all_cons, List.all_nil, id_eq, Bool.and_self, Bool.and_true, Bool.true_and, List.length_cons, List.length_nil, slOf_int, slOf_bool, imm_int, imm_bool, imm_none, turnC_eq, turnF_eq, cmpD_lt, cmpD_le, cmpD_gt, cmpD_ge, op2D_add, op2D_sub, ixD_t, ixD_l, addG_gl, decide_true, decide_false, Bool.not_true, Bool.not_false, ↓reduceIte, cmpD_is_non, cmpD_isn_non, isNon_int, isNon_none, biD_allM, biD_anyM, biD_len_l, biD_len_t, biD_tuple, List.length_map, cmpD_eq_int, cmpD_ne_int, cmpD_eq_bl, cmpD_ne_bl, cmpD_is_bl, cmpD_isn_bl, biD_max2, biD_min2, nb_nil, nb_cons, isB_v, isB_arg, isB_any, isB_tp, isB_scr, outF_rt, outF_nx, outT_rt, biD_int, biD_abs, dLe0, dLe1, dLe2, dLe3, imm_tuple, immAll_cons, immAll_nil, $ls,*])

theorem f_take (t : Tape) (h : t.ok) (many : Nat) (h0 : 0 < many) (h1 : many < 1073741824) : ∃ (k : Nat) (t' : Tape), k < many ∧ t'.ok ∧ r__law_take (eTape t) [.int (many : Int)] = some (eTape t', .int (k : Int)) := by
  obtain ⟨k, hk, e⟩ := Tape.take_nat t h0
  refine ⟨k, (t.take many).1, hk, Tape.take_ok h _, ?_⟩
  rw [← e]
  exact take_run C_11 t h (by omega) (by omega)
theorem f_tape (ns : List Int) (h : ns.length ≤ 63) : r__law_tape ns = some (eTape (tapeOf ns)) := tape_run C_10 ns (by omega)
/-! pairs drawn -/
def encK (k : Nat) : D := .int (k : Int)
abbrev S1 := List Nat × List Nat × Tape
def ES1 (n : Nat) (s : S1) : List Sl := [.tp, .arg (.int (n : Int)), .v (.list (s.1.map encK)), .v (.list (s.2.1.map encK)), .any, .any, .any, .any]
def PS1 (n k : Nat) (s : S1) : Prop := s.2.2.ok ∧ s.1.length = n - k ∧ s.2.1.length = k ∧ (s.2.1 ++ s.1).Perm (List.range n)
theorem immAll_encK (xs : List Nat) : immAll (xs.map encK) = true := immAll_mapE fun _ _ => rfl
theorem turn_names {n k : Nat} (h4 : n ≤ 4) (hk : k < n) (s : S1) (h : PS1 n k s) : ∃ s', turnF C_12 (.nm 4) b__law_pairs_1 (.int (k : Int)) (ES1 n s) (eTape s.2.2) = some (.nx (ES1 n s') (eTape s'.2.2)) ∧ PS1 n (k + 1) s' := by
  obtain ⟨left, names, t⟩ := s
  obtain ⟨hok, hl, hn, hp⟩ := h
  dsimp only at hok hl hn hp
  obtain ⟨i, t', hi, hok', e⟩ := f_take t hok (n - k) (by omega) (by omega)
  have hi' : i < left.length := by omega
  refine ⟨⟨left.eraseIdx i, names ++ [left[i]], t'⟩, ?_, hok', ?_, ?_, ?_⟩
  · unfold ES1 b__law_pairs_1
    have he : ∀ r : List Sl, evE C_12 (.tp :: .arg (.int (n : Int)) :: .v (.list (left.map encK)) :: r) (.callT "_law_take" 0 (.cons (.bi .len (.cons (.var 2) .nil)) .nil)) (eTape t) = some (eTape t', .int (i : Int), true) := fun r => by
      push_cast [evE_callT, gT_z, c12__law_take, hl, e]
    dsimp only
    push_cast []
    rw [evS_apopN (i := 3) (j := 2) (k := i) (ds := names.map encK) (es := left.map encK) (sa := none) (sb := none) rfl rfl (he _) (by rw [List.length_map]; exact hi') (by decide) (immAll_encK _) rfl (by rw [List.length_map]; omega) (by rw [List.length_map]; omega)]
    push_cast [List.map_append, List.getElem_map, map_eraseE]
  · show (left.eraseIdx i).length = n - (k + 1)
    rw [List.length_eraseIdx_of_lt hi']; omega
  · show (names ++ [left[i]]).length = k + 1
    rw [List.length_append, hn]; rfl
  · show ((names ++ [left[i]]) ++ left.eraseIdx i).Perm _
    refine List.Perm.trans ?_ hp
    rw [List.append_assoc]
    exact List.Perm.append_left names (erase_perm left i hi')
abbrev S2 := Prs × Tape
def ES2 (n : Nat) (names : List Nat) (s : S2) : List Sl := [.tp, .arg (.int (n : Int)), .v (.list []), .v (.list (names.map encK)), .any, .v (.list (s.1.map encP)), .any, .any]
def Qp (n : Nat) (names : List Nat) (q : Nat × Nat) : Prop := ∃ i j, i < j ∧ j < n ∧ names[i]? = some q.1 ∧ names[j]? = some q.2
def PS2 (n : Nat) (names : List Nat) (k : Nat) (s : S2) : Prop := s.2.ok ∧ (∀ q ∈ s.1, Qp n names q) ∧ s.1.length ≤ k * n
theorem turn_found {n k : Nat} (h4 : n ≤ 4) {names : List Nat} (hn : names.length = n) (hk : k < n) (s : S2) (h : PS2 n names k s) : ∃ s', turnF C_12 (.nm 6) b__law_pairs_2 (.int (k : Int)) (ES2 n names s) (eTape s.2) = some (.nx (ES2 n names s') (eTape s'.2)) ∧ PS2 n names (k + 1) s' := by
  obtain ⟨found, t⟩ := s
  obtain ⟨hok, hq, hl⟩ := h
  dsimp only at hok hq hl
  have hkn : k < names.length := by omega
  have ix : ∀ j (hj : j < names.length), ixD (.list (names.map encK)) (.int (j : Int)) = some (encK names[j]) := fun j hj => by
    rw [ixD_l, atI_nat (by rw [List.length_map]; exact hj), List.getElem_map]
  obtain ⟨t', ys, e, hok', hQ, hlen⟩ := evLc_ex (C := C_12) (ρ := [.tp, .arg (.int (n : Int)), .v (.list []), .v (.list (names.map encK)), .any, .v (.list (found.map encP)), .v (.int (k : Int)), .any]) (own := [("i", 7)]) (elt := .ift (.val (.cmp .eq (.callT "_law_take" 0 (.cons (.int 2) .nil)) (.int 0))) (.tup (.cons (.ix (.var 3) (.var 7)) (.cons (.ix (.var 3) (.var 6)) .nil)))) (tg := .nm 7) (it := .rng1 (.var 6)) (τ := eTape t) (o := true) (fun i : Nat => .int (i : Int)) (fun t : Tape => eTape t) encP (fun t => t.ok) (Qp n names) (List.range k) t hok (evI_rngN k (by push_cast []; rfl) (by omega)) (by rw [List.length_range]; omega) fun t i hok hi => by
    have hi := List.mem_range.mp hi
    have hin : i < names.length := by omega
    obtain ⟨b, t', hb, hok', e⟩ := f_take t hok 2 (by omega) (by omega)
    have e' : r__law_take (eTape t) [.int 2] = some (eTape t', .int (b : Int)) := e
    by_cases c : b = 0
    · subst c
      refine ⟨t', some (names[i], names[k]), ?_, hok', fun z hz => ?_⟩
      · push_cast [evE_callT, gT_z, c12__law_take, e', Int.natCast_zero, ix i hin, ix k hkn, encK]
        rfl
      · cases hz
        exact ⟨i, k, hi, hk, List.getElem?_eq_getElem hin, List.getElem?_eq_getElem hkn⟩
    · refine ⟨t', none, ?_, hok', fun z hz => nomatch hz⟩
      have c' : ¬ (b : Int) = 0 := by omega
      push_cast [evE_callT, gT_z, c12__law_take, e', c']
      rfl
  rw [List.length_range] at hlen
  refine ⟨⟨found ++ ys, t'⟩, ?_, hok', fun q hq' => ?_, ?_⟩
  · unfold ES2 b__law_pairs_2
    dsimp only
    have hll : (found.map encP).length + (ys.map encP).length ≤ 1000000 := by
      rw [List.length_map, List.length_map]
      have : k * n ≤ 4 * 4 := Nat.mul_le_mul (by omega) h4
      omega
    push_cast []
    rw [e]
    push_cast [op2D_addL _ _ (immAll_encP found) (immAll_encP ys) hll, List.map_append]
  · rcases List.mem_append.mp hq' with z | z
    · exact hq q z
    · exact hQ q z
  · show (found ++ ys).length ≤ (k + 1) * n
    rw [List.length_append, Nat.succ_mul]; omega
theorem pf_encP (q : Nat × Nat) : pf (encP q) = true := by
  unfold pf encP
  rw [Bool.and_eq_true]
  refine ⟨rfl, decide_eq_true ?_⟩
  rw [dep_t]
  simp [PyData.depthAll, PyData.depth]
theorem sorted_pairs (p : Prs) (h : p.length ≤ 1000000) : ∃ p' : Prs, p'.Perm p ∧ biD .sorted [.list (p.map encP)] = some (.list (p'.map encP)) :=
  sort_map (fun _ _ => rfl) (fun q _ => pf_encP q) h (fun _ _ _ _ => by simp [encP, W.alike, W.alikeAll]) fun q _ => ⟨_, _, rfl⟩
theorem f_pairs (t : Tape) (h : t.ok) {n : Nat} (h1 : 1 ≤ n) (h4 : n ≤ 4) : ∃ (p : Prs) (t' : Tape), r__law_pairs (eTape t) [.int (n : Int)] = some (eTape t', encPs p) ∧ t'.ok ∧ Acyc n p ∧ p.length ≤ 16 := by
  obtain ⟨⟨left, names, t1⟩, e1, hok1, hl, hn, hp⟩ := evFor_ex (turn := turnF C_12 (.nm 4) b__law_pairs_1) (enc := fun k => .int (k : Int)) (ES1 n) (fun s => eTape s.2.2) (PS1 n) (n := n) ⟨List.range n, [], t⟩ ⟨h, by simp, rfl, .refl _⟩ fun k s hk hs => turn_names h4 hk s hs
  dsimp only at e1 hok1 hl hn hp
  have hl0 : left = [] := List.length_eq_zero_iff.mp (by omega)
  subst hl0
  rw [List.append_nil] at hp
  obtain ⟨⟨found, t2⟩, e2, hok2, hQ, hlen⟩ := evFor_ex (turn := turnF C_12 (.nm 6) b__law_pairs_2) (enc := fun k => .int (k : Int)) (ES2 n names) (fun s => eTape s.2) (PS2 n names) (n := n) ⟨[], t1⟩ ⟨hok1, fun q hq => (nomatch hq), Nat.zero_le _⟩ fun k s hk hs => turn_found h4 hn hk s hs
  dsimp only at e2 hok2 hQ hlen
  have h16 : n * n ≤ 4 * 4 := Nat.mul_le_mul h4 h4
  obtain ⟨p, hperm, e3⟩ := sorted_pairs found (by omega)
  refine ⟨p, t2, ?_, hok2, ?_, ?_⟩
  · refine (runT_eq [.tp, .arg (.int (n : Int)), .any, .any, .any, .any, .any, .any] rfl rfl).trans ?_
    unfold b__law_pairs
    unfold ES1 at e1
    unfold ES2 at e2
    dsimp only at e1 e2
    have el : ∀ r : List Sl, evE C_12 (.tp :: .arg (.int (n : Int)) :: r) (.lrng (.var 1)) (eTape t) = some (eTape t, .list ((List.range n).map encK), true) := fun r => evE_lrng n (by push_cast []; rfl) (by omega)
    push_cast [el]
    rw [evI_rngN n (by push_cast []; rfl) (by omega)]
    push_cast []
    rw [List.map_nil] at e1 e2
    rw [e1]
    push_cast []
    rw [evI_rngN n (by push_cast []; rfl) (by omega)]
    push_cast []
    rw [e2]
    push_cast [e3, biD_tuple (immAll_encP p)]
    rfl
  · refine acyc_names (names := names) (hp.nodup_iff.mpr List.nodup_range) hn (fun x hx => List.mem_range.mp (hp.mem_iff.mp hx)) fun q hq => ?_
    obtain ⟨i, j, a, b, c, d⟩ := hQ q (hperm.mem_iff.mp hq)
    exact ⟨i, j, a, b, c, d⟩
  · rw [hperm.length_eq]; omega
end K55
namespace K55
open PySem PySem.Spec L2 RZ DL DI
local macro_rules
  | `(tactic| l_intsW) => `(tactic| simp -implicitDefEqProofs only [evSs_nil, evSs_cons, evSs_fgt, evS_set, evS_setLc, evS_move, evS_unp, evS_par, evS_ife, evS_for, evS_ret, evS_retV, evS_retN, evS_expr, evS_append, evS_extend, evS_addI, evS_pass, evS_brk, evS_cont, evO_nm, evO_tup, evOs_nil, evOs_cons, evG_nm, evG_tup, evGs_nil, evGs_cons,
  evE_varE, evE_int, evE_bl, evE_non, evE_str, evE_glob, evE_op2, evE_cmp, evE_chain, evE_ix, evE_neg, evE_not, evE_and, evE_or, evE_ife, evE_tup, evE_lst, evE_bi, evE_sl, evC_el, evC_ift, evT_not, evT_and, evT_or, evT_val, evA_nil, evA_cons, evAnd_one, evAnd_cons, evOr_one, evOr_cons, tsAnd_one, tsAnd_cons, tsOr_one, tsOr_cons, evP_no, evP_so, evI_seq, evI_enum,
  gS_z, gS_s, rdS_v, rdS_arg, gL_z, gL_s, gV_z, gV_s, negD_int, notD_bl, trD_bl, trD_none, trD_tuple, trD_list, blD_bl, inD_int, sqD_list, sqD_tuple, lsD_list, Option.bind_some, Option.bind_none, bE_some, bE_none, bT_some, bT_none, bS_nx, bS_rt, bS_bk, bS_ct, bL_nx, bL_ct, bL_bk, bL_rt, guardO_true, guardO_false, iteB_true, iteB_false, List.set_cons_zero, List.set_cons_succ, wipeL, List.map_cons, List.map_nil,
  List.all_cons, List.all_nil, id_eq, Bool.and_self, Bool.and_true, Bool.true_and, List.length_cons, List.length_nil, slOf_int, slOf_bool, imm_int, imm_bool, imm_none, turnC_eq, turnF_eq, cmpD_lt, cmpD_le, cmpD_gt, cmpD_ge, op2D_add, op2D_sub, ixD_t, ixD_l, addG_gl, decide_true, decide_false, Bool.not_true, Bool.not_false, ↓reduceIte, cmpD_is_non, cmpD_isn_non, isNon_int, isNon_none, biD_allM, biD_anyM, biD_len_l, biD_len_t, biD_tuple, List.length_map, cmpD_eq_int, cmpD_ne_int, cmpD_eq_bl, cmpD_ne_bl, cmpD_is_bl, cmpD_isn_bl, biD_max2, biD_min2, nb_nil, nb_cons, isB_v, isB_arg, isB_any, isB_tp, isB_scr, outF_rt, outF_nx, outT_rt, biD_int, biD_abs, dLe0, dLe1, dLe2, dLe3, imm_tuple, immAll_cons, immAll_nil])
  | `(tactic| push_cast [$ls,*]) => `(tactic| simp -implicitDefEqProofs only [evSs_nil, evSs_cons, evSs_fgt, evS_set, evS_setLc, evS_move, evS_unp, evS_par, evS_ife, evS_for, evS_ret, evS_retV, evS_retN, evS_expr, evS_append, evS_extend, evS_addI, evS_pass, evS_brk, evS_cont, evO_nm, evO_tup, evOs_nil, evOs_cons, evG_nm, evG_tup, evGs_nil, evGs_cons,
  evE_varE, evE_int, evE_bl, evE_non, evE_str, evE_glob, evE_op2, evE_cmp, evE_chain, evE_ix, evE_neg, evE_not, evE_and, evE_or, evE_ife, evE_tup, evE_lst, evE_bi, evE_sl, evC_el, evC_ift, evT_not, evT_and, evT_or, evT_val, evA_nil, evA_cons, evAnd_one, evAnd_cons, evOr_one, evOr_cons, tsAnd_one, tsAnd_cons, tsOr_one, tsOr_cons, evP_no, evP_so, evI_seq, evI_enum,
  gS_z, gS_s, rdS_v, rdS_arg, gL_z, gL_s, gV_z, gV_s, negD_int, notD_bl, trD_bl, trD_none, trD_tuple, trD_list, blD_bl, inD_int, sqD_list, sqD_tuple, lsD_list, Option.bind_some, Option.bind_none, bE_some, bE_none, bT_some, bT_none, bS_nx, bS_rt, bS_bk, bS_ct, bL_nx, bL_ct, bL_bk, bL_rt, guardO_true, guardO_false, iteB_true, iteB_false, List.set_cons_zero, List.set_cons_succ, wipeL, List.map_cons, List.map_nil,
  List.all_cons, List.all_nil, id_eq, Bool.and_self, Bool.and_true, Bool.true_and, List.length_cons, List.length_nil, slOf_int, slOf_bool, imm_int, imm_bool, imm_none, turnC_eq, turnF_eq, cmpD_lt, cmpD_le, cmpD_gt, cmpD_ge, op2D_add, op2D_sub, ixD_t, ixD_l, addG_gl, decide_true, decide_false, Bool.not_true, Bool.not_false, ↓reduceIte, cmpD_is_non, cmpD_isn_non, isNon_int, isNon_none, biD_allM, biD_anyM, biD_len_l, biD_len_t, biD_tuple, List.length_map, cmpD_eq_int, cmpD_ne_int, cmpD_eq_bl, cmpD_ne_bl, cmpD_is_bl, cmpD_isn_bl, biD_max2, biD_min2, nb_nil, nb_cons, isB_v, isB_arg, isB_any, isB_tp, isB_scr, outF_rt, outF_nx, outT_rt, biD_int, biD_abs, dLe0, dLe1, dLe2, dLe3, imm_tuple, immAll_cons, immAll_nil, $ls,*])

def encRow (ks : List Nat) : D := .tuple (ks.map encK)
def encQ (q : Row) : D := .tuple [encRow q.1, .int q.2]
def bd (bs : List Bd) (k : Nat) : Bd := bs.getD k (0, 0, 0)
theorem imm_encRow (ks : List Nat) : imm (encRow ks) = true := immAll_encK ks
theorem slOf_encRow (ks : List Nat) : slOf (encRow ks) = .v (encRow ks) := slOf_imm (imm_encRow ks)
theorem imm_encQ (q : Row) : imm (encQ q) = true := by
  show immAll [encRow q.1, .int q.2] = true
  rw [immAll_cons, imm_encRow]; rfl
theorem immAll_encQ (l : List Row) : immAll (l.map encQ) = true := immAll_mapE fun q _ => imm_encQ q
theorem bix {bs : List Bd} {k : Nat} (h : k < bs.length) : ixD (.tuple (bs.map encB)) (.int (k : Int)) = some (encB (bd bs k)) := by
  rw [ixD_t, DI.atI_nat (by rw [List.length_map]; exact h), List.getElem_map]
  unfold bd
  rw [List.getD_eq_getElem?_getD, List.getElem?_eq_getElem h]; rfl
theorem encB_0 (b : Bd) : ixD (encB b) (.int 0) = some (.int (b.1 : Int)) := rfl
theorem encB_1 (b : Bd) : ixD (encB b) (.int 1) = some (.int (b.2.1 : Int)) := rfl
theorem encB_2 (b : Bd) : ixD (encB b) (.int 2) = some (.int b.2.2) := rfl
theorem row_0 {ks : List Nat} (h : ks ≠ []) : ixD (encRow ks) (.int 0) = some (.int ((ks.headD 0 : Nat) : Int)) := by
  cases ks with
  | nil => exact absurd rfl h
  | cons k ks =>
    show L2.atI ((k :: ks).map encK) ((0 : Nat) : Int) = _
    rw [DI.atI_nat (by simp)]
    rfl
theorem row_l {ks : List Nat} (h : ks ≠ []) : ixD (encRow ks) (.int (-1)) = some (.int ((lastD ks : Nat) : Int)) := by
  have h' : ks.map encK ≠ [] := by simpa using h
  show L2.atI (ks.map encK) (-1) = _
  rw [atI_last h', List.getLast_map]
  unfold lastD encK
  rw [List.getLastD_eq_getLast?, List.getLast?_eq_some_getLast h]; rfl
theorem mapB (bs : List Bd) : bs.map encB = (List.range bs.length).map fun k => encB (bd bs k) := by
  apply List.ext_getElem
  · simp
  · intro i h1 h2
    have h : i < bs.length := by simpa using h1
    simp only [List.getElem_map, List.getElem_range]
    unfold bd
    rw [List.getD_eq_getElem?_getD, List.getElem?_eq_getElem h]; rfl
/-! what is a circle -/
theorem evI_zipL {C : FT} {ρ : List Sl} {τ τ1 τ2 : D} {a b : IE} {ds es : List D} {o o2 : Bool} (ha : evE C ρ a τ = some (τ1, .list ds, o)) (hb : evE C ρ b τ1 = some (τ2, .list es, o2)) (h1 : immAll ds = true) (h2 : immAll es = true) : evI C ρ (.zip a b) τ = some (τ2, zipD ds es, false) := by
  unfold evI
  rw [ha, bE_some, hb, bE_some]
  dsimp only
  rw [h1, h2]; rfl
theorem zip_map {α : Type} (f : α → D) : ∀ (xs ys : List α), zipD (xs.map f) (ys.map f) = (xs.zip ys).map fun q => .tuple [f q.1, f q.2]
  | [], _ => rfl
  | _ :: _, [] => rfl
  | x :: xs, y :: ys => by
    show PyData.tuple [f x, f y] :: zipD (xs.map f) (ys.map f) = _
    rw [zip_map f xs ys]; rfl
theorem cut_1n (xs : List D) : cutD xs (some 1) none = xs.drop 1 := by
  unfold cutD
  rw [show HT.sIx xs.length 0 (some 1) = min 1 xs.length from HT.sIx_nat _ _ 1, HT.sIx_none]
  by_cases h : xs.length = 0
  · rw [List.length_eq_zero_iff.mp h]; rfl
  · rw [Nat.min_eq_left (by omega), List.take_of_length_le (by simp)]
theorem cut_n1 (xs : List D) : cutD xs none (some 1) = xs.take 1 := by
  unfold cutD
  rw [show HT.sIx xs.length xs.length (some 1) = min 1 xs.length from HT.sIx_nat _ _ 1, HT.sIx_none, List.drop_zero, Nat.sub_zero]
  by_cases h : xs.length = 0
  · rw [List.length_eq_zero_iff.mp h]; rfl
  · rw [Nat.min_eq_left (by omega)]
theorem f_takes {n : Net} (hok : n.ok) {i : Nat} {ks : List Nat} {z : Int} (hw : Wk n.bounds i ks i z) (hz : z < 0) (hne : ks ≠ []) (hl : ks.length ≤ 1000) : r_takes_circle [encN n, encRow ks] = some (.bool true) := by
  refine (runF_eq [.arg (encN n), .arg (encRow ks), .any, .any, .any, .any, .any, .any] rfl rfl).trans ?_
  unfold b_takes_circle
  have ht : trD (encRow ks) = some true := by
    show some (!(ks.map encK).isEmpty) = _
    cases ks with
    | nil => exact absurd rfl hne
    | cons => rfl
  have hlt := hw.lt
  push_cast [evE_call, c5_check_net, f_check_net n hok, ht]
  rw [evLc_map (τ1 := .none) (o := true) encK (fun _ => .bool true) ks (by push_cast [imm_encRow, encRow, immAll_encK]) (by omega) fun k hk => by
    have h1 : (0 : Int) ≤ (k : Int) := by omega
    have h2 : (k : Int) < (n.bounds.length : Int) := by have := hlt k hk; omega
    unfold encK
    push_cast [evE_chain, encN_1, h1, h2]]
  have e : (ks.all fun _ => true) = true := by simp
  push_cast [e]
  rw [evLc_map (τ1 := .none) (o := true) encK (fun k => encB (bd n.bounds k)) ks (by push_cast [imm_encRow, encRow, immAll_encK]) (by omega) fun k hk => by
    have h2 := hlt k hk
    unfold encK
    push_cast [encN_1, bix h2, imm_encB]]
  push_cast []
  have im : ∀ xs : List Nat, immAll (xs.map fun k => encB (bd n.bounds k)) = true := fun xs => immAll_mapE fun _ _ => rfl
  have hlen : (ks.drop 1).length + (ks.take 1).length ≤ 1000000 := by
    rw [List.length_drop, List.length_take]; omega
  have im2 : immAll ((ks.drop 1 ++ ks.take 1).map fun k => encB (bd n.bounds k)) = true := im _
  have hsl : ∀ r1 : List Sl, evE C_5 (.arg (encN n) :: .arg (encRow ks) :: .v (.list (ks.map fun k => encB (bd n.bounds k))) :: r1) (.op2 .add (.sl (.var 2) (.so (.int 1)) .no) (.sl (.var 2) .no (.so (.int 1)))) .none = some (.none, .list ((ks.drop 1 ++ ks.take 1).map fun k => encB (bd n.bounds k)), true) := fun r1 => by
    push_cast [slD, im, cut_1n, cut_n1]
    rw [← List.map_drop, ← List.map_take, op2D_addL _ _ (im _) (im _) (by rw [List.length_map, List.length_map]; exact hlen), ← List.map_append]
    push_cast []
  have hzip : ∀ r1 : List Sl, evI C_5 (.arg (encN n) :: .arg (encRow ks) :: .v (.list (ks.map fun k => encB (bd n.bounds k))) :: r1) (.zip (.var 2) (.op2 .add (.sl (.var 2) (.so (.int 1)) .no) (.sl (.var 2) .no (.so (.int 1))))) .none = some (.none, (ks.zip (ks.drop 1 ++ ks.take 1)).map (fun q : Nat × Nat => .tuple [encB (bd n.bounds q.1), encB (bd n.bounds q.2)]), false) := fun r1 => by
    rw [← zip_map (fun k => encB (bd n.bounds k))]
    exact evI_zipL (o := false) (o2 := true) (by push_cast []; rfl) (hsl r1) (im _) im2
  rw [evLc_map (τ1 := .none) (o := false) (fun q : Nat × Nat => .tuple [encB (bd n.bounds q.1), encB (bd n.bounds q.2)]) (fun _ => .bool true) (ks.zip (ks.drop 1 ++ ks.take 1)) (hzip _) (by rw [List.length_zip]; omega) fun q hq => by
    have h1 := circle_links hw hne q hq
    have h2 : ((bd n.bounds q.1).2.1 : Int) = ((bd n.bounds q.2).1 : Int) := by
      unfold dst src at h1
      unfold bd
      rw [h1]
    push_cast [slOf_imm (show imm (encB (bd n.bounds q.1)) = true from rfl), slOf_imm (show imm (encB (bd n.bounds q.2)) = true from rfl), encB_0, encB_1, h2]]
  have e2 : ((ks.zip (ks.drop 1 ++ ks.take 1)).all fun _ => true) = true := by simp
  push_cast [e2]
  rw [evLc_map (τ1 := .none) (o := false) (fun k => encB (bd n.bounds k)) (fun k => .int (wgt n.bounds k)) ks (by push_cast [imm]) (by omega) fun k hk => by
    unfold encB
    push_cast []
    rfl]
  have e3 : (ks.map (wgt n.bounds)).sum < 0 := by rw [← hw.sum]; exact hz
  push_cast [biD_sumM, e3]
end K55
namespace K55
open PySem PySem.Spec L2 RZ DL DI
local macro_rules
  | `(tactic| l_intsW) => `(tactic| simp -implicitDefEqProofs only [evSs_nil, evSs_cons, evSs_fgt, evS_set, evS_setLc, evS_move, evS_unp, evS_par, evS_ife, evS_for, evS_ret, evS_retV, evS_retN, evS_expr, evS_append, evS_extend, evS_addI, evS_pass, evS_brk, evS_cont, evO_nm, evO_tup, evOs_nil, evOs_cons, evG_nm, evG_tup, evGs_nil, evGs_cons,
  evE_varE, evE_int, evE_bl, evE_non, evE_str, evE_glob, evE_op2, evE_cmp, evE_chain, evE_ix, evE_neg, evE_not, evE_and, evE_or, evE_ife, evE_tup, evE_lst, evE_bi, evE_sl, evC_el, evC_ift, evT_not, evT_and, evT_or, evT_val, evA_nil, evA_cons, evAnd_one, evAnd_cons, evOr_one, evOr_cons, tsAnd_one, tsAnd_cons, tsOr_one, tsOr_cons, evP_no, evP_so, evI_seq, evI_enum,
  gS_z, gS_s, rdS_v, rdS_arg, gL_z, gL_s, gV_z, gV_s, negD_int, notD_bl, trD_bl, trD_none, trD_tuple, trD_list, blD_bl, inD_int, sqD_list, sqD_tuple, lsD_list, Option.bind_some, Option.bind_none, bE_some, bE_none, bT_some, bT_none, bS_nx, bS_rt, bS_bk, bS_ct, bL_nx, bL_ct, bL_bk, bL_rt, guardO_true, guardO_false, iteB_true, iteB_false, List.set_cons_zero, List.set_cons_succ, wipeL, List.map_cons, List.map_nil,
  List.all_cons, List.all_nil, id_eq, Bool.and_self, Bool.and_true, Bool.true_and, List.length_cons, List.length_nil, slOf_int, slOf_bool, imm_int, imm_bool, imm_none, turnC_eq, turnF_eq, cmpD_lt, cmpD_le, cmpD_gt, cmpD_ge, op2D_add, op2D_sub, ixD_t, ixD_l, addG_gl, decide_true, decide_false, Bool.not_true, Bool.not_false, ↓reduceIte, cmpD_is_non, cmpD_isn_non, isNon_int, isNon_none, biD_allM, biD_anyM, biD_len_l, biD_len_t, biD_tuple, List.length_map, cmpD_eq_int, cmpD_ne_int, cmpD_eq_bl, cmpD_ne_bl, cmpD_is_bl, cmpD_isn_bl, biD_max2, biD_min2, nb_nil, nb_cons, isB_v, isB_arg, isB_any, isB_tp, isB_scr, outF_rt, outF_nx, outT_rt, biD_int, biD_abs, dLe0, dLe1, dLe2, dLe3, imm_tuple, immAll_cons, immAll_nil])
  | `(tactic| push_cast [$ls,*]) => `(tactic| simp -implicitDefEqProofs only [evSs_nil, evSs_cons, evSs_fgt, evS_set, evS_setLc, evS_move, evS_unp, evS_par, evS_ife, evS_for, evS_ret, evS_retV, evS_retN, evS_expr, evS_append, evS_extend, evS_addI, evS_pass, evS_brk, evS_cont, evO_nm, evO_tup, evOs_nil, evOs_cons, evG_nm, evG_tup, evGs_nil, evGs_cons,
  evE_varE, evE_int, evE_bl, evE_non, evE_str, evE_glob, evE_op2, evE_cmp, evE_chain, evE_ix, evE_neg, evE_not, evE_and, evE_or, evE_ife, evE_tup, evE_lst, evE_bi, evE_sl, evC_el, evC_ift, evT_not, evT_and, evT_or, evT_val, evA_nil, evA_cons, evAnd_one, evAnd_cons, evOr_one, evOr_cons, tsAnd_one, tsAnd_cons, tsOr_one, tsOr_cons, evP_no, evP_so, evI_seq, evI_enum,
  gS_z, gS_s, rdS_v, rdS_arg, gL_z, gL_s, gV_z, gV_s, negD_int, notD_bl, trD_bl, trD_none, trD_tuple, trD_list, blD_bl, inD_int, sqD_list, sqD_tuple, lsD_list, Option.bind_some, Option.bind_none, bE_some, bE_none, bT_some, bT_none, bS_nx, bS_rt, bS_bk, bS_ct, bL_nx, bL_ct, bL_bk, bL_rt, guardO_true, guardO_false, iteB_true, iteB_false, List.set_cons_zero, List.set_cons_succ, wipeL, List.map_cons, List.map_nil,
  List.all_cons, List.all_nil, id_eq, Bool.and_self, Bool.and_true, Bool.true_and, List.length_cons, List.length_nil, slOf_int, slOf_bool, imm_int, imm_bool, imm_none, turnC_eq, turnF_eq, cmpD_lt, cmpD_le, cmpD_gt, cmpD_ge, op2D_add, op2D_sub, ixD_t, ixD_l, addG_gl, decide_true, decide_false, Bool.not_true, Bool.not_false, ↓reduceIte, cmpD_is_non, cmpD_isn_non, isNon_int, isNon_none, biD_allM, biD_anyM, biD_len_l, biD_len_t, biD_tuple, List.length_map, cmpD_eq_int, cmpD_ne_int, cmpD_eq_bl, cmpD_ne_bl, cmpD_is_bl, cmpD_isn_bl, biD_max2, biD_min2, nb_nil, nb_cons, isB_v, isB_arg, isB_any, isB_tp, isB_scr, outF_rt, outF_nx, outT_rt, biD_int, biD_abs, dLe0, dLe1, dLe2, dLe3, imm_tuple, immAll_cons, immAll_nil, $ls,*])


def EB (n : Net) (lv : Sl) (r : Nat) (s : Sl × Sl) (f : Sl) : List Sl := [.arg (encN n), lv, .v (.int (r : Int)), s.1, s.2, f, .any, .any, .any, .any]
def stL (_ : Sl × Sl) (q : Row) : Sl × Sl := (.v (encRow q.1), .v (.int q.2))
theorem turn_seek {n : Net} (hok : n.ok) {lv : Sl} {r : Nat} (s : Sl × Sl) (q : Row) (hne : q.1 ≠ []) (hlt : ∀ k ∈ q.1, k < n.bounds.length) : turnF C_4 (.tup (.cons (.nm 3) (.cons (.nm 4) .nil))) b_bad_circle_1 (encQ q) (EB n lv r s .any) .none = if bad n.bounds q = true then some (.rt .none (encRow q.1)) else some (.nx (EB n lv r (stL s q) .any) .none) := by
  have h0 : q.1.headD 0 < n.bounds.length := hlt _ (by
    cases h : q.1 with
    | nil => exact absurd h hne
    | cons k ks => simp)
  have h1 : lastD q.1 < n.bounds.length := hlt _ (by
    unfold lastD
    rw [List.getLastD_eq_getLast?, List.getLast?_eq_some_getLast hne]
    exact List.getLast_mem hne)
  have hs : ∀ k, (bd n.bounds k).1 = src n.bounds k := fun k => rfl
  have hd : ∀ k, (bd n.bounds k).2.1 = dst n.bounds k := fun k => rfl
  unfold encQ EB b_bad_circle_1
  push_cast [slOf_encRow, encN_1, row_0 hne, row_l hne, bix h0, bix h1, encB_0, encB_1, hs, hd]
  unfold bad
  by_cases c1 : src n.bounds (q.1.headD 0) = dst n.bounds (lastD q.1)
  · have c1' : (src n.bounds (q.1.headD 0) : Int) = (dst n.bounds (lastD q.1) : Int) := by rw [c1]
    by_cases c2 : q.2 < 0
    · push_cast [c1, c2, evS_retV, if_true]
    · push_cast [c1, c2, if_false, Bool.and_false, Bool.false_eq_true]
      rfl
  · have c1' : ¬ (src n.bounds (q.1.headD 0) : Int) = (dst n.bounds (lastD q.1) : Int) := fun z => c1 (by omega)
    push_cast [c1, c1', if_false, Bool.false_and, Bool.false_eq_true]
    rfl
theorem seek {n : Net} (hok : n.ok) {l : List D} {a : Addr} {r : Nat} : ∀ (xs : List Row) (s : Sl × Sl), (∀ q ∈ xs, q.1 ≠ [] ∧ ∀ k ∈ q.1, k < n.bounds.length) → evPin (turnF C_4 (.tup (.cons (.nm 3) (.cons (.nm 4) .nil))) b_bad_circle_1) 1 (.v (.list l) (some a)) (xs.map encQ) (EB n (.v (.list l) (some a)) r s .any) .none = match xs.find? (bad n.bounds) with
    | some q => some (.rt .none (encRow q.1))
    | none => some (.nx (EB n (.v (.list l)) r (xs.foldl stL s) .any) .none)
  | [], s, _ => by rw [List.map_nil, evPin_nil rfl]; rfl
  | q :: xs, s, h => by
    obtain ⟨h1, h2⟩ := h q List.mem_cons_self
    have ht := turn_seek hok (lv := .v (.list l) (some a)) (r := r) s q h1 h2
    rw [List.map_cons, List.find?_cons]
    cases c : bad n.bounds q with
    | true =>
      rw [c, if_pos rfl] at ht
      rw [evPin_rt rfl ht]
    | false =>
      rw [c, if_neg (by simp)] at ht
      rw [evPin_nx rfl ht]
      exact seek hok xs _ fun q hq => h q (List.mem_cons_of_mem _ hq)
/-! one longer -/
def EG (n : Net) (lv : Sl) (r : Nat) (s : Sl × Sl) (fr : List Row) : List Sl := EB n lv r s (.v (.list (fr.map encQ)))
def fk (bs : List Bd) (q : Row) (k : Nat) : List Row := ((List.range k).filter (goesOn bs q.1)).map fun k => (q.1 ++ [k], q.2 + wgt bs k)
theorem fk_len (bs : List Bd) (q : Row) {k : Nat} (h : k ≤ bs.length) : (fk bs q k).length ≤ (freshOf bs q).length := by
  unfold fk freshOf
  rw [List.length_map, List.length_map]
  refine List.Sublist.length_le (List.Sublist.filter _ ?_)
  exact List.range_sublist.mpr h
theorem alike_rows : ∀ xs ys : List Nat, W.alikeAll (xs.map encK) (ys.map encK) = true
  | [], ys => by cases ys <;> simp [W.alikeAll]
  | _ :: _, [] => by simp [W.alikeAll]
  | x :: xs, y :: ys => by
    show W.alikeAll (encK x :: xs.map encK) (encK y :: ys.map encK) = true
    simp only [W.alikeAll, alike_rows xs ys, Bool.and_true]
    simp [encK, W.alike]
theorem turn_one {n : Net} {lv : Sl} (hlv : isBor lv = false) {r : Nat} (fr : List Row) (q : Row) (hne : q.1 ≠ []) (hlt : ∀ k ∈ q.1, k < n.bounds.length) (hq : q.1.length ≤ 1000) (hl : fr.length + (freshOf n.bounds q).length ≤ 999999) {k : Nat} (hk : k < n.bounds.length) :
    turnF C_4 (.tup (.cons (.nm 6) (.cons (.tup (.cons (.nm 7) (.cons (.nm 8) (.cons (.nm 9) .nil)))) .nil))) b_bad_circle_2 (.tuple [.int (k : Nat), encB (bd n.bounds k)]) (EG n lv r (.v (encRow q.1), .v (.int q.2)) (fr ++ fk n.bounds q k)) .none = some (.nx (EG n lv r (.v (encRow q.1), .v (.int q.2)) (fr ++ fk n.bounds q (k + 1))) .none) := by
  have h1 : lastD q.1 < n.bounds.length := hlt _ (by
    unfold lastD
    rw [List.getLastD_eq_getLast?, List.getLast?_eq_some_getLast hne]
    exact List.getLast_mem hne)
  have hs : ∀ k, (bd n.bounds k).1 = src n.bounds k := fun k => rfl
  have hd : ∀ k, (bd n.bounds k).2.1 = dst n.bounds k := fun k => rfl
  have hw : ∀ k, (bd n.bounds k).2.2 = wgt n.bounds k := fun k => rfl
  have hni : cmpD .notin (.int (k : Int)) (encRow q.1) = some (!q.1.contains k) := cmpD_ninT (pf_i _) (plA_mapE fun _ _ => rfl) (by
    rw [Bool.not_eq_true', ← Bool.not_eq_true, List.contains_iff_mem]
    refine not_congr ⟨fun h => List.mem_map.mpr ⟨k, h, rfl⟩, fun h => ?_⟩
    obtain ⟨j, hj, e⟩ := List.mem_map.mp h
    have : j = k := by
      unfold encK at e
      injection e with e
      omega
    rw [← this]; exact hj)
  have hstep : fk n.bounds q (k + 1) = if goesOn n.bounds q.1 k = true then fk n.bounds q k ++ [(q.1 ++ [k], q.2 + wgt n.bounds k)] else fk n.bounds q k := by
    unfold fk
    rw [List.range_succ, List.filter_append, List.map_append]
    cases c : goesOn n.bounds q.1 k with
    | true => simp [c]
    | false => simp [c]
  rw [hstep]
  have hsl : slOf (encB (bd n.bounds k)) = .v (encB (bd n.bounds k)) := slOf_imm rfl
  have hb : encB (bd n.bounds k) = .tuple [.int (src n.bounds k : Int), .int (dst n.bounds k : Int), .int (wgt n.bounds k)] := rfl
  unfold EG EB b_bad_circle_2
  rw [hb]
  push_cast [encN_1, row_l hne, bix h1, encB_1, hd, hni]
  unfold goesOn
  by_cases c1 : src n.bounds k = dst n.bounds (lastD q.1)
  · cases c2 : q.1.contains k with
    | true =>
      push_cast [c1, Bool.and_false, Bool.false_eq_true, if_false]
    | false =>
      have hf := fk_len n.bounds q (Nat.le_of_lt hk)
      have hlen : ((fr ++ fk n.bounds q k).map encQ).length < 1000000 := by
        rw [List.length_map, List.length_append]; omega
      have hadd : op2D .add (encRow q.1) (.tuple [.int (k : Int)]) = some (encRow (q.1 ++ [k])) := by
        have := op2D_addT (q.1.map encK) [.int (k : Int)] (immAll_encK _) rfl (by rw [List.length_map]; simp; omega)
        unfold encRow
        rw [List.map_append]
        exact this
      have hlen' : (fr ++ fk n.bounds q k).length < 1000000 := by rw [List.length_map] at hlen; exact hlen
      push_cast [c1, hadd, hlv, hlen', if_true, List.map_append, List.append_assoc, encQ, decide_eq_true hlen']
  · have c1' : ¬ (src n.bounds k : Int) = (dst n.bounds (lastD q.1) : Int) := fun z => c1 (by omega)
    push_cast [c1, c1', Bool.false_and, Bool.false_eq_true, if_false]
theorem turn_all {n : Net} {lv : Sl} (hlv : isBor lv = false) {r : Nat} (s : Sl × Sl) (fr : List Row) (q : Row) (hne : q.1 ≠ []) (hlt : ∀ k ∈ q.1, k < n.bounds.length) (hq : q.1.length ≤ 1000) (hl : fr.length + (freshOf n.bounds q).length ≤ 999999) :
    turnF C_4 (.tup (.cons (.nm 3) (.cons (.nm 4) .nil))) b_bad_circle_3 (encQ q) (EG n lv r s fr) .none = some (.nx (EG n lv r (stL s q) (fr ++ freshOf n.bounds q)) .none) := by
  have := evFor_range (turn := turnF C_4 (.tup (.cons (.nm 6) (.cons (.tup (.cons (.nm 7) (.cons (.nm 8) (.cons (.nm 9) .nil)))) .nil))) b_bad_circle_2) (enc := fun k : Nat => .tuple [.int (k : Nat), encB (bd n.bounds k)]) (fun k => EG n lv r (.v (encRow q.1), .v (.int q.2)) (fr ++ fk n.bounds q k)) (fun _ => .none) (n := n.bounds.length) fun k hk => turn_one hlv fr q hne hlt hq hl hk
  have e0 : fk n.bounds q 0 = [] := rfl
  have e1 : fk n.bounds q n.bounds.length = freshOf n.bounds q := rfl
  rw [e0, e1, List.append_nil] at this
  unfold EG EB encQ b_bad_circle_3 at *
  push_cast [slOf_encRow, encN_1, mapB, enumD_range, immAll_mapE (enc := fun k => encB (bd n.bounds k)) (xs := List.range n.bounds.length) fun _ _ => rfl]
  dsimp only at this
  rw [this]
  push_cast [stL]
theorem grow {n : Net} {l : List D} {a : Addr} {r : Nat} : ∀ (xs : List Row) (s : Sl × Sl) (fr : List Row), (∀ q ∈ xs, q.1 ≠ [] ∧ (∀ k ∈ q.1, k < n.bounds.length) ∧ q.1.length ≤ 1000) → fr.length + (xs.flatMap (freshOf n.bounds)).length ≤ 999999 → evPin (turnF C_4 (.tup (.cons (.nm 3) (.cons (.nm 4) .nil))) b_bad_circle_3) 1 (.v (.list l) (some a)) (xs.map encQ) (EG n (.v (.list l) (some a)) r s fr) .none = some (.nx (EG n (.v (.list l)) r (xs.foldl stL s) (fr ++ xs.flatMap (freshOf n.bounds))) .none)
  | [], s, fr, _, _ => by
    rw [List.map_nil, evPin_nil rfl, List.flatMap_nil, List.append_nil]; rfl
  | q :: xs, s, fr, h, hl => by
    obtain ⟨h1, h2, h3⟩ := h q List.mem_cons_self
    rw [List.flatMap_cons, List.length_append] at hl
    rw [List.map_cons, evPin_nx rfl (turn_all (lv := .v (.list l) (some a)) rfl s fr q h1 h2 h3 (by omega))]
    rw [grow xs _ _ (fun q hq => h q (List.mem_cons_of_mem _ hq)) (by rw [List.length_append]; omega), List.flatMap_cons, List.append_assoc]
    rfl
theorem pf_encQ (q : Row) : pf (encQ q) = true := by
  unfold pf
  rw [Bool.and_eq_true]
  refine ⟨?_, decide_eq_true ?_⟩
  · show plA [encRow q.1, .int q.2] = true
    unfold plA
    rw [show pl (encRow q.1) = true from plA_mapE fun _ _ => rfl]; rfl
  · unfold encQ encRow
    rw [dep_t]
    have : PyData.depthAll (q.1.map encK) ≤ 0 := dep_mapE fun x _ => by unfold encK; rw [dep_i]; exact Nat.le_refl _
    simp only [PyData.depthAll, dep_t, dep_i]
    omega
theorem sorted_rows (l : List Row) (h : l.length ≤ 1000000) : ∃ l' : List Row, l'.Perm l ∧ biD .sorted [.list (l.map encQ)] = some (.list (l'.map encQ)) :=
  sort_map (fun q _ => imm_encQ q) (fun q _ => pf_encQ q) h (fun x _ y _ => by
    show W.alike (.tuple [encRow x.1, .int x.2]) (.tuple [encRow y.1, .int y.2]) = true
    have : W.alike (encRow x.1) (encRow y.1) = true := alike_rows x.1 y.1
    simp only [W.alike, W.alikeAll, this, Bool.and_self]) fun q _ => ⟨_, _, rfl⟩
def EL (n : Net) (lev : List Row) : List Sl := [.arg (encN n), .v (.list (lev.map encQ)), .any, .any, .any, .any, .any, .any, .any, .any]
theorem turn_round2 {n : Net} (hok : n.ok) {D' r : Nat} {lev : List Row} (h : Lev n.bounds D' r lev) (hD : ∀ v, ((List.range n.bounds.length).filter fun k => decide (src n.bounds k = v)).length ≤ D') (hr : r ≤ 900) (hs : n.bounds.length * D' ^ (r + 1) ≤ 999999 ∨ ∃ q ∈ lev, bad n.bounds q = true) :
    (∃ q ∈ lev, bad n.bounds q = true ∧ turnF C_4 (.nm 2) b_bad_circle_4 (.int (r : Int)) (EL n lev) .none = some (.rt .none (encRow q.1))) ∨ (∀ q ∈ lev, bad n.bounds q = false) ∧ ∃ lev', Lev n.bounds D' (r + 1) lev' ∧ turnF C_4 (.nm 2) b_bad_circle_4 (.int (r : Int)) (EL n lev) .none = some (.nx (EL n lev') .none) := by
  have hrows : ∀ q ∈ lev, q.1 ≠ [] ∧ (∀ k ∈ q.1, k < n.bounds.length) ∧ q.1.length ≤ 1000 := fun q hq => by
    obtain ⟨hl, i, j, hw⟩ := h.sound q hq
    exact ⟨by intro z; rw [z] at hl; simp at hl, hw.lt, by omega⟩
  have h1 := fun a : Addr => seek hok (l := lev.map encQ) (a := a) (r := r) lev (.any, .any) fun q hq => ⟨(hrows q hq).1, (hrows q hq).2.1⟩
  cases hf : lev.find? (bad n.bounds) with
  | some q =>
    left
    refine ⟨q, List.mem_of_find?_eq_some hf, List.find?_some hf, ?_⟩
    rw [hf] at h1
    unfold EB at h1
    dsimp only at h1
    unfold EL b_bad_circle_4
    push_cast [evS_forV, immAll_encQ]
    rw [allA_eq h1]
    push_cast []
  | none =>
    right
    have hnb := List.find?_eq_none.mp hf
    refine ⟨fun q hq => by have := hnb q hq; simpa using this, ?_⟩
    rw [hf] at h1
    dsimp only at h1
    have hs : n.bounds.length * D' ^ (r + 1) ≤ 999999 := by
      rcases hs with hs | ⟨q, hq, hb⟩
      · exact hs
      · exact absurd hb (hnb q hq)
    have hlen : (lev.flatMap (freshOf n.bounds)).length ≤ 999999 := (lev_succ h (List.Perm.refl _) hD).size |> fun q => Nat.le_trans q hs
    have h2 := fun a : Addr => grow (n := n) (l := lev.map encQ) (a := a) (r := r) lev (lev.foldl stL (.any, .any)) [] hrows (by rw [List.length_nil]; omega)
    obtain ⟨lev', hp, hsort⟩ := sorted_rows (lev.flatMap (freshOf n.bounds)) (by omega)
    refine ⟨lev', lev_succ h hp hD, ?_⟩
    unfold EG EB at h2
    unfold EB at h1
    dsimp only at h1 h2
    unfold EL b_bad_circle_4
    push_cast [evS_forV, immAll_encQ]
    rw [allA_eq h1]
    push_cast [evS_forV, immAll_encQ]
    rw [List.map_nil] at h2
    rw [allA_eq h2]
    push_cast [List.nil_append, hsort]
theorem rounds {n : Net} (hok : n.ok) {D' L : Nat} (hD : ∀ v, ((List.range n.bounds.length).filter fun k => decide (src n.bounds k = v)).length ≤ D') (hL : L ≤ 900) (hs : ∀ r, r ≤ L → n.bounds.length * D' ^ r ≤ 999999) {i : Nat} {ks : List Nat} {z : Int} (hw : Wk n.bounds i ks i z) (hz : z < 0) (hn : ks.Nodup) (hl : ks.length = L + 1) : ∀ (m r : Nat) (lev : List Row), Lev n.bounds D' r lev → r ≤ L → L < r + m → ∃ row i z, evFor (turnF C_4 (.nm 2) b_bad_circle_4) ((List.range' r m).map fun k : Nat => .int (k : Int)) (EL n lev) .none = some (.rt .none (encRow row)) ∧ Wk n.bounds i row i z ∧ z < 0 ∧ row ≠ [] ∧ row.length ≤ 1000
  | 0, r, _, _, h1, h2 => absurd h2 (by omega)
  | m + 1, r, lev, hv, h1, h2 => by
    rw [List.range'_succ, List.map_cons]
    have hrow : ∀ q ∈ lev, bad n.bounds q = true → ∃ i z, Wk n.bounds i q.1 i z ∧ z < 0 ∧ q.1 ≠ [] ∧ q.1.length ≤ 1000 := fun q hq hb => by
      obtain ⟨hne, i, hw, hz⟩ := bad_sound hv hq hb
      exact ⟨i, q.2, hw, hz, hne, by have := (hv.sound q hq).1; omega⟩
    by_cases c : r = L
    · subst c
      obtain ⟨q0, hq0, hb0⟩ := bad_full hv hw hz hn hl
      rcases turn_round2 hok hv hD (by omega) (.inr ⟨q0, hq0, hb0⟩) with ⟨q, hq, hb, e⟩ | ⟨hno, _⟩
      · obtain ⟨i, z, a, b, c, d⟩ := hrow q hq hb
        refine ⟨q.1, i, z, ?_, a, b, c, d⟩
        show bL (turnF C_4 (.nm 2) b_bad_circle_4 (.int (r : Int)) (EL n lev) .none) _ = _
        rw [e]; rfl
      · rw [hno q0 hq0] at hb0; cases hb0
    · rcases turn_round2 hok hv hD (by omega) (.inl (hs (r + 1) (by omega))) with ⟨q, hq, hb, e⟩ | ⟨hno, lev', hv', e⟩
      · obtain ⟨i, z, a, b, c, d⟩ := hrow q hq hb
        refine ⟨q.1, i, z, ?_, a, b, c, d⟩
        show bL (turnF C_4 (.nm 2) b_bad_circle_4 (.int (r : Int)) (EL n lev) .none) _ = _
        rw [e]; rfl
      · obtain ⟨row, i, z, e2, a, b, c, d⟩ := rounds hok hD hL hs hw hz hn hl m (r + 1) lev' hv' (by omega) (by omega)
        refine ⟨row, i, z, ?_, a, b, c, d⟩
        show bL (turnF C_4 (.nm 2) b_bad_circle_4 (.int (r : Int)) (EL n lev) .none) _ = _
        rw [e, bL_nx]; exact e2
theorem f_bad {n : Net} (hok : n.ok) (hf : ¬ Fits n) {D' : Nat} (hD : ∀ v, ((List.range n.bounds.length).filter fun k => decide (src n.bounds k = v)).length ≤ D') (hs : ∀ r, r < n.many → n.bounds.length * D' ^ r ≤ 999999) : ∃ row i z, r_bad_circle [encN n] = some (encRow row) ∧ Wk n.bounds i row i z ∧ z < 0 ∧ row ≠ [] ∧ row.length ≤ 1000 := by
  obtain ⟨i, ks, z, hw, hz, hn, hne, hl⟩ := circle_ex hok hf
  have h8 := hok.1.2
  have hlk : ∃ L, ks.length = L + 1 := ⟨ks.length - 1, by have := List.length_pos_iff.mpr hne; omega⟩
  obtain ⟨L, hL⟩ := hlk
  obtain ⟨row, i, z, e, a, b, c, d⟩ := rounds hok hD (by omega) (fun r hr => hs r (by omega)) hw hz hn hL n.many 0 (lev0 n.bounds) (lev_zero _ _) (Nat.zero_le _) (by omega)
  refine ⟨row, i, z, ?_, a, b, c, d⟩
  rw [← List.range_eq_range'] at e
  have hff : fitsB n = false := by
    rw [← Bool.not_eq_true]
    exact fun z => hf ((fitsB_iff n).mp z)
  refine (runF_eq [.arg (encN n), .any, .any, .any, .any, .any, .any, .any, .any, .any] rfl rfl).trans ?_
  unfold b_bad_circle
  push_cast [evE_call, c4_check_net, c4_fits, f_check_net n hok, f_fits n hok, hff]
  rw [evLc_map (τ1 := .none) (o := true) (fun k : Nat => .int (k : Int)) (fun k => encQ ([k], wgt n.bounds k)) (List.range n.bounds.length) (evI_rngN n.bounds.length (by push_cast [encN_1]; rfl) (by have := hok.2.2; omega)) (by rw [List.length_range]; have := hok.2.2; omega) fun k hk => by
    have hk := List.mem_range.mp hk
    have hw : ∀ k, (bd n.bounds k).2.2 = wgt n.bounds k := fun k => rfl
    push_cast [encN_1, bix hk, encB_2, hw]
    rfl]
  push_cast []
  rw [evI_rngN n.many (by push_cast [encN_0]; rfl) (by omega)]
  push_cast []
  unfold EL lev0 at e
  rw [List.map_map] at e
  rw [show (fun k => encQ ([k], wgt n.bounds k)) = encQ ∘ fun k => ([k], wgt n.bounds k) from rfl, e]
  push_cast []
end K55
namespace K55
open PySem PySem.Spec L2 RZ DL DI
local macro_rules
  | `(tactic| l_intsW) => `(tactic| simp -implicitDefEqProofs only [evSs_nil, evSs_cons, evSs_fgt, evS_set, evS_setLc, evS_move, evS_unp, evS_par, evS_ife, evS_for, evS_ret, evS_retV, evS_retN, evS_expr, evS_append, evS_extend, evS_addI, evS_pass, evS_brk, evS_cont, evO_nm, evO_tup, evOs_nil, evOs_cons, evG_nm, evG_tup, evGs_nil, evGs_cons,
  evE_varE, evE_int, evE_bl, evE_non, evE_str, evE_glob, evE_op2, evE_cmp, evE_chain, evE_ix, evE_neg, evE_not, evE_and, evE_or, evE_ife, evE_tup, evE_lst, evE_bi, evE_sl, evC_el, evC_ift, evT_not, evT_and, evT_or, evT_val, evA_nil, evA_cons, evAnd_one, evAnd_cons, evOr_one, evOr_cons, tsAnd_one, tsAnd_cons, tsOr_one, tsOr_cons, evP_no, evP_so, evI_seq, evI_enum,
  gS_z, gS_s, rdS_v, rdS_arg, gL_z, gL_s, gV_z, gV_s, negD_int, notD_bl, trD_bl, trD_none, trD_tuple, trD_list, blD_bl, inD_int, sqD_list, sqD_tuple, lsD_list, Option.bind_some, Option.bind_none, bE_some, bE_none, bT_some, bT_none, bS_nx, bS_rt, bS_bk, bS_ct, bL_nx, bL_ct, bL_bk, bL_rt, guardO_true, guardO_false, iteB_true, iteB_false, List.set_cons_zero, List.set_cons_succ, wipeL, List.map_cons, List.map_nil,
  List.all_cons, List.all_nil, id_eq, Bool.and_self, Bool.and_true, Bool.true_and, List.length_cons, List.length_nil, slOf_int, slOf_bool, imm_int, imm_bool, imm_none, turnC_eq, turnF_eq, cmpD_lt, cmpD_le, cmpD_gt, cmpD_ge, op2D_add, op2D_sub, ixD_t, ixD_l, addG_gl, decide_true, decide_false, Bool.not_true, Bool.not_false, ↓reduceIte, cmpD_is_non, cmpD_isn_non, isNon_int, isNon_none, biD_allM, biD_anyM, biD_len_l, biD_len_t, biD_tuple, List.length_map, cmpD_eq_int, cmpD_ne_int, cmpD_eq_bl, cmpD_ne_bl, cmpD_is_bl, cmpD_isn_bl, biD_max2, biD_min2, nb_nil, nb_cons, isB_v, isB_arg, isB_any, isB_tp, isB_scr, outF_rt, outF_nx, outT_rt, biD_int, biD_abs, dLe0, dLe1, dLe2, dLe3, imm_tuple, immAll_cons, immAll_nil])
  | `(tactic| push_cast [$ls,*]) => `(tactic| simp -implicitDefEqProofs only [evSs_nil, evSs_cons, evSs_fgt, evS_set, evS_setLc, evS_move, evS_unp, evS_par, evS_ife, evS_for, evS_ret, evS_retV, evS_retN, evS_expr, evS_append, evS_extend, evS_addI, evS_pass, evS_brk, evS_cont, evO_nm, evO_tup, evOs_nil, evOs_cons, evG_nm, evG_tup, evGs_nil, evGs_cons,
  evE_varE, evE_int, evE_bl, evE_non, evE_str, evE_glob, evE_op2, evE_cmp, evE_chain, evE_ix, evE_neg, evE_not, evE_and, evE_or, evE_ife, evE_tup, evE_lst, evE_bi, evE_sl, evC_el, evC_ift, evT_not, evT_and, evT_or, evT_val, evA_nil, evA_cons, evAnd_one, evAnd_cons, evOr_one, evOr_cons, tsAnd_one, tsAnd_cons, tsOr_one, tsOr_cons, evP_no, evP_so, evI_seq, evI_enum,
  gS_z, gS_s, rdS_v, rdS_arg, gL_z, gL_s, gV_z, gV_s, negD_int, notD_bl, trD_bl, trD_none, trD_tuple, trD_list, blD_bl, inD_int, sqD_list, sqD_tuple, lsD_list, Option.bind_some, Option.bind_none, bE_some, bE_none, bT_some, bT_none, bS_nx, bS_rt, bS_bk, bS_ct, bL_nx, bL_ct, bL_bk, bL_rt, guardO_true, guardO_false, iteB_true, iteB_false, List.set_cons_zero, List.set_cons_succ, wipeL, List.map_cons, List.map_nil,
  List.all_cons, List.all_nil, id_eq, Bool.and_self, Bool.and_true, Bool.true_and, List.length_cons, List.length_nil, slOf_int, slOf_bool, imm_int, imm_bool, imm_none, turnC_eq, turnF_eq, cmpD_lt, cmpD_le, cmpD_gt, cmpD_ge, op2D_add, op2D_sub, ixD_t, ixD_l, addG_gl, decide_true, decide_false, Bool.not_true, Bool.not_false, ↓reduceIte, cmpD_is_non, cmpD_isn_non, isNon_int, isNon_none, biD_allM, biD_anyM, biD_len_l, biD_len_t, biD_tuple, List.length_map, cmpD_eq_int, cmpD_ne_int, cmpD_eq_bl, cmpD_ne_bl, cmpD_is_bl, cmpD_isn_bl, biD_max2, biD_min2, nb_nil, nb_cons, isB_v, isB_arg, isB_any, isB_tp, isB_scr, outF_rt, outF_nx, outT_rt, biD_int, biD_abs, dLe0, dLe1, dLe2, dLe3, imm_tuple, immAll_cons, immAll_nil, $ls,*])

def t_G : ISs := .cons (.set 26 (.op2 .add (.int 1) (.callT "_law_take" 1 (.cons (.int 2) .nil)))) (.cons (.set 27 (.op2 .add (.int 1) (.callT "_law_take" 1 (.cons (.int 2) .nil)))) (.cons (.unp (.tup (.cons (.nm 28) (.cons (.nm 29) .nil))) (.tup (.cons (.bi .tuple (.cons (.lc [("k", 35)] (.el (.callT "_law_take" 1 (.cons (.int 9) .nil))) (.nm 35) (.rng1 (.var 26))) .nil)) (.cons (.bi .tuple (.cons (.lc [("k", 35)] (.el (.callT "_law_take" 1 (.cons (.int 9) .nil))) (.nm 35) (.rng1 (.var 27))) .nil)) .nil)))) (.cons (.unp (.tup (.cons (.nm 24) (.cons (.nm 30) .nil))) (.tup (.cons (.callT "_law_pairs" 1 (.cons (.var 26) .nil)) (.cons (.callT "_law_pairs" 1 (.cons (.var 27) .nil)) .nil)))) (.cons (.set 31 (.bi .tuple (.cons (.lc [("a", 33), ("b", 36)] (.el (.tup (.cons (.op2 .add (.var 33) (.var 26)) (.cons (.op2 .add (.var 36) (.var 26)) .nil)))) (.tup (.cons (.nm 33) (.cons (.nm 36) .nil))) (.seq (.var 30))) .nil))) (.cons (.set 32 (.lst .nil)) (.cons (.for_ (.nm 33) (.rng1 (.var 26)) b_law_4) (.cons (.ife (.val (.cmp .ne (.call "_law_end" (.cons (.op2 .add (.var 28) (.var 29)) (.cons (.op2 .add (.var 24) (.var 31)) .nil))) (.bi .max2 (.cons (.call "_law_end" (.cons (.var 28) (.cons (.var 24) .nil))) (.cons (.call "_law_end" (.cons (.var 29) (.cons (.var 30) .nil))) .nil))))) (.cons (.ret (.bl false)) .nil) .nil) (.cons (.set 34 (.call "earliest" (.cons (.call "net_of" (.cons (.op2 .add (.var 28) (.var 29)) (.cons (.op2 .add (.op2 .add (.var 24) (.var 31)) (.bi .tuple (.cons (.var 32) .nil))) .nil))) .nil))) (.cons (.ife (.val (.cmp .ne (.bi .max1 (.cons (.var 34) .nil)) (.op2 .add (.call "_law_end" (.cons (.var 28) (.cons (.var 24) .nil))) (.call "_law_end" (.cons (.var 29) (.cons (.var 30) .nil)))))) (.cons (.ret (.bl false)) .nil) .nil) (.cons (.ret (.and (.cons (.cmp .eq (.sl (.var 34) .no (.so (.op2 .mul (.int 2) (.var 26)))) (.call "earliest" (.cons (.call "net_of" (.cons (.var 28) (.cons (.var 24) .nil))) .nil))) (.cons (.cmp .eq (.sl (.var 34) (.so (.op2 .mul (.int 2) (.var 26))) .no) (.bi .tuple (.cons (.lc [("time", 37)] (.el (.op2 .add (.var 37) (.call "_law_end" (.cons (.var 28) (.cons (.var 24) .nil))))) (.nm 37) (.seq (.call "earliest" (.cons (.call "net_of" (.cons (.var 29) (.cons (.var 30) .nil))) .nil)))) .nil))) .nil)))) .nil))))))))))
def t_F : ISs := .cons (.set 14 (.callT "_law_take" 1 (.cons (.int 30) .nil))) (.cons (.for_ (.nm 20) (.rng1 (.var 2)) b_law_3) (t_G))
def t_E : ISs := .cons (.for_ (.nm 16) (.rng1 (.var 2)) b_law_2) (t_F)
def t_D : ISs := .cons (.set 15 (.bi .tuple (.cons (.lc [("time", 37)] (.el (.op2 .add (.var 37) (.callT "_law_take" 1 (.cons (.int 4) .nil)))) (.nm 37) (.seq (.var 3))) .nil))) (.cons (.ife (.val (.bi .any (.cons (.lc [("k", 35)] (.el (.cmp .lt (.ix (.call "earliest" (.cons (.call "net_of" (.cons (.var 15) (.cons (.var 4) .nil))) .nil)) (.var 35)) (.ix (.var 10) (.var 35)))) (.nm 35) (.rng1 (.op2 .mul (.int 2) (.var 2)))) .nil))) (.cons (.ret (.bl false)) .nil) .nil) (t_E))
def t_C : ISs := .cons (.set 11 (.bi .tuple (.cons (.sset (.op2 .add (.bi .list (.cons (.var 4) .nil)) (.lc [("a", 33), ("b", 36)] (.ift (.val (.cmp .notin (.tup (.cons (.var 36) (.cons (.var 33) .nil))) (.var 4))) (.tup (.cons (.var 33) (.cons (.var 36) .nil)))) (.tup (.cons (.nm 33) (.cons (.nm 36) .nil))) (.seq (.callT "_law_pairs" 1 (.cons (.var 2) .nil)))))) .nil))) (.cons (.set 12 (.call "_law_starts" (.cons (.var 3) (.cons (.var 11) .nil)))) (.cons (.set 13 (.bi .all (.cons (.lc [("a", 33), ("b", 36)] (.el (.cmp .ge (.ix (.var 12) (.var 36)) (.op2 .add (.ix (.var 12) (.var 33)) (.ix (.var 3) (.var 33))))) (.tup (.cons (.nm 33) (.cons (.nm 36) .nil))) (.seq (.var 11))) .nil))) (.cons (.ife (.and (.cons (.val (.var 13)) (.cons (.val (.call "fits" (.cons (.call "net_of" (.cons (.var 3) (.cons (.var 11) .nil))) .nil))) .nil))) (.cons (.set 14 (.call "earliest" (.cons (.call "net_of" (.cons (.var 3) (.cons (.var 11) .nil))) .nil))) (.cons (.ife (.val (.bi .any (.cons (.lc [("k", 35)] (.el (.cmp .lt (.ix (.var 14) (.var 35)) (.ix (.var 10) (.var 35)))) (.nm 35) (.rng1 (.op2 .mul (.int 2) (.var 2)))) .nil))) (.cons (.ret (.bl false)) .nil) .nil) .nil)) .nil) (t_D))))
def t_B : ISs := .cons (.set 8 (.op2 .add (.int 1) (.callT "_law_take" 1 (.cons (.int 9) .nil)))) (.cons (.set 9 (.bi .tuple (.cons (.lc [("time", 37)] (.el (.op2 .mul (.var 8) (.var 37))) (.nm 37) (.seq (.var 3))) .nil))) (.cons (.ife (.val (.cmp .ne (.call "earliest" (.cons (.call "net_of" (.cons (.var 9) (.cons (.var 4) .nil))) .nil)) (.bi .tuple (.cons (.lc [("time", 37)] (.el (.op2 .mul (.var 8) (.var 37))) (.nm 37) (.seq (.call "earliest" (.cons (.var 6) .nil)))) .nil)))) (.cons (.ret (.bl false)) .nil) .nil) (.cons (.set 10 (.call "earliest" (.cons (.var 6) .nil))) (t_C))))
def t_A : ISs := .cons (.set 2 (.op2 .add (.int 1) (.callT "_law_take" 1 (.cons (.int 4) .nil)))) (.cons (.unp (.tup (.cons (.nm 3) (.cons (.nm 4) .nil))) (.tup (.cons (.bi .tuple (.cons (.lc [("k", 35)] (.el (.callT "_law_take" 1 (.cons (.int 9) .nil))) (.nm 35) (.rng1 (.var 2))) .nil)) (.cons (.callT "_law_pairs" 1 (.cons (.var 2) .nil)) .nil)))) (.cons (.ife (.not (.val (.call "_law_net_right" (.cons (.var 3) (.cons (.var 4) .nil))))) (.cons (.ret (.bl false)) .nil) .nil) (.cons (.unp (.tup (.cons (.nm 5) (.cons (.nm 6) .nil))) (.tup (.cons (.call "_law_end" (.cons (.var 3) (.cons (.var 4) .nil))) (.cons (.call "net_of" (.cons (.var 3) (.cons (.var 4) .nil))) .nil)))) (.cons (.set 7 (.bi .tuple (.cons (.lc [("a", 33), ("b", 36)] (.el (.tup (.cons (.var 36) (.cons (.var 33) .nil)))) (.tup (.cons (.nm 33) (.cons (.nm 36) .nil))) (.seq (.var 4))) .nil))) (.cons (.ife (.or (.cons (.not (.val (.call "_law_net_right" (.cons (.var 3) (.cons (.var 7) .nil))))) (.cons (.val (.cmp .ne (.call "_law_end" (.cons (.var 3) (.cons (.var 7) .nil))) (.var 5))) .nil))) (.cons (.ret (.bl false)) .nil) .nil) (t_B))))))
def law_s1 : IS := .set 1 (.callS "_law_tape" 0)
abbrev law_b : ISs := t_A
theorem law_split : b_law = .cons law_s1 law_b := rfl
/-- a script's steps -/
structure Cs (n : Nat) (d : Nat → Int) (p : Prs) : Prop where
  h1 : 1 ≤ n
  h4 : n ≤ 4
  hd : ∀ k, k < n → 0 ≤ d k ∧ d k ≤ 8
  ha : Acyc n p
  hl : p.length ≤ 16
theorem early_ok {n : Nat} {d : Nat → Int} {p : Prs} (h1 : 1 ≤ n) (h4 : n ≤ 4) (hd : ∀ k, k < n → 0 ≤ d k ∧ d k ≤ 99) (ha : Acyc n p) (hl : p.length ≤ 400) : r_earliest [encN (netOf n d p)] = some (encV (2 * n) (due d (startsF n d p))) := by
  have hok := netOf_ok h1 h4 hd ha.lt hl
  have hf := acyc_fits (d := d) ha
  rw [f_earliest _ hok hf]
  congr 1
  exact encV_congr fun k hk => (earl_least hok hf).uniq (due_least ha.lt (fun k hk => (hd k hk).1) (starts_least ha)) hk
section
variable {n : Nat} {d : Nat → Int} {p : Prs} (h : Cs n d p)
theorem Cs.hd99 {n : Nat} {d : Nat → Int} {p : Prs} (h : Cs n d p) : ∀ k, k < n → 0 ≤ d k ∧ d k ≤ 99 := fun k hk => by have := h.hd k hk; omega
theorem Cs.ok {n : Nat} {d : Nat → Int} {p : Prs} (h : Cs n d p) : (netOf n d p).ok := netOf_ok h.h1 h.h4 h.hd99 h.ha.lt (by have := h.hl; omega)
theorem Cs.fits {n : Nat} {d : Nat → Int} {p : Prs} (h : Cs n d p) : Fits (netOf n d p) := acyc_fits h.ha
theorem Cs.early {n : Nat} {d : Nat → Int} {p : Prs} (h : Cs n d p) : r_earliest [encN (netOf n d p)] = some (encV (2 * n) (due d (startsF n d p))) := early_ok h.h1 h.h4 h.hd99 h.ha (by have := h.hl; omega)
theorem Cs.net {n : Nat} {d : Nat → Int} {p : Prs} (h : Cs n d p) : r_net_of [encV n d, encPs p] = some (encN (netOf n d p)) := f_net_of h.ok (by have := h.hl; omega)
theorem Cs.end_ {n : Nat} {d : Nat → Int} {p : Prs} (h : Cs n d p) : r__law_end [encV n d, encPs p] = some (.int (endF n d p)) := f_end h.h1 (by have := h.h4; omega) h.ha.lt
theorem Cs.right {n : Nat} {d : Nat → Int} {p : Prs} (h : Cs n d p) : r__law_net_right [encV n d, encPs p] = some (.bool true) := f_net_right h.h1 h.h4 h.hd99 h.ha (by have := h.hl; omega)
end
def TlG : Prop := ∀ (t : Tape) (s : Nat → Sl), t.ok → ∃ τ', evSs C_17 t_G (s 0 :: .tp :: s 2 :: s 3 :: s 4 :: s 5 :: s 6 :: s 7 :: s 8 :: s 9 :: s 10 :: s 11 :: s 12 :: s 13 :: s 14 :: s 15 :: s 16 :: s 17 :: s 18 :: s 19 :: s 20 :: s 21 :: s 22 :: s 23 :: s 24 :: s 25 :: s 26 :: s 27 :: s 28 :: s 29 :: s 30 :: s 31 :: s 32 :: s 33 :: s 34 :: s 35 :: s 36 :: s 37 :: s 38 :: []) (eTape t) = some (.rt τ' (.bool true))
def TlF : Prop := ∀ (t : Tape) (s : Nat → Sl) (n : Nat) (d : Nat → Int) (p : Prs), t.ok → Cs n d p → ∃ τ', evSs C_17 t_F (s 0 :: .tp :: .v (.int (n : Int)) :: .v (encV n d) :: .v (encPs p) :: s 5 :: .v (encN (netOf n d p)) :: s 7 :: s 8 :: s 9 :: s 10 :: s 11 :: s 12 :: s 13 :: s 14 :: s 15 :: s 16 :: s 17 :: s 18 :: s 19 :: s 20 :: s 21 :: s 22 :: s 23 :: s 24 :: s 25 :: s 26 :: s 27 :: s 28 :: s 29 :: s 30 :: s 31 :: s 32 :: s 33 :: s 34 :: s 35 :: s 36 :: s 37 :: s 38 :: []) (eTape t) = some (.rt τ' (.bool true))
def TlE : Prop := ∀ (t : Tape) (s : Nat → Sl) (n : Nat) (d : Nat → Int) (p : Prs), t.ok → Cs n d p → ∃ τ', evSs C_17 t_E (s 0 :: .tp :: .v (.int (n : Int)) :: .v (encV n d) :: .v (encPs p) :: s 5 :: .v (encN (netOf n d p)) :: s 7 :: s 8 :: s 9 :: s 10 :: s 11 :: s 12 :: s 13 :: s 14 :: s 15 :: s 16 :: s 17 :: s 18 :: s 19 :: s 20 :: s 21 :: s 22 :: s 23 :: s 24 :: s 25 :: s 26 :: s 27 :: s 28 :: s 29 :: s 30 :: s 31 :: s 32 :: s 33 :: s 34 :: s 35 :: s 36 :: s 37 :: s 38 :: []) (eTape t) = some (.rt τ' (.bool true))
def TlD : Prop := ∀ (t : Tape) (s : Nat → Sl) (n : Nat) (d : Nat → Int) (p : Prs), t.ok → Cs n d p → ∃ τ', evSs C_17 t_D (s 0 :: .tp :: .v (.int (n : Int)) :: .v (encV n d) :: .v (encPs p) :: s 5 :: .v (encN (netOf n d p)) :: s 7 :: s 8 :: s 9 :: .v (encV (2 * n) (due d (startsF n d p))) :: s 11 :: s 12 :: s 13 :: s 14 :: s 15 :: s 16 :: s 17 :: s 18 :: s 19 :: s 20 :: s 21 :: s 22 :: s 23 :: s 24 :: s 25 :: s 26 :: s 27 :: s 28 :: s 29 :: s 30 :: s 31 :: s 32 :: s 33 :: s 34 :: s 35 :: s 36 :: s 37 :: s 38 :: []) (eTape t) = some (.rt τ' (.bool true))
def TlC : Prop := ∀ (t : Tape) (s : Nat → Sl) (n : Nat) (d : Nat → Int) (p : Prs), t.ok → Cs n d p → ∃ τ', evSs C_17 t_C (s 0 :: .tp :: .v (.int (n : Int)) :: .v (encV n d) :: .v (encPs p) :: s 5 :: .v (encN (netOf n d p)) :: s 7 :: s 8 :: s 9 :: .v (encV (2 * n) (due d (startsF n d p))) :: s 11 :: s 12 :: s 13 :: s 14 :: s 15 :: s 16 :: s 17 :: s 18 :: s 19 :: s 20 :: s 21 :: s 22 :: s 23 :: s 24 :: s 25 :: s 26 :: s 27 :: s 28 :: s 29 :: s 30 :: s 31 :: s 32 :: s 33 :: s 34 :: s 35 :: s 36 :: s 37 :: s 38 :: []) (eTape t) = some (.rt τ' (.bool true))
def TlB : Prop := ∀ (t : Tape) (s : Nat → Sl) (n : Nat) (d : Nat → Int) (p : Prs), t.ok → Cs n d p → ∃ τ', evSs C_17 t_B (s 0 :: .tp :: .v (.int (n : Int)) :: .v (encV n d) :: .v (encPs p) :: s 5 :: .v (encN (netOf n d p)) :: s 7 :: s 8 :: s 9 :: s 10 :: s 11 :: s 12 :: s 13 :: s 14 :: s 15 :: s 16 :: s 17 :: s 18 :: s 19 :: s 20 :: s 21 :: s 22 :: s 23 :: s 24 :: s 25 :: s 26 :: s 27 :: s 28 :: s 29 :: s 30 :: s 31 :: s 32 :: s 33 :: s 34 :: s 35 :: s 36 :: s 37 :: s 38 :: []) (eTape t) = some (.rt τ' (.bool true))
def TlA : Prop := ∀ (t : Tape) (s : Nat → Sl), t.ok → ∃ τ', evSs C_17 t_A (s 0 :: .tp :: s 2 :: s 3 :: s 4 :: s 5 :: s 6 :: s 7 :: s 8 :: s 9 :: s 10 :: s 11 :: s 12 :: s 13 :: s 14 :: s 15 :: s 16 :: s 17 :: s 18 :: s 19 :: s 20 :: s 21 :: s 22 :: s 23 :: s 24 :: s 25 :: s 26 :: s 27 :: s 28 :: s 29 :: s 30 :: s 31 :: s 32 :: s 33 :: s 34 :: s 35 :: s 36 :: s 37 :: s 38 :: []) (eTape t) = some (.rt τ' (.bool true))
theorem encV_list {n : Nat} {ys : List Int} (h : ys.length = n) : PyData.tuple (ys.map .int) = encV n fun k => ys.getD k 0 := by
  unfold encV
  congr 1
  apply List.ext_getElem
  · simp [h]
  · intro i h1 h2
    have hi : i < ys.length := by simpa using h1
    simp [List.getD_eq_getElem?_getD, List.getElem?_eq_getElem hi]
theorem tupV (n : Nat) (d : Nat → Int) : biD .tuple [encVl n d] = some (encV n d) := biD_tuple (immAll_ints d _)
theorem listV {n : Nat} {ys : List Int} (h : ys.length = n) : PyData.list (ys.map .int) = encVl n fun k => ys.getD k 0 := by
  have := encV_list h
  unfold encV at this
  unfold encVl
  injection this with this
  rw [this]
theorem step_ex {C : FT} {st : IS} {r : ISs} {ρ ρ' : List Sl} {τ τ1 : D} (h : evS C st ρ τ = some (.nx ρ' τ1)) (h2 : ∃ τ', evSs C r ρ' τ1 = some (.rt τ' (.bool true))) : ∃ τ', evSs C (.cons st r) ρ τ = some (.rt τ' (.bool true)) := by
  obtain ⟨τ', e⟩ := h2
  exact ⟨τ', by rw [evSs_cons, h, bS_nx]; exact e⟩
/-- a row of durations drawn -/
theorem draw_row {t : Tape} (ht : t.ok) {ρ : List Sl} {v n : Nat} (hn : n ≤ 1000) (hv : evE C_17 ρ (.var v) (eTape t) = some (eTape t, .int (n : Int), true)) (hT : ∀ x, gT ((wipeL ρ [35]).set 35 x) 1 = true) : ∃ (t' : Tape) (d : Nat → Int), evE C_17 ρ (.lc [("k", 35)] (.el (.callT "_law_take" 1 (.cons (.int 9) .nil))) (.nm 35) (.rng1 (.var v))) (eTape t) = some (eTape t', encVl n d, true) ∧ t'.ok ∧ ∀ k, k < n → 0 ≤ d k ∧ d k ≤ 8 := by
  obtain ⟨t', ys, e, hok, hQ, hl⟩ := evLc_ex1 (C := C_17) (ρ := ρ) (own := [("k", 35)]) (elt := .el (.callT "_law_take" 1 (.cons (.int 9) .nil))) (tg := .nm 35) (it := .rng1 (.var v)) (τ := eTape t) (o := true) (fun i : Nat => .int (i : Int)) (fun t : Tape => eTape t) PyData.int (fun t => t.ok) (fun z : Int => 0 ≤ z ∧ z ≤ 8) (List.range n) t ht (evI_rngN n hv (by omega)) (by rw [List.length_range]; omega) fun t i hok hi => by
    obtain ⟨b, t', hb, hok', e⟩ := f_take t hok 9 (by omega) (by omega)
    have e' : r__law_take (eTape t) [.int 9] = some (eTape t', .int (b : Int)) := e
    refine ⟨t', (b : Int), ?_, hok', by omega⟩
    unfold turnC
    rw [show [(("k" : Str), 35)].map (·.2) = [35] from rfl, evG_nm, Option.bind_some, evC_el, evE_callT (hT _), c17__law_take]
    push_cast [e']
  rw [List.length_range] at hl
  refine ⟨t', fun k => ys.getD k 0, ?_, hok, fun k hk => ?_⟩
  · rw [e, listV hl]
  · have hk' : k < ys.length := by omega
    show 0 ≤ ys.getD k 0 ∧ ys.getD k 0 ≤ 8
    rw [List.getD_eq_getElem?_getD, List.getElem?_eq_getElem hk']
    exact hQ _ (List.getElem_mem hk')
theorem cast1 (k : Nat) : (1 : Int) + (k : Int) = ((1 + k : Nat) : Int) := by omega
end K55
namespace K55
open PySem PySem.Spec L2 RZ DL DI
local macro_rules
  | `(tactic| l_intsW) => `(tactic| simp -implicitDefEqProofs only [evSs_nil, evSs_cons, evSs_fgt, evS_set, evS_setLc, evS_move, evS_unp, evS_par, evS_ife, evS_for, evS_ret, evS_retV, evS_retN, evS_expr, evS_append, evS_extend, evS_addI, evS_pass, evS_brk, evS_cont, evO_nm, evO_tup, evOs_nil, evOs_cons, evG_nm, evG_tup, evGs_nil, evGs_cons,
  evE_varE, evE_int, evE_bl, evE_non, evE_str, evE_glob, evE_op2, evE_cmp, evE_chain, evE_ix, evE_neg, evE_not, evE_and, evE_or, evE_ife, evE_tup, evE_lst, evE_bi, evE_sl, evC_el, evC_ift, evT_not, evT_and, evT_or, evT_val, evA_nil, evA_cons, evAnd_one, evAnd_cons, evOr_one, evOr_cons, tsAnd_one, tsAnd_cons, tsOr_one, tsOr_cons, evP_no, evP_so, evI_seq, evI_enum,
  gS_z, gS_s, rdS_v, rdS_arg, gL_z, gL_s, gV_z, gV_s, negD_int, notD_bl, trD_bl, trD_none, trD_tuple, trD_list, blD_bl, inD_int, sqD_list, sqD_tuple, lsD_list, Option.bind_some, Option.bind_none, bE_some, bE_none, bT_some, bT_none, bS_nx, bS_rt, bS_bk, bS_ct, bL_nx, bL_ct, bL_bk, bL_rt, guardO_true, guardO_false, iteB_true, iteB_false, List.set_cons_zero, List.set_cons_succ, wipeL, List.map_cons, List.map_nil,
  List.all_cons, List.all_nil, id_eq, Bool.and_self, Bool.and_true, Bool.true_and, List.length_cons, List.length_nil, slOf_int, slOf_bool, imm_int, imm_bool, imm_none, turnC_eq, turnF_eq, cmpD_lt, cmpD_le, cmpD_gt, cmpD_ge, op2D_add, op2D_sub, ixD_t, ixD_l, addG_gl, decide_true, decide_false, Bool.not_true, Bool.not_false, ↓reduceIte, cmpD_is_non, cmpD_isn_non, isNon_int, isNon_none, biD_allM, biD_anyM, biD_len_l, biD_len_t, biD_tuple, List.length_map, cmpD_eq_int, cmpD_ne_int, cmpD_eq_bl, cmpD_ne_bl, cmpD_is_bl, cmpD_isn_bl, biD_max2, biD_min2, nb_nil, nb_cons, isB_v, isB_arg, isB_any, isB_tp, isB_scr, outF_rt, outF_nx, outT_rt, biD_int, biD_abs, dLe0, dLe1, dLe2, dLe3, imm_tuple, immAll_cons, immAll_nil])
  | `(tactic| push_cast [$ls,*]) => `(tactic| simp -implicitDefEqProofs only [evSs_nil, evSs_cons, evSs_fgt, evS_set, evS_setLc, evS_move, evS_unp, evS_par, evS_ife, evS_for, evS_ret, evS_retV, evS_retN, evS_expr, evS_append, evS_extend, evS_addI, evS_pass, evS_brk, evS_cont, evO_nm, evO_tup, evOs_nil, evOs_cons, evG_nm, evG_tup, evGs_nil, evGs_cons,
  evE_varE, evE_int, evE_bl, evE_non, evE_str, evE_glob, evE_op2, evE_cmp, evE_chain, evE_ix, evE_neg, evE_not, evE_and, evE_or, evE_ife, evE_tup, evE_lst, evE_bi, evE_sl, evC_el, evC_ift, evT_not, evT_and, evT_or, evT_val, evA_nil, evA_cons, evAnd_one, evAnd_cons, evOr_one, evOr_cons, tsAnd_one, tsAnd_cons, tsOr_one, tsOr_cons, evP_no, evP_so, evI_seq, evI_enum,
  gS_z, gS_s, rdS_v, rdS_arg, gL_z, gL_s, gV_z, gV_s, negD_int, notD_bl, trD_bl, trD_none, trD_tuple, trD_list, blD_bl, inD_int, sqD_list, sqD_tuple, lsD_list, Option.bind_some, Option.bind_none, bE_some, bE_none, bT_some, bT_none, bS_nx, bS_rt, bS_bk, bS_ct, bL_nx, bL_ct, bL_bk, bL_rt, guardO_true, guardO_false, iteB_true, iteB_false, List.set_cons_zero, List.set_cons_succ, wipeL, List.map_cons, List.map_nil,
  List.all_cons, List.all_nil, id_eq, Bool.and_self, Bool.and_true, Bool.true_and, List.length_cons, List.length_nil, slOf_int, slOf_bool, imm_int, imm_bool, imm_none, turnC_eq, turnF_eq, cmpD_lt, cmpD_le, cmpD_gt, cmpD_ge, op2D_add, op2D_sub, ixD_t, ixD_l, addG_gl, decide_true, decide_false, Bool.not_true, Bool.not_false, ↓reduceIte, cmpD_is_non, cmpD_isn_non, isNon_int, isNon_none, biD_allM, biD_anyM, biD_len_l, biD_len_t, biD_tuple, List.length_map, cmpD_eq_int, cmpD_ne_int, cmpD_eq_bl, cmpD_ne_bl, cmpD_is_bl, cmpD_isn_bl, biD_max2, biD_min2, nb_nil, nb_cons, isB_v, isB_arg, isB_any, isB_tp, isB_scr, outF_rt, outF_nx, outT_rt, biD_int, biD_abs, dLe0, dLe1, dLe2, dLe3, imm_tuple, immAll_cons, immAll_nil, $ls,*])

theorem stA (HB : TlB) : TlA := by
  intro t s ht
  obtain ⟨k, t1, hk, ht1, e1⟩ := f_take t ht 4 (by omega) (by omega)
  have e1' : r__law_take (eTape t) [.int 4] = some (eTape t1, .int (k : Int)) := e1
  refine step_ex (by push_cast [evE_callT, gT_s, gT_z, c17__law_take, e1']; rfl) ?_
  rw [cast1]
  have hn1 : 1 ≤ 1 + k := by omega
  have hn4 : 1 + k ≤ 4 := by omega
  generalize 1 + k = n at hn1 hn4
  obtain ⟨t2, d, e2, ht2, hd⟩ := draw_row (ρ := (s 0 :: .tp :: .v (.int (n : Int)) :: s 3 :: s 4 :: s 5 :: s 6 :: s 7 :: s 8 :: s 9 :: s 10 :: s 11 :: s 12 :: s 13 :: s 14 :: s 15 :: s 16 :: s 17 :: s 18 :: s 19 :: s 20 :: s 21 :: s 22 :: s 23 :: s 24 :: s 25 :: s 26 :: s 27 :: s 28 :: s 29 :: s 30 :: s 31 :: s 32 :: s 33 :: s 34 :: s 35 :: s 36 :: s 37 :: s 38 :: [])) (v := 2) (n := n) ht1 (by omega) (by push_cast []) (fun _ => rfl)
  obtain ⟨p, t3, e3, ht3, ha, hl⟩ := f_pairs t2 ht2 hn1 hn4
  have h : Cs n d p := ⟨hn1, hn4, hd, ha, hl⟩
  have h' : Cs n d (swp p) := ⟨hn1, hn4, hd, ha.swp, by unfold swp; rw [List.length_map]; exact hl⟩
  refine step_ex (by push_cast [e2, tupV, evE_callT, gT_s, gT_z, c17__law_pairs, e3]; rfl) ?_
  refine step_ex (by push_cast [evE_call, c17__law_net_right, h.right]; rfl) ?_
  refine step_ex (by push_cast [evE_call, c17__law_end, c17_net_of, h.end_, h.net]; rfl) ?_
  refine step_ex (by
    push_cast []
    rw [evLc_map (o := true) encP (fun q => encP (q.2, q.1)) p (by push_cast [encPs, immAll_encP]; rfl) (by omega) fun q hq => by
      unfold encP
      push_cast []]
    push_cast [biD_tuple (immAll_mapE (enc := fun q : Nat × Nat => encP (q.2, q.1)) (xs := p) fun _ _ => rfl)]
    rfl) ?_
  have esw : PyData.tuple (p.map fun q => encP (q.2, q.1)) = encPs (swp p) := by
    unfold encPs swp
    rw [List.map_map]; rfl
  rw [esw]
  have eend : endF n d (swp p) = endF n d p := end_turned (starts_least ha) (starts_least ha.swp) (endF_is hn1 d p) (endF_is hn1 d (swp p))
  refine step_ex (by
    push_cast [evE_call, c17__law_net_right, h'.right, c17__law_end, h'.end_, eend, ne_eq, not_true_eq_false]
    rfl) ?_
  exact HB t3 (fun i => if i = 5 then .v (.int (endF n d p)) else if i = 7 then .v (encPs (swp p)) else s i) n d p ht3 h
end K55
namespace K55
open PySem PySem.Spec L2 RZ DL DI
local macro_rules
  | `(tactic| l_intsW) => `(tactic| simp -implicitDefEqProofs only [evSs_nil, evSs_cons, evSs_fgt, evS_set, evS_setLc, evS_move, evS_unp, evS_par, evS_ife, evS_for, evS_ret, evS_retV, evS_retN, evS_expr, evS_append, evS_extend, evS_addI, evS_pass, evS_brk, evS_cont, evO_nm, evO_tup, evOs_nil, evOs_cons, evG_nm, evG_tup, evGs_nil, evGs_cons,
  evE_varE, evE_int, evE_bl, evE_non, evE_str, evE_glob, evE_op2, evE_cmp, evE_chain, evE_ix, evE_neg, evE_not, evE_and, evE_or, evE_ife, evE_tup, evE_lst, evE_bi, evE_sl, evC_el, evC_ift, evT_not, evT_and, evT_or, evT_val, evA_nil, evA_cons, evAnd_one, evAnd_cons, evOr_one, evOr_cons, tsAnd_one, tsAnd_cons, tsOr_one, tsOr_cons, evP_no, evP_so, evI_seq, evI_enum,
  gS_z, gS_s, rdS_v, rdS_arg, gL_z, gL_s, gV_z, gV_s, negD_int, notD_bl, trD_bl, trD_none, trD_tuple, trD_list, blD_bl, inD_int, sqD_list, sqD_tuple, lsD_list, Option.bind_some, Option.bind_none, bE_some, bE_none, bT_some, bT_none, bS_nx, bS_rt, bS_bk, bS_ct, bL_nx, bL_ct, bL_bk, bL_rt, guardO_true, guardO_false, iteB_true, iteB_false, List.set_cons_zero, List.set_cons_succ, wipeL, List.map_cons, List.map_nil,
  List.all_cons, List.all_nil, id_eq, Bool.and_self, Bool.and_true, Bool.true_and, List.length_cons, List.length_nil, slOf_int, slOf_bool, imm_int, imm_bool, imm_none, turnC_eq, turnF_eq, cmpD_lt, cmpD_le, cmpD_gt, cmpD_ge, op2D_add, op2D_sub, ixD_t, ixD_l, addG_gl, decide_true, decide_false, Bool.not_true, Bool.not_false, ↓reduceIte, cmpD_is_non, cmpD_isn_non, isNon_int, isNon_none, biD_allM, biD_anyM, biD_len_l, biD_len_t, biD_tuple, List.length_map, cmpD_eq_int, cmpD_ne_int, cmpD_eq_bl, cmpD_ne_bl, cmpD_is_bl, cmpD_isn_bl, biD_max2, biD_min2, nb_nil, nb_cons, isB_v, isB_arg, isB_any, isB_tp, isB_scr, outF_rt, outF_nx, outT_rt, biD_int, biD_abs, dLe0, dLe1, dLe2, dLe3, imm_tuple, immAll_cons, immAll_nil])
  | `(tactic| push_cast [$ls,*]) => `(tactic| simp -implicitDefEqProofs only [evSs_nil, evSs_cons, evSs_fgt, evS_set, evS_setLc, evS_move, evS_unp, evS_par, evS_ife, evS_for, evS_ret, evS_retV, evS_retN, evS_expr, evS_append, evS_extend, evS_addI, evS_pass, evS_brk, evS_cont, evO_nm, evO_tup, evOs_nil, evOs_cons, evG_nm, evG_tup, evGs_nil, evGs_cons,
  evE_varE, evE_int, evE_bl, evE_non, evE_str, evE_glob, evE_op2, evE_cmp, evE_chain, evE_ix, evE_neg, evE_not, evE_and, evE_or, evE_ife, evE_tup, evE_lst, evE_bi, evE_sl, evC_el, evC_ift, evT_not, evT_and, evT_or, evT_val, evA_nil, evA_cons, evAnd_one, evAnd_cons, evOr_one, evOr_cons, tsAnd_one, tsAnd_cons, tsOr_one, tsOr_cons, evP_no, evP_so, evI_seq, evI_enum,
  gS_z, gS_s, rdS_v, rdS_arg, gL_z, gL_s, gV_z, gV_s, negD_int, notD_bl, trD_bl, trD_none, trD_tuple, trD_list, blD_bl, inD_int, sqD_list, sqD_tuple, lsD_list, Option.bind_some, Option.bind_none, bE_some, bE_none, bT_some, bT_none, bS_nx, bS_rt, bS_bk, bS_ct, bL_nx, bL_ct, bL_bk, bL_rt, guardO_true, guardO_false, iteB_true, iteB_false, List.set_cons_zero, List.set_cons_succ, wipeL, List.map_cons, List.map_nil,
  List.all_cons, List.all_nil, id_eq, Bool.and_self, Bool.and_true, Bool.true_and, List.length_cons, List.length_nil, slOf_int, slOf_bool, imm_int, imm_bool, imm_none, turnC_eq, turnF_eq, cmpD_lt, cmpD_le, cmpD_gt, cmpD_ge, op2D_add, op2D_sub, ixD_t, ixD_l, addG_gl, decide_true, decide_false, Bool.not_true, Bool.not_false, ↓reduceIte, cmpD_is_non, cmpD_isn_non, isNon_int, isNon_none, biD_allM, biD_anyM, biD_len_l, biD_len_t, biD_tuple, List.length_map, cmpD_eq_int, cmpD_ne_int, cmpD_eq_bl, cmpD_ne_bl, cmpD_is_bl, cmpD_isn_bl, biD_max2, biD_min2, nb_nil, nb_cons, isB_v, isB_arg, isB_any, isB_tp, isB_scr, outF_rt, outF_nx, outT_rt, biD_int, biD_abs, dLe0, dLe1, dLe2, dLe3, imm_tuple, immAll_cons, immAll_nil, $ls,*])

theorem stB (HC : TlC) : TlB := by
  intro t s n d p ht h
  obtain ⟨k, t1, hk, ht1, e1⟩ := f_take t ht 9 (by omega) (by omega)
  have e1' : r__law_take (eTape t) [.int 9] = some (eTape t1, .int (k : Int)) := e1
  refine step_ex (by push_cast [evE_callT, gT_s, gT_z, c17__law_take, e1']; rfl) ?_
  have hc1 : (1 : Int) ≤ 1 + (k : Int) := by omega
  have hc2 : (1 : Int) + (k : Int) ≤ 9 := by omega
  generalize (1 : Int) + (k : Int) = c at hc1 hc2
  have hm : ∀ x : Int, op2D .mul (.int c) (.int x) = some (.int (c * x)) := fun x => op2D_mulL x ⟨by omega, by omega⟩
  have hd' : ∀ k, k < n → 0 ≤ c * d k ∧ c * d k ≤ 99 := fun k hk => by
    have := h.hd k hk
    have h1 : 0 ≤ c * d k := Int.mul_nonneg (by omega) this.1
    have h2 : c * d k ≤ 9 * 8 := Int.mul_le_mul hc2 this.2 this.1 (by omega)
    omega
  refine step_ex (by
    push_cast []
    rw [evLc_map (o := true) (fun k : Nat => .int (d k)) (fun k => .int (c * d k)) (List.range n) (by push_cast [encV, immAll_ints]; rfl) (by rw [List.length_range]; have := h.h4; omega) fun k hk => by
      push_cast [hm]]
    push_cast [biD_tuple (immAll_ints (fun k => c * d k) _)]
    rfl) ?_
  have h4 := h.h4
  have el1 : PyData.tuple ((List.range n).map fun k => .int (c * d k)) = encV n fun k => c * d k := rfl
  rw [el1]
  have hnet : r_net_of [encV n fun k => c * d k, encPs p] = some (encN (netOf n (fun k => c * d k) p)) := f_net_of (netOf_ok h.h1 h.h4 hd' h.ha.lt (by have := h.hl; omega)) (by have := h.hl; omega)
  have hear := early_ok h.h1 h.h4 hd' h.ha (by have := h.hl; omega)
  have hev : encV (2 * n) (due (fun k => c * d k) (startsF n (fun k => c * d k) p)) = encV (2 * n) fun i => c * due d (startsF n d p) i := encV_congr fun i hi => by
    unfold due
    rw [starts_scale (by omega)]
    split
    · rfl
    · rw [Int.mul_add]
  rw [hev] at hear
  have hne : cmpD .ne (encV (2 * n) fun i => c * due d (startsF n d p) i) (encV (2 * n) fun i => c * due d (startsF n d p) i) = some false := cmpD_neS (pf_encV _ _)
  refine step_ex (by
    push_cast [evE_call, c17_net_of, c17_earliest, hnet, hear, h.early]
    rw [evLc_map (o := true) (fun k : Nat => .int (due d (startsF n d p) k)) (fun k => .int (c * due d (startsF n d p) k)) (List.range (2 * n)) (by push_cast [evE_call, c17_earliest, h.early, encV]; rfl) (by rw [List.length_range]; omega) fun k hk => by
      push_cast [hm]]
    push_cast [biD_tuple (immAll_ints (fun k => c * due d (startsF n d p) k) _), show PyData.tuple ((List.range (2 * n)).map fun k => .int (c * due d (startsF n d p) k)) = encV (2 * n) fun i => c * due d (startsF n d p) i from rfl, hne]
    rfl) ?_
  refine step_ex (by push_cast [evE_call, c17_earliest, h.early]; rfl) ?_
  exact HC t1 (fun i => if i = 8 then .v (.int c) else if i = 9 then .v (encV n fun k => c * d k) else s i) n d p ht1 h
end K55
namespace K55
open PySem PySem.Spec L2 RZ DL DI
local macro_rules
  | `(tactic| l_intsW) => `(tactic| simp -implicitDefEqProofs only [evSs_nil, evSs_cons, evSs_fgt, evS_set, evS_setLc, evS_move, evS_unp, evS_par, evS_ife, evS_for, evS_ret, evS_retV, evS_retN, evS_expr, evS_append, evS_extend, evS_addI, evS_pass, evS_brk, evS_cont, evO_nm, evO_tup, evOs_nil, evOs_cons, evG_nm, evG_tup, evGs_nil, evGs_cons,
  evE_varE, evE_int, evE_bl, evE_non, evE_str, evE_glob, evE_op2, evE_cmp, evE_chain, evE_ix, evE_neg, evE_not, evE_and, evE_or, evE_ife, evE_tup, evE_lst, evE_bi, evE_sl, evC_el, evC_ift, evT_not, evT_and, evT_or, evT_val, evA_nil, evA_cons, evAnd_one, evAnd_cons, evOr_one, evOr_cons, tsAnd_one, tsAnd_cons, tsOr_one, tsOr_cons, evP_no, evP_so, evI_seq, evI_enum,
  gS_z, gS_s, rdS_v, rdS_arg, gL_z, gL_s, gV_z, gV_s, negD_int, notD_bl, trD_bl, trD_none, trD_tuple, trD_list, blD_bl, inD_int, sqD_list, sqD_tuple, lsD_list, Option.bind_some, Option.bind_none, bE_some, bE_none, bT_some, bT_none, bS_nx, bS_rt, bS_bk, bS_ct, bL_nx, bL_ct, bL_bk, bL_rt, guardO_true, guardO_false, iteB_true, iteB_false, List.set_cons_zero, List.set_cons_succ, wipeL, List.map_cons, List.map_nil,
  List.all_cons, List.all_nil, id_eq, Bool.and_self, Bool.and_true, Bool.true_and, List.length_cons, List.length_nil, slOf_int, slOf_bool, imm_int, imm_bool, imm_none, turnC_eq, turnF_eq, cmpD_lt, cmpD_le, cmpD_gt, cmpD_ge, op2D_add, op2D_sub, ixD_t, ixD_l, addG_gl, decide_true, decide_false, Bool.not_true, Bool.not_false, ↓reduceIte, cmpD_is_non, cmpD_isn_non, isNon_int, isNon_none, biD_allM, biD_anyM, biD_len_l, biD_len_t, biD_tuple, List.length_map, cmpD_eq_int, cmpD_ne_int, cmpD_eq_bl, cmpD_ne_bl, cmpD_is_bl, cmpD_isn_bl, biD_max2, biD_min2, nb_nil, nb_cons, isB_v, isB_arg, isB_any, isB_tp, isB_scr, outF_rt, outF_nx, outT_rt, biD_int, biD_abs, dLe0, dLe1, dLe2, dLe3, imm_tuple, immAll_cons, immAll_nil])
  | `(tactic| push_cast [$ls,*]) => `(tactic| simp -implicitDefEqProofs only [evSs_nil, evSs_cons, evSs_fgt, evS_set, evS_setLc, evS_move, evS_unp, evS_par, evS_ife, evS_for, evS_ret, evS_retV, evS_retN, evS_expr, evS_append, evS_extend, evS_addI, evS_pass, evS_brk, evS_cont, evO_nm, evO_tup, evOs_nil, evOs_cons, evG_nm, evG_tup, evGs_nil, evGs_cons,
  evE_varE, evE_int, evE_bl, evE_non, evE_str, evE_glob, evE_op2, evE_cmp, evE_chain, evE_ix, evE_neg, evE_not, evE_and, evE_or, evE_ife, evE_tup, evE_lst, evE_bi, evE_sl, evC_el, evC_ift, evT_not, evT_and, evT_or, evT_val, evA_nil, evA_cons, evAnd_one, evAnd_cons, evOr_one, evOr_cons, tsAnd_one, tsAnd_cons, tsOr_one, tsOr_cons, evP_no, evP_so, evI_seq, evI_enum,
  gS_z, gS_s, rdS_v, rdS_arg, gL_z, gL_s, gV_z, gV_s, negD_int, notD_bl, trD_bl, trD_none, trD_tuple, trD_list, blD_bl, inD_int, sqD_list, sqD_tuple, lsD_list, Option.bind_some, Option.bind_none, bE_some, bE_none, bT_some, bT_none, bS_nx, bS_rt, bS_bk, bS_ct, bL_nx, bL_ct, bL_bk, bL_rt, guardO_true, guardO_false, iteB_true, iteB_false, List.set_cons_zero, List.set_cons_succ, wipeL, List.map_cons, List.map_nil,
  List.all_cons, List.all_nil, id_eq, Bool.and_self, Bool.and_true, Bool.true_and, List.length_cons, List.length_nil, slOf_int, slOf_bool, imm_int, imm_bool, imm_none, turnC_eq, turnF_eq, cmpD_lt, cmpD_le, cmpD_gt, cmpD_ge, op2D_add, op2D_sub, ixD_t, ixD_l, addG_gl, decide_true, decide_false, Bool.not_true, Bool.not_false, ↓reduceIte, cmpD_is_non, cmpD_isn_non, isNon_int, isNon_none, biD_allM, biD_anyM, biD_len_l, biD_len_t, biD_tuple, List.length_map, cmpD_eq_int, cmpD_ne_int, cmpD_eq_bl, cmpD_ne_bl, cmpD_is_bl, cmpD_isn_bl, biD_max2, biD_min2, nb_nil, nb_cons, isB_v, isB_arg, isB_any, isB_tp, isB_scr, outF_rt, outF_nx, outT_rt, biD_int, biD_abs, dLe0, dLe1, dLe2, dLe3, imm_tuple, immAll_cons, immAll_nil, $ls,*])

theorem mem_encP {q : Nat × Nat} {p : Prs} : encP q ∈ p.map encP ↔ q ∈ p := by
  constructor
  · intro h
    obtain ⟨q', hq', e⟩ := List.mem_map.mp h
    have : q' = q := by
      unfold encP at e
      simp only [PyData.tuple.injEq, List.cons.injEq, PyData.int.injEq, and_true] at e
      obtain ⟨a, b⟩ := e
      exact Prod.ext (by omega) (by omega)
    rw [← this]; exact hq'
  · intro h
    exact List.mem_map.mpr ⟨q, h, rfl⟩
theorem insP_len (x : IP) : ∀ l : List IP, (insP x l).length ≤ l.length + 1 := by
  intro l
  induction l with
  | nil => simp [insP]
  | cons y r ih =>
    unfold insP
    repeat' split
    all_goals (simp only [List.length_cons] at *; omega)
theorem ssetL_len (ps : List IP) : (ssetL ps).length ≤ ps.length := by
  induction ps with
  | nil => exact Nat.le_refl _
  | cons x r ih =>
    have := insP_len x (ssetL r)
    show (insP x (ssetL r)).length ≤ r.length + 1
    omega
def toIP (q : Nat × Nat) : IP := ((q.1 : Int), (q.2 : Int))
theorem pairsD_encP (p : Prs) : pairsD (p.map encP) = some (p.map toIP) := by
  induction p with
  | nil => rfl
  | cons q r ih =>
    show (pairsD (r.map encP)).map _ = _
    rw [ih]; rfl
theorem sset_run {C : FT} {ρ : List Sl} {τ τ1 : D} {a : IE} {p : Prs} {o : Bool} (h : evE C ρ a τ = some (τ1, .list (p.map encP), o)) (hl : p.length < 64) (hp : ∀ q ∈ p, q.1 < 64 ∧ q.2 < 64) : ∃ p' : Prs, evE C ρ (.sset a) τ = some (τ1, .list (p'.map encP), true) ∧ (∀ q, q ∈ p' ↔ q ∈ p) ∧ p'.length ≤ p.length := by
  have hm : ∀ x ∈ ssetL (p.map toIP), ∃ q ∈ p, toIP q = x := fun x hx => List.mem_map.mp (mem_ssetL.mp hx)
  refine ⟨(ssetL (p.map toIP)).map fun x => (x.1.toNat, x.2.toNat), ?_, fun q => ?_, ?_⟩
  · show bE (evE C ρ a τ) _ = _
    rw [h, bE_some]
    dsimp only
    rw [pairsD_encP, Option.bind_some]
    have g : (decide ((p.map toIP).length < 64) && (p.map toIP).all fun p => decide ((0 ≤ p.1 ∧ p.1 < 64) ∧ (0 ≤ p.2 ∧ p.2 < 64))) = true := by
      rw [Bool.and_eq_true]
      refine ⟨decide_eq_true (by rw [List.length_map]; exact hl), List.all_eq_true.mpr fun x hx => ?_⟩
      obtain ⟨q, hq, rfl⟩ := List.mem_map.mp hx
      have := hp q hq
      exact decide_eq_true (by unfold toIP; dsimp only; omega)
    rw [g, guardO_true, List.map_map]
    have e : (ssetL (p.map toIP)).map eIP = (ssetL (p.map toIP)).map (encP ∘ fun x => (x.1.toNat, x.2.toNat)) := List.map_congr_left fun x hx => by
      obtain ⟨q, _, rfl⟩ := hm x hx
      rfl
    rw [e]
  · constructor
    · intro hq
      obtain ⟨x, hx, e⟩ := List.mem_map.mp hq
      obtain ⟨q', hq', rfl⟩ := hm x hx
      rw [← e]; exact hq'
    · intro hq
      exact List.mem_map.mpr ⟨toIP q, mem_ssetL.mpr (List.mem_map.mpr ⟨q, hq, rfl⟩), rfl⟩
  · rw [List.length_map]
    have := ssetL_len (p.map toIP)
    rw [List.length_map] at this
    exact this
theorem stC (HD : TlD) : TlC := by
  intro t s n d p ht h
  have h4 := h.h4
  have hpl := h.hl
  obtain ⟨p1, t1, e1, ht1, ha1, hl1⟩ := f_pairs t ht h.h1 h.h4
  have hlc := evLc_filter (C := C_17) (ρ := (s 0 :: .tp :: .v (.int (n : Int)) :: .v (encV n d) :: .v (encPs p) :: s 5 :: .v (encN (netOf n d p)) :: s 7 :: s 8 :: s 9 :: .v (encV (2 * n) (due d (startsF n d p))) :: s 11 :: s 12 :: s 13 :: s 14 :: s 15 :: s 16 :: s 17 :: s 18 :: s 19 :: s 20 :: s 21 :: s 22 :: s 23 :: s 24 :: s 25 :: s 26 :: s 27 :: s 28 :: s 29 :: s 30 :: s 31 :: s 32 :: s 33 :: s 34 :: s 35 :: s 36 :: s 37 :: s 38 :: [])) (own := [("a", 33), ("b", 36)]) (elt := .ift (.val (.cmp .notin (.tup (.cons (.var 36) (.cons (.var 33) .nil))) (.var 4))) (.tup (.cons (.var 33) (.cons (.var 36) .nil)))) (tg := .tup (.cons (.nm 33) (.cons (.nm 36) .nil))) (it := .seq (.callT "_law_pairs" 1 (.cons (.var 2) .nil))) (τ := eTape t) (τ1 := eTape t1) (o := true) encP (fun q => decide (¬ (q.2, q.1) ∈ p)) encP p1 (by push_cast [evE_callT, gT_s, gT_z, c17__law_pairs, e1, encPs]) (by omega) fun q hq => by
    have hni : cmpD .notin (.tuple [.int (q.2 : Int), .int (q.1 : Int)]) (encPs p) = some (decide (¬ (q.2, q.1) ∈ p)) := cmpD_ninT (pf_encP (q.2, q.1)) (plA_mapE fun _ _ => rfl) (by
      rw [decide_eq_true_iff]
      exact not_congr mem_encP.symm)
    unfold encP
    push_cast [hni]
    cases decide (¬ (q.2, q.1) ∈ p) with
    | true => push_cast [if_true]
    | false => push_cast [if_false, Bool.false_eq_true]
  have hfl := List.length_filter_le (fun q : Nat × Nat => decide (¬ (q.2, q.1) ∈ p)) p1
  have hadd := op2D_addL (p.map encP) ((p1.filter fun q => decide (¬ (q.2, q.1) ∈ p)).map encP) (immAll_encP _) (immAll_encP _) (by rw [List.length_map, List.length_map]; omega)
  rw [← List.map_append] at hadd
  obtain ⟨m, e2, hm, hml⟩ := sset_run (C := C_17) (ρ := (s 0 :: .tp :: .v (.int (n : Int)) :: .v (encV n d) :: .v (encPs p) :: s 5 :: .v (encN (netOf n d p)) :: s 7 :: s 8 :: s 9 :: .v (encV (2 * n) (due d (startsF n d p))) :: s 11 :: s 12 :: s 13 :: s 14 :: s 15 :: s 16 :: s 17 :: s 18 :: s 19 :: s 20 :: s 21 :: s 22 :: s 23 :: s 24 :: s 25 :: s 26 :: s 27 :: s 28 :: s 29 :: s 30 :: s 31 :: s 32 :: s 33 :: s 34 :: s 35 :: s 36 :: s 37 :: s 38 :: [])) (τ := eTape t) (τ1 := eTape t1) (a := .op2 .add (.bi .list (.cons (.var 4) .nil)) (.lc [("a", 33), ("b", 36)] (.ift (.val (.cmp .notin (.tup (.cons (.var 36) (.cons (.var 33) .nil))) (.var 4))) (.tup (.cons (.var 33) (.cons (.var 36) .nil)))) (.tup (.cons (.nm 33) (.cons (.nm 36) .nil))) (.seq (.callT "_law_pairs" 1 (.cons (.var 2) .nil))))) (p := p ++ p1.filter fun q => decide (¬ (q.2, q.1) ∈ p)) (o := true) (by
    have hli : biD .list [encPs p] = some (.list (p.map encP)) := biD_list_t (immAll_encP p)
    push_cast [hli]
    rw [hlc]
    push_cast [hadd]) (by rw [List.length_append]; omega) (fun q hq => by
    rcases List.mem_append.mp hq with z | z
    · have := h.ha.lt q z; omega
    · have := ha1.lt q (List.mem_filter.mp z).1; omega)
  have hmn : ∀ q ∈ m, q.1 < n ∧ q.2 < n := fun q hq => by
    rcases List.mem_append.mp ((hm q).mp hq) with z | z
    · exact h.ha.lt q z
    · exact ha1.lt q (List.mem_filter.mp z).1
  have hml' : m.length ≤ 400 := by rw [List.length_append] at hml; omega
  have hok := netOf_ok h.h1 h.h4 h.hd99 hmn hml'
  refine step_ex (by push_cast [e2, biD_tuple (immAll_encP m)]; rfl) ?_
  have em : PyData.tuple (m.map encP) = encPs m := rfl
  rw [em]
  refine step_ex (by push_cast [evE_call, c17__law_starts, f_starts (show n ≤ 1000 by omega) hmn]; rfl) ?_
  refine step_ex (by
    push_cast []
    rw [evLc_map (o := true) encP (fun q => .bool (decide (startsF n d m q.1 + d q.1 ≤ startsF n d m q.2))) m (by push_cast [encPs, immAll_encP]; rfl) (by omega) fun q hq => by
      obtain ⟨a, b⟩ := hmn q hq
      unfold encP
      push_cast [encVl_ix _ a, encVl_ix _ b, encV_ix _ a]]
    push_cast []
    rfl) ?_
  generalize (m.all fun q => decide (startsF n d m q.1 + d q.1 ≤ startsF n d m q.2)) = rf
  have hnet : r_net_of [encV n d, encPs m] = some (encN (netOf n d m)) := f_net_of hok hml'
  have fin : ∀ s14 : Sl, ∃ τ', evSs C_17 t_D (s 0 :: .tp :: .v (.int (n : Int)) :: .v (encV n d) :: .v (encPs p) :: s 5 :: .v (encN (netOf n d p)) :: s 7 :: s 8 :: s 9 :: .v (encV (2 * n) (due d (startsF n d p))) :: .v (encPs m) :: .v (encVl n (startsF n d m)) :: .v (.bool rf) :: s14 :: s 15 :: s 16 :: s 17 :: s 18 :: s 19 :: s 20 :: s 21 :: s 22 :: s 23 :: s 24 :: s 25 :: s 26 :: s 27 :: s 28 :: s 29 :: s 30 :: s 31 :: s 32 :: s 33 :: s 34 :: s 35 :: s 36 :: s 37 :: s 38 :: []) (eTape t1) = some (.rt τ' (.bool true)) := fun s14 =>
    HD t1 (fun i => if i = 11 then .v (encPs m) else if i = 12 then .v (encVl n (startsF n d m)) else if i = 13 then .v (.bool rf) else if i = 14 then s14 else s i) n d p ht1 h
  cases rf with
  | false =>
    refine step_ex (by push_cast []; rfl) ?_
    exact fin (s 14)
  | true =>
    cases hf : fitsB (netOf n d m) with
    | false =>
      refine step_ex (by push_cast [evE_call, c17_net_of, c17_fits, hnet, f_fits _ hok, hf]; rfl) ?_
      exact fin (s 14)
    | true =>
      have hF := (fitsB_iff _).mp hf
      have hlow : ((List.range (2 * n)).any fun k => decide (earl (netOf n d m) k < due d (startsF n d p) k)) = false := by
        rw [List.any_eq_false]
        intro k hk
        have := netOf_mono (fun q hq => (hm q).mpr (List.mem_append.mpr (.inl hq))) (due_least h.ha.lt (fun k hk => (h.hd k hk).1) (starts_least h.ha)) (earl_least hok hF) k (List.mem_range.mp hk)
        simp; omega
      refine step_ex (by
        push_cast [evE_call, c17_net_of, c17_fits, c17_earliest, hnet, f_fits _ hok, hf, f_earliest _ hok hF]
        rw [evLc_map (o := true) (fun k : Nat => .int (k : Int)) (fun k => .bool (decide (earl (netOf n d m) k < due d (startsF n d p) k))) (List.range (2 * n)) (evI_rngN (2 * n) (by push_cast [mul2]; rfl) (by omega)) (by rw [List.length_range]; omega) fun k hk => by
          have hk := List.mem_range.mp hk
          have e1 : ixD (encV (netOf n d m).many (earl (netOf n d m))) (.int (k : Int)) = some (.int (earl (netOf n d m) k)) := encV_ix _ hk
          push_cast [e1, encV_ix _ hk]]
        push_cast [hlow]
        rfl) ?_
      exact fin _
end K55
namespace DI
open PySem PySem.Spec L2 RZ DL
/-- each item gives one that belongs to it -/
theorem lcL_ex2 {α β S : Type} {turn : D → D → Option (D × Option D)} {enc : α → D} (tp : S → D) (g : β → D) (I : S → Prop) (R : α → β → Prop) : ∀ (xs : List α) (s : S), I s → (∀ s x, I s → x ∈ xs → ∃ (s' : S) (y : β), turn (enc x) (tp s) = some (tp s', some (g y)) ∧ I s' ∧ R x y) → ∃ (s' : S) (ys : List β), lcL turn (xs.map enc) (tp s) = some (tp s', ys.map g) ∧ I s' ∧ ys.length = xs.length ∧ ∀ (i : Nat) (x : α) (y : β), xs[i]? = some x → ys[i]? = some y → R x y
  | [], s, h, _ => ⟨s, [], rfl, h, rfl, fun i x y hx _ => by rw [List.getElem?_nil] at hx; cases hx⟩
  | x :: xs, s, h, hs => by
    obtain ⟨s1, y, e1, h1, q1⟩ := hs s x h List.mem_cons_self
    obtain ⟨s2, ys, e2, h2, l2, q2⟩ := lcL_ex2 tp g I R xs s1 h1 fun s y hi hy => hs s y hi (List.mem_cons_of_mem _ hy)
    refine ⟨s2, y :: ys, ?_, h2, by rw [List.length_cons, List.length_cons, l2], fun i x' y' hx hy => ?_⟩
    · show lcL turn (enc x :: xs.map enc) (tp s) = _
      unfold lcL
      rw [e1]
      simp only [Option.bind_some]
      rw [e2]
      rfl
    · cases i with
      | zero =>
        rw [List.getElem?_cons_zero] at hx hy
        cases hx; cases hy; exact q1
      | succ i =>
        rw [List.getElem?_cons_succ] at hx hy
        exact q2 i x' y' hx hy
theorem evLc_ex2 {α β S : Type} {C : FT} {ρ : List Sl} {own : List (Str × Nat)} {elt : IC} {tg : TG} {it : II} {τ : D} {o : Bool} (enc : α → D) (tp : S → D) (g : β → D) (I : S → Prop) (R : α → β → Prop) (xs : List α) (s : S) (h : I s) (hi : evI C ρ it τ = some (tp s, xs.map enc, o)) (hl : xs.length ≤ 1000000) (ht : ∀ s x, I s → x ∈ xs → ∃ (s' : S) (y : β), turnC C ρ own tg elt (enc x) (tp s) = some (tp s', some (g y)) ∧ I s' ∧ R x y) :
    ∃ (s' : S) (ys : List β), evE C ρ (.lc own elt tg it) τ = some (tp s', .list (ys.map g), true) ∧ I s' ∧ ys.length = xs.length ∧ ∀ (i : Nat) (x : α) (y : β), xs[i]? = some x → ys[i]? = some y → R x y := by
  obtain ⟨s', ys, e, h1, h2, h3⟩ := lcL_ex2 (turn := turnC C ρ own tg elt) (enc := enc) tp g I R xs s h ht
  refine ⟨s', ys, ?_, h1, h2, h3⟩
  rw [evE_lc, hi]
  simp only [Option.bind_some, List.length_map]
  rw [decide_eq_true hl, guardO_true]
  unfold turnC at e
  rw [e]
  rfl
end DI
namespace K55
open PySem PySem.Spec L2 RZ DL DI
local macro_rules
  | `(tactic| l_intsW) => `(tactic| simp -implicitDefEqProofs only [evSs_nil, evSs_cons, evSs_fgt, evS_set, evS_setLc, evS_move, evS_unp, evS_par, evS_ife, evS_for, evS_ret, evS_retV, evS_retN, evS_expr, evS_append, evS_extend, evS_addI, evS_pass, evS_brk, evS_cont, evO_nm, evO_tup, evOs_nil, evOs_cons, evG_nm, evG_tup, evGs_nil, evGs_cons,
  evE_varE, evE_int, evE_bl, evE_non, evE_str, evE_glob, evE_op2, evE_cmp, evE_chain, evE_ix, evE_neg, evE_not, evE_and, evE_or, evE_ife, evE_tup, evE_lst, evE_bi, evE_sl, evC_el, evC_ift, evT_not, evT_and, evT_or, evT_val, evA_nil, evA_cons, evAnd_one, evAnd_cons, evOr_one, evOr_cons, tsAnd_one, tsAnd_cons, tsOr_one, tsOr_cons, evP_no, evP_so, evI_seq, evI_enum,
  gS_z, gS_s, rdS_v, rdS_arg, gL_z, gL_s, gV_z, gV_s, negD_int, notD_bl, trD_bl, trD_none, trD_tuple, trD_list, blD_bl, inD_int, sqD_list, sqD_tuple, lsD_list, Option.bind_some, Option.bind_none, bE_some, bE_none, bT_some, bT_none, bS_nx, bS_rt, bS_bk, bS_ct, bL_nx, bL_ct, bL_bk, bL_rt, guardO_true, guardO_false, iteB_true, iteB_false, List.set_cons_zero, List.set_cons_succ, wipeL, List.map_cons, List.map_nil,
  List.all_cons, List.all_nil, id_eq, Bool.and_self, Bool.and_true, Bool.true_and, List.length_cons, List.length_nil, slOf_int, slOf_bool, imm_int, imm_bool, imm_none, turnC_eq, turnF_eq, cmpD_lt, cmpD_le, cmpD_gt, cmpD_ge, op2D_add, op2D_sub, ixD_t, ixD_l, addG_gl, decide_true, decide_false, Bool.not_true, Bool.not_false, ↓reduceIte, cmpD_is_non, cmpD_isn_non, isNon_int, isNon_none, biD_allM, biD_anyM, biD_len_l, biD_len_t, biD_tuple, List.length_map, cmpD_eq_int, cmpD_ne_int, cmpD_eq_bl, cmpD_ne_bl, cmpD_is_bl, cmpD_isn_bl, biD_max2, biD_min2, nb_nil, nb_cons, isB_v, isB_arg, isB_any, isB_tp, isB_scr, outF_rt, outF_nx, outT_rt, biD_int, biD_abs, dLe0, dLe1, dLe2, dLe3, imm_tuple, immAll_cons, immAll_nil])
  | `(tactic| push_cast [$ls,*]) => `(tactic| simp -implicitDefEqProofs only [evSs_nil, evSs_cons, evSs_fgt, evS_set, evS_setLc, evS_move, evS_unp, evS_par, evS_ife, evS_for, evS_ret, evS_retV, evS_retN, evS_expr, evS_append, evS_extend, evS_addI, evS_pass, evS_brk, evS_cont, evO_nm, evO_tup, evOs_nil, evOs_cons, evG_nm, evG_tup, evGs_nil, evGs_cons,
  evE_varE, evE_int, evE_bl, evE_non, evE_str, evE_glob, evE_op2, evE_cmp, evE_chain, evE_ix, evE_neg, evE_not, evE_and, evE_or, evE_ife, evE_tup, evE_lst, evE_bi, evE_sl, evC_el, evC_ift, evT_not, evT_and, evT_or, evT_val, evA_nil, evA_cons, evAnd_one, evAnd_cons, evOr_one, evOr_cons, tsAnd_one, tsAnd_cons, tsOr_one, tsOr_cons, evP_no, evP_so, evI_seq, evI_enum,
  gS_z, gS_s, rdS_v, rdS_arg, gL_z, gL_s, gV_z, gV_s, negD_int, notD_bl, trD_bl, trD_none, trD_tuple, trD_list, blD_bl, inD_int, sqD_list, sqD_tuple, lsD_list, Option.bind_some, Option.bind_none, bE_some, bE_none, bT_some, bT_none, bS_nx, bS_rt, bS_bk, bS_ct, bL_nx, bL_ct, bL_bk, bL_rt, guardO_true, guardO_false, iteB_true, iteB_false, List.set_cons_zero, List.set_cons_succ, wipeL, List.map_cons, List.map_nil,
  List.all_cons, List.all_nil, id_eq, Bool.and_self, Bool.and_true, Bool.true_and, List.length_cons, List.length_nil, slOf_int, slOf_bool, imm_int, imm_bool, imm_none, turnC_eq, turnF_eq, cmpD_lt, cmpD_le, cmpD_gt, cmpD_ge, op2D_add, op2D_sub, ixD_t, ixD_l, addG_gl, decide_true, decide_false, Bool.not_true, Bool.not_false, ↓reduceIte, cmpD_is_non, cmpD_isn_non, isNon_int, isNon_none, biD_allM, biD_anyM, biD_len_l, biD_len_t, biD_tuple, List.length_map, cmpD_eq_int, cmpD_ne_int, cmpD_eq_bl, cmpD_ne_bl, cmpD_is_bl, cmpD_isn_bl, biD_max2, biD_min2, nb_nil, nb_cons, isB_v, isB_arg, isB_any, isB_tp, isB_scr, outF_rt, outF_nx, outT_rt, biD_int, biD_abs, dLe0, dLe1, dLe2, dLe3, imm_tuple, immAll_cons, immAll_nil, $ls,*])

theorem stD (HE : TlE) : TlD := by
  intro t s n d p ht h
  have h4 := h.h4
  have hpl := h.hl
  obtain ⟨t1, ys, e1, ht1, hl1, hR⟩ := evLc_ex2 (C := C_17) (ρ := (s 0 :: .tp :: .v (.int (n : Int)) :: .v (encV n d) :: .v (encPs p) :: s 5 :: .v (encN (netOf n d p)) :: s 7 :: s 8 :: s 9 :: .v (encV (2 * n) (due d (startsF n d p))) :: s 11 :: s 12 :: s 13 :: s 14 :: s 15 :: s 16 :: s 17 :: s 18 :: s 19 :: s 20 :: s 21 :: s 22 :: s 23 :: s 24 :: s 25 :: s 26 :: s 27 :: s 28 :: s 29 :: s 30 :: s 31 :: s 32 :: s 33 :: s 34 :: s 35 :: s 36 :: s 37 :: s 38 :: [])) (own := [("time", 37)]) (elt := .el (.op2 .add (.var 37) (.callT "_law_take" 1 (.cons (.int 4) .nil)))) (tg := .nm 37) (it := .seq (.var 3)) (τ := eTape t) (o := true) (fun k : Nat => .int (d k)) (fun t : Tape => eTape t) PyData.int (fun t => t.ok) (fun (k : Nat) (z : Int) => d k ≤ z ∧ z ≤ d k + 3) (List.range n) t ht (by push_cast [encV, immAll_ints]) (by rw [List.length_range]; omega) fun t k hok hk => by
    obtain ⟨b, t', hb, hok', e⟩ := f_take t hok 4 (by omega) (by omega)
    have e' : r__law_take (eTape t) [.int 4] = some (eTape t', .int (b : Int)) := e
    refine ⟨t', d k + (b : Int), ?_, hok', by omega⟩
    push_cast [evE_callT, gT_s, gT_z, c17__law_take, e']
  rw [List.length_range] at hl1
  refine step_ex (by push_cast [e1, listV hl1, tupV]; rfl) ?_
  have hd' : ∀ k, k < n → d k ≤ ys.getD k 0 ∧ ys.getD k 0 ≤ d k + 3 := fun k hk => by
    have hk' : k < ys.length := by omega
    rw [List.getD_eq_getElem?_getD, List.getElem?_eq_getElem hk']
    exact hR k k _ (List.getElem?_range hk) (List.getElem?_eq_getElem hk')
  obtain ⟨d', hdd⟩ : ∃ d' : Nat → Int, d' = fun k => ys.getD k 0 := ⟨_, rfl⟩
  rw [← hdd]
  have hd2 : ∀ k, k < n → d k ≤ d' k ∧ d' k ≤ d k + 3 := fun k hk => by rw [hdd]; exact hd' k hk
  have hd99 : ∀ k, k < n → 0 ≤ d' k ∧ d' k ≤ 99 := fun k hk => by
    have := hd2 k hk
    have := h.hd k hk
    omega
  have hok := netOf_ok h.h1 h.h4 hd99 h.ha.lt (by omega)
  have hnet : r_net_of [encV n d', encPs p] = some (encN (netOf n d' p)) := f_net_of hok (by omega)
  have hear := early_ok h.h1 h.h4 hd99 h.ha (by omega)
  have hlow : ((List.range (2 * n)).any fun k => decide (due d' (startsF n d' p) k < due d (startsF n d p) k)) = false := by
    rw [List.any_eq_false]
    intro k hk
    have hk := List.mem_range.mp hk
    have hs : startsF n d p (k / 2) ≤ startsF n d' p (k / 2) := starts_mono (fun q hq => (hd2 q.1 (h.ha.lt q hq).1).1) (k / 2)
    have hdk := hd2 (k / 2) (by omega)
    unfold due
    split <;> (simp; omega)
  refine step_ex (by
    push_cast []
    rw [evLc_map (o := true) (fun k : Nat => .int (k : Int)) (fun k => .bool (decide (due d' (startsF n d' p) k < due d (startsF n d p) k))) (List.range (2 * n)) (evI_rngN (2 * n) (by push_cast [mul2]; rfl) (by omega)) (by rw [List.length_range]; omega) fun k hk => by
      have hk := List.mem_range.mp hk
      push_cast [evE_call, c17_net_of, c17_earliest, hnet, hear, encV_ix _ hk]]
    push_cast [hlow]
    rfl) ?_
  exact HE t1 (fun i => if i = 10 then .v (encV (2 * n) (due d (startsF n d p))) else if i = 15 then .v (encV n d') else s i) n d p ht1 h
theorem turn_ij {t : Tape} {s : Nat → Sl} {n : Nat} {d : Nat → Int} {p : Prs} (h : Cs n d p) {i j : Nat} (hi : i < n) (hj : j < n) : turnF C_17 (.nm 17) b_law_1 (.int (j : Int)) (s 0 :: .tp :: .v (.int (n : Int)) :: .v (encV n d) :: .v (encPs p) :: s 5 :: .v (encN (netOf n d p)) :: s 7 :: s 8 :: s 9 :: s 10 :: s 11 :: s 12 :: s 13 :: s 14 :: s 15 :: .v (.int (i : Int)) :: s 17 :: s 18 :: s 19 :: s 20 :: s 21 :: s 22 :: s 23 :: s 24 :: s 25 :: s 26 :: s 27 :: s 28 :: s 29 :: s 30 :: s 31 :: s 32 :: s 33 :: s 34 :: s 35 :: s 36 :: s 37 :: s 38 :: []) (eTape t) = some (.nx (s 0 :: .tp :: .v (.int (n : Int)) :: .v (encV n d) :: .v (encPs p) :: s 5 :: .v (encN (netOf n d p)) :: s 7 :: s 8 :: s 9 :: s 10 :: s 11 :: s 12 :: s 13 :: s 14 :: s 15 :: .v (.int (i : Int)) :: .any :: .any :: .any :: s 20 :: s 21 :: s 22 :: s 23 :: s 24 :: s 25 :: s 26 :: s 27 :: s 28 :: s 29 :: s 30 :: s 31 :: s 32 :: s 33 :: s 34 :: s 35 :: s 36 :: s 37 :: s 38 :: []) (eTape t)) := by
  have hr := f_range_of (netOf n d p) h.ok h.fits (i := 2 * j) (j := 2 * i) (by show 2 * j < 2 * n; omega) (by show 2 * i < 2 * n; omega)
  have hin : cmpD .isin (.tuple [.int (i : Int), .int (j : Int)]) (encPs p) = some (decide ((i, j) ∈ p)) := cmpD_inT (pf_encP (i, j)) (plA_mapE fun _ _ => rfl) (by
    rw [decide_eq_true_iff]
    exact mem_encP.symm)
  unfold b_law_1
  push_cast [mul2, evE_call, c17_range_of, hr, hin]
  by_cases c : (i, j) ∈ p
  · obtain ⟨z, e, l⟩ := range_pair h.fits c hi hj
    dsimp only at e l
    have l' : ¬ (-z < d i) := by omega
    rw [e]
    push_cast [c, negO, Option.map_some, encO_s, encV_ix _ hi, l']
  · push_cast [c]
def sl0 (x : Sl) : Nat → Sl
  | 0 => x
  | _ + 1 => .any
theorem turn_i2 {t : Tape} {s : Nat → Sl} {n : Nat} {d : Nat → Int} {p : Prs} (h : Cs n d p) {i : Nat} (hi : i < n) : turnF C_17 (.nm 16) b_law_2 (.int (i : Int)) (s 0 :: .tp :: .v (.int (n : Int)) :: .v (encV n d) :: .v (encPs p) :: s 5 :: .v (encN (netOf n d p)) :: s 7 :: s 8 :: s 9 :: s 10 :: s 11 :: s 12 :: s 13 :: s 14 :: s 15 :: s 16 :: s 17 :: s 18 :: s 19 :: s 20 :: s 21 :: s 22 :: s 23 :: s 24 :: s 25 :: s 26 :: s 27 :: s 28 :: s 29 :: s 30 :: s 31 :: s 32 :: s 33 :: s 34 :: s 35 :: s 36 :: s 37 :: s 38 :: []) (eTape t) = some (.nx (s 0 :: .tp :: .v (.int (n : Int)) :: .v (encV n d) :: .v (encPs p) :: s 5 :: .v (encN (netOf n d p)) :: s 7 :: s 8 :: s 9 :: s 10 :: s 11 :: s 12 :: s 13 :: s 14 :: s 15 :: .any :: .any :: .any :: .any :: s 20 :: s 21 :: s 22 :: s 23 :: s 24 :: s 25 :: s 26 :: s 27 :: s 28 :: s 29 :: s 30 :: s 31 :: s 32 :: s 33 :: s 34 :: s 35 :: s 36 :: s 37 :: s 38 :: []) (eTape t)) := by
  have h4 := h.h4
  have hr := f_range_of (netOf n d p) h.ok h.fits (i := 2 * i + 1) (j := 2 * i) (by show 2 * i + 1 < 2 * n; omega) (by show 2 * i < 2 * n; omega)
  obtain ⟨e1, e2⟩ := range_exact (due_sol (n := n) (d := d) (starts_sol h.ha)) hi
  rw [e1, e2] at hr
  have hr' : r_range_of [encN (netOf n d p), .int (((2 * i : Nat) : Int) + 1), .int ((2 * i : Nat) : Int)] = some (.tuple [.int (d i), .int (d i)]) := by
    rw [show ((2 * i : Nat) : Int) + 1 = ((2 * i + 1 : Nat) : Int) by omega, hr]
    show some (PyData.tuple [.int (- -d i), .int (d i)]) = _
    rw [Int.neg_neg]
  have hne : cmpD .ne (.tuple [.int (d i), .int (d i)]) (.tuple [.int (d i), .int (d i)]) = some false := cmpD_neS (by
    unfold pf
    rw [Bool.and_eq_true]
    refine ⟨rfl, decide_eq_true ?_⟩
    simp [PyData.depthAll, PyData.depth])
  have hloop := evFor_range (turn := turnF C_17 (.nm 17) b_law_1) (enc := fun j => .int (j : Int)) (fun k => (s 0 :: .tp :: .v (.int (n : Int)) :: .v (encV n d) :: .v (encPs p) :: s 5 :: .v (encN (netOf n d p)) :: s 7 :: s 8 :: s 9 :: s 10 :: s 11 :: s 12 :: s 13 :: s 14 :: s 15 :: .v (.int (i : Int)) :: sl0 (s 17) k :: sl0 (s 18) k :: sl0 (s 19) k :: s 20 :: s 21 :: s 22 :: s 23 :: s 24 :: s 25 :: s 26 :: s 27 :: s 28 :: s 29 :: s 30 :: s 31 :: s 32 :: s 33 :: s 34 :: s 35 :: s 36 :: s 37 :: s 38 :: [])) (fun _ => eTape t) (n := n) fun j hj =>
    turn_ij (s := fun x => if x = 17 then sl0 (s 17) j else if x = 18 then sl0 (s 18) j else if x = 19 then sl0 (s 19) j else s x) h hi hj
  have a17 : sl0 (s 17) 0 = s 17 := rfl
  have a18 : sl0 (s 18) 0 = s 18 := rfl
  have a19 : sl0 (s 19) 0 = s 19 := rfl
  rw [a17, a18, a19] at hloop
  unfold b_law_2
  push_cast [mul2, add1, evE_call, c17_range_of, hr', encV_ix _ hi, hne]
  rw [evI_rngN n (by push_cast []; rfl) (by omega)]
  push_cast []
  rw [hloop]
  push_cast []
theorem stE (HF : TlF) : TlE := by
  intro t s n d p ht h
  have h4 := h.h4
  have hloop := evFor_range (turn := turnF C_17 (.nm 16) b_law_2) (enc := fun j => .int (j : Int)) (fun k => (s 0 :: .tp :: .v (.int (n : Int)) :: .v (encV n d) :: .v (encPs p) :: s 5 :: .v (encN (netOf n d p)) :: s 7 :: s 8 :: s 9 :: s 10 :: s 11 :: s 12 :: s 13 :: s 14 :: s 15 :: sl0 (s 16) k :: sl0 (s 17) k :: sl0 (s 18) k :: sl0 (s 19) k :: s 20 :: s 21 :: s 22 :: s 23 :: s 24 :: s 25 :: s 26 :: s 27 :: s 28 :: s 29 :: s 30 :: s 31 :: s 32 :: s 33 :: s 34 :: s 35 :: s 36 :: s 37 :: s 38 :: [])) (fun _ => eTape t) (n := n) fun i hi =>
    turn_i2 (s := fun x => if x = 16 then sl0 (s 16) i else if x = 17 then sl0 (s 17) i else if x = 18 then sl0 (s 18) i else if x = 19 then sl0 (s 19) i else s x) h hi
  have a16 : sl0 (s 16) 0 = s 16 := rfl
  have a17 : sl0 (s 17) 0 = s 17 := rfl
  have a18 : sl0 (s 18) 0 = s 18 := rfl
  have a19 : sl0 (s 19) 0 = s 19 := rfl
  rw [a16, a17, a18, a19] at hloop
  refine step_ex (by
    push_cast []
    rw [evI_rngN n (by push_cast []; rfl) (by omega)]
    push_cast []
    exact hloop) ?_
  exact HF t (fun x => if x = 16 then sl0 (s 16) n else if x = 17 then sl0 (s 17) n else if x = 18 then sl0 (s 18) n else if x = 19 then sl0 (s 19) n else s x) n d p ht h
end K55
namespace K55
open PySem PySem.Spec L2 RZ DL DI
local macro_rules
  | `(tactic| l_intsW) => `(tactic| simp -implicitDefEqProofs only [evSs_nil, evSs_cons, evSs_fgt, evS_set, evS_setLc, evS_move, evS_unp, evS_par, evS_ife, evS_for, evS_ret, evS_retV, evS_retN, evS_expr, evS_append, evS_extend, evS_addI, evS_pass, evS_brk, evS_cont, evO_nm, evO_tup, evOs_nil, evOs_cons, evG_nm, evG_tup, evGs_nil, evGs_cons,
  evE_varE, evE_int, evE_bl, evE_non, evE_str, evE_glob, evE_op2, evE_cmp, evE_chain, evE_ix, evE_neg, evE_not, evE_and, evE_or, evE_ife, evE_tup, evE_lst, evE_bi, evE_sl, evC_el, evC_ift, evT_not, evT_and, evT_or, evT_val, evA_nil, evA_cons, evAnd_one, evAnd_cons, evOr_one, evOr_cons, tsAnd_one, tsAnd_cons, tsOr_one, tsOr_cons, evP_no, evP_so, evI_seq, evI_enum,
  gS_z, gS_s, rdS_v, rdS_arg, gL_z, gL_s, gV_z, gV_s, negD_int, notD_bl, trD_bl, trD_none, trD_tuple, trD_list, blD_bl, inD_int, sqD_list, sqD_tuple, lsD_list, Option.bind_some, Option.bind_none, bE_some, bE_none, bT_some, bT_none, bS_nx, bS_rt, bS_bk, bS_ct, bL_nx, bL_ct, bL_bk, bL_rt, guardO_true, guardO_false, iteB_true, iteB_false, List.set_cons_zero, List.set_cons_succ, wipeL, List.map_cons, List.map_nil,
  List.all_cons, List.all_nil, id_eq, Bool.and_self, Bool.and_true, Bool.true_and, List.length_cons, List.length_nil, slOf_int, slOf_bool, imm_int, imm_bool, imm_none, turnC_eq, turnF_eq, cmpD_lt, cmpD_le, cmpD_gt, cmpD_ge, op2D_add, op2D_sub, ixD_t, ixD_l, addG_gl, decide_true, decide_false, Bool.not_true, Bool.not_false, ↓reduceIte, cmpD_is_non, cmpD_isn_non, isNon_int, isNon_none, biD_allM, biD_anyM, biD_len_l, biD_len_t, biD_tuple, List.length_map, cmpD_eq_int, cmpD_ne_int, cmpD_eq_bl, cmpD_ne_bl, cmpD_is_bl, cmpD_isn_bl, biD_max2, biD_min2, nb_nil, nb_cons, isB_v, isB_arg, isB_any, isB_tp, isB_scr, outF_rt, outF_nx, outT_rt, biD_int, biD_abs, dLe0, dLe1, dLe2, dLe3, imm_tuple, immAll_cons, immAll_nil])
  | `(tactic| push_cast [$ls,*]) => `(tactic| simp -implicitDefEqProofs only [evSs_nil, evSs_cons, evSs_fgt, evS_set, evS_setLc, evS_move, evS_unp, evS_par, evS_ife, evS_for, evS_ret, evS_retV, evS_retN, evS_expr, evS_append, evS_extend, evS_addI, evS_pass, evS_brk, evS_cont, evO_nm, evO_tup, evOs_nil, evOs_cons, evG_nm, evG_tup, evGs_nil, evGs_cons,
  evE_varE, evE_int, evE_bl, evE_non, evE_str, evE_glob, evE_op2, evE_cmp, evE_chain, evE_ix, evE_neg, evE_not, evE_and, evE_or, evE_ife, evE_tup, evE_lst, evE_bi, evE_sl, evC_el, evC_ift, evT_not, evT_and, evT_or, evT_val, evA_nil, evA_cons, evAnd_one, evAnd_cons, evOr_one, evOr_cons, tsAnd_one, tsAnd_cons, tsOr_one, tsOr_cons, evP_no, evP_so, evI_seq, evI_enum,
  gS_z, gS_s, rdS_v, rdS_arg, gL_z, gL_s, gV_z, gV_s, negD_int, notD_bl, trD_bl, trD_none, trD_tuple, trD_list, blD_bl, inD_int, sqD_list, sqD_tuple, lsD_list, Option.bind_some, Option.bind_none, bE_some, bE_none, bT_some, bT_none, bS_nx, bS_rt, bS_bk, bS_ct, bL_nx, bL_ct, bL_bk, bL_rt, guardO_true, guardO_false, iteB_true, iteB_false, List.set_cons_zero, List.set_cons_succ, wipeL, List.map_cons, List.map_nil,
  List.all_cons, List.all_nil, id_eq, Bool.and_self, Bool.and_true, Bool.true_and, List.length_cons, List.length_nil, slOf_int, slOf_bool, imm_int, imm_bool, imm_none, turnC_eq, turnF_eq, cmpD_lt, cmpD_le, cmpD_gt, cmpD_ge, op2D_add, op2D_sub, ixD_t, ixD_l, addG_gl, decide_true, decide_false, Bool.not_true, Bool.not_false, ↓reduceIte, cmpD_is_non, cmpD_isn_non, isNon_int, isNon_none, biD_allM, biD_anyM, biD_len_l, biD_len_t, biD_tuple, List.length_map, cmpD_eq_int, cmpD_ne_int, cmpD_eq_bl, cmpD_ne_bl, cmpD_is_bl, cmpD_isn_bl, biD_max2, biD_min2, nb_nil, nb_cons, isB_v, isB_arg, isB_any, isB_tp, isB_scr, outF_rt, outF_nx, outT_rt, biD_int, biD_abs, dLe0, dLe1, dLe2, dLe3, imm_tuple, immAll_cons, immAll_nil, $ls,*])

def isA (n : Nat) (d : Nat → Int) (p : Prs) (L k : Nat) : Bool := (closeF (netOf n d p) (2 * L + 1) (2 * k)).isSome
def okA (n : Nat) (d : Nat → Int) (p : Prs) (late : Int) (L k : Nat) : Bool := decide (-((closeF (netOf n d p) (2 * L + 1) (2 * k)).getD 0) ≤ late)
def aheadL (n : Nat) (d : Nat → Int) (p : Prs) (L : Nat) : List D := ((List.range n).filter (isA n d p L)).map fun (k : Nat) => .int (k : Int)
def dueB (n : Nat) (d : Nat → Int) (p : Prs) (late : Int) (L : Nat) : Bool := ((List.range n).filter (isA n d p L)).all (okA n d p late L)
theorem due_fits {n : Nat} {d : Nat → Int} {p : Prs} (h : Cs n d p) {L : Nat} (hL : L < n) {late : Int} (h0 : 0 ≤ late) (h1 : late ≤ 99) : fitsB (lateNet n d p L late) = dueB n d p late L := by
  have hm : (netOf n d p).many = 2 * n := rfl
  rw [Bool.eq_iff_iff, fitsB_iff]
  unfold lateNet
  rw [late_fits h.ok h.fits (lateNet_ok h.ok hL ⟨h0, h1⟩ (by have := h.hl; omega)) (by omega) (fun s hs => by
    obtain ⟨k, hk, rfl⟩ := List.mem_map.mp hs
    have := List.mem_range.mp hk
    omega) h0]
  unfold dueB
  rw [List.all_eq_true]
  constructor
  · intro H k hk
    obtain ⟨hk1, hk2⟩ := List.mem_filter.mp hk
    unfold isA at hk2
    unfold okA
    cases c : closeF (netOf n d p) (2 * L + 1) (2 * k) with
    | none => rw [c] at hk2; cases hk2
    | some z => exact decide_eq_true (H (2 * k) (List.mem_map.mpr ⟨k, hk1, rfl⟩) z c)
  · intro H s hs z hz
    obtain ⟨k, hk, rfl⟩ := List.mem_map.mp hs
    have := H k (List.mem_filter.mpr ⟨hk, by unfold isA; rw [hz]; rfl⟩)
    unfold okA at this
    rw [hz] at this
    exact of_decide_eq_true this
theorem turn_last {t : Tape} {s : Nat → Sl} {n : Nat} {d : Nat → Int} {p : Prs} (h : Cs n d p) {l : Nat} (hl : l ≤ 99) {L : Nat} (hL : L < n) : turnF C_17 (.nm 20) b_law_3 (.int (L : Int)) (s 0 :: .tp :: .v (.int (n : Int)) :: .v (encV n d) :: .v (encPs p) :: s 5 :: .v (encN (netOf n d p)) :: s 7 :: s 8 :: s 9 :: s 10 :: s 11 :: s 12 :: s 13 :: .v (.int (l : Int)) :: s 15 :: s 16 :: s 17 :: s 18 :: s 19 :: s 20 :: s 21 :: s 22 :: s 23 :: s 24 :: s 25 :: s 26 :: s 27 :: s 28 :: s 29 :: s 30 :: s 31 :: s 32 :: s 33 :: s 34 :: s 35 :: s 36 :: s 37 :: s 38 :: []) (eTape t) = some (.nx (s 0 :: .tp :: .v (.int (n : Int)) :: .v (encV n d) :: .v (encPs p) :: s 5 :: .v (encN (netOf n d p)) :: s 7 :: s 8 :: s 9 :: s 10 :: s 11 :: s 12 :: s 13 :: .v (.int (l : Int)) :: s 15 :: s 16 :: s 17 :: s 18 :: s 19 :: .any :: .any :: .any :: .any :: .v (.list (aheadL n d p L)) :: .any :: s 26 :: s 27 :: s 28 :: s 29 :: s 30 :: s 31 :: s 32 :: s 33 :: s 34 :: s 35 :: s 36 :: s 37 :: s 38 :: []) (eTape t)) := by
  have h4 := h.h4
  have hpl := h.hl
  have hok := h.ok
  have hokL := lateNet_ok (L := L) (late := (l : Int)) hok hL ⟨by omega, by omega⟩ (by omega)
  have hr : ∀ k, k < n → r_range_of [encN (netOf n d p), .int (((2 * L : Nat) : Int) + 1), .int ((2 * k : Nat) : Int)] = some (.tuple [encO (negO (closeF (netOf n d p) (2 * L + 1) (2 * k))), encO (closeF (netOf n d p) (2 * k) (2 * L + 1))]) := fun k hk => by
    rw [show ((2 * L : Nat) : Int) + 1 = ((2 * L + 1 : Nat) : Int) by omega]
    exact f_range_of (netOf n d p) hok h.fits (by show 2 * L + 1 < 2 * n; omega) (by show 2 * k < 2 * n; omega)
  have ix0 : ∀ x y : D, ixD (.tuple [x, y]) (.int 0) = some x := fun x y => rfl
  have hnon : ∀ o : Option Int, DL.isNon (encO (negO o)) = !o.isSome := fun o => by cases o <;> rfl
  unfold b_law_3
  push_cast []
  rw [evLc_map (o := true) (fun k : Nat => .int (k : Int)) (fun k => .int ((2 * k : Nat) : Int)) (List.range n) (evI_rngN n (by push_cast []; rfl) (by omega)) (by rw [List.length_range]; omega) fun k hk => by
    push_cast [mul2]]
  push_cast [encN_1]
  rw [evLc_map (o := false) (fun k : Nat => .int ((2 * k : Nat) : Int)) (fun k => encB (2 * k, 2 * L + 1, (l : Int))) (List.range n) (by push_cast []; rfl) (by rw [List.length_range]; omega) fun k hk => by
    push_cast [mul2]
    rfl]
  have im1 : immAll ((List.range n).map fun k => encB (2 * k, 2 * L + 1, (l : Int))) = true := immAll_mapE fun _ _ => rfl
  have hadd := op2D_addT ((netOf n d p).bounds.map encB) ((List.range n).map fun k => encB (2 * k, 2 * L + 1, (l : Int))) (immAll_encB _) im1 (by rw [List.length_map, List.length_map, List.length_range]; have := hok.2.2; omega)
  have eb : (netOf n d p).bounds.map encB ++ (List.range n).map (fun k => encB (2 * k, 2 * L + 1, (l : Int))) = (lateNet n d p L (l : Int)).bounds.map encB := by
    show _ = ((netOf n d p).bounds ++ (evens n).map fun s => (s, 2 * L + 1, (l : Int))).map encB
    rw [List.map_append]
    unfold evens
    rw [List.map_map, List.map_map]; rfl
  rw [eb] at hadd
  push_cast [biD_tuple im1, hadd, encN_0, immAll_encB]
  have en : PyData.tuple [.int ((netOf n d p).many : Int), .tuple ((lateNet n d p L (l : Int)).bounds.map encB)] = encN (lateNet n d p L (l : Int)) := rfl
  rw [en]
  rw [evLc_filter (o := true) (fun k : Nat => .int (k : Int)) (isA n d p L) (fun k => .int (k : Int)) (List.range n) (evI_rngN n (by push_cast []; rfl) (by omega)) (by rw [List.length_range]; omega) fun k hk => by
    have hk := List.mem_range.mp hk
    push_cast [mul2, evE_call, c17_range_of, hr k hk, ix0, hnon]
    unfold isA
    cases (closeF (netOf n d p) (2 * L + 1) (2 * k)).isSome with
    | true => push_cast [if_true]
    | false => push_cast [if_false, Bool.false_eq_true]]
  push_cast []
  rw [evLc_map (o := false) (fun k : Nat => .int (k : Int)) (fun k => .bool (okA n d p (l : Int) L k)) ((List.range n).filter (isA n d p L)) (by push_cast []; rfl) (by have := List.length_filter_le (isA n d p L) (List.range n); rw [List.length_range] at this; omega) fun k hk => by
    obtain ⟨hk1, hk2⟩ := List.mem_filter.mp hk
    have hk := List.mem_range.mp hk1
    unfold isA at hk2
    push_cast [mul2, evE_call, c17_range_of, hr k hk, ix0]
    unfold okA
    cases c : closeF (netOf n d p) (2 * L + 1) (2 * k) with
    | none => rw [c] at hk2; cases hk2
    | some z => push_cast [negO, Option.map_some, encO_s, Option.getD_some]]
  push_cast []
  have ed : (((List.range n).filter (isA n d p L)).all (okA n d p (l : Int) L)) = dueB n d p (l : Int) L := rfl
  have ea : ((List.range n).filter (isA n d p L)).map (fun (k : Nat) => PyData.int (k : Int)) = aheadL n d p L := rfl
  have hdf := due_fits h hL (late := (l : Int)) (by omega) (by omega)
  rw [ed, ea]
  push_cast [evE_call, c17_fits, f_fits _ hokL, hdf, bne_self_eq_false]
  cases hD : dueB n d p (l : Int) L with
  | true => push_cast []
  | false =>
    by_cases hlen : (lateNet n d p L (l : Int)).bounds.length < 15
    · have hlen' : ((lateNet n d p L (l : Int)).bounds.length : Int) < 15 := by omega
      have hnf : ¬ Fits (lateNet n d p L (l : Int)) := fun z => by
        rw [← fitsB_iff, hdf, hD] at z
        cases z
      obtain ⟨row, i, z, e1, hw, hz, hne, hrl⟩ := f_bad hokL hnf (lateNet_D n d p L (l : Int)) fun r hr => Nat.le_trans (lateNet_size h.h1 h.h4 hlen hr) (by omega)
      push_cast [hlen', evE_call, c17_takes_circle, c17_bad_circle, e1, f_takes hokL hw hz hne hrl]
    · have hlen' : ¬ ((lateNet n d p L (l : Int)).bounds.length : Int) < 15 := by omega
      push_cast [hlen']
def s24 (x : Sl) (n : Nat) (d : Nat → Int) (p : Prs) : Nat → Sl
  | 0 => x
  | k + 1 => .v (.list (aheadL n d p k))
theorem stF (HG : TlG) : TlF := by
  intro t s n d p ht h
  have h4 := h.h4
  obtain ⟨l, t1, hl, ht1, e1⟩ := f_take t ht 30 (by omega) (by omega)
  have e1' : r__law_take (eTape t) [.int 30] = some (eTape t1, .int (l : Int)) := e1
  refine step_ex (by push_cast [evE_callT, gT_s, gT_z, c17__law_take, e1']; rfl) ?_
  have hloop := evFor_range (turn := turnF C_17 (.nm 20) b_law_3) (enc := fun j => .int (j : Int)) (fun k => (s 0 :: .tp :: .v (.int (n : Int)) :: .v (encV n d) :: .v (encPs p) :: s 5 :: .v (encN (netOf n d p)) :: s 7 :: s 8 :: s 9 :: s 10 :: s 11 :: s 12 :: s 13 :: .v (.int (l : Int)) :: s 15 :: s 16 :: s 17 :: s 18 :: s 19 :: sl0 (s 20) k :: sl0 (s 21) k :: sl0 (s 22) k :: sl0 (s 23) k :: s24 (s 24) n d p k :: sl0 (s 25) k :: s 26 :: s 27 :: s 28 :: s 29 :: s 30 :: s 31 :: s 32 :: s 33 :: s 34 :: s 35 :: s 36 :: s 37 :: s 38 :: [])) (fun _ => eTape t1) (n := n) fun L hL =>
    turn_last (s := fun x => if x = 20 then sl0 (s 20) L else if x = 21 then sl0 (s 21) L else if x = 22 then sl0 (s 22) L else if x = 23 then sl0 (s 23) L else if x = 24 then s24 (s 24) n d p L else if x = 25 then sl0 (s 25) L else s x) h (l := l) (by omega) hL
  have a20 : sl0 (s 20) 0 = s 20 := rfl
  have a21 : sl0 (s 21) 0 = s 21 := rfl
  have a22 : sl0 (s 22) 0 = s 22 := rfl
  have a23 : sl0 (s 23) 0 = s 23 := rfl
  have a24 : s24 (s 24) n d p 0 = s 24 := rfl
  have a25 : sl0 (s 25) 0 = s 25 := rfl
  rw [a20, a21, a22, a23, a24, a25] at hloop
  refine step_ex (by
    push_cast []
    rw [evI_rngN n (by push_cast []; rfl) (by omega)]
    push_cast []
    exact hloop) ?_
  exact HG t1 (fun x => if x = 2 then .v (.int (n : Int)) else if x = 3 then .v (encV n d) else if x = 4 then .v (encPs p) else if x = 6 then .v (encN (netOf n d p)) else if x = 14 then .v (.int (l : Int)) else if x = 20 then sl0 (s 20) n else if x = 21 then sl0 (s 21) n else if x = 22 then sl0 (s 22) n else if x = 23 then sl0 (s 23) n else if x = 24 then s24 (s 24) n d p n else if x = 25 then sl0 (s 25) n else s x) ht1
end K55
namespace K55
open PySem PySem.Spec L2 RZ DL DI
local macro_rules
  | `(tactic| l_intsW) => `(tactic| simp -implicitDefEqProofs only [evSs_nil, evSs_cons, evSs_fgt, evS_set, evS_setLc, evS_move, evS_unp, evS_par, evS_ife, evS_for, evS_ret, evS_retV, evS_retN, evS_expr, evS_append, evS_extend, evS_addI, evS_pass, evS_brk, evS_cont, evO_nm, evO_tup, evOs_nil, evOs_cons, evG_nm, evG_tup, evGs_nil, evGs_cons,
  evE_varE, evE_int, evE_bl, evE_non, evE_str, evE_glob, evE_op2, evE_cmp, evE_chain, evE_ix, evE_neg, evE_not, evE_and, evE_or, evE_ife, evE_tup, evE_lst, evE_bi, evE_sl, evC_el, evC_ift, evT_not, evT_and, evT_or, evT_val, evA_nil, evA_cons, evAnd_one, evAnd_cons, evOr_one, evOr_cons, tsAnd_one, tsAnd_cons, tsOr_one, tsOr_cons, evP_no, evP_so, evI_seq, evI_enum,
  gS_z, gS_s, rdS_v, rdS_arg, gL_z, gL_s, gV_z, gV_s, negD_int, notD_bl, trD_bl, trD_none, trD_tuple, trD_list, blD_bl, inD_int, sqD_list, sqD_tuple, lsD_list, Option.bind_some, Option.bind_none, bE_some, bE_none, bT_some, bT_none, bS_nx, bS_rt, bS_bk, bS_ct, bL_nx, bL_ct, bL_bk, bL_rt, guardO_true, guardO_false, iteB_true, iteB_false, List.set_cons_zero, List.set_cons_succ, wipeL, List.map_cons, List.map_nil,
  List.all_cons, List.all_nil, id_eq, Bool.and_self, Bool.and_true, Bool.true_and, List.length_cons, List.length_nil, slOf_int, slOf_bool, imm_int, imm_bool, imm_none, turnC_eq, turnF_eq, cmpD_lt, cmpD_le, cmpD_gt, cmpD_ge, op2D_add, op2D_sub, ixD_t, ixD_l, addG_gl, decide_true, decide_false, Bool.not_true, Bool.not_false, ↓reduceIte, cmpD_is_non, cmpD_isn_non, isNon_int, isNon_none, biD_allM, biD_anyM, biD_len_l, biD_len_t, biD_tuple, List.length_map, cmpD_eq_int, cmpD_ne_int, cmpD_eq_bl, cmpD_ne_bl, cmpD_is_bl, cmpD_isn_bl, biD_max2, biD_min2, nb_nil, nb_cons, isB_v, isB_arg, isB_any, isB_tp, isB_scr, outF_rt, outF_nx, outT_rt, biD_int, biD_abs, dLe0, dLe1, dLe2, dLe3, imm_tuple, immAll_cons, immAll_nil])
  | `(tactic| push_cast [$ls,*]) => `(tactic| simp -implicitDefEqProofs only [evSs_nil, evSs_cons, evSs_fgt, evS_set, evS_setLc, evS_move, evS_unp, evS_par, evS_ife, evS_for, evS_ret, evS_retV, evS_retN, evS_expr, evS_append, evS_extend, evS_addI, evS_pass, evS_brk, evS_cont, evO_nm, evO_tup, evOs_nil, evOs_cons, evG_nm, evG_tup, evGs_nil, evGs_cons,
  evE_varE, evE_int, evE_bl, evE_non, evE_str, evE_glob, evE_op2, evE_cmp, evE_chain, evE_ix, evE_neg, evE_not, evE_and, evE_or, evE_ife, evE_tup, evE_lst, evE_bi, evE_sl, evC_el, evC_ift, evT_not, evT_and, evT_or, evT_val, evA_nil, evA_cons, evAnd_one, evAnd_cons, evOr_one, evOr_cons, tsAnd_one, tsAnd_cons, tsOr_one, tsOr_cons, evP_no, evP_so, evI_seq, evI_enum,
  gS_z, gS_s, rdS_v, rdS_arg, gL_z, gL_s, gV_z, gV_s, negD_int, notD_bl, trD_bl, trD_none, trD_tuple, trD_list, blD_bl, inD_int, sqD_list, sqD_tuple, lsD_list, Option.bind_some, Option.bind_none, bE_some, bE_none, bT_some, bT_none, bS_nx, bS_rt, bS_bk, bS_ct, bL_nx, bL_ct, bL_bk, bL_rt, guardO_true, guardO_false, iteB_true, iteB_false, List.set_cons_zero, List.set_cons_succ, wipeL, List.map_cons, List.map_nil,
  List.all_cons, List.all_nil, id_eq, Bool.and_self, Bool.and_true, Bool.true_and, List.length_cons, List.length_nil, slOf_int, slOf_bool, imm_int, imm_bool, imm_none, turnC_eq, turnF_eq, cmpD_lt, cmpD_le, cmpD_gt, cmpD_ge, op2D_add, op2D_sub, ixD_t, ixD_l, addG_gl, decide_true, decide_false, Bool.not_true, Bool.not_false, ↓reduceIte, cmpD_is_non, cmpD_isn_non, isNon_int, isNon_none, biD_allM, biD_anyM, biD_len_l, biD_len_t, biD_tuple, List.length_map, cmpD_eq_int, cmpD_ne_int, cmpD_eq_bl, cmpD_ne_bl, cmpD_is_bl, cmpD_isn_bl, biD_max2, biD_min2, nb_nil, nb_cons, isB_v, isB_arg, isB_any, isB_tp, isB_scr, outF_rt, outF_nx, outT_rt, biD_int, biD_abs, dLe0, dLe1, dLe2, dLe3, imm_tuple, immAll_cons, immAll_nil, $ls,*])

theorem catV (m m' : Nat) (d d' : Nat → Int) (h : m + m' ≤ 1000) : op2D .add (encV m d) (encV m' d') = some (encV (m + m') (cat m d d')) := by
  have := op2D_addT ((List.range m).map fun k => .int (d k)) ((List.range m').map fun k => .int (d' k)) (immAll_ints d _) (immAll_ints d' _) (by rw [List.length_map, List.length_map, List.length_range, List.length_range]; omega)
  unfold encV
  rw [this]
  congr 2
  apply List.ext_getElem
  · simp
  · intro i h1 h2
    have hi : i < m + m' := by simpa using h2
    rw [List.getElem_append]
    by_cases c : i < m
    · simp [c, cat]
    · simp [c, cat]
theorem addPs (p p' : Prs) (h : p.length + p'.length ≤ 1000) : op2D .add (encPs p) (encPs p') = some (encPs (p ++ p')) := by
  have := op2D_addT (p.map encP) (p'.map encP) (immAll_encP _) (immAll_encP _) (by rw [List.length_map, List.length_map]; omega)
  unfold encPs
  rw [this, List.map_append]
def crK (m m' k : Nat) : Prs := (List.range k).flatMap fun a => (List.range m').map fun b => (a, m + b)
theorem crK_succ (m m' k : Nat) : crK m m' (k + 1) = crK m m' k ++ (List.range m').map fun b => (k, m + b) := by
  unfold crK
  rw [List.range_succ, List.flatMap_append]
  simp
theorem crK_len (m m' k : Nat) : (crK m m' k).length = k * m' := by
  induction k with
  | zero => simp [crK]
  | succ k ih => rw [crK_succ, List.length_append, ih]; simp [Nat.succ_mul]
theorem turn_cross {t : Tape} {s : Nat → Sl} {m m' k : Nat} (hm : m ≤ 10) (hm' : m' ≤ 10) (hk : k < m) : turnF C_17 (.nm 33) b_law_4 (.int (k : Int)) (s 0 :: .tp :: s 2 :: s 3 :: s 4 :: s 5 :: s 6 :: s 7 :: s 8 :: s 9 :: s 10 :: s 11 :: s 12 :: s 13 :: s 14 :: s 15 :: s 16 :: s 17 :: s 18 :: s 19 :: s 20 :: s 21 :: s 22 :: s 23 :: s 24 :: s 25 :: .v (.int (m : Int)) :: .v (.int (m' : Int)) :: s 28 :: s 29 :: s 30 :: s 31 :: .v (.list ((crK m m' k).map encP)) :: s 33 :: s 34 :: s 35 :: s 36 :: s 37 :: s 38 :: []) (eTape t) = some (.nx (s 0 :: .tp :: s 2 :: s 3 :: s 4 :: s 5 :: s 6 :: s 7 :: s 8 :: s 9 :: s 10 :: s 11 :: s 12 :: s 13 :: s 14 :: s 15 :: s 16 :: s 17 :: s 18 :: s 19 :: s 20 :: s 21 :: s 22 :: s 23 :: s 24 :: s 25 :: .v (.int (m : Int)) :: .v (.int (m' : Int)) :: s 28 :: s 29 :: s 30 :: s 31 :: .v (.list ((crK m m' (k + 1)).map encP)) :: .any :: s 34 :: s 35 :: s 36 :: s 37 :: s 38 :: []) (eTape t)) := by
  have hlen : ((crK m m' k).map encP).length + (((List.range m').map fun b => (k, m + b)).map encP).length ≤ 1000000 := by
    have : k * m' ≤ 10 * 10 := Nat.mul_le_mul (by omega) hm'
    rw [List.length_map, List.length_map, List.length_map, List.length_range, crK_len]
    omega
  have hadd := op2D_addL ((crK m m' k).map encP) (((List.range m').map fun b => (k, m + b)).map encP) (immAll_encP _) (immAll_encP _) hlen
  rw [← List.map_append, ← crK_succ] at hadd
  unfold b_law_4
  push_cast []
  rw [evLc_map (o := true) (fun i : Nat => .int ((m + i : Nat) : Int)) (fun b => encP (k, m + b)) (List.range m') (evI_rngP m m' (by push_cast []; rfl) (by push_cast []; rfl) (by omega)) (by rw [List.length_range]; omega) fun b hb => by
    push_cast []
    rfl]
  have em : (List.range m').map (fun b => encP (k, m + b)) = ((List.range m').map fun b => (k, m + b)).map encP := by rw [List.map_map]; rfl
  rw [em]
  push_cast [hadd]
theorem cutV_lo (n : Nat) (f : Nat → Int) (h : Nat) (hh : h ≤ n) : slD (encV n f) none (some (h : Int)) = some (encV h f) := by
  show guardO (immAll ((List.range n).map fun k => PyData.int (f k))) (some (PyData.tuple (cutD _ none (some (h : Int))))) = _
  rw [immAll_ints]
  unfold cutD
  rw [HT.sIx_nat, HT.sIx_none, List.length_map, List.length_range, Nat.min_eq_left hh, List.drop_zero, Nat.sub_zero, ← List.map_take, List.take_range, Nat.min_eq_left hh]
  rfl
theorem cutV_hi (n : Nat) (f : Nat → Int) (h : Nat) (hh : h ≤ n) : slD (encV n f) (some (h : Int)) none = some (encV (n - h) fun k => f (h + k)) := by
  show guardO (immAll ((List.range n).map fun k => PyData.int (f k))) (some (PyData.tuple (cutD _ (some (h : Int)) none))) = _
  rw [immAll_ints]
  unfold cutD
  rw [HT.sIx_nat, HT.sIx_none, List.length_map, List.length_range, Nat.min_eq_left hh, guardO_true, List.take_of_length_le (by simp)]
  unfold encV
  congr 2
  apply List.ext_getElem
  · simp
  · intro i h1 h2
    simp
theorem maxL_due {n : Nat} (hn : 1 ≤ n) {d s : Nat → Int} (hd : ∀ k, k < n → 0 ≤ d k) {E : Int} (h : IsEnd n d s E) : maxL ((List.range (2 * n)).map fun k => due d s k) = E := by
  have hne : (List.range (2 * n)).map (fun k => due d s k) ≠ [] := by
    intro e
    have := congrArg List.length e
    simp at this; omega
  have h1 := maxL_mem hne
  obtain ⟨k, hk, e⟩ := List.mem_map.mp h1
  have hk := List.mem_range.mp hk
  have h2 : due d s k ≤ E := by
    have := h.ge (k / 2) (by omega)
    have := hd (k / 2) (by omega)
    unfold due
    split <;> omega
  obtain ⟨j, hj, f⟩ := h.at_
  have h3 : E ≤ maxL ((List.range (2 * n)).map fun k => due d s k) := maxL_ge (List.mem_map.mpr ⟨2 * j + 1, List.mem_range.mpr (by omega), by rw [due_odd]; exact f⟩)
  omega
theorem sqD_encV (n : Nat) (f : Nat → Int) : sqD (encV n f) = some ((List.range n).map fun k => .int (f k)) := rfl
theorem stG : TlG := by
  intro t s ht
  obtain ⟨k, t1, hk, ht1, e1⟩ := f_take t ht 2 (by omega) (by omega)
  have e1' : r__law_take (eTape t) [.int 2] = some (eTape t1, .int (k : Int)) := e1
  refine step_ex (by push_cast [evE_callT, gT_s, gT_z, c17__law_take, e1']; rfl) ?_
  rw [cast1]
  have hm1 : 1 ≤ 1 + k := by omega
  have hm2 : 1 + k ≤ 2 := by omega
  generalize 1 + k = m at hm1 hm2
  obtain ⟨k', t2, hk', ht2, e2⟩ := f_take t1 ht1 2 (by omega) (by omega)
  have e2' : r__law_take (eTape t1) [.int 2] = some (eTape t2, .int (k' : Int)) := e2
  refine step_ex (by push_cast [evE_callT, gT_s, gT_z, c17__law_take, e2']; rfl) ?_
  rw [cast1]
  have hn1 : 1 ≤ 1 + k' := by omega
  have hn2 : 1 + k' ≤ 2 := by omega
  generalize 1 + k' = m' at hn1 hn2
  obtain ⟨t3, d, e3, ht3, hd⟩ := draw_row (ρ := (s 0 :: .tp :: s 2 :: s 3 :: s 4 :: s 5 :: s 6 :: s 7 :: s 8 :: s 9 :: s 10 :: s 11 :: s 12 :: s 13 :: s 14 :: s 15 :: s 16 :: s 17 :: s 18 :: s 19 :: s 20 :: s 21 :: s 22 :: s 23 :: s 24 :: s 25 :: .v (.int (m : Int)) :: .v (.int (m' : Int)) :: s 28 :: s 29 :: s 30 :: s 31 :: s 32 :: s 33 :: s 34 :: s 35 :: s 36 :: s 37 :: s 38 :: [])) (v := 26) (n := m) ht2 (by omega) (by push_cast []) (fun _ => rfl)
  obtain ⟨t4, d', e4, ht4, hd'⟩ := draw_row (ρ := (s 0 :: .tp :: s 2 :: s 3 :: s 4 :: s 5 :: s 6 :: s 7 :: s 8 :: s 9 :: s 10 :: s 11 :: s 12 :: s 13 :: s 14 :: s 15 :: s 16 :: s 17 :: s 18 :: s 19 :: s 20 :: s 21 :: s 22 :: s 23 :: s 24 :: s 25 :: .v (.int (m : Int)) :: .v (.int (m' : Int)) :: s 28 :: s 29 :: s 30 :: s 31 :: s 32 :: s 33 :: s 34 :: s 35 :: s 36 :: s 37 :: s 38 :: [])) (v := 27) (n := m') ht3 (by omega) (by push_cast []) (fun _ => rfl)
  refine step_ex (by push_cast [e3, e4, tupV]; rfl) ?_
  obtain ⟨p, t5, e5, ht5, ha, hl⟩ := f_pairs t4 ht4 hm1 (by omega)
  obtain ⟨p', t6, e6, ht6, ha', hl'⟩ := f_pairs t5 ht5 hn1 (by omega)
  have h : Cs m d p := ⟨hm1, by omega, hd, ha, hl⟩
  have h' : Cs m' d' p' := ⟨hn1, by omega, hd', ha', hl'⟩
  refine step_ex (by push_cast [evE_callT, gT_s, gT_z, c17__law_pairs, e5, e6]; rfl) ?_
  have eup : PyData.tuple (p'.map fun q => .tuple [.int ((q.1 : Int) + (m : Int)), .int ((q.2 : Int) + (m : Int))]) = encPs (upP m p') := by
    unfold encPs upP
    rw [List.map_map]
    congr 1
  refine step_ex (by
    push_cast []
    rw [evLc_map (o := true) encP (fun q => .tuple [.int ((q.1 : Int) + (m : Int)), .int ((q.2 : Int) + (m : Int))]) p' (by push_cast [encPs, immAll_encP]; rfl) (by omega) fun q hq => by
      unfold encP
      push_cast []]
    push_cast [biD_tuple (immAll_mapE (enc := fun q : Nat × Nat => PyData.tuple [.int ((q.1 : Int) + (m : Int)), .int ((q.2 : Int) + (m : Int))]) (xs := p') fun _ _ => rfl), eup]
    rfl) ?_
  refine step_ex (by push_cast []; rfl) ?_
  have hloop := evFor_range (turn := turnF C_17 (.nm 33) b_law_4) (enc := fun j => .int (j : Int)) (fun k => (s 0 :: .tp :: s 2 :: s 3 :: s 4 :: s 5 :: s 6 :: s 7 :: s 8 :: s 9 :: s 10 :: s 11 :: s 12 :: s 13 :: s 14 :: s 15 :: s 16 :: s 17 :: s 18 :: s 19 :: s 20 :: s 21 :: s 22 :: s 23 :: .v (encPs p) :: s 25 :: .v (.int (m : Int)) :: .v (.int (m' : Int)) :: .v (encV m d) :: .v (encV m' d') :: .v (encPs p') :: .v (encPs (upP m p')) :: .v (.list ((crK m m' k).map encP)) :: sl0 (s 33) k :: s 34 :: s 35 :: s 36 :: s 37 :: s 38 :: [])) (fun _ => eTape t6) (n := m) fun k hk =>
    turn_cross (s := fun x => if x = 28 then .v (encV m d) else if x = 29 then .v (encV m' d') else if x = 24 then .v (encPs p) else if x = 30 then .v (encPs p') else if x = 31 then .v (encPs (upP m p')) else if x = 33 then sl0 (s 33) k else s x) (by omega) (by omega) hk
  have c0 : (crK m m' 0).map encP = [] := rfl
  have a33 : sl0 (s 33) 0 = s 33 := rfl
  have cm : crK m m' m = crossP m m' := rfl
  rw [c0, a33, cm] at hloop
  refine step_ex (by
    push_cast []
    rw [evI_rngN m (by push_cast []; rfl) (by omega)]
    push_cast []
    exact hloop) ?_
  -- beside
  have hupl : (upP m p').length ≤ 16 := by unfold upP; rw [List.length_map]; exact hl'
  have hcl : (crossP m m').length ≤ 4 := by
    rw [← cm, crK_len]
    have : m * m' ≤ 2 * 2 := Nat.mul_le_mul hm2 hn2
    omega
  have hac := acyc_cat ha ha'
  have hab : Acyc (m + m') (p ++ upP m p') := hac.sub fun q hq => List.mem_append.mpr (.inl hq)
  have hcd : ∀ k, k < m + m' → 0 ≤ cat m d d' k ∧ cat m d d' k ≤ 99 := fun k hk => by
    unfold cat
    split
    · rename_i c; have := hd k c; omega
    · have := hd' (k - m) (by omega); omega
  have hE1 := endF_is hm1 d p
  have hE2 := endF_is hn1 d' p'
  have hb := beside ha.lt ha'.lt (starts_least (d := d) ha) (starts_least (d := d') ha')
  have hbe : endF (m + m') (cat m d d') (p ++ upP m p') = max (endF m d p) (endF m' d' p') :=
    ((endF_is (by omega) _ _).congr fun k hk => (starts_least hab).uniq hb hk).uniq (end_beside hE1 hE2)
  have hsum : m + m' ≤ 1000 := by omega
  refine step_ex (by
    push_cast [catV m m' d d' hsum, addPs p (upP m p') (by omega), evE_call, c17__law_end, h.end_, h'.end_, f_end (show 1 ≤ m + m' by omega) hsum hab.lt, hbe, ne_eq, not_true_eq_false]
    rfl) ?_
  -- behind
  have hok := netOf_ok (n := m + m') (d := cat m d d') (p := p ++ upP m p' ++ crossP m m') (by omega) (by omega) hcd hac.lt (by rw [List.length_append, List.length_append]; omega)
  have hnet : r_net_of [encV (m + m') (cat m d d'), encPs (p ++ upP m p' ++ crossP m m')] = some (encN (netOf (m + m') (cat m d d') (p ++ upP m p' ++ crossP m m'))) := f_net_of hok (by rw [List.length_append, List.length_append]; omega)
  have hear := early_ok (n := m + m') (d := cat m d d') (p := p ++ upP m p' ++ crossP m m') (by omega) (by omega) hcd hac (by rw [List.length_append, List.length_append]; omega)
  have hbl := behind ha.lt ha'.lt (starts_least (d := d) ha) (starts_least (d := d') ha') hE1 fun k hk => (hd k hk).1
  have hrow : encV (2 * (m + m')) (due (cat m d d') (startsF (m + m') (cat m d d') (p ++ upP m p' ++ crossP m m'))) = encV (2 * (m + m')) (due (cat m d d') (cat m (startsF m d p) fun k => startsF m' d' p' k + endF m d p)) := encV_congr fun k hk => by
    have := (starts_least hac).uniq hbl (k := k / 2) (by omega)
    unfold due
    rw [this]
  rw [hrow] at hear
  refine step_ex (by
    push_cast [catV m m' d d' hsum, addPs p (upP m p') (by omega), addPs (p ++ upP m p') (crossP m m') (by rw [List.length_append]; omega), biD_tuple (immAll_encP (crossP m m')), show PyData.tuple ((crossP m m').map encP) = encPs (crossP m m') from rfl, evE_call, c17_net_of, c17_earliest, hnet, hear]
    rfl) ?_
  have hEb : IsEnd (m + m') (cat m d d') (cat m (startsF m d p) fun k => startsF m' d' p' k + endF m d p) (endF m d p + endF m' d' p') := by
    have h2 : IsEnd m' d' (fun k => startsF m' d' p' k + endF m d p) (endF m d p + endF m' d' p') := by
      refine ⟨fun k hk => ?_, ?_⟩
      · have := hE2.ge k hk
        omega
      · obtain ⟨k, hk, e⟩ := hE2.at_
        exact ⟨k, hk, by omega⟩
    have h0 : 0 ≤ endF m' d' p' := by
      obtain ⟨k, hk, e⟩ := hE2.at_
      have := starts_nn m' d' p' k
      have := hd' k hk
      omega
    have := end_beside hE1 h2
    rw [Int.max_eq_right (by omega)] at this
    exact this
  have hmax : biD .max1 [encV (2 * (m + m')) (due (cat m d d') (cat m (startsF m d p) fun k => startsF m' d' p' k + endF m d p))] = some (.int (endF m d p + endF m' d' p')) := by
    have := biD_max1T (fun k => due (cat m d d') (cat m (startsF m d p) fun k => startsF m' d' p' k + endF m d p) k) (List.range (2 * (m + m'))) (by
      intro e
      have := congrArg List.length e
      simp at this; omega)
    rw [maxL_due (by omega) (fun k hk => (hcd k hk).1) hEb] at this
    exact this
  refine step_ex (by
    push_cast [hmax, evE_call, c17__law_end, h.end_, h'.end_, ne_eq, not_true_eq_false]
    rfl) ?_
  have hlo := cutV_lo (2 * (m + m')) (due (cat m d d') (cat m (startsF m d p) fun k => startsF m' d' p' k + endF m d p)) (2 * m) (by omega)
  have hhi := cutV_hi (2 * (m + m')) (due (cat m d d') (cat m (startsF m d p) fun k => startsF m' d' p' k + endF m d p)) (2 * m) (by omega)
  have elo : encV (2 * m) (due (cat m d d') (cat m (startsF m d p) fun k => startsF m' d' p' k + endF m d p)) = encV (2 * m) (due d (startsF m d p)) := encV_congr fun k hk => by
    unfold due cat
    rw [if_pos (show k / 2 < m by omega), if_pos (show k / 2 < m by omega)]
  have ehi : encV (2 * (m + m') - 2 * m) (fun k => due (cat m d d') (cat m (startsF m d p) fun k => startsF m' d' p' k + endF m d p) (2 * m + k)) = encV (2 * m') (fun k => due d' (startsF m' d' p') k + endF m d p) := by
    rw [show 2 * (m + m') - 2 * m = 2 * m' by omega]
    refine encV_congr fun k hk => ?_
    unfold due cat
    rw [if_neg (show ¬ (2 * m + k) / 2 < m by omega), if_neg (show ¬ (2 * m + k) / 2 < m by omega), show (2 * m + k) / 2 - m = k / 2 by omega]
    by_cases c : k % 2 = 0
    · rw [if_pos c, if_pos (by omega)]
    · rw [if_neg c, if_neg (by omega)]
      (try dsimp only)
      omega
  rw [elo] at hlo
  rw [ehi] at hhi
  have r1 := h.early
  have r2 := h'.early
  refine ⟨eTape t6, ?_⟩
  push_cast [mul2, hlo, hhi, evE_call, c17_net_of, c17_earliest, h.net, h'.net, r1, cmpD_eqS (pf_encV _ _)]
  rw [evLc_map (o := true) (fun k : Nat => .int (due d' (startsF m' d' p') k)) (fun k => .int (due d' (startsF m' d' p') k + endF m d p)) (List.range (2 * m')) (by push_cast [evE_call, c17_net_of, c17_earliest, h'.net, r2, sqD_encV]; rfl) (by rw [List.length_range]; omega) fun k hk => by
    push_cast [evE_call, c17__law_end, h.end_]]
  push_cast [biD_tuple (immAll_ints (fun k => due d' (startsF m' d' p') k + endF m d p) _), show PyData.tuple ((List.range (2 * m')).map fun k => .int (due d' (startsF m' d' p') k + endF m d p)) = encV (2 * m') (fun k => due d' (startsF m' d' p') k + endF m d p) from rfl, cmpD_eqS (pf_encV _ _)]
theorem law_true : ∀ ns : List Int, ns.length ≤ 63 → ∃ (ρ : List Sl) (τ : D) (kds : List (D × D)) (τ' : D), evS C_17 law_s1 (.scr ns :: List.replicate (N_law.length - 1) .any) .none = some (.nx ρ τ) ∧ ρ[1]? = some (.v (.dict kds)) ∧ nb? ρ = true ∧ evSs C_17 law_b (ρ.set 1 .tp) (.dict kds) = some (.rt τ' (.bool true)) := by
  intro ns hl
  obtain ⟨τ', e⟩ := stA (stB (stC (stD (stE (stF stG))))) (tapeOf ns) (fun i => if i = 0 then .scr ns else .any) (tapeOf_ok ns)
  have e0 : (Sl.scr ns :: List.replicate (N_law.length - 1) .any) = (.scr ns :: .any :: .any :: .any :: .any :: .any :: .any :: .any :: .any :: .any :: .any :: .any :: .any :: .any :: .any :: .any :: .any :: .any :: .any :: .any :: .any :: .any :: .any :: .any :: .any :: .any :: .any :: .any :: .any :: .any :: .any :: .any :: .any :: .any :: .any :: .any :: .any :: .any :: .any :: []) := rfl
  obtain ⟨kds, hk⟩ : ∃ kds, eTape (tapeOf ns) = .dict kds := ⟨_, rfl⟩
  refine ⟨(.scr ns :: .v (eTape (tapeOf ns)) :: .any :: .any :: .any :: .any :: .any :: .any :: .any :: .any :: .any :: .any :: .any :: .any :: .any :: .any :: .any :: .any :: .any :: .any :: .any :: .any :: .any :: .any :: .any :: .any :: .any :: .any :: .any :: .any :: .any :: .any :: .any :: .any :: .any :: .any :: .any :: .any :: .any :: []), .none, kds, τ', ?_, ?_, rfl, ?_⟩
  · rw [e0]
    unfold law_s1
    rw [evS_set, evE_callS c17__law_tape rfl, f_tape ns hl]
    rfl
  · rw [hk]; rfl
  · rw [← hk]
    exact e
end K55
namespace K55
open PySem PySem.Spec L2 RZ DL DI
/-! ### the top -/
structure Tp0 (K : FK) (mg : Str → Option Value) : Prop where
  n_len : mg "len" = none
  n_all : mg "all" = none
  n_any : mg "any" = none
  n_sum : mg "sum" = none
  n_max : mg "max" = none
  n_min : mg "min" = none
  n_abs : mg "abs" = none
  n_int : mg "int" = none
  n_tuple : mg "tuple" = none
  n_list : mg "list" = none
  n_sorted : mg "sorted" = none
  n_range : mg "range" = none
  n_set : mg "set" = none
  n_enumerate : mg "enumerate" = none
  n_zip : mg "zip" = none
  g_MOST_POINTS : ∃ t, mg "MOST_POINTS" = some (.int 8 t)
section
variable {P : Program} {w : World} {K : FK} {mg : Str → Option Value} {base : Heap}
theorem lib0 (Z : Tp0 K mg) : Lib P w K mg base 0 C_0 := by
  have L : Lib P w K mg base 0 FT.none := ⟨(fun _ _ z => nomatch z), fun b => by cases b <;> first | exact Z.n_len | exact Z.n_all | exact Z.n_any | exact Z.n_sum | exact Z.n_max | exact Z.n_min | exact Z.n_abs | exact Z.n_int | exact Z.n_tuple | exact Z.n_list | exact Z.n_sorted, Z.n_range, Z.n_set, Z.n_enumerate, Z.n_zip, (fun _ _ z => nomatch z), (fun _ _ z => nomatch z), fun _ _ z => nomatch z⟩
  exact (Lib.addG L Z.g_MOST_POINTS)
/-- where a def stands -/
structure At (K : FK) (mg : Str → Option Value) (x : Str) (st : Stmt) (ps : List Str) : Prop where
  ex : ∃ f fd, Fun K x x st f fd ∧ mg x = some (.ref f) ∧ PySem.W.keepIn K (.ref f) = true ∧ Binds K fd ps []
theorem libs (Z : Tp0 K mg) (a_check_net : At K mg "check_net" s_check_net p_check_net) (a_closed_of : At K mg "closed_of" s_closed_of p_closed_of) (a_closed_net : At K mg "closed_net" s_closed_net p_closed_net) (a_fits : At K mg "fits" s_fits p_fits) (a_bad_circle : At K mg "bad_circle" s_bad_circle p_bad_circle) (a_takes_circle : At K mg "takes_circle" s_takes_circle p_takes_circle) (a_earliest_of : At K mg "earliest_of" s_earliest_of p_earliest_of) (a_earliest : At K mg "earliest" s_earliest p_earliest) (a_range_of : At K mg "range_of" s_range_of p_range_of) (a_net_of : At K mg "net_of" s_net_of p_net_of) (a__law_tape : At K mg "_law_tape" s__law_tape p__law_tape) (a__law_take : At K mg "_law_take" s__law_take p__law_take) (a__law_pairs : At K mg "_law_pairs" s__law_pairs p__law_pairs) (a__law_starts : At K mg "_law_starts" s__law_starts p__law_starts) (a__law_end : At K mg "_law_end" s__law_end p__law_end) (a_keeps : At K mg "keeps" s_keeps p_keeps) (a__law_net_right : At K mg "_law_net_right" s__law_net_right p__law_net_right) : Lib P w K mg base 17 C_law := by
  have L0 : Lib P w K mg base 0 C_0 := lib0 Z
  have L1 : Lib P w K mg base 1 C_1 := by
    obtain ⟨f, fd, F, hm, hk, hb⟩ := a_check_net.ex
    exact L0.addF (fx_of (def_okF L0 F sc_check_net b_check_net ck_check_net) hm hk hb)
  have L2 : Lib P w K mg base 2 C_2 := by
    obtain ⟨f, fd, F, hm, hk, hb⟩ := a_closed_of.ex
    exact L1.addF (fx_of (def_okF L1 F sc_closed_of b_closed_of ck_closed_of) hm hk hb)
  have L3 : Lib P w K mg base 3 C_3 := by
    obtain ⟨f, fd, F, hm, hk, hb⟩ := a_closed_net.ex
    exact L2.addF (fx_of (def_okF L2 F sc_closed_net b_closed_net ck_closed_net) hm hk hb)
  have L4 : Lib P w K mg base 4 C_4 := by
    obtain ⟨f, fd, F, hm, hk, hb⟩ := a_fits.ex
    exact L3.addF (fx_of (def_okF L3 F sc_fits b_fits ck_fits) hm hk hb)
  have L5 : Lib P w K mg base 5 C_5 := by
    obtain ⟨f, fd, F, hm, hk, hb⟩ := a_bad_circle.ex
    exact L4.addF (fx_of (def_okF L4 F sc_bad_circle b_bad_circle ck_bad_circle) hm hk hb)
  have L6 : Lib P w K mg base 6 C_6 := by
    obtain ⟨f, fd, F, hm, hk, hb⟩ := a_takes_circle.ex
    exact L5.addF (fx_of (def_okF L5 F sc_takes_circle b_takes_circle ck_takes_circle) hm hk hb)
  have L7 : Lib P w K mg base 7 C_7 := by
    obtain ⟨f, fd, F, hm, hk, hb⟩ := a_earliest_of.ex
    exact L6.addF (fx_of (def_okF L6 F sc_earliest_of b_earliest_of ck_earliest_of) hm hk hb)
  have L8 : Lib P w K mg base 8 C_8 := by
    obtain ⟨f, fd, F, hm, hk, hb⟩ := a_earliest.ex
    exact L7.addF (fx_of (def_okF L7 F sc_earliest b_earliest ck_earliest) hm hk hb)
  have L9 : Lib P w K mg base 9 C_9 := by
    obtain ⟨f, fd, F, hm, hk, hb⟩ := a_range_of.ex
    exact L8.addF (fx_of (def_okF L8 F sc_range_of b_range_of ck_range_of) hm hk hb)
  have L10 : Lib P w K mg base 10 C_10 := by
    obtain ⟨f, fd, F, hm, hk, hb⟩ := a_net_of.ex
    exact L9.addF (fx_of (def_okF L9 F sc_net_of b_net_of ck_net_of) hm hk hb)
  have L11 : Lib P w K mg base 11 C_11 := by
    obtain ⟨f, fd, F, hm, hk, hb⟩ := a__law_tape.ex
    exact L10.addC (fx_of (def_okS L10 F sc__law_tape b__law_tape ck__law_tape) hm hk hb)
  have L12 : Lib P w K mg base 12 C_12 := by
    obtain ⟨f, fd, F, hm, hk, hb⟩ := a__law_take.ex
    exact L11.addT (fx_of (def_okT L11 F sc__law_take b__law_take ck__law_take) hm hk hb)
  have L13 : Lib P w K mg base 13 C_13 := by
    obtain ⟨f, fd, F, hm, hk, hb⟩ := a__law_pairs.ex
    exact L12.addT (fx_of (def_okT L12 F sc__law_pairs b__law_pairs ck__law_pairs) hm hk hb)
  have L14 : Lib P w K mg base 14 C_14 := by
    obtain ⟨f, fd, F, hm, hk, hb⟩ := a__law_starts.ex
    exact L13.addF (fx_of (def_okF L13 F sc__law_starts b__law_starts ck__law_starts) hm hk hb)
  have L15 : Lib P w K mg base 15 C_15 := by
    obtain ⟨f, fd, F, hm, hk, hb⟩ := a__law_end.ex
    exact L14.addF (fx_of (def_okF L14 F sc__law_end b__law_end ck__law_end) hm hk hb)
  have L16 : Lib P w K mg base 16 C_16 := by
    obtain ⟨f, fd, F, hm, hk, hb⟩ := a_keeps.ex
    exact L15.addF (fx_of (def_okF L15 F sc_keeps b_keeps ck_keeps) hm hk hb)
  have L17 : Lib P w K mg base 17 C_17 := by
    obtain ⟨f, fd, F, hm, hk, hb⟩ := a__law_net_right.ex
    exact L16.addF (fx_of (def_okF L16 F sc__law_net_right b__law_net_right ck__law_net_right) hm hk hb)
  exact L17
end
/-- the law is true of every script -/
def LawTrue (s1 : IS) (b : ISs) : Prop := ∀ ns : List Int, ns.length ≤ 63 → ∃ (ρ : List Sl) (τ : D) (kds : List (D × D)) (τ' : D), evS C_law s1 (.scr ns :: List.replicate (N_law.length - 1) .any) .none = some (.nx ρ τ) ∧ ρ[1]? = some (.v (.dict kds)) ∧ nb? ρ = true ∧ evSs C_law b (ρ.set 1 .tp) (.dict kds) = some (.rt τ' (.bool true))
abbrev spLaw (K : FK) : Sp := spS K fun ns Ψ => ns.length ≤ 63 ∧ Ψ (.bool true)
theorem all_mk (s1 : IS) (b : ISs) (hb : b_law = .cons s1 b) (HL : LawTrue s1 b) {l : PySem.W.OpenLaw} {w : World} {K : PySem.W.Frag} {h : Heap} {mg : Str → Option Value} {fa f0 f1 f2 f3 f4 f5 f6 f7 f8 f9 f10 f11 f12 f13 f14 f15 f16 f17 : Addr} (X : K.In h) (G : h.Ns mainGlobals mg) (hfa : mg "law" = some (.ref fa))
    {od0 an0 od1 an1 od2 an2 od3 an3 od4 an4 od5 an5 od6 an6 od7 an7 od8 an8 od9 an9 od10 an10 od11 an11 od12 an12 od13 an13 od14 an14 od15 an15 od16 an16 od17 an17 : Option Addr} {sl0 sl1 sl2 sl3 sl4 sl5 sl6 sl7 sl8 sl9 sl10 sl11 sl12 sl13 sl14 sl15 sl16 sl17 : Array (Option Value)} {oc0 kV0 dc0 pm0 cd0 ct0 oc1 kV1 dc1 pm1 cd1 ct1 oc2 kV2 dc2 pm2 cd2 ct2 oc3 kV3 dc3 pm3 cd3 ct3 oc4 kV4 dc4 pm4 cd4 ct4 oc5 kV5 dc5 pm5 cd5 ct5 oc6 kV6 dc6 pm6 cd6 ct6 oc7 kV7 dc7 pm7 cd7 ct7 oc8 kV8 dc8 pm8 cd8 ct8 oc9 kV9 dc9 pm9 cd9 ct9 oc10 kV10 dc10 pm10 cd10 ct10 oc11 kV11 dc11 pm11 cd11 ct11 oc12 kV12 dc12 pm12 cd12 ct12 oc13 kV13 dc13 pm13 cd13 ct13 oc14 kV14 dc14 pm14 cd14 ct14 oc15 kV15 dc15 pm15 cd15 ct15 oc16 kV16 dc16 pm16 cd16 ct16 oc17 kV17 dc17 pm17 cd17 ct17 : Value}
    (a0 : PySem.W.nsIn K mainGlobals "check_net" = some (some (.ref f0))) (l0 : K.lookup f0 = some ⟨oc0, od0, .func (PySem.W.fnOf "check_net" "check_net" (defArgs s_check_net) (defBody s_check_net) (defScope s_check_net) .none kV0 dc0 pm0 an0 cd0 ct0), sl0⟩) (c0 : PySem.W.codeIn K cd0 "check_net" = true) (k0 : PySem.W.keepIn K (.ref f0) = true)
    (a1 : PySem.W.nsIn K mainGlobals "closed_of" = some (some (.ref f1))) (l1 : K.lookup f1 = some ⟨oc1, od1, .func (PySem.W.fnOf "closed_of" "closed_of" (defArgs s_closed_of) (defBody s_closed_of) (defScope s_closed_of) .none kV1 dc1 pm1 an1 cd1 ct1), sl1⟩) (c1 : PySem.W.codeIn K cd1 "closed_of" = true) (k1 : PySem.W.keepIn K (.ref f1) = true)
    (a2 : PySem.W.nsIn K mainGlobals "closed_net" = some (some (.ref f2))) (l2 : K.lookup f2 = some ⟨oc2, od2, .func (PySem.W.fnOf "closed_net" "closed_net" (defArgs s_closed_net) (defBody s_closed_net) (defScope s_closed_net) .none kV2 dc2 pm2 an2 cd2 ct2), sl2⟩) (c2 : PySem.W.codeIn K cd2 "closed_net" = true) (k2 : PySem.W.keepIn K (.ref f2) = true)
    (a3 : PySem.W.nsIn K mainGlobals "fits" = some (some (.ref f3))) (l3 : K.lookup f3 = some ⟨oc3, od3, .func (PySem.W.fnOf "fits" "fits" (defArgs s_fits) (defBody s_fits) (defScope s_fits) .none kV3 dc3 pm3 an3 cd3 ct3), sl3⟩) (c3 : PySem.W.codeIn K cd3 "fits" = true) (k3 : PySem.W.keepIn K (.ref f3) = true)
    (a4 : PySem.W.nsIn K mainGlobals "bad_circle" = some (some (.ref f4))) (l4 : K.lookup f4 = some ⟨oc4, od4, .func (PySem.W.fnOf "bad_circle" "bad_circle" (defArgs s_bad_circle) (defBody s_bad_circle) (defScope s_bad_circle) .none kV4 dc4 pm4 an4 cd4 ct4), sl4⟩) (c4 : PySem.W.codeIn K cd4 "bad_circle" = true) (k4 : PySem.W.keepIn K (.ref f4) = true)
    (a5 : PySem.W.nsIn K mainGlobals "takes_circle" = some (some (.ref f5))) (l5 : K.lookup f5 = some ⟨oc5, od5, .func (PySem.W.fnOf "takes_circle" "takes_circle" (defArgs s_takes_circle) (defBody s_takes_circle) (defScope s_takes_circle) .none kV5 dc5 pm5 an5 cd5 ct5), sl5⟩) (c5 : PySem.W.codeIn K cd5 "takes_circle" = true) (k5 : PySem.W.keepIn K (.ref f5) = true)
    (a6 : PySem.W.nsIn K mainGlobals "earliest_of" = some (some (.ref f6))) (l6 : K.lookup f6 = some ⟨oc6, od6, .func (PySem.W.fnOf "earliest_of" "earliest_of" (defArgs s_earliest_of) (defBody s_earliest_of) (defScope s_earliest_of) .none kV6 dc6 pm6 an6 cd6 ct6), sl6⟩) (c6 : PySem.W.codeIn K cd6 "earliest_of" = true) (k6 : PySem.W.keepIn K (.ref f6) = true)
    (a7 : PySem.W.nsIn K mainGlobals "earliest" = some (some (.ref f7))) (l7 : K.lookup f7 = some ⟨oc7, od7, .func (PySem.W.fnOf "earliest" "earliest" (defArgs s_earliest) (defBody s_earliest) (defScope s_earliest) .none kV7 dc7 pm7 an7 cd7 ct7), sl7⟩) (c7 : PySem.W.codeIn K cd7 "earliest" = true) (k7 : PySem.W.keepIn K (.ref f7) = true)
    (a8 : PySem.W.nsIn K mainGlobals "range_of" = some (some (.ref f8))) (l8 : K.lookup f8 = some ⟨oc8, od8, .func (PySem.W.fnOf "range_of" "range_of" (defArgs s_range_of) (defBody s_range_of) (defScope s_range_of) .none kV8 dc8 pm8 an8 cd8 ct8), sl8⟩) (c8 : PySem.W.codeIn K cd8 "range_of" = true) (k8 : PySem.W.keepIn K (.ref f8) = true)
    (a9 : PySem.W.nsIn K mainGlobals "net_of" = some (some (.ref f9))) (l9 : K.lookup f9 = some ⟨oc9, od9, .func (PySem.W.fnOf "net_of" "net_of" (defArgs s_net_of) (defBody s_net_of) (defScope s_net_of) .none kV9 dc9 pm9 an9 cd9 ct9), sl9⟩) (c9 : PySem.W.codeIn K cd9 "net_of" = true) (k9 : PySem.W.keepIn K (.ref f9) = true)
    (a10 : PySem.W.nsIn K mainGlobals "_law_tape" = some (some (.ref f10))) (l10 : K.lookup f10 = some ⟨oc10, od10, .func (PySem.W.fnOf "_law_tape" "_law_tape" (defArgs s__law_tape) (defBody s__law_tape) (defScope s__law_tape) .none kV10 dc10 pm10 an10 cd10 ct10), sl10⟩) (c10 : PySem.W.codeIn K cd10 "_law_tape" = true) (k10 : PySem.W.keepIn K (.ref f10) = true)
    (a11 : PySem.W.nsIn K mainGlobals "_law_take" = some (some (.ref f11))) (l11 : K.lookup f11 = some ⟨oc11, od11, .func (PySem.W.fnOf "_law_take" "_law_take" (defArgs s__law_take) (defBody s__law_take) (defScope s__law_take) .none kV11 dc11 pm11 an11 cd11 ct11), sl11⟩) (c11 : PySem.W.codeIn K cd11 "_law_take" = true) (k11 : PySem.W.keepIn K (.ref f11) = true)
    (a12 : PySem.W.nsIn K mainGlobals "_law_pairs" = some (some (.ref f12))) (l12 : K.lookup f12 = some ⟨oc12, od12, .func (PySem.W.fnOf "_law_pairs" "_law_pairs" (defArgs s__law_pairs) (defBody s__law_pairs) (defScope s__law_pairs) .none kV12 dc12 pm12 an12 cd12 ct12), sl12⟩) (c12 : PySem.W.codeIn K cd12 "_law_pairs" = true) (k12 : PySem.W.keepIn K (.ref f12) = true)
    (a13 : PySem.W.nsIn K mainGlobals "_law_starts" = some (some (.ref f13))) (l13 : K.lookup f13 = some ⟨oc13, od13, .func (PySem.W.fnOf "_law_starts" "_law_starts" (defArgs s__law_starts) (defBody s__law_starts) (defScope s__law_starts) .none kV13 dc13 pm13 an13 cd13 ct13), sl13⟩) (c13 : PySem.W.codeIn K cd13 "_law_starts" = true) (k13 : PySem.W.keepIn K (.ref f13) = true)
    (a14 : PySem.W.nsIn K mainGlobals "_law_end" = some (some (.ref f14))) (l14 : K.lookup f14 = some ⟨oc14, od14, .func (PySem.W.fnOf "_law_end" "_law_end" (defArgs s__law_end) (defBody s__law_end) (defScope s__law_end) .none kV14 dc14 pm14 an14 cd14 ct14), sl14⟩) (c14 : PySem.W.codeIn K cd14 "_law_end" = true) (k14 : PySem.W.keepIn K (.ref f14) = true)
    (a15 : PySem.W.nsIn K mainGlobals "keeps" = some (some (.ref f15))) (l15 : K.lookup f15 = some ⟨oc15, od15, .func (PySem.W.fnOf "keeps" "keeps" (defArgs s_keeps) (defBody s_keeps) (defScope s_keeps) .none kV15 dc15 pm15 an15 cd15 ct15), sl15⟩) (c15 : PySem.W.codeIn K cd15 "keeps" = true) (k15 : PySem.W.keepIn K (.ref f15) = true)
    (a16 : PySem.W.nsIn K mainGlobals "_law_net_right" = some (some (.ref f16))) (l16 : K.lookup f16 = some ⟨oc16, od16, .func (PySem.W.fnOf "_law_net_right" "_law_net_right" (defArgs s__law_net_right) (defBody s__law_net_right) (defScope s__law_net_right) .none kV16 dc16 pm16 an16 cd16 ct16), sl16⟩) (c16 : PySem.W.codeIn K cd16 "_law_net_right" = true) (k16 : PySem.W.keepIn K (.ref f16) = true)
    (a17 : PySem.W.nsIn K mainGlobals "law" = some (some (.ref f17))) (l17 : K.lookup f17 = some ⟨oc17, od17, .func (PySem.W.fnOf "law" "law" (defArgs s_law) (defBody s_law) (defScope s_law) .none kV17 dc17 pm17 an17 cd17 ct17), sl17⟩) (c17 : PySem.W.codeIn K cd17 "law" = true) (k17 : PySem.W.keepIn K (.ref f17) = true)
    (z_len : PySem.W.nsIn K mainGlobals "len" = some none) (z_all : PySem.W.nsIn K mainGlobals "all" = some none) (z_any : PySem.W.nsIn K mainGlobals "any" = some none) (z_sum : PySem.W.nsIn K mainGlobals "sum" = some none) (z_max : PySem.W.nsIn K mainGlobals "max" = some none) (z_min : PySem.W.nsIn K mainGlobals "min" = some none) (z_abs : PySem.W.nsIn K mainGlobals "abs" = some none) (z_int : PySem.W.nsIn K mainGlobals "int" = some none) (z_tuple : PySem.W.nsIn K mainGlobals "tuple" = some none) (z_list : PySem.W.nsIn K mainGlobals "list" = some none) (z_sorted : PySem.W.nsIn K mainGlobals "sorted" = some none) (z_range : PySem.W.nsIn K mainGlobals "range" = some none) (z_set : PySem.W.nsIn K mainGlobals "set" = some none) (z_enumerate : PySem.W.nsIn K mainGlobals "enumerate" = some none) (z_zip : PySem.W.nsIn K mainGlobals "zip" = some none)
    {t_MOST_POINTS : Tok} (y_MOST_POINTS : PySem.W.nsIn K mainGlobals "MOST_POINTS" = some (some (.int 8 t_MOST_POINTS)))
    : ∃ fd : FuncData, (∀ (s : Shared) (v : Value), BindsTo s fd ⟨[v], []⟩ [("script", v)]) ∧ ∀ base : Heap, K.In base → base.Ns mainGlobals mg → FnOk l.prog w K mg base CX0 18 fa fd ["script"] (spLaw K) := by
  have e := hfa.symm.trans (PySem.W.mg_of X G a17)
  cases e
  have Z : Tp0 K mg := ⟨PySem.W.mg_none_of X G z_len, PySem.W.mg_none_of X G z_all, PySem.W.mg_none_of X G z_any, PySem.W.mg_none_of X G z_sum, PySem.W.mg_none_of X G z_max, PySem.W.mg_none_of X G z_min, PySem.W.mg_none_of X G z_abs, PySem.W.mg_none_of X G z_int, PySem.W.mg_none_of X G z_tuple, PySem.W.mg_none_of X G z_list, PySem.W.mg_none_of X G z_sorted, PySem.W.mg_none_of X G z_range, PySem.W.mg_none_of X G z_set, PySem.W.mg_none_of X G z_enumerate, PySem.W.mg_none_of X G z_zip, ⟨t_MOST_POINTS, PySem.W.mg_of X G y_MOST_POINTS⟩⟩
  have A0 : At K mg "check_net" s_check_net p_check_net := ⟨f0, _, fun_mk (st := s_check_net) l0 c0 k0, PySem.W.mg_of X G a0, k0, (fun_mk (st := s_check_net) l0 c0 k0).binds (ps := p_check_net) fun _ _ _ _ _ _ us hl => match us, hl with | [_], _ => rfl⟩
  have A1 : At K mg "closed_of" s_closed_of p_closed_of := ⟨f1, _, fun_mk (st := s_closed_of) l1 c1 k1, PySem.W.mg_of X G a1, k1, (fun_mk (st := s_closed_of) l1 c1 k1).binds (ps := p_closed_of) fun _ _ _ _ _ _ us hl => match us, hl with | [_], _ => rfl⟩
  have A2 : At K mg "closed_net" s_closed_net p_closed_net := ⟨f2, _, fun_mk (st := s_closed_net) l2 c2 k2, PySem.W.mg_of X G a2, k2, (fun_mk (st := s_closed_net) l2 c2 k2).binds (ps := p_closed_net) fun _ _ _ _ _ _ us hl => match us, hl with | [_], _ => rfl⟩
  have A3 : At K mg "fits" s_fits p_fits := ⟨f3, _, fun_mk (st := s_fits) l3 c3 k3, PySem.W.mg_of X G a3, k3, (fun_mk (st := s_fits) l3 c3 k3).binds (ps := p_fits) fun _ _ _ _ _ _ us hl => match us, hl with | [_], _ => rfl⟩
  have A4 : At K mg "bad_circle" s_bad_circle p_bad_circle := ⟨f4, _, fun_mk (st := s_bad_circle) l4 c4 k4, PySem.W.mg_of X G a4, k4, (fun_mk (st := s_bad_circle) l4 c4 k4).binds (ps := p_bad_circle) fun _ _ _ _ _ _ us hl => match us, hl with | [_], _ => rfl⟩
  have A5 : At K mg "takes_circle" s_takes_circle p_takes_circle := ⟨f5, _, fun_mk (st := s_takes_circle) l5 c5 k5, PySem.W.mg_of X G a5, k5, (fun_mk (st := s_takes_circle) l5 c5 k5).binds (ps := p_takes_circle) fun _ _ _ _ _ _ us hl => match us, hl with | [_, _], _ => rfl⟩
  have A6 : At K mg "earliest_of" s_earliest_of p_earliest_of := ⟨f6, _, fun_mk (st := s_earliest_of) l6 c6 k6, PySem.W.mg_of X G a6, k6, (fun_mk (st := s_earliest_of) l6 c6 k6).binds (ps := p_earliest_of) fun _ _ _ _ _ _ us hl => match us, hl with | [_], _ => rfl⟩
  have A7 : At K mg "earliest" s_earliest p_earliest := ⟨f7, _, fun_mk (st := s_earliest) l7 c7 k7, PySem.W.mg_of X G a7, k7, (fun_mk (st := s_earliest) l7 c7 k7).binds (ps := p_earliest) fun _ _ _ _ _ _ us hl => match us, hl with | [_], _ => rfl⟩
  have A8 : At K mg "range_of" s_range_of p_range_of := ⟨f8, _, fun_mk (st := s_range_of) l8 c8 k8, PySem.W.mg_of X G a8, k8, (fun_mk (st := s_range_of) l8 c8 k8).binds (ps := p_range_of) fun _ _ _ _ _ _ us hl => match us, hl with | [_, _, _], _ => rfl⟩
  have A9 : At K mg "net_of" s_net_of p_net_of := ⟨f9, _, fun_mk (st := s_net_of) l9 c9 k9, PySem.W.mg_of X G a9, k9, (fun_mk (st := s_net_of) l9 c9 k9).binds (ps := p_net_of) fun _ _ _ _ _ _ us hl => match us, hl with | [_, _], _ => rfl⟩
  have A10 : At K mg "_law_tape" s__law_tape p__law_tape := ⟨f10, _, fun_mk (st := s__law_tape) l10 c10 k10, PySem.W.mg_of X G a10, k10, (fun_mk (st := s__law_tape) l10 c10 k10).binds (ps := p__law_tape) fun _ _ _ _ _ _ us hl => match us, hl with | [_], _ => rfl⟩
  have A11 : At K mg "_law_take" s__law_take p__law_take := ⟨f11, _, fun_mk (st := s__law_take) l11 c11 k11, PySem.W.mg_of X G a11, k11, (fun_mk (st := s__law_take) l11 c11 k11).binds (ps := p__law_take) fun _ _ _ _ _ _ us hl => match us, hl with | [_, _], _ => rfl⟩
  have A12 : At K mg "_law_pairs" s__law_pairs p__law_pairs := ⟨f12, _, fun_mk (st := s__law_pairs) l12 c12 k12, PySem.W.mg_of X G a12, k12, (fun_mk (st := s__law_pairs) l12 c12 k12).binds (ps := p__law_pairs) fun _ _ _ _ _ _ us hl => match us, hl with | [_, _], _ => rfl⟩
  have A13 : At K mg "_law_starts" s__law_starts p__law_starts := ⟨f13, _, fun_mk (st := s__law_starts) l13 c13 k13, PySem.W.mg_of X G a13, k13, (fun_mk (st := s__law_starts) l13 c13 k13).binds (ps := p__law_starts) fun _ _ _ _ _ _ us hl => match us, hl with | [_, _], _ => rfl⟩
  have A14 : At K mg "_law_end" s__law_end p__law_end := ⟨f14, _, fun_mk (st := s__law_end) l14 c14 k14, PySem.W.mg_of X G a14, k14, (fun_mk (st := s__law_end) l14 c14 k14).binds (ps := p__law_end) fun _ _ _ _ _ _ us hl => match us, hl with | [_, _], _ => rfl⟩
  have A15 : At K mg "keeps" s_keeps p_keeps := ⟨f15, _, fun_mk (st := s_keeps) l15 c15 k15, PySem.W.mg_of X G a15, k15, (fun_mk (st := s_keeps) l15 c15 k15).binds (ps := p_keeps) fun _ _ _ _ _ _ us hl => match us, hl with | [_, _], _ => rfl⟩
  have A16 : At K mg "_law_net_right" s__law_net_right p__law_net_right := ⟨f16, _, fun_mk (st := s__law_net_right) l16 c16 k16, PySem.W.mg_of X G a16, k16, (fun_mk (st := s__law_net_right) l16 c16 k16).binds (ps := p__law_net_right) fun _ _ _ _ _ _ us hl => match us, hl with | [_, _], _ => rfl⟩
  refine ⟨PySem.W.fnOf "law" "law" (defArgs s_law) (defBody s_law) (defScope s_law) .none kV17 dc17 pm17 an17 cd17 ct17, fun s v => .of_eq rfl, fun base _ _ => ?_⟩
  exact def_okLaw (libs Z A0 A1 A2 A3 A4 A5 A6 A7 A8 A9 A10 A11 A12 A13 A14 A15 A16) (fun_mk (st := s_law) l17 c17 k17) sc_law s1 b (by rw [← hb]; exact ck_law) 1 _ fun ns Ψ ⟨hl, hΨ⟩ => by
    obtain ⟨ρ, τ, kds, τ', e1, e2, e3, e4⟩ := HL ns hl
    exact ⟨ρ, τ, kds, τ', _, e1, e2, e3, e4, hΨ⟩
theorem law_is_true : LawTrue law_s1 law_b := law_true
end K55
open PySem PySem.W PyProof.Rows
set_option maxHeartbeats 0 in
theorem PySem.Challenge.cw_noshorterplan_k55_whole_steps_with_durat_holds : PySem.Challenge.rw_noshorterplan_k55_whole_steps_with_durat.Holds := by
  w_on; o_law; k_head; (case hw => w_witness2)
  k_fill
  refine L2.walk_of (l := PySem.Challenge.rw_noshorterplan_k55_whole_steps_with_durat) (n := 63) (k := 18) (x := "script") (CX := fun _ => L2.CX0) (sp := fun w => K55.spLaw _) rfl (by decide) rfl ⟨rfl, by decide, by decide⟩ (fun w h Y => PySem.W.kIn_of Y) ?F (fun _ _ a ns hl _ hS => ⟨a, ns, fun d => d = .bool true, rfl, hS, ⟨hl, rfl⟩, fun d v H2 fp hd _ o _ => by cases hd; exact o.bool_inv.1⟩) (fun _ _ _ _ _ h => h)
  case F =>
    intro w mg fa h KX G hmg
    refine' K55.all_mk K55.law_s1 K55.law_b K55.law_split K55.law_is_true KX G hmg ?a0 ?l0 ?c0 ?k0 ?a1 ?l1 ?c1 ?k1 ?a2 ?l2 ?c2 ?k2 ?a3 ?l3 ?c3 ?k3 ?a4 ?l4 ?c4 ?k4 ?a5 ?l5 ?c5 ?k5 ?a6 ?l6 ?c6 ?k6 ?a7 ?l7 ?c7 ?k7 ?a8 ?l8 ?c8 ?k8 ?a9 ?l9 ?c9 ?k9 ?a10 ?l10 ?c10 ?k10 ?a11 ?l11 ?c11 ?k11 ?a12 ?l12 ?c12 ?k12 ?a13 ?l13 ?c13 ?k13 ?a14 ?l14 ?c14 ?k14 ?a15 ?l15 ?c15 ?k15 ?a16 ?l16 ?c16 ?k16 ?a17 ?l17 ?c17 ?k17 ?z_len ?z_all ?z_any ?z_sum ?z_max ?z_min ?z_abs ?z_int ?z_tuple ?z_list ?z_sorted ?z_range ?z_set ?z_enumerate ?z_zip ?y_MOST_POINTS
    (case a0 => k_is)
    (case l0 => k_is)
    (case c0 => k_is)
    (case k0 => k_is)
    (case a1 => k_is)
    (case l1 => k_is)
    (case c1 => k_is)
    (case k1 => k_is)
    (case a2 => k_is)
    (case l2 => k_is)
    (case c2 => k_is)
    (case k2 => k_is)
    (case a3 => k_is)
    (case l3 => k_is)
    (case c3 => k_is)
    (case k3 => k_is)
    (case a4 => k_is)
    (case l4 => k_is)
    (case c4 => k_is)
    (case k4 => k_is)
    (case a5 => k_is)
    (case l5 => k_is)
    (case c5 => k_is)
    (case k5 => k_is)
    (case a6 => k_is)
    (case l6 => k_is)
    (case c6 => k_is)
    (case k6 => k_is)
    (case a7 => k_is)
    (case l7 => k_is)
    (case c7 => k_is)
    (case k7 => k_is)
    (case a8 => k_is)
    (case l8 => k_is)
    (case c8 => k_is)
    (case k8 => k_is)
    (case a9 => k_is)
    (case l9 => k_is)
    (case c9 => k_is)
    (case k9 => k_is)
    (case a10 => k_is)
    (case l10 => k_is)
    (case c10 => k_is)
    (case k10 => k_is)
    (case a11 => k_is)
    (case l11 => k_is)
    (case c11 => k_is)
    (case k11 => k_is)
    (case a12 => k_is)
    (case l12 => k_is)
    (case c12 => k_is)
    (case k12 => k_is)
    (case a13 => k_is)
    (case l13 => k_is)
    (case c13 => k_is)
    (case k13 => k_is)
    (case a14 => k_is)
    (case l14 => k_is)
    (case c14 => k_is)
    (case k14 => k_is)
    (case a15 => k_is)
    (case l15 => k_is)
    (case c15 => k_is)
    (case k15 => k_is)
    (case a16 => k_is)
    (case l16 => k_is)
    (case c16 => k_is)
    (case k16 => k_is)
    (case a17 => k_is)
    (case l17 => k_is)
    (case c17 => k_is)
    (case k17 => k_is)
    (case z_len => k_is)
    (case z_all => k_is)
    (case z_any => k_is)
    (case z_sum => k_is)
    (case z_max => k_is)
    (case z_min => k_is)
    (case z_abs => k_is)
    (case z_int => k_is)
    (case z_tuple => k_is)
    (case z_list => k_is)
    (case z_sorted => k_is)
    (case z_range => k_is)
    (case z_set => k_is)
    (case z_enumerate => k_is)
    (case z_zip => k_is)
    (case y_MOST_POINTS => k_is)
