import PyProof.Rows.All
import Wide.All
import OpenK.AllK
import Wide.FinOn
import HandS.ForMost
import HandS.TupAny
import HandS.TupMul
import HandS.Walk
import HandS.IsInst
import HandS.TupSets
import HandS.ExcInit
import KE.KxSplit
import HandS.EndTab
import HandS.Lambda
import HandS.Deep
import KE.GoesEnum
import HandS.Zip
import HandS.SortInts
import HandS.RevTup
import HandS.Rev
import HandS.More
import PyProof.P3In
import HandS.Strs
import HandS.SetFor
import HandS.Style
import HandS.Small
import HandS.Conv
import KE.SortKeyHeap
import HandS.Words
import HandS.WordsExc
import HandS.ExcOwn
import HandS.ExcField
import KE.KExcIs
import HandS.ExcIs
import PySem.Challenge.RW_homingpost_k09_whole_what_cuts_say_is_so
set_option Elab.async false
set_option linter.all false
set_option maxRecDepth 100000
set_option maxHeartbeats 4000000
namespace Z
open PySem PySem.Spec L2
/-- the state of the law's drawing -/
structure Rg where
  s : Int
  c : List Int
  k : Int
/-- a slot of any other kind, by what it says of what stays, of the heap, of its value and of what is its own; mt: it may be the caller's -/
structure Cus where
  P : PySem.W.Frag → Hp → Hp → Option V → List Addr → Prop
  mt : Bool
  move : ∀ (K : PySem.W.Frag) (G H G2 H2 : Hp) (o : Option V) (as : List Addr), Same G G2 → P K G H o as → (∀ a ∈ as, ∀ u, H a = some u → H2 a = some u) → P K G2 H2 o as
  there : ∀ (K : PySem.W.Frag) (G H : Hp) (o : Option V) (as : List Addr), P K G H o as → ∀ a ∈ as, ∃ u, H a = some u ∧ ∀ ps, u ≠ .tbl ps
/-- what a slot holds: nothing known, data that stays, a list of our own, the drawing state, an instance that stays, a dict of our own -/
inductive SK where
  | no
  | dat (d : PyData)
  | own (ds : List PyData)
  | rng (a b : Addr) (r : Rg)
  | ins (C : Addr) (fs : List (Str × PyData))
  | dic (kvs : List (Int × PyData))
  | ptr (a : Addr)
  | tlo (d0 ds d1 : List PyData)
  | oin (a dx C : Addr) (fs : List (Str × PyData))
  | cus (c : Cus)
def isRng : SK → Bool
  | .rng _ _ _ => true
  | .oin _ _ _ _ => true
  | .cus c => c.mt
  | _ => false
/-- where a def began: what stays, the heap, what it may change -/
structure Wd where
  G : Hp
  H : Hp
  M : Addr → Prop
/-- the tables of code objects that the program's lambdas go into, each with its lambdas' name -/
class Tabl where
  T : List (Addr × Str)
variable [Tabl]
/-- the tables are as they shall be, and none of them is among what stays -/
structure TbO (G H : Hp) : Prop where
  g : ∀ p ∈ Tabl.T, G p.1 = none
  t : LamX.Tabs Tabl.T H
/-- a thing that is neither a table nor known by a statement alone -/
def Pl (u : HO) : Prop := (∀ ps, u ≠ .tbl ps) ∧ ∀ φ, u ≠ .ext φ
theorem pl_lst {xs : List V} : Pl (.lst xs) := ⟨(fun _ z => by cases z), (fun _ z => by cases z)⟩
theorem TbO.at {G H : Hp} (t : TbO G H) {p : Addr × Str} (hp : p ∈ Tabl.T) : ∃ ps, H p.1 = some (.tbl ps) := let ⟨ps, h, _⟩ := t.t p hp; ⟨ps, h⟩
theorem TbO.mono {G H G2 H2 : Hp} (t : TbO G H) (hg : ∀ p ∈ Tabl.T, G2 p.1 = none) (k : ∀ b o, ¬ Pl o → H b = some o → H2 b = some o) : TbO G2 H2 := ⟨hg, fun p hp => by
  obtain ⟨ps, h1, h2, h3⟩ := t.t p hp
  refine ⟨ps, k _ _ (fun z => z.1 ps rfl) h1, h2, fun q cv hc => ?_⟩
  obtain ⟨c, e1, e2⟩ := h3 q cv hc
  exact ⟨c, e1, k _ _ (fun z => z.2 _ rfl) e2⟩⟩
theorem TbO.upd {G H : Hp} {a : Addr} {o : HO} (t : TbO G H) (n : ∀ u, H a = some u → Pl u) : TbO G (upd H a o) := t.mono t.g fun b u nu e => by
  have : b ≠ a := fun z => by subst z; exact nu (n u e)
  rw [upd_ne this]; exact e
theorem TbO.updG {G H : Hp} {a : Addr} {o : HO} (t : TbO G H) (n : H a = some o) (pl : Pl o) : TbO (L2.upd G a o) H := t.mono (fun p hp => by
  obtain ⟨ps, h⟩ := t.at hp
  have : p.1 ≠ a := fun z => by rw [z, n] at h; cases h; exact pl.1 ps rfl
  rw [upd_ne this]; exact t.g p hp) fun b u _ e => e
structure Le (W : Wd) (G H : Hp) : Prop where
  g : Same W.G G
  gh : Same G H
  keep : ∀ a o, ¬ W.M a → (∀ ps, o ≠ .tbl ps) → W.H a = some o → H a = some o
  there : ∀ a o, W.H a = some o → ∃ o', H a = some o'
  fz : ∀ a o, W.G a = none → W.H a = some o → G a = none
  m : ∀ a, W.M a → ∃ o, W.H a = some o
  tb : TbO G H
/-- nothing that stood is changed -/
structure Lp (G0 H0 G H : Hp) : Prop where
  g : Same G0 G
  gh : Same G H
  keep : ∀ a o, ¬ False → H0 a = some o → H a = some o
  there : ∀ a o, H0 a = some o → ∃ o', H a = some o'
  fz : ∀ a o, G0 a = none → H0 a = some o → G a = none
abbrev pur (G H : Hp) : Wd := ⟨G, H, fun _ => False⟩
theorem Le.refl {G H : Hp} (h : Same G H) (t : TbO G H) : Le (pur G H) G H :=
  ⟨Same.refl G, h, fun _ _ _ _ e => e, fun _ o e => ⟨o, e⟩, fun _ _ e _ => e, fun _ z => z.elim, t⟩
theorem Lp.refl {G H : Hp} (h : Same G H) : Lp G H G H :=
  ⟨Same.refl G, h, fun _ _ _ e => e, fun _ o e => ⟨o, e⟩, fun _ _ e _ => e⟩
theorem TbO.step {G H G2 H2 : Hp} (t : TbO G H) (l : Lp G H G2 H2) : TbO G2 H2 := t.mono (fun p hp => by
  obtain ⟨ps, h⟩ := t.at hp
  exact l.fz _ _ (t.g p hp) h) fun b o _ e => l.keep b o (fun z => z) e
theorem Le.trans {W : Wd} {G H G2 H2 : Hp} (a : Le W G H) (b : Lp G H G2 H2) : Le W G2 H2 where
  g := a.g.trans b.g
  gh := b.gh
  keep := fun x o m nt e => b.keep x o (fun z => z) (a.keep x o m nt e)
  there := fun x o e => let ⟨o', e'⟩ := a.there x o e; b.there x o' e'
  fz := fun x o n e => let ⟨o', e'⟩ := a.there x o e; b.fz x o' (a.fz x o n e) e'
  m := a.m
  tb := a.tb.step b
theorem Le.transL {W : Wd} {G H G2 H2 : Hp} (a : Le W G H) (b : Le (pur G H) G2 H2) : Le W G2 H2 where
  g := a.g.trans b.g
  gh := b.gh
  keep := fun x o m nt e => b.keep x o (fun z => z) nt (a.keep x o m nt e)
  there := fun x o e => let ⟨o', e'⟩ := a.there x o e; b.there x o' e'
  fz := fun x o n e => let ⟨o', e'⟩ := a.there x o e; b.fz x o' (a.fz x o n e) e'
  m := a.m
  tb := b.tb
theorem Lp.le {G H G2 H2 : Hp} (l : Lp G H G2 H2) (t : TbO G H) : Le (pur G H) G2 H2 := ⟨l.g, l.gh, fun a o _ _ e => l.keep a o (fun z => z) e, l.there, l.fz, fun _ z => z.elim, t.step l⟩
theorem Lp.trans {G H G1 H1 G2 H2 : Hp} (a : Lp G H G1 H1) (b : Lp G1 H1 G2 H2) : Lp G H G2 H2 where
  g := a.g.trans b.g
  gh := b.gh
  keep := fun x o m e => b.keep x o m (a.keep x o m e)
  there := fun x o e => let ⟨o', e'⟩ := a.there x o e; b.there x o' e'
  fz := fun x o n e => let ⟨o', e'⟩ := a.there x o e; b.fz x o' (a.fz x o n e) e'
/-- a new thing that stays -/
theorem Lp.new {G H : Hp} {p : Addr} {o : HO} (h : Same G H) (n : H p = none) : Lp G H (upd G p o) (upd H p o) where
  g := fun b u e => by
    have : b ≠ p := fun z => by rw [z] at e; rw [h p u e] at n; cases n
    rw [upd_ne this]; exact e
  gh := fun b u e => by
    by_cases q : b = p
    · subst q; rw [upd_same] at e ⊢; exact e
    · rw [upd_ne q] at e ⊢; exact h b u e
  keep := fun x u _ e => by rw [upd_ne (ne_of_none e n)]; exact e
  there := fun x u e => ⟨u, by rw [upd_ne (ne_of_none e n)]; exact e⟩
  fz := fun x u e e' => by
    have e' : H x = some u := e'
    rw [upd_ne (ne_of_none e' n)]; exact e
/-- a new thing of our own -/
theorem Lp.newOwn {G H : Hp} {p : Addr} {o : HO} (h : Same G H) (n : H p = none) : Lp G H G (upd H p o) where
  g := Same.refl G
  gh := fun b u e => by
    have : b ≠ p := fun z => by rw [z] at e; rw [h p u e] at n; cases n
    rw [upd_ne this]; exact h b u e
  keep := fun x u _ e => by rw [upd_ne (ne_of_none e n)]; exact e
  there := fun x u e => ⟨u, by rw [upd_ne (ne_of_none e n)]; exact e⟩
  fz := fun x u e _ => e
end Z
namespace L2
open PySem PySem.Spec
/-! ### data stays -/
theorem Same.seqT {K : PySem.W.Frag} {H H' : Hp} {a : Addr} {xs : List V} (e : Same H H') (h : SqT K H a xs) : SqT K H' a xs := by
  rcases h with (h | ⟨o, h⟩) | h
  · exact .inl (.inl (e _ _ h))
  · exact .inl (.inr ⟨o, e _ _ h⟩)
  · exact .inr h
mutual
theorem Dp.mono {K : PySem.W.Frag} {G G' : Hp} (e : Same G G') : ∀ {v : V} {d : PyData}, Dp K G v d → Dp K G' v d
  | _, _, .non => .non
  | _, _, .bl b => .bl b
  | _, _, .int i => .int i
  | _, _, .str x => .str x
  | _, _, .lst h t => .lst (e.seq h) (DpAll.mono e t)
  | _, _, .tup h t => .tup (Same.seqT e h) (DpAll.mono e t)
theorem DpAll.mono {K : PySem.W.Frag} {G G' : Hp} (e : Same G G') : ∀ {vs : List V} {ds : List PyData}, DpAll K G vs ds → DpAll K G' vs ds
  | _, _, .nil => .nil
  | _, _, .cons h t => .cons (Dp.mono e h) (DpAll.mono e t)
end
section
variable {K : PySem.W.Frag} {G : Hp}
theorem DpAll.len : ∀ {vs : List V} {ds : List PyData}, DpAll K G vs ds → vs.length = ds.length
  | _, _, .nil => rfl
  | _, _, .cons _ t => congrArg (· + 1) (DpAll.len t)
theorem DpAll.get : ∀ {vs : List V} {ds : List PyData} {i : Nat} {d : PyData}, DpAll K G vs ds → ds[i]? = some d → ∃ v, vs[i]? = some v ∧ Dp K G v d
  | _, _, _, _, .nil, e => by simp at e
  | _, _, 0, _, .cons h _, e => by
    simp at e; subst e; exact ⟨_, rfl, h⟩
  | _, _, i + 1, _, .cons _ t, e => by
    obtain ⟨v, a, b⟩ := DpAll.get (i := i) t (by simpa using e)
    exact ⟨v, by simpa using a, b⟩
theorem DpAll.getV : ∀ {vs : List V} {ds : List PyData} {i : Nat} {v : V}, DpAll K G vs ds → vs[i]? = some v → ∃ d, ds[i]? = some d ∧ Dp K G v d
  | _, _, _, _, .nil, e => by simp at e
  | _, _, 0, _, .cons h _, e => by
    simp at e; subst e; exact ⟨_, rfl, h⟩
  | _, _, i + 1, _, .cons _ t, e => by
    obtain ⟨v, a, b⟩ := DpAll.getV (i := i) t (by simpa using e)
    exact ⟨v, by simpa using a, b⟩
theorem DpAll.append : ∀ {vs ws : List V} {ds es : List PyData}, DpAll K G vs ds → DpAll K G ws es → DpAll K G (vs ++ ws) (ds ++ es)
  | _, _, _, _, .nil, b => b
  | _, _, _, _, .cons h t, b => .cons h (DpAll.append t b)
theorem DpAll.set : ∀ {vs : List V} {ds : List PyData} {v : V} {d : PyData} (i : Nat), DpAll K G vs ds → Dp K G v d → DpAll K G (vs.set i v) (ds.set i d)
  | _, _, _, _, _, .nil, _ => .nil
  | _, _, _, _, 0, .cons _ t, h => .cons h t
  | _, _, _, _, i + 1, .cons q t, h => .cons q (DpAll.set i t h)
theorem DpAll.take : ∀ {vs : List V} {ds : List PyData} (i : Nat), DpAll K G vs ds → DpAll K G (vs.take i) (ds.take i)
  | _, _, 0, _ => by simpa using DpAll.nil
  | _, _, _ + 1, .nil => by simpa using DpAll.nil
  | _, _, i + 1, .cons q t => by simpa using DpAll.cons q (DpAll.take i t)
theorem DpAll.drop : ∀ {vs : List V} {ds : List PyData} (i : Nat), DpAll K G vs ds → DpAll K G (vs.drop i) (ds.drop i)
  | _, _, 0, h => by simpa using h
  | _, _, _ + 1, .nil => by simpa using DpAll.nil
  | _, _, i + 1, .cons _ t => by simpa using DpAll.drop i t
theorem DpAll.reverse : ∀ {vs : List V} {ds : List PyData}, DpAll K G vs ds → DpAll K G vs.reverse ds.reverse
  | _, _, .nil => .nil
  | _, _, .cons q t => by
    rw [List.reverse_cons, List.reverse_cons]
    exact DpAll.append (DpAll.reverse t) (.cons q .nil)
theorem DpAll.ints : ∀ {ns : List Int}, DpAll K G (ns.map V.int) (ns.map PyData.int)
  | [] => .nil
  | n :: r => .cons (.int n) (DpAll.ints)
theorem Dp.int_inv {v : V} {i : Int} (h : Dp K G v (.int i)) : v = .int i := by cases h; rfl
theorem Dp.bl_inv {v : V} {b : Bool} (h : Dp K G v (.bool b)) : v = .bl b := by cases h; rfl
theorem Dp.non_inv {v : V} (h : Dp K G v .none) : v = .non := by cases h; rfl
theorem Dp.lst_inv {v : V} {ds : List PyData} (h : Dp K G v (.list ds)) : ∃ a xs, v = .ref a ∧ SqL K G a xs ∧ DpAll K G xs ds := by
  cases h with | lst s t => exact ⟨_, _, rfl, s, t⟩
theorem Dp.tup_inv {v : V} {ds : List PyData} (h : Dp K G v (.tuple ds)) : ∃ a xs, v = .ref a ∧ SqT K G a xs ∧ DpAll K G xs ds := by
  cases h with | tup s t => exact ⟨_, _, rfl, s, t⟩
theorem DpAll.ints_inv : ∀ {vs : List V} {ns : List Int}, DpAll K G vs (ns.map PyData.int) → vs = ns.map V.int
  | _, [], h => by cases h; rfl
  | _, n :: r, h => by
    cases h with | cons a b => cases a; rw [DpAll.ints_inv b]; rfl
end
end L2
namespace Z
open PySem PySem.Spec L2
variable [Tabl]
/-! ### what the slots hold -/
def FsD (K : PySem.W.Frag) (G : Hp) : List (Str × V) → List (Str × PyData) → Prop := Paired fun p q => p.1 = q.1 ∧ Dp K G p.2 q.2
def KvD (K : PySem.W.Frag) (G : Hp) : List (Key × V) → List (Int × PyData) → Prop := Paired fun p q => p.1 = .inl q.1 ∧ Dp K G p.2 q.2
def Sl (K : PySem.W.Frag) (G H : Hp) : SK → Option V → List Addr → Prop
  | .no, _, as => as = []
  | .dat d, o, as => as = [] ∧ ∃ v, o = some v ∧ Dp K G v d
  | .own ds, o, as => ∃ a vs, o = some (.ref a) ∧ as = [a] ∧ H a = some (.lst vs) ∧ DpAll K G vs ds
  | .rng a b r, o, as => o = some (.ref a) ∧ as = [a, b] ∧ H a = some (.lst [.int r.s, .ref b, .int r.k]) ∧ H b = some (.lst (r.c.map V.int)) ∧ a ≠ b
  | .ins C fs, o, as => as = [] ∧ ∃ p dx vs, o = some (.ref p) ∧ G p = some (.ins C dx vs) ∧ FsD K G vs fs
  | .dic kvs, o, as => ∃ a vs, o = some (.ref a) ∧ as = [a] ∧ H a = some (.dK vs) ∧ KvD K G vs kvs
  | .ptr a, o, as => as = [] ∧ o = some (.ref a)
  | .tlo d0 ds d1, o, as => ∃ p a vs us ws, o = some (.ref p) ∧ as = [a] ∧ G p = some (.tup (vs ++ .ref a :: ws)) ∧ DpAll K G vs d0 ∧ H a = some (.lst us) ∧ DpAll K G us ds ∧ DpAll K G ws d1
  | .oin a dx C fs, o, as => o = some (.ref a) ∧ as = [a, dx] ∧ (∃ vs, H a = some (.ins C dx vs) ∧ FsD K G vs fs) ∧ H dx = some (.own a) ∧ a ≠ dx
  | .cus c, o, as => c.P K G H o as
structure Ow (W : Wd) (ks : List SK) (G : Hp) (ow : Nat → List Addr) : Prop where
  dis : ∀ i j a, a ∈ ow i → a ∈ ow j → i = j
  mine : ∀ i a, a ∈ ow i → G a = none ∧ (W.H a = none ∨ (W.M a ∧ ∃ k, ks[i]? = some k ∧ isRng k = true))
  out : ∀ i, ks.length ≤ i → ow i = []
structure Sts (K : PySem.W.Frag) (W : Wd) (ks : List SK) (σ : St) (G H : Hp) : Prop where
  le : Le W G H
  len : σ.length = ks.length
  own : ∃ ow : Nat → List Addr, Ow W ks G ow ∧ ∀ i k, ks[i]? = some k → Sl K G H k ((σ[i]?).getD none) (ow i)
section
variable {K : PySem.W.Frag} {W : Wd} {ks : List SK} {σ : St} {G H G2 H2 : Hp}
theorem FsD.mono (e : Same G G2) {vs : List (Str × V)} {fs : List (Str × PyData)} (h : FsD K G vs fs) : FsD K G2 vs fs := Paired.mapP h fun _ _ q => ⟨q.1, Dp.mono e q.2⟩
theorem KvD.mono (e : Same G G2) {vs : List (Key × V)} {fs : List (Int × PyData)} (h : KvD K G vs fs) : KvD K G2 vs fs := Paired.mapP h fun _ _ q => ⟨q.1, Dp.mono e q.2⟩
theorem Sl.move {k : SK} {o : Option V} {as : List Addr} (e : Same G G2) (h : Sl K G H k o as) (k2 : ∀ a ∈ as, ∀ u, H a = some u → H2 a = some u) : Sl K G2 H2 k o as := by
  cases k with
  | no => exact h
  | dat d => obtain ⟨a, v, b, c⟩ := h; exact ⟨a, v, b, Dp.mono e c⟩
  | own ds => obtain ⟨a, vs, b, rfl, c, d⟩ := h; exact ⟨a, vs, b, rfl, k2 a (by simp) _ c, DpAll.mono e d⟩
  | rng a b r => obtain ⟨c, rfl, d, f, g⟩ := h; exact ⟨c, rfl, k2 a (by simp) _ d, k2 b (by simp) _ f, g⟩
  | ins C fs => obtain ⟨a, p, dx, vs, b, c, d⟩ := h; exact ⟨a, p, dx, vs, b, e _ _ c, FsD.mono e d⟩
  | dic kvs => obtain ⟨a, vs, b, rfl, c, d⟩ := h; exact ⟨a, vs, b, rfl, k2 a (by simp) _ c, KvD.mono e d⟩
  | tlo d0 ds d1 => obtain ⟨p, a, vs, us, ws, b, rfl, c, d, f, g, gw⟩ := h; exact ⟨p, a, vs, us, ws, b, rfl, e _ _ c, DpAll.mono e d, k2 a (by simp) _ f, DpAll.mono e g, DpAll.mono e gw⟩
  | ptr a => exact h
  | oin a dx C fs => obtain ⟨c, rfl, ⟨vs, d, f⟩, g, n⟩ := h; exact ⟨c, rfl, ⟨vs, k2 a (by simp) _ d, FsD.mono e f⟩, k2 dx (by simp) _ g, n⟩
  | cus c => exact c.move K G H G2 H2 o as e h k2
theorem Sl.there {k : SK} {o : Option V} {as : List Addr} (h : Sl K G H k o as) : ∀ a ∈ as, ∃ u, H a = some u := by
  cases k with
  | no => cases (show as = [] from h); simp
  | dat d => obtain ⟨rfl, _⟩ := h; simp
  | own ds => obtain ⟨a, vs, b, rfl, c, d⟩ := h; intro x hx; simp at hx; subst hx; exact ⟨_, c⟩
  | rng a b r =>
    obtain ⟨c, rfl, d, f, g⟩ := h
    intro x hx
    simp at hx
    rcases hx with rfl | rfl
    · exact ⟨_, d⟩
    · exact ⟨_, f⟩
  | ins C fs => obtain ⟨rfl, _⟩ := h; simp
  | dic kvs => obtain ⟨a, vs, b, rfl, c, d⟩ := h; intro x hx; simp at hx; subst hx; exact ⟨_, c⟩
  | tlo d0 ds d1 => obtain ⟨p, a, vs, us, ws, b, rfl, c, d, f, g, gw⟩ := h; intro x hx; simp at hx; subst hx; exact ⟨_, f⟩
  | ptr a => obtain ⟨rfl, _⟩ := h; simp
  | oin a dx C fs =>
    obtain ⟨c, rfl, ⟨vs, d, f⟩, g, n⟩ := h
    intro x hx
    simp at hx
    rcases hx with rfl | rfl
    · exact ⟨_, d⟩
    · exact ⟨_, g⟩
  | cus c => exact fun a ha => (c.there K G H o as h a ha).imp fun _ z => z.1
theorem Sl.thereN {k : SK} {o : Option V} {as : List Addr} (h : Sl K G H k o as) : ∀ a ∈ as, ∃ u, H a = some u ∧ ∀ ps, u ≠ .tbl ps := by
  cases k with
  | no => cases (show as = [] from h); simp
  | dat d => obtain ⟨rfl, _⟩ := h; simp
  | own ds => obtain ⟨a, vs, b, rfl, c, d⟩ := h; intro x hx; simp at hx; subst hx; exact ⟨_, c, fun _ z => by cases z⟩
  | rng a b r =>
    obtain ⟨c, rfl, d, f, g⟩ := h
    intro x hx
    simp at hx
    rcases hx with rfl | rfl
    · exact ⟨_, d, fun _ z => by cases z⟩
    · exact ⟨_, f, fun _ z => by cases z⟩
  | ins C fs => obtain ⟨rfl, _⟩ := h; simp
  | dic kvs => obtain ⟨a, vs, b, rfl, c, d⟩ := h; intro x hx; simp at hx; subst hx; exact ⟨_, c, fun _ z => by cases z⟩
  | tlo d0 ds d1 => obtain ⟨p, a, vs, us, ws, b, rfl, c, d, f, g, gw⟩ := h; intro x hx; simp at hx; subst hx; exact ⟨_, f, fun _ z => by cases z⟩
  | ptr a => obtain ⟨rfl, _⟩ := h; simp
  | oin a dx C fs =>
    obtain ⟨c, rfl, ⟨vs, d, f⟩, g, n⟩ := h
    intro x hx
    simp at hx
    rcases hx with rfl | rfl
    · exact ⟨_, d, fun _ z => by cases z⟩
    · exact ⟨_, g, fun _ z => by cases z⟩
  | cus c => exact c.there K G H o as h
/-- a step that changes nothing of ours -/
theorem Sts.pure (S : Sts K W ks σ G H) (l : Lp G H G2 H2) : Sts K W ks σ G2 H2 := by
  obtain ⟨le, len, ow, o, f⟩ := S
  have live : ∀ i a, a ∈ ow i → ∃ u, H a = some u := fun i a ha => by
    by_cases hi : i < ks.length
    · exact (f i ks[i] (by simp [hi])).there a ha
    · rw [o.out i (by omega)] at ha; cases ha
  refine ⟨le.trans l, len, ow, ⟨o.dis, fun i a ha => ?_, o.out⟩, fun i k hk => ?_⟩
  · obtain ⟨g0, w0⟩ := o.mine i a ha
    obtain ⟨u, hu⟩ := live i a ha
    exact ⟨l.fz a u g0 hu, w0⟩
  · exact (f i k hk).move l.g fun a _ u hu => l.keep a u (fun z => z) hu
/-- .. but to tables -/
theorem Sts.step (S : Sts K W ks σ G H) (l : Le (pur G H) G2 H2) : Sts K W ks σ G2 H2 := by
  obtain ⟨le, len, ow, o, f⟩ := S
  have live : ∀ i a, a ∈ ow i → ∃ u, H a = some u ∧ ∀ ps, u ≠ .tbl ps := fun i a ha => by
    by_cases hi : i < ks.length
    · exact (f i ks[i] (by simp [hi])).thereN a ha
    · rw [o.out i (by omega)] at ha; cases ha
  refine ⟨le.transL l, len, ow, ⟨o.dis, fun i a ha => ?_, o.out⟩, fun i k hk => ?_⟩
  · obtain ⟨g0, w0⟩ := o.mine i a ha
    obtain ⟨u, hu, _⟩ := live i a ha
    exact ⟨l.fz a u g0 hu, w0⟩
  · refine (f i k hk).move l.g fun a ha u hu => ?_
    obtain ⟨u', hu', nt⟩ := live i a ha
    rw [hu] at hu'
    cases hu'
    exact l.keep a u (fun z => z) nt hu
theorem Sts.gh (S : Sts K W ks σ G H) : Same G H := S.le.gh
theorem Sts.dat (S : Sts K W ks σ G H) {i : Nat} {d : PyData} (h : ks[i]? = some (.dat d)) : ∃ v, σ[i]? = some (some v) ∧ Dp K G v d := by
  obtain ⟨le, len, ow, o, f⟩ := S
  obtain ⟨_, v, e, q⟩ := f i _ h
  have hi : i < σ.length := by rw [len]; exact (List.getElem?_eq_some_iff.mp h).1
  refine ⟨v, ?_, q⟩
  rw [List.getElem?_eq_getElem hi] at e ⊢
  simpa using e
end
end Z
namespace Z
open PySem PySem.Spec L2
variable [Tabl]
/-! ### the context of a body, by what is fixed -/
structure Sta where
  N : List Str
  sc : Scope
  fn : Str → Bool
/-- q: no exception is handled here -/
structure CtxB (q : Bool) (P : Program) (w : World) (K : PySem.W.Frag) (mg : Str → Option Value) (base : Heap) (T : Sta) (k : Nat) (X : Cx) : Prop where
  hP : X.prog = P
  hw : X.w = w
  hK : X.K = K
  hmg : X.mg = mg
  hbase : X.base = base
  hN : X.N = T.N
  nd : T.N.Nodup
  hs : X.env.scope = T.sc
  calm' : q = true → X.calm = true
  room' : q = true → Room k X.A
  un : X.A.units + 200 < cLine
  po : PassesOwn (model X.prog X.w) X.A X.env X.xe
  fn : X.fn = T.fn
abbrev Ctx (P : Program) (w : World) (K : PySem.W.Frag) (mg : Str → Option Value) (base : Heap) (T : Sta) (k : Nat) (X : Cx) : Prop := CtxB true P w K mg base T k X
theorem CtxB.calm {P : Program} {w : World} {K : PySem.W.Frag} {mg : Str → Option Value} {base : Heap} {T : Sta} {k : Nat} {X : Cx} (c : CtxB true P w K mg base T k X) : X.calm = true := c.calm' rfl
theorem CtxB.room {P : Program} {w : World} {K : PySem.W.Frag} {mg : Str → Option Value} {base : Heap} {T : Sta} {k : Nat} {X : Cx} (c : CtxB true P w K mg base T k X) : Room k X.A := c.room' rfl
theorem CtxB.units {q : Bool} {P : Program} {w : World} {K : PySem.W.Frag} {mg : Str → Option Value} {base : Heap} {T : Sta} {k : Nat} {X : Cx} (c : CtxB q P w K mg base T k X) : X.A.units + 64 < cLine := by have := c.un; omega
structure EV (X : Cx) (e : Expr) (σ : St) (H : Hp) (Q : VK) : Prop where
  run : ∀ (pins : List (Addr × Obj)) (s : Shared), Inv X pins σ H s → wpAny (model X.prog X.w) X.A (eval e X.env) (EP X pins σ Q) X.xe s
theorem pe_ev {X : Cx} {e : Expr} : PE X e (EV X e) := ⟨fun pins s σ H Q I h => h.run pins s I⟩
theorem ev_of {X : Cx} {e : Expr} {t : TE} {σ : St} {H : Hp} {Q : VK} (h : PE X e t) (q : t σ H Q) : EV X e σ H Q := ⟨fun pins s I => h.run pins s σ H Q I q⟩
structure TV (X : Cx) (e : Expr) (σ : St) (H : Hp) (Q : Bool → Hp → Prop) : Prop where
  run : ∀ (pins : List (Addr × Obj)) (s : Shared), Inv X pins σ H s → wpAny (model X.prog X.w) X.A (isTrue e X.env (eval e X.env)) (TP X pins σ Q) X.xe s
theorem pt_tv {X : Cx} {e : Expr} : PT X e (TV X e) := ⟨fun pins s σ H Q I h => h.run pins s I⟩
theorem tv_of {X : Cx} {e : Expr} {t : TT} {σ : St} {H : Hp} {Q : Bool → Hp → Prop} (h : PT X e t) (q : t σ H Q) : TV X e σ H Q := ⟨fun pins s I => h.run pins s σ H Q I q⟩
structure WV (X : Cx) (e : Expr) (σ : St) (H : Hp) (Q : Bool → Hp → Prop) : Prop where
  run : ∀ (whole : Sem Value) (pins : List (Addr × Obj)) (s : Shared), Inv X pins σ H s → wpAny (model X.prog X.w) X.A (isTrue e X.env whole) (TP X pins σ Q) X.xe s
theorem pw_wv {X : Cx} {e : Expr} : PW X e (WV X e) := ⟨fun whole pins s σ H Q I h => h.run whole pins s I⟩
theorem wv_of {X : Cx} {e : Expr} {t : TT} {σ : St} {H : Hp} {Q : Bool → Hp → Prop} (h : PW X e t) (q : t σ H Q) : WV X e σ H Q := ⟨fun whole pins s I => h.run whole pins s σ H Q I q⟩
structure AV (X : Cx) (es : List Expr) (σ : St) (H : Hp) (Q : List V → Hp → Prop) : Prop where
  run : ∀ (pos : Pos) (pins : List (Addr × Obj)) (s : Shared), Inv X pins σ H s → wpAny (model X.prog X.w) X.A (spliced (backTo pos (starEach es X.env))) (AP X pins σ Q) X.xe s
theorem pa_av {X : Cx} {es : List Expr} : PA X es (AV X es) := ⟨fun pos pins s σ H Q I h => h.run pos pins s I⟩
theorem av_of {X : Cx} {es : List Expr} {t : TA} {σ : St} {H : Hp} {Q : List V → Hp → Prop} (h : PA X es t) (q : t σ H Q) : AV X es σ H Q := ⟨fun pos pins s I => h.run pos pins s σ H Q I q⟩
/-! ### what evaluates to what data, the slots' contents ahead and behind -/
def ED (X : Cx) (ks : List SK) (e : Expr) (ks' : List SK) (d : PyData) : Prop :=
  ∀ W σ G H, Sts X.K W ks σ G H → ∀ Q : VK, (∀ v G2 H2, Sts X.K W ks' σ G2 H2 → Same G G2 → Dp X.K G2 v d → Q v H2) → EV X e σ H Q
/-- a new list of our own: it stands as one more slot -/
def EL (X : Cx) (ks : List SK) (e : Expr) (ks' : List SK) (ds : List PyData) : Prop :=
  ∀ W σ G H, Sts X.K W ks σ G H → ∀ Q : VK, (∀ a G2 H2, Sts X.K W (ks' ++ [.own ds]) (σ ++ [some (.ref a)]) G2 H2 → Same G G2 → Q (.ref a) H2) → EV X e σ H Q
def TD (X : Cx) (ks : List SK) (e : Expr) (ks' : List SK) (b : Bool) : Prop :=
  ∀ W σ G H, Sts X.K W ks σ G H → ∀ Q : Bool → Hp → Prop, (∀ G2 H2, Sts X.K W ks' σ G2 H2 → Same G G2 → Q b H2) → TV X e σ H Q
def WD (X : Cx) (ks : List SK) (e : Expr) (ks' : List SK) (b : Bool) : Prop :=
  ∀ W σ G H, Sts X.K W ks σ G H → ∀ Q : Bool → Hp → Prop, (∀ G2 H2, Sts X.K W ks' σ G2 H2 → Same G G2 → Q b H2) → WV X e σ H Q
def AD (X : Cx) (ks : List SK) (es : List Expr) (ks' : List SK) (ds : List PyData) : Prop :=
  ∀ W σ G H, Sts X.K W ks σ G H → ∀ Q : List V → Hp → Prop, (∀ vs G2 H2, Sts X.K W ks' σ G2 H2 → Same G G2 → DpAll X.K G2 vs ds → Q vs H2) → AV X es σ H Q
section
variable {P : Program} {w : World} {K : PySem.W.Frag} {mg : Str → Option Value} {base : Heap} {T : Sta} {k : Nat} {X : Cx} {ks k1 k2 k3 : List SK} {a b e : Expr} {es : List Expr} {d da db : PyData} {ds : List PyData} {pos : Pos}
/-! ### names and constants -/
theorem vis_of (c : CtxB cq P w K mg base T k X) {x : Str} (h : Vis T.sc x) : Vis X.env.scope x := by rw [c.hs]; exact h
theorem ix_of (c : CtxB cq P w K mg base T k X) {i : Nat} {x : Str} (h : T.N[i]? = some x) : X.N[i]? = some x := by rw [c.hN]; exact h
theorem ed_var (c : CtxB cq P w K mg base T k X) (i : Nat) {x : Str} (hN : T.N[i]? = some x) (hv : Vis T.sc x) (hk : ks[i]? = some (.dat d)) (hd : (x == ("__debug__" : Str)) = false) (hcd : (x == ("__classdict__" : Str)) = false) : ED X ks (.Name x pos) ks d := by
  intro W σ G H S Q q
  obtain ⟨v, e, r⟩ := S.dat hk
  exact ev_of (pe_var (ix_of c hN) (vis_of c hv) hd hcd) ⟨v, e, q v G H S (Same.refl G) r⟩
theorem ed_int {i : Int} {j : Nat} : ED X ks (.Constant (.int i) j pos) ks (.int i) := fun W σ G H S Q q => ev_of pe_int (q (.int i) G H S (Same.refl G) (.int i))
theorem ed_bl {b : Bool} {j : Nat} : ED X ks (.Constant (.bool b) j pos) ks (.bool b) := fun W σ G H S Q q => ev_of pe_bl (q (.bl b) G H S (Same.refl G) (.bl b))
theorem ed_non {j : Nat} : ED X ks (.Constant .none j pos) ks .none := fun W σ G H S Q q => ev_of pe_non (q .non G H S (Same.refl G) .non)
theorem ed_str {x : Str} {j : Nat} : ED X ks (.Constant (.str x) j pos) ks (.str x) := fun W σ G H S Q q => ev_of pe_str (q (.str x) G H S (Same.refl G) (.str x))
theorem gl_of (c : CtxB cq P w K mg base T k X) {x : Str} (h : T.sc.names.lookup x = some .globalImplicit) : Gl X x := by
  show X.env.scope.names.lookup x = _
  rw [c.hs]; exact h
/-- a module's int -/
theorem ed_gint (c : CtxB cq P w K mg base T k X) {x : Str} {i : Int} (hg : T.sc.names.lookup x = some .globalImplicit) (hm : ∃ t, mg x = some (.int i t)) (hd : (x == ("__debug__" : Str)) = false) : ED X ks (.Name x pos) ks (.int i) := by
  intro W σ G H S Q q
  obtain ⟨t, hm⟩ := hm
  exact ev_of (pe_glob (v := .int i) (gl_of c hg) (by rw [c.hmg]; exact hm) ⟨t, rfl⟩ hd) (q (.int i) G H S (Same.refl G) (.int i))
/-! ### operators -/
/-- two data give data by an operation on values -/
def RD (K : PySem.W.Frag) (r : R2) (da db d : PyData) : Prop := ∀ G H x y, Same G H → Dp K G x da → Dp K G y db → ∀ Q : VK, (∀ v G2 H2, Lp G H G2 H2 → Dp K G2 v d → Q v H2) → r x y H Q
theorem RD.flat {r : R2} (h : ∀ G H x y, Same G H → Dp K G x da → Dp K G y db → ∃ v, (∀ G, Dp K G v d) ∧ ∀ Q : VK, Q v H → r x y H Q) : RD K r da db d := fun G H x y g ha hb Q q => by
  obtain ⟨v, r1, r2⟩ := h G H x y g ha hb
  exact r2 Q (q v G H (Lp.refl g) (r1 G))
theorem bin_go {r : R2} {W : Wd} {σ : St} {G H : Hp} {Q : VK} (ha : ED X ks a k1 da) (hb : ED X k1 b k2 db) (hr : RD X.K r da db d) (S : Sts X.K W ks σ G H) (q : ∀ v G2 H2, Sts X.K W k2 σ G2 H2 → Same G G2 → Dp X.K G2 v d → Q v H2) : tOp r (EV X a) (EV X b) σ H Q := by
  refine ha W σ G H S _ fun x G1 H1 S1 g1 r1 => ?_
  refine hb W σ G1 H1 S1 _ fun y G2 H2 S2 g2 r2 => ?_
  exact hr G2 H2 x y S2.gh (Dp.mono g2 r1) r2 Q fun v G3 H3 l r3 => q v G3 H3 (S2.pure l) ((g1.trans g2).trans l.g) r3
/-- what a + b (..) is of data -/
structure BinD (X : Cx) (op : Operator) (da db d : PyData) : Prop where
  out : ∃ r, OpR X (binaryOp op) r ∧ RD X.K r da db d
theorem ed_bin {op : Operator} (ha : ED X ks a k1 da) (hb : ED X k1 b k2 db) (h : BinD X op da db d) : ED X ks (.BinOp a op b pos) k2 d := by
  obtain ⟨r, ho, hr⟩ := h.out
  intro W σ G H S Q q
  exact ev_of (pe_op ho pe_ev pe_ev) (bin_go ha hb hr S q)
theorem rd_I0 {g : Int → Int → V} {i j : Int} (hd : ∀ G, Dp K G (g i j) d) : RD K (rI0 g) (.int i) (.int j) d := RD.flat fun G H x y _ ha hb => ⟨g i j, hd, fun Q q => ⟨i, j, ha.int_inv, hb.int_inv, q⟩⟩
theorem rd_I {C : Int → Int → Prop} {g : Int → Int → V} {i j : Int} (hc : C i j) (hd : ∀ G, Dp K G (g i j) d) : RD K (rI C g) (.int i) (.int j) d := RD.flat fun G H x y _ ha hb => ⟨g i j, hd, fun Q q => ⟨i, j, ha.int_inv, hb.int_inv, hc, q⟩⟩
theorem bd_add {i j : Int} : BinD X .Add (.int i) (.int j) (.int (i + j)) := ⟨_, op_add, rd_I0 fun _ => .int _⟩
theorem bd_sub {i j : Int} : BinD X .Sub (.int i) (.int j) (.int (i - j)) := ⟨_, op_sub, rd_I0 fun _ => .int _⟩
theorem bd_mul {i j : Int} (h : CMul i j) : BinD X .Mult (.int i) (.int j) (.int (i * j)) := ⟨_, op_mul, rd_I h fun _ => .int _⟩
theorem bd_mod {i j : Int} (h : 0 < j) : BinD X .Mod (.int i) (.int j) (.int (i % j)) := ⟨_, op_mod, rd_I h fun _ => .int _⟩
theorem bd_fdiv {i j : Int} (h : 0 < j ∧ j < 1073741824) : BinD X .FloorDiv (.int i) (.int j) (.int (i / j)) := ⟨_, op_fdiv, rd_I h fun _ => .int _⟩
theorem bd_pow {i j : Int} (h : CPow i j) : BinD X .Pow (.int i) (.int j) (.int (i ^ j.toNat)) := ⟨_, op_pow, rd_I h fun _ => .int _⟩
theorem bd_catT {xs ys : List PyData} (h : xs.length + ys.length ≤ sizeLine) : BinD X .Add (.tuple xs) (.tuple ys) (.tuple (xs ++ ys)) := by
  refine ⟨_, op_catA, fun G H x y g ha hb Q q => ?_⟩
  obtain ⟨a, vs, rfl, sa, aa⟩ := ha.tup_inv
  obtain ⟨b, us, rfl, sb, ab⟩ := hb.tup_inv
  have l1 := aa.len
  have l2 := ab.len
  refine ⟨a, b, vs, us, rfl, rfl, Same.seqT g sa, Same.seqT g sb, by omega, fun e => ?_, fun _ e => ?_, fun _ _ p np => ?_⟩
  · subst e
    cases aa
    exact q _ G H (Lp.refl g) hb
  · subst e
    cases ab
    exact q _ G H (Lp.refl g) (by rw [List.append_nil]; exact ha)
  · have l := Lp.new (o := .tup (vs ++ us)) g np
    exact q _ _ _ l (.tup (SqT.of upd_same) (DpAll.append (DpAll.mono l.g aa) (DpAll.mono l.g ab)))
/-! ### comparisons -/
structure CmpD (X : Cx) (op : CmpOp) (da db : PyData) (c : Bool) : Prop where
  out : ∃ r, OpR X (compareOp op) r ∧ RD X.K r da db (.bool c)
theorem ed_cmp {op : CmpOp} {c : Bool} (ha : ED X ks a k1 da) (hb : ED X k1 b k2 db) (h : CmpD X op da db c) (hm : behindInMarks op b = false) : ED X ks (.Compare a [op] [b] pos) k2 (.bool c) := by
  obtain ⟨r, ho, hr⟩ := h.out
  intro W σ G H S Q q
  exact ev_of (pe_cmpR ho pe_ev pe_ev hm) (bin_go ha hb hr S q)
theorem td_cmp {op : CmpOp} {c : Bool} (ha : ED X ks a k1 da) (hb : ED X k1 b k2 db) (h : CmpD X op da db c) (hm : behindInMarks op b = false) : TD X ks (.Compare a [op] [b] pos) k2 c := by
  obtain ⟨r, ho, hr⟩ := h.out
  intro W σ G H S Q q
  refine tv_of (pt_cmpR ho pe_ev pe_ev hm) (bin_go (Q := fun x H' => ∃ k, x = .bl k ∧ Q k H') ha hb hr S fun v G2 H2 S2 g r2 => ⟨c, r2.bl_inv, q G2 H2 S2 g⟩)
theorem cd_lt {i j : Int} : CmpD X .Lt (.int i) (.int j) (decide (i < j)) := ⟨_, op_lt, rd_I0 fun _ => .bl _⟩
theorem cd_le {i j : Int} : CmpD X .LtE (.int i) (.int j) (decide (i ≤ j)) := ⟨_, op_le, rd_I0 fun _ => .bl _⟩
theorem cd_gt {i j : Int} : CmpD X .Gt (.int i) (.int j) (decide (j < i)) := ⟨_, op_gt, rd_I0 fun _ => .bl _⟩
theorem cd_ge {i j : Int} : CmpD X .GtE (.int i) (.int j) (decide (j ≤ i)) := ⟨_, op_ge, rd_I0 fun _ => .bl _⟩
theorem cd_eqI {i j : Int} : CmpD X .Eq (.int i) (.int j) (decide (i = j)) := ⟨_, op_eq, RD.flat fun G H x y _ ha hb => ⟨.bl (decide (i = j)), fun _ => .bl _, fun Q q => by
  rw [ha.int_inv, hb.int_inv]
  refine ⟨rfl, ?_⟩
  have e : decide (V.int i = V.int j) = decide (i = j) := by rw [dec_int, Bool.beq_eq_decide_eq]
  rw [e]; exact q⟩⟩
theorem cd_neI {i j : Int} : CmpD X .NotEq (.int i) (.int j) (!decide (i = j)) := ⟨_, op_ne, RD.flat fun G H x y _ ha hb => ⟨.bl (!decide (i = j)), fun _ => .bl _, fun Q q => by
  rw [ha.int_inv, hb.int_inv]
  refine ⟨rfl, ?_⟩
  have e : decide (V.int i = V.int j) = decide (i = j) := by rw [dec_int, Bool.beq_eq_decide_eq]
  rw [e]; exact q⟩⟩
/-- == of data of any shape -/
theorem cd_eqD (c : CtxB cq P w K mg base T k X) (sa : SeqAt.shaped da = true) (sb : SeqAt.shaped db = true) : CmpD X .Eq da db (PyData.eqv da db) :=
  ⟨_, op_eqD (c.units), fun G H x y g ha hb Q q => ⟨da, db, Dp.mono g ha, Dp.mono g hb, sa, sb, q _ G H (Lp.refl g) (.bl _)⟩⟩
theorem cd_neD (c : CtxB cq P w K mg base T k X) (sa : SeqAt.shaped da = true) (sb : SeqAt.shaped db = true) : CmpD X .NotEq da db (!PyData.eqv da db) :=
  ⟨_, op_neD (c.units), fun G H x y g ha hb Q q => ⟨da, db, Dp.mono g ha, Dp.mono g hb, sa, sb, q _ G H (Lp.refl g) (.bl _)⟩⟩
def isNoneD : PyData → Bool
  | .none => true
  | _ => false
theorem non_dec {G : Hp} {v : V} (h : Dp K G v d) : decide (v = .non) = isNoneD d := by cases h <;> first | rfl | exact decide_eq_false (fun z => nomatch z)
theorem cd_isN : CmpD X .Is d .none (isNoneD d) := ⟨_, op_isN, RD.flat fun G H x y _ ha hb => ⟨.bl (isNoneD d), fun _ => .bl _, fun Q q => ⟨hb.non_inv, by rw [non_dec ha]; exact q⟩⟩⟩
theorem cd_notN : CmpD X .IsNot d .none (!isNoneD d) := ⟨_, op_notN, RD.flat fun G H x y _ ha hb => ⟨.bl (!isNoneD d), fun _ => .bl _, fun Q q => ⟨hb.non_inv, by rw [non_dec ha]; exact q⟩⟩⟩
/-- a < b < c -/
theorem ed_chain {op op' : CmpOp} {x y : Bool} {e3 : Expr} {dc : PyData} (ha : ED X ks a ks da) (hb : ED X ks b ks db) (hc : x = true → ED X ks e3 ks dc) (h : CmpD X op da db x) (h' : CmpD X op' db dc y)
    (hm : lastMarks [op, op'] [b, e3] = false) : ED X ks (.Compare a [op, op'] [b, e3] pos) ks (.bool (x && y)) := by
  obtain ⟨r, ho, hr⟩ := h.out
  obtain ⟨r', ho', hr'⟩ := h'.out
  intro W σ G H S Q q
  cases x with
  | false =>
    refine ev_of (pe_chain ho ho' pe_ev pe_ev pe_ev hm) ?_
    refine ha W σ G H S _ fun x G1 H1 S1 g1 r1 => ?_
    refine hb W σ G1 H1 S1 _ fun y G2 H2 S2 g2 r2 => ?_
    refine hr G2 H2 x y S2.gh (Dp.mono g2 r1) r2 _ fun v G3 H3 l r3 => ⟨false, r3.bl_inv, ?_⟩
    show Q (.bl false) H3
    exact q _ G3 H3 (S2.pure l) ((g1.trans g2).trans l.g) (.bl _)
  | true =>
    refine ev_of (pe_chain ho ho' pe_ev pe_ev pe_ev hm) ?_
    refine ha W σ G H S _ fun x G1 H1 S1 g1 r1 => ?_
    refine hb W σ G1 H1 S1 _ fun y G2 H2 S2 g2 r2 => ?_
    refine hr G2 H2 x y S2.gh (Dp.mono g2 r1) r2 _ fun v G3 H3 l r3 => ⟨true, r3.bl_inv, ?_⟩
    show EV X e3 σ H3 _
    refine hc rfl W σ G3 H3 (S2.pure l) _ fun z G4 H4 S4 g4 r4 => ?_
    refine hr' G4 H4 y z S4.gh (Dp.mono (l.g.trans g4) r2) r4 _ fun v G5 H5 l5 r5 => ?_
    exact q v G5 H5 (S4.pure l5) ((((g1.trans g2).trans l.g).trans g4).trans l5.g) r5
theorem td_val {c : Bool} (h : ED X ks e k1 (.bool c)) (he : ∀ whole, isTrue e X.env whole = (do let v ← whole; standAt e.pos; holding [v] (truthy v))) : TD X ks e k1 c := by
  intro W σ G H S Q q
  refine tv_of (pt_val pe_ev he) (h W σ G H S _ fun v G2 H2 S2 g r => ⟨c, r.bl_inv, q G2 H2 S2 g⟩)
/-! ### and, or, not, if -/
theorem td_not {c : Bool} (h : TD X ks a k1 c) : TD X ks (.UnaryOp .Not a pos) k1 (!c) := fun W σ G H S Q q => tv_of (pt_not pt_tv) (h W σ G H S _ fun G2 H2 S2 g => q G2 H2 S2 g)
theorem td_w {c : Bool} (h : WD X ks a k1 c) : TD X ks a k1 c := fun W σ G H S Q q => tv_of pw_wv.pt (h W σ G H S _ fun G2 H2 S2 g => q G2 H2 S2 g)
theorem wd_and1 {c : Bool} (h : TD X ks a k1 c) : WD X ks (.BoolOp .And [a] pos) k1 c := fun W σ G H S Q q => wv_of (pw_and1 pt_tv) (h W σ G H S _ fun G2 H2 S2 g => q G2 H2 S2 g)
theorem wd_or1 {c : Bool} (h : TD X ks a k1 c) : WD X ks (.BoolOp .Or [a] pos) k1 c := fun W σ G H S Q q => wv_of (pw_or1 pt_tv) (h W σ G H S _ fun G2 H2 S2 g => q G2 H2 S2 g)
theorem wd_and {x y : Bool} (ha : TD X ks a ks x) (hb : x = true → WD X ks (.BoolOp .And (b :: es) pos) ks y) : WD X ks (.BoolOp .And (a :: b :: es) pos) ks (x && y) := fun W σ G H S Q q => by
  refine wv_of (pw_and pt_tv pw_wv) (ha W σ G H S _ fun G2 H2 S2 g => ?_)
  cases x with
  | false => exact q G2 H2 S2 g
  | true => exact hb rfl W σ G2 H2 S2 Q fun G3 H3 S3 g3 => q G3 H3 S3 (g.trans g3)
theorem wd_or {x y : Bool} (ha : TD X ks a ks x) (hb : x = false → WD X ks (.BoolOp .Or (b :: es) pos) ks y) : WD X ks (.BoolOp .Or (a :: b :: es) pos) ks (x || y) := fun W σ G H S Q q => by
  refine wv_of (pw_or pt_tv pw_wv) (ha W σ G H S _ fun G2 H2 S2 g => ?_)
  cases x with
  | true => exact q G2 H2 S2 g
  | false => exact hb rfl W σ G2 H2 S2 Q fun G3 H3 S3 g3 => q G3 H3 S3 (g.trans g3)
/-- .. where what stands behind draws -/
theorem wd_andT {y : Bool} (ha : TD X ks a k1 true) (hb : WD X k1 (.BoolOp .And (b :: es) pos) k2 y) : WD X ks (.BoolOp .And (a :: b :: es) pos) k2 y := fun W σ G H S Q q => by
  refine wv_of (pw_and pt_tv pw_wv) (ha W σ G H S _ fun G2 H2 S2 g => ?_)
  exact hb W σ G2 H2 S2 Q fun G3 H3 S3 g3 => q G3 H3 S3 (g.trans g3)
theorem wd_andF (ha : TD X ks a k1 false) : WD X ks (.BoolOp .And (a :: b :: es) pos) k1 false := fun W σ G H S Q q => by
  refine wv_of (pw_and pt_tv pw_wv) (ha W σ G H S _ fun G2 H2 S2 g => ?_)
  exact q G2 H2 S2 g
theorem ed_and1 {op : BoolOp} (h : ED X ks a k1 d) : ED X ks (.BoolOp op [a] pos) k1 d := fun W σ G H S Q q => ev_of (pe_one pe_ev) (h W σ G H S Q q)
theorem ed_and {x y : Bool} (ha : ED X ks a ks (.bool x)) (hb : x = true → ED X ks (.BoolOp .And (b :: es) pos) ks (.bool y)) : ED X ks (.BoolOp .And (a :: b :: es) pos) ks (.bool (x && y)) := fun W σ G H S Q q => by
  refine ev_of (pe_and pe_ev pe_ev) (ha W σ G H S _ fun v G2 H2 S2 g r => ⟨x, r.bl_inv, ?_⟩)
  cases x with
  | false => exact q _ G2 H2 S2 g (.bl _)
  | true => exact hb rfl W σ G2 H2 S2 Q fun v G3 H3 S3 g3 => q v G3 H3 S3 (g.trans g3)
theorem ed_if {x : Bool} {t : Expr} (ht : TD X ks t k1 x) (ha : x = true → ED X k1 a k2 d) (hb : x = false → ED X k1 b k2 d) : ED X ks (.IfExp t a b pos) k2 d := fun W σ G H S Q q => by
  refine ev_of (pe_ifExp pt_tv pe_ev pe_ev) (ht W σ G H S _ fun G2 H2 S2 g => ?_)
  cases x with
  | true => exact ha rfl W σ G2 H2 S2 Q fun v G3 H3 S3 g3 => q v G3 H3 S3 (g.trans g3)
  | false => exact hb rfl W σ G2 H2 S2 Q fun v G3 H3 S3 g3 => q v G3 H3 S3 (g.trans g3)
/-! ### argument lists, displays -/
theorem ad_nil : AD X ks [] ks [] := fun W σ G H S Q q => av_of pa_nil (q [] G H S (Same.refl G) .nil)
theorem ad_cons (ha : ED X ks a k1 d) (hr : AD X k1 es k2 ds) (hs : starEach (a :: es) X.env = (false, eval a X.env) :: starEach es X.env) : AD X ks (a :: es) k2 (d :: ds) := fun W σ G H S Q q =>
  av_of (pa_cons pe_ev pa_av hs) (ha W σ G H S _ fun v G1 H1 S1 g1 r1 => hr W σ G1 H1 S1 _ fun vs G2 H2 S2 g2 r2 => q _ G2 H2 S2 (g1.trans g2) (.cons (Dp.mono g2 r1) r2))
theorem ed_tup {x1} (h : AD X ks es k1 ds) (hl : ds.length ≤ sizeLine) : ED X ks (.Tuple es x1 pos) k1 (.tuple ds) := fun W σ G H S Q q =>
  ev_of (pe_tup pa_av) (h W σ G H S _ fun vs G1 H1 S1 g1 r1 => ⟨by rw [r1.len]; exact hl, fun p np => by
    have l := Lp.new (o := .tup vs) S1.gh np
    exact q _ _ _ (S1.pure l) (g1.trans l.g) (.tup (SqT.of upd_same) (DpAll.mono l.g r1))⟩)
/-! ### subscripts -/
theorem ed_ixT {ds : List PyData} {i : Int} (ha : ED X ks a k1 (.tuple ds)) (hb : ED X k1 b k2 (.int i)) (hi : atI ds i = some d) (hs : PlainIx b) : ED X ks (.Subscript a b pos) k2 d := fun W σ G H S Q q => by
  refine ev_of (pe_ix ix_tup pe_ev pe_ev hs) (bin_go ha hb (d := d) (fun G H x y g ra rb Q q => ?_) S q)
  obtain ⟨p, vs, rfl, sp, ap⟩ := ra.tup_inv
  rw [rb.int_inv]
  obtain ⟨j, h1, h2, h3, h4, h5⟩ := atI_get hi
  obtain ⟨v, hv, rv⟩ := ap.get h2
  refine ⟨p, vs, i, v, rfl, rfl, Same.seqT g sp, ?_, q v G H (Lp.refl g) rv⟩
  unfold atI at hi ⊢
  rw [ap.len]
  cases e : ixN ds.length i with
  | none => rw [e] at hi; cases hi
  | some j' =>
    rw [e] at hi
    have hj := (ixN_seq e).1
    rw [hj] at h1
    cases h1
    exact hv
theorem ed_ixL {ds : List PyData} {i : Int} (ha : ED X ks a k1 (.list ds)) (hb : ED X k1 b k2 (.int i)) (hi : atI ds i = some d) (hs : PlainIx b) : ED X ks (.Subscript a b pos) k2 d := fun W σ G H S Q q => by
  refine ev_of (pe_ix ix_list pe_ev pe_ev hs) (bin_go ha hb (d := d) (fun G H x y g ra rb Q q => ?_) S q)
  obtain ⟨p, vs, rfl, sp, ap⟩ := ra.lst_inv
  rw [rb.int_inv]
  obtain ⟨j, h1, h2, h3, h4, h5⟩ := atI_get hi
  obtain ⟨v, hv, rv⟩ := ap.get h2
  refine ⟨p, vs, i, v, rfl, rfl, g.seq sp, ?_, q v G H (Lp.refl g) rv⟩
  unfold atI at hi ⊢
  rw [ap.len]
  cases e : ixN ds.length i with
  | none => rw [e] at hi; cases hi
  | some j' =>
    rw [e] at hi
    have hj := (ixN_seq e).1
    rw [hj] at h1
    cases h1
    exact hv
end
end Z
namespace Z
open PySem PySem.Spec L2
variable [Tabl]
section
variable {K : PySem.W.Frag} {W : Wd} {ks : List SK} {σ : St} {G H G2 H2 : Hp}
theorem Le.upd {W : Wd} {G H : Hp} {a : Addr} {o : HO} (l : Le W G H) (h : ∃ u, H a = some u) (n : ∀ u, H a = some u → Pl u) (g : G a = none) (m : W.H a = none ∨ W.M a) : Le W G (upd H a o) where
  g := l.g
  gh := fun b u e => by
    have : b ≠ a := fun z => by rw [z, g] at e; cases e
    rw [upd_ne this]; exact l.gh b u e
  keep := fun b u hm nt e => by
    have : b ≠ a := fun z => by
      subst z
      rcases m with m | m
      · rw [m] at e; cases e
      · exact hm m
    rw [upd_ne this]; exact l.keep b u hm nt e
  there := fun b u e => by
    by_cases q : b = a
    · subst q; exact ⟨_, upd_same⟩
    · rw [upd_ne q]; exact l.there b u e
  fz := l.fz
  m := l.m
  tb := l.tb.upd n
theorem Ow.live {ow : Nat → List Addr} (o : Ow W ks G ow) (f : ∀ i k, ks[i]? = some k → Sl K G H k ((σ[i]?).getD none) (ow i)) : ∀ i a, a ∈ ow i → ∃ u, H a = some u := fun i a ha => by
  by_cases hi : i < ks.length
  · exact (f i ks[i] (by simp [hi])).there a ha
  · rw [o.out i (by omega)] at ha; cases ha
theorem Ow.liveN {ow : Nat → List Addr} (o : Ow W ks G ow) (f : ∀ i k, ks[i]? = some k → Sl K G H k ((σ[i]?).getD none) (ow i)) : ∀ i a, a ∈ ow i → ∃ u, H a = some u ∧ ∀ ps, u ≠ .tbl ps := fun i a ha => by
  by_cases hi : i < ks.length
  · exact (f i ks[i] (by simp [hi])).thereN a ha
  · rw [o.out i (by omega)] at ha; cases ha
/-- slot i is set anew; what else is ours stays as it is -/
theorem Sts.put {i : Nat} {k : SK} {v : Option V} (S : Sts K W ks σ G H) (hi : i < ks.length) (l : Le W G2 H2) (gg : Same G G2)
    (gz : ∀ a u, G a = none → H a = some u → G2 a = none)
    (kp : ∀ ow, Ow W ks G ow → (∀ i k, ks[i]? = some k → Sl K G H k ((σ[i]?).getD none) (ow i)) → (∀ j a, j ≠ i → a ∈ ow j → ∀ u, H a = some u → H2 a = some u) ∧
      ∃ as, Sl K G2 H2 k v as ∧ (∀ a ∈ as, (∀ j, j ≠ i → a ∉ ow j) ∧ G2 a = none ∧ (W.H a = none ∨ (W.M a ∧ isRng k = true)))) :
    Sts K W (ks.set i k) (σ.set i v) G2 H2 := by
  obtain ⟨le, len, ow, o, f⟩ := S
  obtain ⟨kp, as, s1, s2⟩ := kp ow o f
  refine ⟨l, by simp [len], fun j => if j = i then as else ow j, ⟨fun j j' a h h' => ?_, fun j a h => ?_, fun j hj => ?_⟩, fun j kj hj => ?_⟩
  · by_cases q : j = i <;> by_cases q' : j' = i
    · rw [q, q']
    · simp only [q, if_true, q', if_false] at h h'
      exact ((s2 a h).1 j' q' h').elim
    · simp only [q, if_false, q', if_true] at h h'
      exact ((s2 a h').1 j q h).elim
    · simp only [q, q', if_false] at h h'
      exact o.dis j j' a h h'
  · by_cases q : j = i
    · simp only [q, if_true] at h
      obtain ⟨_, b, c⟩ := s2 a h
      refine ⟨b, ?_⟩
      rcases c with c | ⟨c, e⟩
      · exact .inl c
      · exact .inr ⟨c, k, by rw [q, List.getElem?_set_self hi], e⟩
    · simp only [q, if_false] at h
      obtain ⟨b, c⟩ := o.mine j a h
      obtain ⟨u, hu⟩ := o.live f j a h
      refine ⟨gz a u b hu, ?_⟩
      rcases c with c | ⟨c, r, e⟩
      · exact .inl c
      · exact .inr ⟨c, r, by rw [List.getElem?_set_ne (Ne.symm q)]; exact e.1, e.2⟩
  · have : j ≠ i := by simp at hj; omega
    simp only [this, if_false]
    exact o.out j (by simpa using hj)
  · by_cases q : j = i
    · subst q
      rw [List.getElem?_set_self hi] at hj
      cases hj
      simp only [if_true]
      rw [List.getElem?_set_self (by omega)]
      exact s1
    · rw [List.getElem?_set_ne (Ne.symm q)] at hj
      simp only [q, if_false]
      rw [List.getElem?_set_ne (Ne.symm q)]
      exact (f j kj hj).move gg fun a ha u hu => kp j a q ha u hu
theorem Sts.setDat {i : Nat} {v : V} {d : PyData} (S : Sts K W ks σ G H) (hi : i < ks.length) (r : Dp K G v d) : Sts K W (ks.set i (.dat d)) (σ.set i (some v)) G H :=
  S.put hi S.le (Same.refl G) (fun _ _ e _ => e) fun ow o f => ⟨fun _ _ _ _ u e => e, [], ⟨rfl, v, rfl, r⟩, fun _ h => by cases h⟩
/-- one more slot, a list that nobody else has -/
theorem Sts.pushL {p : Addr} {vs : List V} {ds : List PyData} (S : Sts K W ks σ G H) (l : Le (pur G H) G2 H2) (np : H p = none) (gp : G2 p = none) (hp : H2 p = some (.lst vs)) (r : DpAll K G2 vs ds) :
    Sts K W (ks ++ [.own ds]) (σ ++ [some (.ref p)]) G2 H2 := by
  have S2 := S.step l
  obtain ⟨_, _, ow0, o0, f0⟩ := S
  have wp : W.H p = none := by
    cases e : W.H p with
    | none => rfl
    | some u =>
      obtain ⟨u', e'⟩ := ‹Le W G H›.there p u e
      rw [np] at e'; cases e'
  obtain ⟨le, len, _⟩ := S2
  have live := o0.live f0
  refine ⟨le, by simp [len], fun j => if j = ks.length then [p] else ow0 j, ⟨fun j j' a h h' => ?_, fun j a h => ?_, fun j hj => ?_⟩, fun j kj hj => ?_⟩
  · have no : ∀ j, p ∉ ow0 j := fun j h => by
      obtain ⟨u, hu⟩ := live j p h
      rw [np] at hu; cases hu
    by_cases q : j = ks.length <;> by_cases q' : j' = ks.length
    · rw [q, q']
    · simp only [q, if_true, q', if_false] at h h'
      simp at h; subst h
      exact (no j' h').elim
    · simp only [q, if_false, q', if_true] at h h'
      simp at h'; subst h'
      exact (no j h).elim
    · simp only [q, q', if_false] at h h'
      exact o0.dis j j' a h h'
  · by_cases q : j = ks.length
    · simp only [q, if_true] at h
      simp at h; subst h
      exact ⟨gp, .inl wp⟩
    · simp only [q, if_false] at h
      obtain ⟨b, c⟩ := o0.mine j a h
      obtain ⟨u, hu⟩ := live j a h
      refine ⟨l.fz a u b hu, ?_⟩
      rcases c with c | ⟨c, r, e⟩
      · exact .inl c
      · refine .inr ⟨c, r, ?_, e.2⟩
        rw [List.getElem?_append_left (List.getElem?_eq_some_iff.mp e.1).1]; exact e.1
  · have : j ≠ ks.length := by simp at hj; omega
    simp only [this, if_false]
    exact o0.out j (by simp at hj; omega)
  · by_cases q : j = ks.length
    · subst q
      rw [List.getElem?_append_right (Nat.le_refl _)] at hj
      simp at hj
      subst hj
      simp only [if_true]
      rw [List.getElem?_append_right (by omega), len]
      simp only [Nat.sub_self]
      exact ⟨p, vs, rfl, rfl, hp, r⟩
    · have hj' : j < ks.length := by
        have := (List.getElem?_eq_some_iff.mp hj).1
        simp at this; omega
      rw [List.getElem?_append_left hj'] at hj
      simp only [q, if_false]
      rw [List.getElem?_append_left (by omega)]
      exact (f0 j kj hj).move l.g fun a ha u hu => by
        obtain ⟨u', hu', nt⟩ := (f0 j kj hj).thereN a ha
        rw [hu] at hu'
        cases hu'
        exact l.keep a u (fun z => z) nt hu
theorem Sts.push {p : Addr} {vs : List V} {ds : List PyData} (S : Sts K W ks σ G H) (l : Lp G H G2 H2) (np : H p = none) (gp : G2 p = none) (hp : H2 p = some (.lst vs)) (r : DpAll K G2 vs ds) :
    Sts K W (ks ++ [.own ds]) (σ ++ [some (.ref p)]) G2 H2 := S.pushL (l.le S.le.tb) np gp hp r
/-- the slot more taken away again, what it held told -/
theorem Sts.pop {a : Addr} {ds : List PyData} (S : Sts K W (ks ++ [.own ds]) (σ ++ [some (.ref a)]) G H) : Sts K W ks σ G H ∧ G a = none ∧ W.H a = none ∧ ∃ vs, H a = some (.lst vs) ∧ DpAll K G vs ds ∧
    ∃ ow, Ow W ks G ow ∧ (∀ i k, ks[i]? = some k → Sl K G H k ((σ[i]?).getD none) (ow i)) ∧ ∀ j, a ∉ ow j := by
  obtain ⟨le, len, ow, o, f⟩ := S
  have len' : σ.length = ks.length := by simpa using len
  have z := f ks.length (.own ds) (by simp)
  rw [List.getElem?_append_right (by omega), len', Nat.sub_self] at z
  obtain ⟨a', vs, e1, e2, e3, e4⟩ := z
  cases e1
  obtain ⟨m1, m2⟩ := o.mine ks.length a (by rw [e2]; simp)
  have m2 : W.H a = none := by
    rcases m2 with m2 | ⟨_, r, m2, m3⟩
    · exact m2
    · simp at m2
      subst m2
      cases m3
  have O : Ow W ks G (fun j => if j < ks.length then ow j else []) := by
    refine ⟨fun i j b h h' => ?_, fun i b h => ?_, fun i hi => by rw [if_neg (by omega)]⟩
    · by_cases q : i < ks.length <;> by_cases q' : j < ks.length <;> simp only [q, q', if_true, if_false] at h h' <;> first | exact o.dis i j b h h' | cases h | cases h'
    · by_cases q : i < ks.length
      · simp only [q, if_true] at h
        obtain ⟨b1, c⟩ := o.mine i b h
        refine ⟨b1, ?_⟩
        rcases c with c | ⟨c, r, e⟩
        · exact .inl c
        · refine .inr ⟨c, r, ?_, e.2⟩
          have e := e.1
          rw [List.getElem?_append_left q] at e; exact e
      · simp only [q, if_false] at h; cases h
  have Fs : ∀ i k, ks[i]? = some k → Sl K G H k ((σ[i]?).getD none) (if i < ks.length then ow i else []) := fun i k hk => by
    have hi := (List.getElem?_eq_some_iff.mp hk).1
    rw [if_pos hi]
    have q := f i k (by rw [List.getElem?_append_left hi]; exact hk)
    rw [List.getElem?_append_left (by omega)] at q
    exact q
  refine ⟨⟨le, len', _, O, Fs⟩, m1, m2, vs, e3, e4, _, O, Fs, fun j h => ?_⟩
  by_cases q : j < ks.length
  · simp only [q, if_true] at h
    have := o.dis j ks.length a h (by rw [e2]; simp)
    omega
  · simp only [q, if_false] at h; cases h
/-- what is ours becomes what stays -/
theorem Sts.freeze {a : Addr} {o : HO} {ow : Nat → List Addr} (le : Le W G H) (len : σ.length = ks.length) (ow1 : Ow W ks G ow) (f : ∀ i k, ks[i]? = some k → Sl K G H k ((σ[i]?).getD none) (ow i)) (no : ∀ j, a ∉ ow j)
    (ga : G a = none) (wa : W.H a = none) (ha : H a = some o) (pl : Pl o) : Sts K W ks σ (upd G a o) H ∧ Same G (upd G a o) := by
  have gg : Same G (upd G a o) := fun b u e => by
    have : b ≠ a := fun z => by rw [z, ga] at e; cases e
    rw [upd_ne this]; exact e
  refine ⟨⟨⟨le.g.trans gg, fun b u e => ?_, le.keep, le.there, fun b u e1 e2 => ?_, le.m, le.tb.updG ha pl⟩, len, ow, ⟨ow1.dis, fun i b hb => ?_, ow1.out⟩, fun i k hk => (f i k hk).move gg fun _ _ _ e => e⟩, gg⟩
  · by_cases q : b = a
    · subst q; rw [upd_same] at e; cases e; exact ha
    · rw [upd_ne q] at e; exact le.gh b u e
  · have : b ≠ a := fun z => by rw [z, wa] at e2; cases e2
    rw [upd_ne this]; exact le.fz b u e1 e2
  · have : b ≠ a := fun z => no i (z ▸ hb)
    rw [upd_ne this]; exact ow1.mine i b hb
theorem Sts.popFreeze {a : Addr} {ds : List PyData} (S : Sts K W (ks ++ [.own ds]) (σ ++ [some (.ref a)]) G H) : ∃ G2, Sts K W ks σ G2 H ∧ Same G G2 ∧ Dp K G2 (.ref a) (.list ds) := by
  obtain ⟨S1, g, w, vs, ha, r, ow, o, f, no⟩ := S.pop
  obtain ⟨S2, gg⟩ := Sts.freeze S1.le S1.len o f no g w ha pl_lst
  exact ⟨_, S2, gg, .lst (SqL.of upd_same) (DpAll.mono gg r)⟩
/-- the slot more goes to slot i -/
theorem Sts.popTo {i : Nat} {a : Addr} {ds : List PyData} (S : Sts K W (ks ++ [.own ds]) (σ ++ [some (.ref a)]) G H) (hi : i < ks.length) : Sts K W (ks.set i (.own ds)) (σ.set i (some (.ref a))) G H := by
  obtain ⟨S1, g, w, vs, ha, r, ow, o, f, no⟩ := S.pop
  refine ⟨S1.le, by simp [S1.len], fun j => if j = i then [a] else ow j, ⟨fun j j' b h h' => ?_, fun j b h => ?_, fun j hj => ?_⟩, fun j kj hj => ?_⟩
  · by_cases q : j = i <;> by_cases q' : j' = i
    · rw [q, q']
    · simp only [q, if_true, q', if_false] at h h'
      simp at h; subst h; exact (no j' h').elim
    · simp only [q, if_false, q', if_true] at h h'
      simp at h'; subst h'; exact (no j h).elim
    · simp only [q, q', if_false] at h h'
      exact o.dis j j' b h h'
  · by_cases q : j = i
    · simp only [q, if_true] at h
      simp at h; subst h
      exact ⟨g, .inl w⟩
    · simp only [q, if_false] at h
      obtain ⟨b1, c⟩ := o.mine j b h
      refine ⟨b1, ?_⟩
      rcases c with c | ⟨c, r, e⟩
      · exact .inl c
      · exact .inr ⟨c, r, by rw [List.getElem?_set_ne (Ne.symm q)]; exact e.1, e.2⟩
  · have : j ≠ i := by simp at hj; omega
    simp only [this, if_false]
    exact o.out j (by simpa using hj)
  · by_cases q : j = i
    · subst q
      rw [List.getElem?_set_self hi] at hj
      cases hj
      simp only [if_true]
      rw [List.getElem?_set_self (by rw [S1.len]; exact hi)]
      exact ⟨a, vs, rfl, rfl, ha, r⟩
    · rw [List.getElem?_set_ne (Ne.symm q)] at hj
      simp only [q, if_false]
      rw [List.getElem?_set_ne (Ne.symm q)]
      exact f j kj hj
/-- a slot of our own list -/
theorem Sts.ownAt {i : Nat} {ds : List PyData} (S : Sts K W ks σ G H) (h : ks[i]? = some (.own ds)) : ∃ a vs, σ[i]? = some (some (.ref a)) ∧ H a = some (.lst vs) ∧ DpAll K G vs ds ∧ G a = none ∧ W.H a = none ∧
    ∃ ow, Ow W ks G ow ∧ (∀ i k, ks[i]? = some k → Sl K G H k ((σ[i]?).getD none) (ow i)) ∧ ow i = [a] ∧ ∀ j, j ≠ i → a ∉ ow j := by
  obtain ⟨le, len, ow, o, f⟩ := S
  obtain ⟨a, vs, e1, e2, e3, e4⟩ := f i _ h
  have hi : i < σ.length := by rw [len]; exact (List.getElem?_eq_some_iff.mp h).1
  obtain ⟨m1, m2⟩ := o.mine i a (by rw [e2]; simp)
  have m2 : W.H a = none := by
    rcases m2 with m2 | ⟨_, r, m2, m3⟩
    · exact m2
    · rw [h] at m2; cases m2; cases m3
  refine ⟨a, vs, ?_, e3, e4, m1, m2, ow, o, f, e2, fun j hj ha => hj (o.dis j i a ha (by rw [e2]; simp))⟩
  rw [List.getElem?_eq_getElem hi] at e1 ⊢
  simpa using e1
/-- slot i's own list is changed -/
theorem Sts.mutOwn {i : Nat} {a : Addr} {vs us : List V} {ds es : List PyData} (S : Sts K W ks σ G H) (h : ks[i]? = some (.own ds)) (ha : σ[i]? = some (some (.ref a))) (r : DpAll K G us es) : Sts K W (ks.set i (.own es)) σ G (upd H a (.lst us)) := by
  obtain ⟨a', vs', e1, e2, e3, e4, e5, ow, o, f, e6, e7⟩ := S.ownAt h
  rw [ha] at e1
  cases e1
  have hi := (List.getElem?_eq_some_iff.mp h).1
  have hσ : σ.set i (some (.ref a)) = σ := by
    apply List.ext_getElem?
    intro j
    by_cases q : j = i
    · subst q; rw [List.getElem?_set_self (by rw [S.len]; exact hi), ha]
    · rw [List.getElem?_set_ne (Ne.symm q)]
  rw [← hσ]
  refine S.put hi (S.le.upd ⟨_, e2⟩ (fun u e => by rw [e2] at e; cases e; exact pl_lst) e4 (.inl e5)) (Same.refl G) (fun _ _ e _ => e) fun ow' o' f' => ⟨fun j b hj hb u hu => ?_, [a], ⟨a, us, rfl, rfl, upd_same, r⟩, fun b hb => ?_⟩
  · obtain ⟨a2, vs2, q1, q2, q3, q4⟩ := f' i _ h
    rw [ha] at q1
    cases q1
    have : b ≠ a := fun z => hj (o'.dis j i b hb (by rw [q2, z]; simp))
    rw [upd_ne this]; exact hu
  · simp at hb; subst hb
    refine ⟨fun j hj hb => ?_, e4, .inl e5⟩
    obtain ⟨a2, vs2, q1, q2, q3, q4⟩ := f' i _ h
    rw [ha] at q1
    cases q1
    exact hj (o'.dis j i b hb (by rw [q2]; simp))
/-- weaker -/
def Wk : List SK → List SK → Prop
  | [], [] => True
  | a :: as, b :: bs => (b = .no ∨ a = b) ∧ Wk as bs
  | _, _ => False
theorem Wk.len : ∀ {ks ls : List SK}, Wk ks ls → ks.length = ls.length
  | [], [], _ => rfl
  | _ :: _, _ :: _, h => congrArg (· + 1) (Wk.len h.2)
theorem Wk.at : ∀ {ks ls : List SK} {i : Nat} {k : SK}, Wk ks ls → ls[i]? = some k → k = .no ∨ ks[i]? = some k
  | [], [], _, _, _, e => by simp at e
  | a :: as, b :: bs, 0, k, h, e => by
    simp at e; subst e
    rcases h.1 with q | q
    · exact .inl q
    · exact .inr (by simp [q])
  | a :: as, b :: bs, i + 1, k, h, e => by
    have := Wk.at (i := i) h.2 (by simpa using e)
    simpa using this
theorem Wk.rfl' : ∀ {ks : List SK}, Wk ks ks
  | [] => trivial
  | _ :: _ => ⟨.inr rfl, Wk.rfl'⟩
theorem Sts.weak {ls : List SK} (S : Sts K W ks σ G H) (h : Wk ks ls) : Sts K W ls σ G H := by
  obtain ⟨le, len, ow, o, f⟩ := S
  have hl := h.len
  classical
  refine ⟨le, by omega, fun j => if ls[j]? = some .no ∨ ls.length ≤ j then [] else ow j, ⟨fun i j a ha hb => ?_, fun i a ha => ?_, fun i hi => ?_⟩, fun i k hk => ?_⟩
  · by_cases q : ls[i]? = some .no ∨ ls.length ≤ i
    · simp only [q, if_true] at ha; cases ha
    · by_cases q' : ls[j]? = some .no ∨ ls.length ≤ j
      · simp only [q', if_true] at hb; cases hb
      · simp only [q, q', if_false] at ha hb
        exact o.dis i j a ha hb
  · by_cases q : ls[i]? = some .no ∨ ls.length ≤ i
    · simp only [q, if_true] at ha; cases ha
    · simp only [q, if_false] at ha
      obtain ⟨b, c⟩ := o.mine i a ha
      refine ⟨b, ?_⟩
      rcases c with c | ⟨c, r, e⟩
      · exact .inl c
      · refine .inr ⟨c, r, ?_, e.2⟩
        have e := e.1
        have hi : i < ls.length := by omega
        have e' : ls[i]? = some ls[i] := by simp [hi]
        rcases h.at e' with z | z
        · exact (q (.inl (by rw [e', z]))).elim
        · rw [e', ← z, e]
  · simp only [hi, or_true, if_true]
  · rcases h.at hk with z | z
    · subst z
      simp only [hk, true_or, if_true]
      exact (show ([] : List Addr) = [] from rfl)
    · by_cases q : k = .no
      · subst q
        simp only [hk, true_or, if_true]
        exact (show ([] : List Addr) = [] from rfl)
      · have : ¬ (ls[i]? = some .no ∨ ls.length ≤ i) := by
          have hi := (List.getElem?_eq_some_iff.mp hk).1
          rintro (e | e)
          · rw [hk] at e; exact q (Option.some.inj e)
          · omega
        simp only [this, if_false]
        exact f i k z
end
end Z
namespace Z
open PySem PySem.Spec L2
variable [Tabl]
section
variable {P : Program} {w : World} {K : PySem.W.Frag} {mg : Str → Option Value} {base : Heap} {T : Sta} {k : Nat} {X : Cx} {ks k1 k2 k3 : List SK} {a b e : Expr} {es : List Expr} {d da db : PyData} {ds : List PyData} {pos : Pos}
/-! ### new lists -/
theorem el_lst (h : AD X ks es k1 ds) (hl : ds.length ≤ sizeLine) : EL X ks (.List es pos) k1 ds := fun W σ G H S Q q =>
  ev_of (pe_lst pa_av) (h W σ G H S _ fun vs G1 H1 S1 g1 r1 => ⟨by rw [r1.len]; exact hl, fun p np => by
    have gp : G1 p = none := by
      cases e : G1 p with
      | none => rfl
      | some u => rw [S1.gh p u e] at np; cases np
    have l := Lp.newOwn (o := .lst vs) S1.gh np
    exact q p G1 _ (S1.push l np gp upd_same r1) g1⟩)
theorem ed_el (h : EL X ks e k1 ds) : ED X ks e k1 (.list ds) := fun W σ G H S Q q => h W σ G H S Q fun a G2 H2 S2 g => by
  obtain ⟨G3, S3, g3, r⟩ := S2.popFreeze
  exact q _ G3 H2 S3 (g.trans g3) r
/-! ### built-ins by their name -/
structure CallD (X : Cx) (f : Value) (ds : List PyData) (d : PyData) : Prop where
  out : ∃ r, CallR X f r ∧ ∀ G H vs, Same G H → DpAll X.K G vs ds → ∀ Q : VK, (∀ v G2 H2, Lp G H G2 H2 → Dp X.K G2 v d → Q v H2) → r vs H Q
structure CallL (X : Cx) (f : Value) (ds : List PyData) (es : List PyData) : Prop where
  out : ∃ r, CallR X f r ∧ ∀ G H vs, Same G H → DpAll X.K G vs ds → ∀ Q : VK, (∀ p us G2 H2, Lp G H G2 H2 → H p = none → G2 p = none → H2 p = some (.lst us) → DpAll X.K G2 us es → Q (.ref p) H2) → r vs H Q
section
variable {x : Str} {p : Pos} {id : String}
theorem ed_callB (c : CtxB cq P w K mg base T k X) (hg : T.sc.names.lookup x = some .globalImplicit) (hm : mg x = none) (hv : bootBuiltins x = some (.builtin id)) (ha : AD X ks (e :: es) k1 ds) (h : CallD X (.builtin id) ds d) (hn : x ≠ "__name__") (hdb : (x == ("__debug__" : Str)) = false)
    (he : starEach (e :: es) X.env = (false, eval e X.env) :: starEach es X.env) (hpl : (backTo pos (starEach es X.env)).any (·.1) = false) : ED X ks (.Call (.Name x p) (e :: es) [] pos) k1 d := by
  obtain ⟨r, hc, hr⟩ := h.out
  intro W σ G H S Q q
  exact ev_of (pe_callB hc (gl_of c hg) (by rw [c.hmg]; exact hm) hv pa_av hn hdb he hpl) (ha W σ G H S _ fun vs G1 H1 S1 g1 r1 => hr G1 H1 vs S1.gh r1 Q fun v G2 H2 l r2 => q v G2 H2 (S1.pure l) (g1.trans l.g) r2)
theorem ed_callT (c : CtxB cq P w K mg base T k X) (hg : T.sc.names.lookup x = some .globalImplicit) (hm : mg x = none) (hv : bootBuiltins x = some (.type id)) (ha : AD X ks (e :: es) k1 ds) (h : CallD X (.type id) ds d) (hn : x ≠ "__name__") (hdb : (x == ("__debug__" : Str)) = false)
    (he : starEach (e :: es) X.env = (false, eval e X.env) :: starEach es X.env) (hpl : (backTo pos (starEach es X.env)).any (·.1) = false) : ED X ks (.Call (.Name x p) (e :: es) [] pos) k1 d := by
  obtain ⟨r, hc, hr⟩ := h.out
  intro W σ G H S Q q
  exact ev_of (pe_callTy hc (gl_of c hg) (by rw [c.hmg]; exact hm) hv pa_av hn hdb he hpl) (ha W σ G H S _ fun vs G1 H1 S1 g1 r1 => hr G1 H1 vs S1.gh r1 Q fun v G2 H2 l r2 => q v G2 H2 (S1.pure l) (g1.trans l.g) r2)
theorem el_callT (c : Ctx P w K mg base T k X) (hg : T.sc.names.lookup x = some .globalImplicit) (hm : mg x = none) (hv : bootBuiltins x = some (.type id)) (ha : AD X ks (e :: es) k1 ds) {ls : List PyData} (h : CallL X (.type id) ds ls) (hn : x ≠ "__name__") (hdb : (x == ("__debug__" : Str)) = false)
    (he : starEach (e :: es) X.env = (false, eval e X.env) :: starEach es X.env) (hpl : (backTo pos (starEach es X.env)).any (·.1) = false) : EL X ks (.Call (.Name x p) (e :: es) [] pos) k1 ls := by
  obtain ⟨r, hc, hr⟩ := h.out
  intro W σ G H S Q q
  exact ev_of (pe_callTy hc (gl_of c hg) (by rw [c.hmg]; exact hm) hv pa_av hn hdb he hpl) (ha W σ G H S _ fun vs G1 H1 S1 g1 r1 => hr G1 H1 vs S1.gh r1 Q fun p us G2 H2 l np gp hp r2 => q p G2 H2 (S1.push l np gp hp r2) (g1.trans l.g))
theorem DpAll.one {G : Hp} {vs : List V} (h : DpAll K G vs [d]) : ∃ v, vs = [v] ∧ Dp K G v d := by
  cases h with | cons a b => cases b; exact ⟨_, rfl, a⟩
theorem DpAll.two {G : Hp} {vs : List V} (h : DpAll K G vs [da, db]) : ∃ v u, vs = [v, u] ∧ Dp K G v da ∧ Dp K G u db := by
  cases h with | cons a b => cases b with | cons b c => cases c; exact ⟨_, _, rfl, a, b⟩
theorem cl_lenL {xs : List PyData} : CallD X (.builtin "len") [.list xs] (.int xs.length) := ⟨_, call_len_seq, fun G H vs g r Q q => by
  obtain ⟨v, rfl, r1⟩ := DpAll.one r
  obtain ⟨p, us, rfl, sp, ap⟩ := r1.lst_inv
  exact ⟨p, us, rfl, .inl (g.seq sp), by rw [ap.len]; exact q _ G H (Lp.refl g) (.int _)⟩⟩
theorem cl_lenT {xs : List PyData} : CallD X (.builtin "len") [.tuple xs] (.int xs.length) := ⟨_, call_len_seq, fun G H vs g r Q q => by
  obtain ⟨v, rfl, r1⟩ := DpAll.one r
  obtain ⟨p, us, rfl, sp, ap⟩ := r1.tup_inv
  exact ⟨p, us, rfl, .inr (Same.seqT g sp), by rw [ap.len]; exact q _ G H (Lp.refl g) (.int _)⟩⟩
theorem cl_max2 (hc : X.calm = true) {i j : Int} : CallD X (.builtin "max") [.int i, .int j] (.int (max i j)) := ⟨_, call_max2 hc, fun G H vs g r Q q => by
  obtain ⟨v, u, rfl, r1, r2⟩ := DpAll.two r
  rw [r1.int_inv, r2.int_inv]
  have e : (if j > i then j else i) = max i j := by
    split <;> omega
  exact ⟨i, j, rfl, by rw [e]; exact q _ G H (Lp.refl g) (.int _)⟩⟩
theorem cl_min2 (hc : X.calm = true) {i j : Int} : CallD X (.builtin "min") [.int i, .int j] (.int (min i j)) := ⟨_, call_min2 hc, fun G H vs g r Q q => by
  obtain ⟨v, u, rfl, r1, r2⟩ := DpAll.two r
  rw [r1.int_inv, r2.int_inv]
  have e : (if j < i then j else i) = min i j := by
    split <;> omega
  exact ⟨i, j, rfl, by rw [e]; exact q _ G H (Lp.refl g) (.int _)⟩⟩
theorem cl_intB {x : Bool} : CallD X (.type "int") [.bool x] (.int (if x then 1 else 0)) := ⟨_, call_int1, fun G H vs g r Q q => by
  obtain ⟨v, rfl, r1⟩ := DpAll.one r
  rw [r1.bl_inv]
  exact .inr ⟨x, rfl, q _ G H (Lp.refl g) (.int _)⟩⟩
theorem cl_tupL {xs : List PyData} : CallD X (.type "tuple") [.list xs] (.tuple xs) := ⟨_, call_tuple_of, fun G H vs g r Q q => by
  obtain ⟨v, rfl, r1⟩ := DpAll.one r
  obtain ⟨p, us, rfl, sp, ap⟩ := r1.lst_inv
  refine ⟨p, us, rfl, .inl ⟨g.seq sp, fun l nl => ?_⟩⟩
  have le := Lp.new (o := .tup us) g nl
  exact q _ _ _ le (.tup (SqT.of upd_same) (DpAll.mono le.g ap))⟩
theorem cl_lstL {xs : List PyData} : CallL X (.type "list") [.list xs] xs := ⟨_, call_list_of, fun G H vs g r Q q => by
  obtain ⟨v, rfl, r1⟩ := DpAll.one r
  obtain ⟨p, us, rfl, sp, ap⟩ := r1.lst_inv
  refine ⟨p, us, rfl, .inl (g.seq sp), fun l nl => ?_⟩
  have gl : G l = none := by
    cases e : G l with
    | none => rfl
    | some u => rw [g l u e] at nl; cases nl
  exact q l us G _ (Lp.newOwn g nl) nl gl upd_same ap⟩
theorem cl_lstT {xs : List PyData} : CallL X (.type "list") [.tuple xs] xs := ⟨_, call_list_of, fun G H vs g r Q q => by
  obtain ⟨v, rfl, r1⟩ := DpAll.one r
  obtain ⟨p, us, rfl, sp, ap⟩ := r1.tup_inv
  refine ⟨p, us, rfl, .inr (Same.seqT g sp), fun l nl => ?_⟩
  have gl : G l = none := by
    cases e : G l with
    | none => rfl
    | some u => rw [g l u e] at nl; cases nl
  exact q l us G _ (Lp.newOwn g nl) nl gl upd_same ap⟩
end
/-! ### a list of our own that is read where it stands -/
theorem own_ix (c : CtxB cq P w K mg base T k X) (i : Nat) {x : Str} {p : Pos} {ds : List PyData} {j : Int} (hN : T.N[i]? = some x) (hv : Vis T.sc x) (hb : ED X ks b k1 (.int j)) (hk : k1[i]? = some (.own ds)) (hi : atI ds j = some d) (hs : PlainIx b) (hk0 : ks[i]? = some (.own ds))
    (hd : (x == ("__debug__" : Str)) = false) (hcd : (x == ("__classdict__" : Str)) = false) : ED X ks (.Subscript (.Name x p) b pos) k1 d := fun W σ G H S Q q => by
  obtain ⟨a0, vs0, e0, h0, r0, g0, w0, _⟩ := S.ownAt hk0
  refine ev_of (pe_ix ix_list (pe_var (ix_of c hN) (vis_of c hv) hd hcd) pe_ev hs) ?_
  refine ⟨.ref a0, e0, ?_⟩
  refine hb W σ G H S _ fun v G1 H1 S1 g1 r1 => ?_
  obtain ⟨a, vs, e1, h1, r, g2, w1, _⟩ := S1.ownAt hk
  rw [e0] at e1
  cases e1
  rw [r1.int_inv]
  obtain ⟨j', q1, q2, q3, q4, q5⟩ := atI_get hi
  obtain ⟨v, hv', rv⟩ := r.get q2
  refine ⟨a0, vs, j, v, rfl, rfl, SqL.of h1, ?_, q v G1 H1 S1 g1 rv⟩
  unfold atI at hi ⊢
  rw [r.len]
  cases e : ixN ds.length j with
  | none => rw [e] at hi; cases hi
  | some j2 =>
    rw [e] at hi
    have hj := (ixN_seq e).1
    rw [hj] at q1
    cases q1
    exact hv'
/-! ### calls of defs -/
/-- what a def promises of data: no change of what stood -/
def spP (K : PySem.W.Frag) (R : List PyData → PyData → Prop) : Sp := fun vs H Q _ => ∃ G ds d, Same G H ∧ TbO G H ∧ DpAll K G vs ds ∧ R ds d ∧ ∀ v G2 H2, Le (pur G H) G2 H2 → Dp K G2 v d → Q v H2
/-- .. a new list -/
def spL (K : PySem.W.Frag) (R : List PyData → List PyData → Prop) : Sp := fun vs H Q _ => ∃ G ds es, Same G H ∧ TbO G H ∧ DpAll K G vs ds ∧ R ds es ∧
  ∀ p us G2 H2, Le (pur G H) G2 H2 → H p = none → G2 p = none → H2 p = some (.lst us) → DpAll K G2 us es → Q (.ref p) H2
def RngAt (H : Hp) (a b : Addr) (r : Rg) : Prop := H a = some (.lst [.int r.s, .ref b, .int r.k]) ∧ H b = some (.lst (r.c.map V.int)) ∧ a ≠ b
/-- .. that draws -/
def spR (K : PySem.W.Frag) (R : Rg → List PyData → Rg → PyData → Prop) : Sp := fun vs H Q _ => ∃ G a b us r ds r2 d, vs = .ref a :: us ∧ Same G H ∧ TbO G H ∧ RngAt H a b r ∧ G a = none ∧ G b = none ∧ DpAll K G us ds ∧ R r ds r2 d ∧
  ∀ v G2 H2, Le ⟨G, H, fun x => x = a ∨ x = b⟩ G2 H2 → RngAt H2 a b r2 → Dp K G2 v d → Q v H2
/-- a def of the module that keeps a promise -/
structure FnG (P : Program) (w : World) (K : PySem.W.Frag) (mg : Str → Option Value) (base : Heap) (x : Str) (ps : List Str) (j : Nat) (sp : Sp) : Prop where
  ex : ∃ f fd, FnOk P w K mg base CX0 j f fd ps sp ∧ mg x = some (.ref f) ∧ PySem.W.keepIn K (.ref f) = true ∧ Binds K fd ps []
theorem FnG.mono {x : Str} {ps : List Str} {j j' : Nat} {sp : Sp} (F : FnG P w K mg base x ps j sp) (h : j ≤ j') : FnG P w K mg base x ps j' sp := by
  obtain ⟨f, fd, a, b⟩ := F.ex
  exact ⟨f, fd, a.mono h, b⟩
section
variable {x : Str} {p : Pos} {ps : List Str} {j : Nat}
theorem fn_run (c : Ctx P w K mg base T k X) {sp : Sp} (F : FnG P w K mg base x ps j sp) (hj : j ≤ k) (hg : T.sc.names.lookup x = some .globalImplicit) (hdb : (x == ("__debug__" : Str)) = false)
    (he : starEach (e :: es) X.env = (false, eval e X.env) :: starEach es X.env) (hpl : (backTo pos (starEach es X.env)).any (·.1) = false) {t : TA} (ha : PA X (e :: es) t) : PE X (.Call (.Name x p) (e :: es) [] pos) (tCall sp [] E0 t) := by
  obtain ⟨f, fd, F, hm, hk, hb⟩ := F.ex
  have h1 := c.hP
  have h2 := c.hw
  have h3 := c.hK
  have h4 := c.hmg
  have h5 := c.hbase
  subst h1 h2 h3 h4 h5
  exact pe_call F (c.room.mono hj) (gl_of c hg) hm hk hb .nil pass0 ha hdb he hpl
theorem ed_call (c : Ctx P w K mg base T k X) {R : List PyData → PyData → Prop} (F : FnG P w K mg base x ps j (spP K R)) (hj : j ≤ k) (hg : T.sc.names.lookup x = some .globalImplicit) (ha : AD X ks (e :: es) k1 ds) (hR : R ds d) (hdb : (x == ("__debug__" : Str)) = false)
    (he : starEach (e :: es) X.env = (false, eval e X.env) :: starEach es X.env) (hpl : (backTo pos (starEach es X.env)).any (·.1) = false) : ED X ks (.Call (.Name x p) (e :: es) [] pos) k1 d := fun W σ G H S Q q => by
  have hK := c.hK
  refine ev_of (fn_run c F hj hg hdb he hpl pa_av) (ha W σ G H S _ fun vs G1 H1 S1 g1 r1 => ?_)
  show spP K R (vs ++ []) H1 Q E0
  rw [List.append_nil]
  rw [hK] at r1
  exact ⟨G1, ds, d, S1.gh, S1.le.tb, r1, hR, fun v G2 H2 l r2 => q v G2 H2 (S1.step l) (g1.trans l.g) (by rw [hK]; exact r2)⟩
theorem el_call (c : Ctx P w K mg base T k X) {R : List PyData → List PyData → Prop} (F : FnG P w K mg base x ps j (spL K R)) (hj : j ≤ k) (hg : T.sc.names.lookup x = some .globalImplicit) (ha : AD X ks (e :: es) k1 ds) {ls : List PyData} (hR : R ds ls) (hdb : (x == ("__debug__" : Str)) = false)
    (he : starEach (e :: es) X.env = (false, eval e X.env) :: starEach es X.env) (hpl : (backTo pos (starEach es X.env)).any (·.1) = false) : EL X ks (.Call (.Name x p) (e :: es) [] pos) k1 ls := fun W σ G H S Q q => by
  have hK := c.hK
  refine ev_of (fn_run c F hj hg hdb he hpl pa_av) (ha W σ G H S _ fun vs G1 H1 S1 g1 r1 => ?_)
  show spL K R (vs ++ []) H1 Q E0
  rw [List.append_nil]
  rw [hK] at r1
  exact ⟨G1, ds, ls, S1.gh, S1.le.tb, r1, hR, fun p us G2 H2 l np gp hp r2 => q p G2 H2 (S1.pushL l np gp hp (by rw [hK]; exact r2)) (g1.trans l.g)⟩
theorem Sts.rngAt {W : Wd} {σ : St} {G H : Hp} {i : Nat} {a b : Addr} {r : Rg} (S : Sts K W ks σ G H) (h : ks[i]? = some (.rng a b r)) : σ[i]? = some (some (.ref a)) ∧ RngAt H a b r ∧ G a = none ∧ G b = none ∧ (W.H a = none ∨ W.M a) ∧ (W.H b = none ∨ W.M b) ∧
    ∃ ow, Ow W ks G ow ∧ (∀ i k, ks[i]? = some k → Sl K G H k ((σ[i]?).getD none) (ow i)) ∧ ow i = [a, b] := by
  obtain ⟨le, len, ow, o, f⟩ := S
  obtain ⟨e1, e2, e3, e4, e5⟩ := f i _ h
  have hi : i < σ.length := by rw [len]; exact (List.getElem?_eq_some_iff.mp h).1
  have m1 := o.mine i a (by rw [e2]; simp)
  have m2 := o.mine i b (by rw [e2]; simp)
  refine ⟨?_, ⟨e3, e4, e5⟩, m1.1, m2.1, m1.2.imp id (·.1), m2.2.imp id (·.1), ow, o, f, e2⟩
  rw [List.getElem?_eq_getElem hi] at e1 ⊢
  simpa using e1
/-- behind a call that draws -/
theorem Sts.rngStep {W : Wd} {σ : St} {G H G2 H2 : Hp} {i : Nat} {r r2 : Rg} {a b : Addr} (S : Sts K W ks σ G H) (h : ks[i]? = some (.rng a b r)) (l : Le ⟨G, H, fun x => x = a ∨ x = b⟩ G2 H2) (hr2 : RngAt H2 a b r2) :
    Sts K W (ks.set i (.rng a b r2)) σ G2 H2 := by
  obtain ⟨ha, hr, e3, e4, e5, e6, ow, o, f, e7⟩ := S.rngAt h
  have hi := (List.getElem?_eq_some_iff.mp h).1
  have hσ : σ.set i (some (.ref a)) = σ := by
    apply List.ext_getElem?
    intro j
    by_cases q : j = i
    · subst q; rw [List.getElem?_set_self (by rw [S.len]; exact hi), ha]
    · rw [List.getElem?_set_ne (Ne.symm q)]
  have nab : ∀ x u, ¬ W.M x → W.H x = some u → ¬ (x = a ∨ x = b) := fun x u hm hx => by
    rintro (z | z) <;> subst z
    · rcases e5 with e5 | e5
      · rw [hx] at e5; cases e5
      · exact hm e5
    · rcases e6 with e6 | e6
      · rw [hx] at e6; cases e6
      · exact hm e6
  have le : Le W G2 H2 := ⟨S.le.g.trans l.g, l.gh, fun x u hm nt hx => l.keep x u (nab x u hm hx) nt (S.le.keep x u hm nt hx), fun x u hx => by
    obtain ⟨u', hu⟩ := S.le.there x u hx
    exact l.there x u' hu, fun x u h1 h2 => by
    obtain ⟨u', hu⟩ := S.le.there x u h2
    exact l.fz x u' (S.le.fz x u h1 h2) hu, S.le.m, l.tb⟩
  rw [← hσ]
  refine S.put hi le l.g (fun x u h1 h2 => l.fz x u h1 h2) fun ow' o' f' => ?_
  obtain ⟨q1, q2, q3, q4, q5⟩ := f' i _ h
  refine ⟨fun j x hj hx u hu => by
    obtain ⟨u', hu', nt⟩ := o'.liveN f' j x hx
    rw [hu] at hu'
    cases hu'
    refine l.keep x u ?_ nt hu
    rintro (z | z) <;> subst z
    · exact hj (o'.dis j i _ hx (by rw [q2]; simp))
    · exact hj (o'.dis j i _ hx (by rw [q2]; simp)), [a, b], ⟨rfl, rfl, hr2.1, hr2.2.1, hr2.2.2⟩, fun x hx => ⟨fun j hj hx' => ?_, ?_, ?_⟩⟩
  · exact hj (o'.dis j i x hx' (by rw [q2]; exact hx))
  · have : x = a ∨ x = b := by simpa using hx
    rcases this with z | z
    · rw [z]; exact l.fz a _ e3 hr.1
    · rw [z]; exact l.fz b _ e4 hr.2.1
  · have : x = a ∨ x = b := by simpa using hx
    rcases this with z | z
    · subst z; exact e5.imp id fun z => ⟨z, rfl⟩
    · subst z; exact e6.imp id fun z => ⟨z, rfl⟩
theorem ed_callR (c : Ctx P w K mg base T k X) {R : Rg → List PyData → Rg → PyData → Prop} (F : FnG P w K mg base x ps j (spR K R)) (hj : j ≤ k) (hg : T.sc.names.lookup x = some .globalImplicit) (i : Nat) {y : Str} {py : Pos} {r0 r r2 : Rg} {a' b' a0 b0 : Addr} (hN : T.N[i]? = some y) (hv : Vis T.sc y)
    (hk0 : ks[i]? = some (.rng a0 b0 r0)) (ha : AD X ks es k1 ds) (hk : k1[i]? = some (.rng a' b' r)) (hR : R r ds r2 d) (hdb : (x == ("__debug__" : Str)) = false) (hd : (y == ("__debug__" : Str)) = false) (hcd : (y == ("__classdict__" : Str)) = false)
    (he : starEach (.Name y py :: es) X.env = (false, eval (.Name y py) X.env) :: starEach es X.env) (hpl : (backTo pos (starEach es X.env)).any (·.1) = false) : ED X ks (.Call (.Name x p) (.Name y py :: es) [] pos) (k1.set i (.rng a' b' r2)) d := fun W σ G H S Q q => by
  have hK := c.hK
  obtain ⟨e1, _⟩ := S.rngAt hk0
  refine ev_of (fn_run c F hj hg hdb he hpl (pa_cons (pe_var (ix_of c hN) (vis_of c hv) hd hcd) pa_av he)) ?_
  refine ⟨.ref a0, e1, ha W σ G H S _ fun vs G1 H1 S1 g1 r1 => ?_⟩
  obtain ⟨e1', e2, e3, e4, _⟩ := S1.rngAt hk
  rw [e1] at e1'
  cases e1'
  show spR K R (.ref _ :: vs ++ []) H1 Q E0
  rw [List.append_nil]
  rw [hK] at r1
  exact ⟨G1, _, b', vs, r, ds, r2, d, rfl, S1.gh, S1.le.tb, e2, e3, e4, r1, hR, fun v G2 H2 l hr2 r3 => q v G2 H2 (S1.rngStep hk l hr2) (g1.trans l.g) (by rw [hK]; exact r3)⟩
end
end
end Z
namespace Z
open PySem PySem.Spec L2
variable [Tabl]
/-- what is wanted behind statements, by the slots' contents -/
structure Po where
  nx : List SK → Prop
  rt : List SK → PyData → Prop
  rl : List SK → List PyData → Prop := fun _ _ => False
  bk : List SK → Prop := fun _ => False
  ct : List SK → Prop := fun _ => False
  rT : List SK → List PyData → List PyData → List PyData → Prop := fun _ _ _ _ => False
  ex : List SK → Value → List (Str × PyData) → Prop := fun _ _ _ => False
  rc : List SK → SK → Prop := fun _ _ => False
/-- the fields of an exception that stays -/
def ExF (K : PySem.W.Frag) (G : Hp) (d : Option Addr) (fs : List (Str × PyData)) : Prop := match d with
  | none => fs = []
  | some dx => ∃ vs, G dx = some (.xd vs) ∧ FsD K G vs fs
theorem ExF.mono {K : PySem.W.Frag} {G G2 : Hp} {d : Option Addr} {fs : List (Str × PyData)} (e : Same G G2) (h : ExF K G d fs) : ExF K G2 d fs := by
  cases d with
  | none => exact h
  | some dx => obtain ⟨vs, a, b⟩ := h; exact ⟨vs, e _ _ a, FsD.mono e b⟩
structure Mt (X : Cx) (W : Wd) (Φ : Po) (D : Ends) : Prop where
  nx : ∀ ks σ G H, Φ.nx ks → Sts X.K W ks σ G H → D.nx σ H
  bk : ∀ ks σ G H, Φ.bk ks → Sts X.K W ks σ G H → D.bk σ H
  ct : ∀ ks σ G H, Φ.ct ks → Sts X.K W ks σ G H → D.ct σ H
  rt : ∀ ks σ G H v d, Φ.rt ks d → Sts X.K W ks σ G H → Dp X.K G v d → D.rt v H
  rl : ∀ ks σ G H a ds, Φ.rl ks ds → Sts X.K W (ks ++ [.own ds]) (σ ++ [some (.ref a)]) G H → D.rt (.ref a) H
  rT : ∀ ks σ G H a ds es fs, Φ.rT ks ds es fs → Sts X.K W (ks ++ [.tlo ds es fs]) (σ ++ [some (.ref a)]) G H → D.rt (.ref a) H
  ex : (∃ Wx : WX, Takes X Wx ∧ ∀ ks σ G H cls d fs, Φ.ex ks cls fs → Sts X.K W ks σ G H → ExF X.K G d fs → Wx cls d σ H) ∧ ∀ ks σ G H v k, Φ.rc ks k → Sts X.K W (ks ++ [k]) (σ ++ [some v]) G H → D.rt v H
structure SV (X : Cx) (sts : List Stmt) (D : Ends) (σ : St) (H : Hp) : Prop where
  run : ∀ (pins : List (Addr × Obj)) (s : Shared), Inv X pins σ H s → wpAny (model X.prog X.w) X.A (execs sts X.env) (SP X pins D) X.xe s
theorem pss_sv {X : Cx} {sts : List Stmt} : PSs X sts (SV X sts) := ⟨fun pins s σ H D I h => h.run pins s I⟩
theorem sv_of {X : Cx} {sts : List Stmt} {t : TS} {D : Ends} {σ : St} {H : Hp} (h : PSs X sts t) (q : t D σ H) : SV X sts D σ H := ⟨fun pins s I => h.run pins s σ H D I q⟩
def SD (X : Cx) (ks : List SK) (sts : List Stmt) (Φ : Po) : Prop := ∀ W σ G H D, Sts X.K W ks σ G H → Mt X W Φ D → SV X sts D σ H
section
variable {P : Program} {w : World} {K : PySem.W.Frag} {mg : Str → Option Value} {base : Heap} {T : Sta} {k : Nat} {X : Cx} {ks k1 k2 k3 : List SK} {a b e : Expr} {es : List Expr} {d da db : PyData} {ds : List PyData} {pos p : Pos} {rest body orelse : List Stmt} {Φ : Po}
theorem SD.imp {Ψ : Po} (h : SD X ks rest Φ) (hn : ∀ k, Φ.nx k → Ψ.nx k) (hr : ∀ k d, Φ.rt k d → Ψ.rt k d) (hl : ∀ k d, Φ.rl k d → Ψ.rl k d) (hb : ∀ k, Φ.bk k → Ψ.bk k) (hc : ∀ k, Φ.ct k → Ψ.ct k) (hT : ∀ k d e f, Φ.rT k d e f → Ψ.rT k d e f) (hx : ∀ k c f, Φ.ex k c f → Ψ.ex k c f) (hC : ∀ k s, Φ.rc k s → Ψ.rc k s) : SD X ks rest Ψ := fun W σ G H D S M =>
  h W σ G H D S ⟨fun ks σ G H q => M.nx ks σ G H (hn _ q), fun ks σ G H q => M.bk ks σ G H (hb _ q), fun ks σ G H q => M.ct ks σ G H (hc _ q), fun ks σ G H v d q => M.rt ks σ G H v d (hr _ _ q), fun ks σ G H a ds q => M.rl ks σ G H a ds (hl _ _ q), fun ks σ G H a ds es fs q => M.rT ks σ G H a ds es fs (hT _ _ _ _ q), let ⟨⟨Wx, t, h⟩, h'⟩ := M.ex; ⟨⟨Wx, t, fun ks σ G H c d f q => h ks σ G H c d f (hx _ _ _ q)⟩, fun ks σ G H v k q => h' ks σ G H v k (hC _ _ q)⟩⟩
theorem sd_nil (h : Φ.nx ks) : SD X ks [] Φ := fun W σ G H D S M => sv_of pss_nil (M.nx ks σ G H h S)
theorem sd_weak {ls : List SK} (h : Wk ks ls) (q : SD X ls rest Φ) : SD X ks rest Φ := fun W σ G H D S M => q W σ G H D (S.weak h) M
theorem loc_of (c : CtxB cq P w K mg base T k X) {x : Str} (h : Loc T.sc x) : Loc X.env.scope x := by rw [c.hs]; exact h
theorem fn_of' (c : CtxB cq P w K mg base T k X) {x : Str} (h : T.fn x = true ∨ T.sc.names.lookup x = some .local) : X.fn x = true ∨ X.env.scope.names.lookup x = some .local := by rw [c.fn, c.hs]; exact h
theorem nd_of (c : CtxB cq P w K mg base T k X) : X.N.Nodup := by rw [c.hN]; exact c.nd
section
variable {x : Str} {i : Nat}
theorem sd_asg (c : CtxB cq P w K mg base T k X) (i : Nat) (hi : T.N[i]? = some x) (hx : Loc T.sc x) (hf : T.fn x = true ∨ T.sc.names.lookup x = some .local) (hl : i < k1.length) (h : ED X ks e k1 d) (hs : swapsWith e (some (.Name x p)) pos.line X.env = pure false)
    (q : SD X (k1.set i (.dat d)) rest Φ) : SD X ks (.Assign [.Name x p] e pos :: rest) Φ := fun W σ G H D S M => by
  refine sv_of (pss_cons (ps_set (nd_of c) (ix_of c hi) (loc_of c hx) pe_ev hs (fn_of' c hf)) pss_sv) ?_
  exact h W σ G H S _ fun v G2 H2 S2 g r => q W _ G2 H2 D (S2.setDat hl r) M
theorem sd_asgL (c : CtxB cq P w K mg base T k X) (i : Nat) (hi : T.N[i]? = some x) (hx : Loc T.sc x) (hf : T.fn x = true ∨ T.sc.names.lookup x = some .local) (hl : i < k1.length) (h : EL X ks e k1 ds) (hs : swapsWith e (some (.Name x p)) pos.line X.env = pure false)
    (q : SD X (k1.set i (.own ds)) rest Φ) : SD X ks (.Assign [.Name x p] e pos :: rest) Φ := fun W σ G H D S M => by
  refine sv_of (pss_cons (ps_set (nd_of c) (ix_of c hi) (loc_of c hx) pe_ev hs (fn_of' c hf)) pss_sv) ?_
  exact h W σ G H S _ fun a G2 H2 S2 g => q W _ G2 H2 D (S2.popTo hl) M
end
theorem sd_expr (h : ED X ks e k1 d) (hs : swapsWith e none pos.line X.env = pure false) (q : SD X k1 rest Φ) : SD X ks (.Expr e pos :: rest) Φ := fun W σ G H D S M =>
  sv_of (pss_cons (ps_expr pe_ev hs) pss_sv) (h W σ G H S _ fun v G2 H2 S2 g r => q W σ G2 H2 D S2 M)
theorem sd_ret (h : ED X ks e k1 d) (q : Φ.rt k1 d) : SD X ks (.Return (some e) pos :: rest) Φ := fun W σ G H D S M =>
  sv_of (pss_cons (ps_ret pe_ev) pss_sv) (h W σ G H S _ fun v G2 H2 S2 g r => M.rt k1 σ G2 H2 v d q S2 r)
theorem sd_retL (h : EL X ks e k1 ds) (q : Φ.rl k1 ds) : SD X ks (.Return (some e) pos :: rest) Φ := fun W σ G H D S M =>
  sv_of (pss_cons (ps_ret pe_ev) pss_sv) (h W σ G H S _ fun a G2 H2 S2 g => M.rl k1 σ G2 H2 a ds q S2)
theorem sd_if {t : Expr} {c : Bool} (h : TD X ks t k1 c) (h1 : c = true → SD X k1 body { Φ with nx := fun k => SD X k rest Φ }) (h0 : c = false → SD X k1 orelse { Φ with nx := fun k => SD X k rest Φ }) : SD X ks (.If t body orelse pos :: rest) Φ := fun W σ G H D S M => by
  refine sv_of (pss_cons (ps_if pt_tv pss_sv pss_sv) pss_sv) (h W σ G H S _ fun G2 H2 S2 g => ?_)
  have M' : Mt X W { Φ with nx := fun k => SD X k rest Φ } { D with nx := SV X rest D } := ⟨fun ks σ G H q S => q W σ G H D S M, M.bk, M.ct, M.rt, M.rl, M.rT, M.ex⟩
  cases c with
  | true => exact h1 rfl W σ G2 H2 _ S2 M'
  | false => exact h0 rfl W σ G2 H2 _ S2 M'
/-- an if whose ways end (return) or go on alike -/
theorem sd_ifT {t : Expr} (h : TD X ks t k1 true) (h1 : SD X k1 body { Φ with nx := fun k => SD X k rest Φ }) : SD X ks (.If t body orelse pos :: rest) Φ := sd_if h (fun _ => h1) (fun e => nomatch e)
theorem sd_ifF {t : Expr} (h : TD X ks t k1 false) (h0 : SD X k1 orelse { Φ with nx := fun k => SD X k rest Φ }) : SD X ks (.If t body orelse pos :: rest) Φ := sd_if h (fun e => nomatch e) (fun _ => h0)
/-! ### lists of our own changed -/
theorem sd_append (c : CtxB cq P w K mg base T k X) (i : Nat) {x : Str} {p2 p3 : Pos} (hN : T.N[i]? = some x) (hv : Vis T.sc x) (h : ED X ks e k1 d) (hk : k1[i]? = some (.own ds)) (hk0 : ks[i]? = some (.own da')) (hz : ds.length < sizeLine)
    (q : SD X (k1.set i (.own (ds ++ [d]))) rest Φ) (hd : (x == ("__debug__" : Str)) = false) (hcd : (x == ("__classdict__" : Str)) = false)
    (hs : swapsWith (.Call (.Attribute (.Name x p) "append" p2) [e] [] p3) none pos.line X.env = pure false)
    (he : starEach [e] X.env = (false, eval e X.env) :: starEach [] X.env) (hfew : (((backTo p3 (starEach [e] X.env)).all fun x => !x.fst) && ((backToKw p3 (keywordEach [] X.env)).all fun x => x.fst.isSome) && decide (([e].length + ([] : List Keyword).length + if ([] : List Keyword).isEmpty = true then 0 else 1) < 30)) = true)
    (hline : (p2.endLine == p3.line) = true) : SD X ks (.Expr (.Call (.Attribute (.Name x p) "append" p2) [e] [] p3) pos :: rest) Φ := fun W σ G H D S M => by
  obtain ⟨a0, vs0, e0, h0, r0, g0, w0, _⟩ := S.ownAt hk0
  refine sv_of (pss_cons (ps_expr (pe_bm PySem.F.plainAttrs_list PySem.F.slot_list_append PySem.F.type_list_append mt_append (pe_var (ix_of c hN) (vis_of c hv) hd hcd) (pa_cons pe_ev pa_nil he) (hs := he) (hfew := hfew) (hline := hline)) hs) pss_sv) ?_
  refine ⟨.ref a0, e0, .inl ⟨rfl, _, SqL.of h0⟩, ?_⟩
  refine h W σ G H S _ fun v G1 H1 S1 g1 r1 => ?_
  obtain ⟨a, vs, e1, h1, r, g2, w1, _⟩ := S1.ownAt hk
  rw [e0] at e1
  cases e1
  refine ⟨a0, vs, v, rfl, rfl, h1, by rw [r.len]; exact hz, ?_⟩
  exact q W σ G1 _ D (S1.mutOwn (vs := vs) hk e0 (DpAll.append r (.cons r1 .nil))) M
theorem sd_setitem (c : CtxB cq P w K mg base T k X) (i : Nat) {x : Str} {p2 : Pos} {n : Int} {j : Nat} (hN : T.N[i]? = some x) (hv : Vis T.sc x) (h : ED X ks e k1 d) (hb : ED X k1 b k2 (.int n)) (hk : k2[i]? = some (.own ds)) (hk0 : k1[i]? = some (.own da')) (hj : ixN ds.length n = some j)
    (q : SD X (k2.set i (.own (ds.set j d))) rest Φ) (hd : (x == ("__debug__" : Str)) = false) (hcd : (x == ("__classdict__" : Str)) = false)
    (ha : ∀ v, assign (.Subscript (.Name x p) b p2) X.env v = (do
      let ov ← holding [v] (eval (.Name x p) X.env)
      let iv ← holding [v, ov] (eval b X.env)
      standAt p2
      holding [v, ov, iv] (setItem ov iv v)
      release [v, ov, iv] []))
    (hs : swapsWithSole [.Subscript (.Name x p) b p2] e pos.line X.env = pure false) (hw : swappedStores [.Subscript (.Name x p) b p2] e X.env = pure none) (h1 : (assignEach [.Subscript (.Name x p) b p2] X.env).map (·.2) = [assign (.Subscript (.Name x p) b p2) X.env]) :
    SD X ks (.Assign [.Subscript (.Name x p) b p2] e pos :: rest) Φ := fun W σ G H D S M => by
  refine sv_of (pss_cons (ps_asg pe_ev (pg_sub (pe_var (ix_of c hN) (vis_of c hv) hd hcd) pe_ev set_list ha) hs hw h1) pss_sv) ?_
  refine h W σ G H S _ fun v G1 H1 S1 g1 r1 => ?_
  obtain ⟨a0, vs0, e0, h0, r0, g0, w0, _⟩ := S1.ownAt hk0
  refine ⟨.ref a0, e0, ?_⟩
  refine hb W σ G1 H1 S1 _ fun y G2 H2 S2 g2 r2 => ?_
  obtain ⟨a, vs, e1, h1, r, g3, w1, _⟩ := S2.ownAt hk
  rw [e0] at e1
  cases e1
  rw [r2.int_inv]
  refine ⟨a0, vs, n, j, rfl, rfl, h1, by rw [r.len]; exact hj, ?_⟩
  exact q W σ G2 _ D (S2.mutOwn (vs := vs) hk e0 (DpAll.set j r (Dp.mono g2 r1))) M
theorem sd_freeze (i : Nat) (hk : ks[i]? = some (.own ds)) (q : SD X (ks.set i (.dat (.list ds))) rest Φ) : SD X ks rest Φ := fun W σ G H D S M => by
  obtain ⟨a, vs, e1, h1, r, g, w1, ow, o, f, e2, no⟩ := S.ownAt hk
  have hi := (List.getElem?_eq_some_iff.mp hk).1
  have hσ : σ.set i (some (.ref a)) = σ := by
    apply List.ext_getElem?
    intro j
    by_cases q : j = i
    · subst q; rw [List.getElem?_set_self (by rw [S.len]; exact hi), e1]
    · rw [List.getElem?_set_ne (Ne.symm q)]
  -- forget the slot, freeze, know it again
  have S1 : Sts X.K W (ks.set i .no) (σ.set i (some (.ref a))) G H := S.put hi S.le (Same.refl G) (fun _ _ e _ => e) fun _ _ _ => ⟨fun _ _ _ _ _ e => e, [], rfl, fun _ h => by cases h⟩
  rw [hσ] at S1
  have O1 : Ow W (ks.set i .no) G (fun j => if j = i then [] else ow j) := by
    refine ⟨fun j j' b hb hb' => ?_, fun j b hb => ?_, fun j hj => ?_⟩
    · by_cases z : j = i <;> by_cases z' : j' = i <;> simp only [z, z', if_true, if_false] at hb hb' <;> first | exact o.dis j j' b hb hb' | cases hb | cases hb'
    · by_cases z : j = i
      · simp only [z, if_true] at hb; cases hb
      · simp only [z, if_false] at hb
        obtain ⟨b1, c⟩ := o.mine j b hb
        refine ⟨b1, ?_⟩
        rcases c with c | ⟨c, r, e⟩
        · exact .inl c
        · exact .inr ⟨c, r, by rw [List.getElem?_set_ne (Ne.symm z)]; exact e.1, e.2⟩
    · by_cases z : j = i
      · simp only [z, if_true]
      · simp only [z, if_false]
        exact o.out j (by simpa using hj)
  have F1 : ∀ j k, (ks.set i .no)[j]? = some k → Sl X.K G H k ((σ[j]?).getD none) (if j = i then [] else ow j) := fun j k hj => by
    by_cases z : j = i
    · subst z
      rw [List.getElem?_set_self hi] at hj
      cases hj
      simp only [if_true]
      exact (show ([] : List Addr) = [] from rfl)
    · rw [List.getElem?_set_ne (Ne.symm z)] at hj
      simp only [z, if_false]
      exact f j k hj
  obtain ⟨S2, gg⟩ := Sts.freeze (pl := pl_lst) S1.le S1.len O1 F1 (fun j hb => by
    by_cases z : j = i
    · simp only [z, if_true] at hb; cases hb
    · simp only [z, if_false] at hb
      exact no j z hb) g w1 h1
  have S3 := S2.setDat (i := i) (d := .list ds) (by simpa using hi) (.lst (SqL.of upd_same) (DpAll.mono gg r))
  rw [hσ] at S3
  rw [List.set_set] at S3
  exact q W σ _ H D S3 M
/-! ### what is walked -/
structure SrcOk (K : PySem.W.Frag) (J : It) (Gs : Hp) (ds : List PyData) : Prop where
  wk : Walk J ds.length (fun H => Same Gs H) (fun i H x H' => ∀ G, Same Gs G → Same G H → ∃ d G', ds[i]? = some d ∧ Lp G H G' H' ∧ Dp K G' x d)
structure IV (X : Cx) (tg iter : Expr) (σ : St) (H : Hp) (R : It → Hp → Prop) : Prop where
  run : ∀ (pins : List (Addr × Obj)) (s : Shared), Inv X pins σ H s →
    wpAny (model X.prog X.w) X.A (eval iter X.env) (fun v s1 => wpAny (model X.prog X.w) X.A (pyIter v) (PIE X pins σ tg R) X.xe s1) X.xe s
theorem pi_iv {X : Cx} {tg iter : Expr} : PI X tg iter (IV X tg iter) := ⟨fun pins s σ H R I h => h.run pins s I⟩
theorem iv_of {X : Cx} {tg iter : Expr} {wi : TI} {σ : St} {H : Hp} {R : It → Hp → Prop} (h : PI X tg iter wi) (q : wi σ H R) : IV X tg iter σ H R := ⟨fun pins s I => h.run pins s σ H R I q⟩
def ID (X : Cx) (ks : List SK) (tg iter : Expr) (ks' : List SK) (ds : List PyData) : Prop := ∀ W σ G H, Sts X.K W ks σ G H → ∀ R : It → Hp → Prop, (∀ J G2 H2, Sts X.K W ks' σ G2 H2 → Same G G2 → SrcOk X.K J G2 ds → R J H2) → IV X tg iter σ H R
theorem id_tup {tg : Expr} (h : ED X ks e k1 (.tuple ds)) : ID X ks tg e k1 ds := fun W σ G H S R q => by
  refine iv_of (pi_tup pe_ev) (h W σ G H S _ fun v G2 H2 S2 g r => ?_)
  obtain ⟨a, vs, rfl, sa, aa⟩ := r.tup_inv
  refine ⟨a, rfl, ⟨vs, Same.seqT S2.gh sa⟩, q _ G2 H2 S2 g ⟨?_⟩⟩
  rw [← aa.len]
  refine walk_tup.mono (fun H' s => Same.seqT s sa) fun i H' x H'' hi s y => ?_
  obtain ⟨rfl, hx⟩ := y
  intro G' s1 s2
  obtain ⟨d, hd, rd⟩ := aa.getV hx
  exact ⟨d, G', hd, Lp.refl s2, Dp.mono s1 rd⟩
theorem id_lst {tg : Expr} (h : ED X ks e k1 (.list ds)) : ID X ks tg e k1 ds := fun W σ G H S R q => by
  refine iv_of (pi_list pe_ev) (h W σ G H S _ fun v G2 H2 S2 g r => ?_)
  obtain ⟨a, vs, rfl, sa, aa⟩ := r.lst_inv
  refine ⟨a, rfl, ⟨vs, S2.gh.seq sa⟩, q _ G2 H2 S2 g ⟨?_⟩⟩
  rw [← aa.len]
  refine walk_list.mono (fun H' s => s.seq sa) fun i H' x H'' hi s y => ?_
  obtain ⟨rfl, hx⟩ := y
  intro G' s1 s2
  obtain ⟨d, hd, rd⟩ := aa.getV hx
  exact ⟨d, G', hd, Lp.refl s2, Dp.mono s1 rd⟩
def rngD (n : Nat) : List PyData := (List.range n).map fun i => .int (i : Nat)
theorem rngD_get {n i : Nat} (h : i < n) : (rngD n)[i]? = some (.int (i : Nat)) := by simp [rngD, h]
theorem id_range {tg : Expr} (c : CtxB cq P w K mg base T k X) {n : Int} (hg : T.sc.names.lookup ("range" : Str) = some .globalImplicit) (hm : mg "range" = none) (h : ED X ks a k1 (.int n)) (hn : n < 2 ^ 62 ∧ -(2 ^ 62) ≤ n)
    (hs : starEach [a] X.env = [(false, eval a X.env)]) : ID X ks tg (.Call (.Name "range" p) [a] [] pos) k1 (rngD n.toNat) := fun W σ G H S R q => by
  refine iv_of (pi_range1 (gl_of c hg) (by rw [c.hmg]; exact hm) (pa_cons pe_ev pa_nil hs) hs) (h W σ G H S _ fun v G2 H2 S2 g r => ?_)
  refine ⟨n, by rw [r.int_inv], hn.2, hn.1, q _ G2 H2 S2 g ⟨?_⟩⟩
  have e : (rngD n.toNat).length = n.toNat := by simp [rngD]
  rw [e]
  refine (walk_range (lo := 0) (n := n.toNat)).mono (fun _ _ => trivial) fun i H' x H'' hi s y => ?_
  obtain ⟨rfl, rfl⟩ := y
  intro G' s1 s2
  refine ⟨_, G', rngD_get hi, Lp.refl s2, ?_⟩
  show Dp X.K G' (V.int (0 + (i : Int))) (.int (i : Int))
  rw [Int.zero_add]; exact .int _
/-! ### targets -/
/-- a target takes data into slots -/
def GD (X : Cx) (tg : Expr) (f : PyData → List SK → Option (List SK)) (js : List Nat) : Prop := ∃ g : TG, PG X tg g ∧ ∀ W σ G H ks v d ks', Sts X.K W ks σ G H → Dp X.K G v d → f d ks = some ks' → ∀ Q : St → Hp → Prop,
  (∀ σ2, Sts X.K W ks' σ2 G H → (∀ i, i ∉ js → σ2[i]? = σ[i]?) → σ2.length = σ.length → Q σ2 H) → g v σ H Q
def tg1 (j : Nat) (d : PyData) (ks : List SK) : Option (List SK) := if j < ks.length then some (ks.set j (.dat d)) else none
def setAll : List Nat → List PyData → List SK → Option (List SK)
  | [], [], ks => some ks
  | j :: js, d :: ds, ks => if j < ks.length then setAll js ds (ks.set j (.dat d)) else none
  | _, _, _ => none
def tgN (js : List Nat) : PyData → List SK → Option (List SK)
  | .tuple ds, ks => setAll js ds ks
  | _, _ => none
theorem gd_name (c : CtxB cq P w K mg base T k X) (j : Nat) {x : Str} (hi : T.N[j]? = some x) (hx : Loc T.sc x) (hf : T.fn x = true ∨ T.sc.names.lookup x = some .local) : GD X (.Name x p) (tg1 j) [j] := by
  refine ⟨_, pg_name (nd_of c) (ix_of c hi) (loc_of c hx) (fn_of' c hf), fun W σ G H ks v d ks' S r e Q q => ?_⟩
  unfold tg1 at e
  split at e
  · cases e
    exact q _ (S.setDat ‹_› r) (fun i hi => List.getElem?_set_ne (fun z => hi (by simp [z]))) (by simp)
  · cases e
def GsD (X : Cx) (es : List Expr) (js : List Nat) : Prop := ∃ g : TGs, PGs X es g ∧ ∀ W σ G H ks vs ds ks', Sts X.K W ks σ G H → DpAll X.K G vs ds → setAll js ds ks = some ks' → ∀ Q : St → Hp → Prop,
  (∀ σ2, Sts X.K W ks' σ2 G H → (∀ i, i ∉ js → σ2[i]? = σ[i]?) → σ2.length = σ.length → Q σ2 H) → g vs σ H Q
theorem gs_nil : GsD X [] [] := ⟨_, pgs_nil, fun W σ G H ks vs ds ks' S r e Q q => by
  cases r with
  | nil => cases e; exact ⟨rfl, q σ S (fun _ _ => rfl) rfl⟩
  | cons _ _ => cases e⟩
theorem gs_cons (c : CtxB cq P w K mg base T k X) (j : Nat) {x : Str} {js : List Nat} (hi : T.N[j]? = some x) (hx : Loc T.sc x) (hf : T.fn x = true ∨ T.sc.names.lookup x = some .local) (h : GsD X es js)
    (hs : (assignEach (.Name x p :: es) X.env).map (·.2) = assign (.Name x p) X.env :: (assignEach es X.env).map (·.2)) : GsD X (.Name x p :: es) (j :: js) := by
  obtain ⟨g, pg, hg⟩ := h
  refine ⟨_, pgs_cons (pg_name (nd_of c) (ix_of c hi) (loc_of c hx) (fn_of' c hf)) pg hs, fun W σ G H ks vs ds ks' S r e Q q => ?_⟩
  cases r with
  | nil => cases e
  | cons r1 r2 =>
    rename_i v vs d ds
    unfold setAll at e
    split at e
    · refine ⟨v, vs, rfl, ?_⟩
      refine hg W _ G H _ vs ds ks' (S.setDat ‹_› r1) r2 e Q fun σ2 S2 h2 l2 => q σ2 S2 (fun i hi => ?_) (by rw [l2]; simp)
      rw [h2 i (fun z => hi (by simp [z]))]
      exact List.getElem?_set_ne (fun z => hi (by simp [z]))
    · cases e
theorem gd_tup {js : List Nat} {kk : Nat} (c : Ctx P w K mg base T k X) (h : GsD X es js) (hn : (assignEach es X.env).length = js.length) (hst : (assignEach es X.env).findIdx? (·.1) = none) : GD X (.Tuple es kk p) (tgN js) js := by
  obtain ⟨g, pg, hg⟩ := h
  refine ⟨_, pg_tup c.calm pg hn hst, fun W σ G H ks v d ks' S r e Q q => ?_⟩
  cases d with
  | tuple ds =>
    obtain ⟨a, vs, rfl, sa, aa⟩ := r.tup_inv
    have e' : setAll js ds ks = some ks' := e
    have hl : ∀ (js : List Nat) (ds : List PyData) (ks : List SK), setAll js ds ks = some ks' → ds.length = js.length := by
      intro js
      induction js with
      | nil => intro ds ks h; cases ds with
        | nil => rfl
        | cons _ _ => cases h
      | cons j js ih => intro ds ks h; cases ds with
        | nil => cases h
        | cons d ds =>
          unfold setAll at h
          split at h
          · simp [ih ds _ h]
          · cases h
    exact ⟨a, vs, rfl, Same.seqT S.gh sa, by rw [aa.len]; exact hl js ds ks e', hg W σ G H ks vs ds ks' S aa e' Q q⟩
  | _ => cases e
/-! ### for -/
theorem Sts.rebase {W : Wd} {σ : St} {G H Gm : Hp} (S : Sts K W ks σ G H) (h1 : Same W.G Gm) (h2 : Same Gm G) : Sts K ⟨Gm, W.H, W.M⟩ ks σ G H := by
  obtain ⟨le, len, ow, o, f⟩ := S
  refine ⟨⟨h2, le.gh, le.keep, le.there, fun a u e e2 => le.fz a u ?_ e2, le.m, le.tb⟩, len, ow, ⟨o.dis, o.mine, o.out⟩, f⟩
  cases q : W.G a with
  | none => rfl
  | some v =>
    have e : Gm a = none := e
    rw [h1 a v q] at e; cases e
theorem Sts.unbase {W : Wd} {σ : St} {G H Gm Hm : Hp} (l : Le W Gm Hm) (S : Sts K ⟨Gm, W.H, W.M⟩ ks σ G H) : Sts K W ks σ G H := by
  obtain ⟨le, len, ow, o, f⟩ := S
  exact ⟨⟨l.g.trans le.g, le.gh, le.keep, le.there, fun a u e e2 => le.fz a u (l.fz a u e e2) e2, le.m, le.tb⟩, len, ow, ⟨o.dis, o.mine, o.out⟩, f⟩
theorem Mt.exU {W : Wd} {Gm Hm : Hp} {D : Ends} (M : Mt X W Φ D) (l : Le W Gm Hm) : (∃ Wx : WX, Takes X Wx ∧ ∀ ks σ G H cls d fs, Φ.ex ks cls fs → Sts X.K ⟨Gm, W.H, W.M⟩ ks σ G H → ExF X.K G d fs → Wx cls d σ H) ∧ ∀ ks σ G H v k, Φ.rc ks k → Sts X.K ⟨Gm, W.H, W.M⟩ (ks ++ [k]) (σ ++ [some v]) G H → D.rt v H := by
  obtain ⟨⟨Wx, t, h⟩, h'⟩ := M.ex
  exact ⟨⟨Wx, t, fun ks σ G H c d f q S => h ks σ G H c d f q (S.unbase l)⟩, fun ks σ G H v k q S => h' ks σ G H v k q (S.unbase l)⟩
theorem ex0 {X : Cx} {W : Wd} {D : V → Hp → Prop} : (∃ Wx : WX, Takes X Wx ∧ ∀ (ks : List SK) (σ : St) (G H : Hp) (cls : Value) (d : Option Addr) (fs : List (Str × PyData)), False → Sts X.K W ks σ G H → ExF X.K G d fs → Wx cls d σ H) ∧ ∀ (ks : List SK) (σ : St) (G H : Hp) (v : V) (k : SK), False → Sts X.K W (ks ++ [k]) (σ ++ [some v]) G H → D v H :=
  ⟨⟨_, LamX.takes0, fun _ _ _ _ _ _ _ z => z.elim⟩, fun _ _ _ _ _ _ z => z.elim⟩
theorem sd_for (c : Ctx P w K mg base T k X) {tg iter : Expr} {f : PyData → List SK → Option (List SK)} {js : List Nat} (F : Nat → List SK) (hi : ID X ks tg iter k1 ds) (hg : GD X tg f js) (h0 : Wk k1 (F 0))
    (turn : ∀ i d, ds[i]? = some d → ∃ kb, f d (F i) = some kb ∧ SD X kb body { Φ with nx := fun k => Wk k (F (i + 1)), ct := fun k => Wk k (F (i + 1)), bk := fun _ => False })
    (fin : SD X (F ds.length) rest Φ) (hs : ∀ x, foldedSetIterable iter X.env x = pure x) : SD X ks (.For tg iter body [] pos :: rest) Φ := fun W σ G H D S M => by
  obtain ⟨g, pg, hg⟩ := hg
  have hp := c.po
  refine sv_of (pss_cons (ps_for hp c.calm pi_iv pg pss_sv hs) pss_sv) ?_
  refine hi W σ G H S _ fun J G2 H2 S2 g2 src => ?_
  refine for_it src.wk (fun i σ' H' => ∃ G', Sts X.K W (F i) σ' G' H' ∧ Same G2 G') ⟨G2, S2.weak h0, Same.refl G2⟩ (fun i σ' H' _ ⟨G', S', g'⟩ => g'.trans S'.gh) ?_ ?_
  · rintro i x σ' H' H'' hlt ⟨G', S', g'⟩ y
    obtain ⟨d, G3, hd, l, r⟩ := y G' g' S'.gh
    obtain ⟨kb, e, b⟩ := turn i d hd
    refine hg W σ' G3 H'' (F i) x d kb (S'.pure l) r e _ fun σ2 S3 _ _ => ?_
    refine b ⟨G2, W.H, W.M⟩ σ2 G3 H'' _ (S3.rebase S2.le.g (g'.trans l.g)) ⟨fun ks σ G H q S => ⟨G, (S.unbase S2.le).weak q, S.le.g⟩, fun _ _ _ _ q => q.elim, fun ks σ G H q S => ⟨G, (S.unbase S2.le).weak q, S.le.g⟩, fun ks σ G H v d q S r => M.rt ks σ G H v d q (S.unbase S2.le) r, fun ks σ G H a ds q S => M.rl ks σ G H a ds q (S.unbase S2.le), fun ks σ G H a ds es fs q S => M.rT ks σ G H a ds es fs q (S.unbase S2.le), M.exU S2.le⟩
  · rintro σ' H' ⟨G', S', g'⟩
    exact fin W σ' G' H' D S' M
/-- while: F by a letter m that falls -/
theorem sd_while (c : CtxB cq P w K mg base T k X) {t : Expr} (F : Nat → List SK → Prop) (m0 : Nat) (h0 : F m0 ks)
    (turn : ∀ m ls, F m ls → ∃ k2 b, TD X ls t k2 b ∧ (b = true → SD X k2 body { Φ with nx := fun k => ∃ m', m' < m ∧ F m' k, ct := fun k => ∃ m', m' < m ∧ F m' k, bk := fun _ => False }) ∧ (b = false → SD X k2 rest Φ)) :
    SD X ks (.While t body [] pos :: rest) Φ := fun W σ G H D S M => by
  have hp := c.po
  refine sv_of (pss_cons (ps_while hp pt_tv pss_sv) pss_sv) ?_
  refine ⟨fun m σ' H' => ∃ ls G', F m ls ∧ Sts X.K W ls σ' G' H', ⟨m0, ks, G, h0, S⟩, fun m σ' H' ⟨ls, G', f, S'⟩ => ?_⟩
  obtain ⟨k2, b, ht, hb, he⟩ := turn m ls f
  refine ht W σ' G' H' S' _ fun G2 H2 S2 g2 => ?_
  cases b with
  | true =>
    refine ⟨fun σ'' H'' => ∃ m', m' < m ∧ ∃ ls G', F m' ls ∧ Sts X.K W ls σ'' G' H'', fun σ'' H'' q => q, ?_⟩
    refine hb rfl W σ' G2 H2 _ S2 ⟨fun ks σ G H q S => ?_, fun _ _ _ _ q => q.elim, fun ks σ G H q S => ?_, M.rt, M.rl, M.rT, M.ex⟩
    · obtain ⟨m', l, q⟩ := q
      exact ⟨m', l, ks, G, q, S⟩
    · obtain ⟨m', l, q⟩ := q
      exact ⟨m', l, ks, G, q, S⟩
  | false => exact he rfl W σ' G2 H2 D S2 M
end
end Z
namespace Z
open PySem PySem.Spec L2
variable [Tabl]
def GV (X : Cx) (tg : Expr) : TG := fun v σ H Q => ∀ (pins : List (Addr × Obj)) (s : Shared) (u : Value), Inv X pins σ H s → RelV v u → wpAny (model X.prog X.w) X.A (assign tg X.env u) (fun _ s' => ∃ σ' H', Inv X pins σ' H' s' ∧ Q σ' H') X.xe s
def TsV (X : Cx) (ifs : List Expr) : TT := fun σ H Q => ∀ (pins : List (Addr × Obj)) (s : Shared), Inv X pins σ H s →
    wpAny (model X.prog X.w) X.A (forIn ifs true fun c r => if r = true then do let ok ← isTrue c X.env (eval c X.env); pure (ForInStep.yield ok) else pure (ForInStep.yield r)) (TP X pins σ Q) X.xe s
/-- a clause's tests -/
def TsD (X : Cx) (ks : List SK) (ifs : List Expr) (ks' : List SK) (b : Bool) : Prop :=
  ∀ W σ G H, Sts X.K W ks σ G H → ∀ Q : Bool → Hp → Prop, (∀ G2 H2, Sts X.K W ks' σ G2 H2 → Same G G2 → Q b H2) → TsV X ifs σ H Q
def Tb (T : Sta) (scope : Scope) : Sta := ⟨T.N, relS scope T.sc, fun x => scope.names.lookup x == some .cell⟩
def wipeK (ks : List SK) : List Nat → List SK
  | [] => ks
  | v :: vs => (wipeK ks vs).set v .no
theorem wipeK_length (ks : List SK) : ∀ vs, (wipeK ks vs).length = ks.length
  | [] => rfl
  | v :: vs => by unfold wipeK; rw [List.length_set, wipeK_length ks vs]
theorem wipeK_in {ks : List SK} {i : Nat} (h : i < ks.length) : ∀ {vs : List Nat}, i ∈ vs → (wipeK ks vs)[i]? = some .no
  | v :: vs, hm => by
    unfold wipeK
    by_cases q : v = i
    · subst q; rw [List.getElem?_set_self (by rw [wipeK_length]; exact h)]
    · rw [List.getElem?_set_ne q]
      exact wipeK_in h ((List.mem_cons.mp hm).resolve_left (fun z => q z.symm))
theorem wipeK_out {ks : List SK} {i : Nat} : ∀ {vs : List Nat}, i ∉ vs → (wipeK ks vs)[i]? = ks[i]?
  | [], _ => rfl
  | v :: vs, hm => by
    unfold wipeK
    rw [List.getElem?_set_ne (fun z => hm (by simp [z]))]
    exact wipeK_out (fun z => hm (by simp [z]))
theorem wipe_in {σ : St} {i : Nat} (h : i < σ.length) : ∀ {vs : List Nat}, i ∈ vs → (wipe σ vs)[i]? = some none
  | v :: vs, hm => by
    unfold wipe
    by_cases q : v = i
    · subst q; rw [List.getElem?_set_self (by rw [wipe_length]; exact h)]
    · rw [List.getElem?_set_ne q]
      exact wipe_in h ((List.mem_cons.mp hm).resolve_left (fun z => q z.symm))
def gB (X : Cx) (scope : Scope) (tg : Expr) : TG := fun v σ H Q => ∀ s0 H0 C cl fp, GV (X.blk s0 H0 scope (compEnvC scope cl C X.env) fp) tg v σ H Q
def ttB (X : Cx) (scope : Scope) (ifs : List Expr) : TT := fun σ H Q => ∀ s0 H0 C cl fp, TsV (X.blk s0 H0 scope (compEnvC scope cl C X.env) fp) ifs σ H Q
def teB (X : Cx) (scope : Scope) (elt : Expr) : TE := fun σ H Q => ∀ s0 H0 C cl fp, EV (X.blk s0 H0 scope (compEnvC scope cl C X.env) fp) elt σ H Q
section
variable {P : Program} {w : World} {K : PySem.W.Frag} {mg : Str → Option Value} {base : Heap} {T : Sta} {k : Nat} {X : Cx} {ks k1 k2 k3 : List SK} {a b e : Expr} {es : List Expr} {d da db : PyData} {ds : List PyData} {pos p : Pos}
theorem ts_nil : TsD X ks [] ks true := fun W σ G H S Q q => fun pins s I => pts_nil.run pins s σ H Q I (q G H S (Same.refl G))
theorem ts_one {c : Bool} (h : TD X ks e k1 c) : TsD X ks [e] k1 c := fun W σ G H S Q q => fun pins s I => (pts_one pt_tv).run pins s σ H Q I (h W σ G H S Q q)
theorem Ctx.blk (c : Ctx P w K mg base T k X) {scope : Scope} {own : List (Str × Nat)} (s : Shared) (H : Hp) (C : Addr) (cl : List (Str × Addr)) (fp : List Addr) : Ctx P w K mg base (Tb T scope) k (X.blk s H scope (compEnvC scope cl C X.env) fp) where
  hP := c.hP
  hw := c.hw
  hK := c.hK
  hmg := c.hmg
  hbase := c.hbase
  hN := c.hN
  nd := c.nd
  hs := by
    show relS scope X.env.scope = relS scope T.sc
    rw [c.hs]
  calm' := c.calm'
  room' := c.room'
  un := c.un
  po := PassesOwn.never
  fn := rfl
/-- the slots of a block ahead of its first turn -/
theorem Sts.wiped {W : Wd} {σ : St} {G H : Hp} (S : Sts K W ks σ G H) (vs : List Nat) (nw : ∀ i ∈ vs, ∀ k, ks[i]? = some k → k = .no ∨ ∃ d, k = .dat d) : Sts K W (wipeK ks vs) (wipe σ vs) G H := by
  have S1 : Sts K W (wipeK ks vs) σ G H := by
    refine S.weak ?_
    clear S
    have : ∀ (ls : List SK) (ks : List SK), ls.length = ks.length → (∀ (i : Nat) (k : SK), ls[i]? = some k → k = .no ∨ ks[i]? = some k) → Wk ks ls := by
      intro ls
      induction ls with
      | nil => intro ks h _; cases ks with
        | nil => trivial
        | cons _ _ => cases h
      | cons l ls ih => intro ks h f; cases ks with
        | nil => cases h
        | cons k ks =>
          refine ⟨?_, ih ks (by simpa using h) fun i k hk => by have := f (i + 1) k (by simpa using hk); simpa using this⟩
          have := f 0 l (by simp)
          simp at this
          rcases this with z | z
          · exact .inl z
          · exact .inr z
    refine this _ _ (wipeK_length _ _) fun i k hk => ?_
    by_cases q : i ∈ vs
    · have hi : i < ks.length := by have := (List.getElem?_eq_some_iff.mp hk).1; rwa [wipeK_length] at this
      rw [wipeK_in hi q] at hk
      exact .inl (Option.some.inj hk).symm
    · rw [wipeK_out q] at hk; exact .inr hk
  obtain ⟨le, len, ow, o, f⟩ := S1
  refine ⟨le, by rw [wipe_length]; exact len, ow, o, fun i k hk => ?_⟩
  have := f i k hk
  by_cases q : i ∈ vs
  · have hi : i < ks.length := by have := (List.getElem?_eq_some_iff.mp hk).1; rwa [wipeK_length] at this
    rw [wipeK_in hi q] at hk
    cases hk
    exact this
  · rw [wipe_out q]
    exact this
/-- the slots' values at places of which nothing is known may differ -/
theorem Sts.swap {W : Wd} {σ σ2 : St} {G H : Hp} {vs : List Nat} (S : Sts K W ks σ G H) (hl : σ2.length = σ.length) (h : ∀ i, i ∉ vs → σ2[i]? = σ[i]?) (hn : ∀ i ∈ vs, ∀ k, ks[i]? = some k → k = .no) : Sts K W ks σ2 G H := by
  obtain ⟨le, len, ow, o, f⟩ := S
  refine ⟨le, by omega, ow, o, fun i k hk => ?_⟩
  by_cases q : i ∈ vs
  · have := f i k hk
    have e := hn i q k hk
    subst e
    exact this
  · rw [h i q]; exact f i k hk
/-- what a turn of a comprehension does: the block's slots kb, from which it goes on to those of the next turn -/
def TurnD (B : Cx → Prop) (ifs : List Expr) (elt : Expr) (kb kn : List SK) (o : Option PyData) : Prop :=
  ∃ k2 b, (∀ X', B X' → TsD X' kb ifs k2 b) ∧ (b = false → o = none ∧ Wk k2 kn) ∧ (b = true → ∃ d k3, o = some d ∧ (∀ X', B X' → ED X' k2 elt k3 d) ∧ Wk k3 kn)
theorem wipe_swap {σ σ2 : St} {vs : List Nat} (hl : σ2.length = σ.length) (h : ∀ i, i ∉ vs → σ2[i]? = σ[i]?) : wipe σ2 vs = wipe σ vs := by
  apply List.ext_getElem?
  intro i
  by_cases q : i ∈ vs
  · by_cases hi : i < σ.length
    · rw [wipe_in (by omega) q, wipe_in hi q]
    · rw [List.getElem?_eq_none (by rw [wipe_length]; omega), List.getElem?_eq_none (by rw [wipe_length]; omega)]
  · rw [wipe_out q, wipe_out q, h i q]
/-- a list comprehension, before its list goes anywhere -/
structure LC (X : Cx) (ks : List SK) (e : Expr) (ks' : List SK) (es : List PyData) : Prop where
  out : ∃ (elt tg iter : Expr) (ifs : List Expr) (scope : Scope) (pos : Pos) (own : List (Str × Nat)) (wi : TI) (g : TG) (tt : TT) (te : TE), e = .ListComp elt [⟨tg, iter, ifs, 0⟩] scope pos ∧ PI X tg iter wi ∧ BlkOk X.N X.env.scope scope own ∧
    (∀ (s : Shared) (H : Hp) (C : Addr) (cl : List (Str × Addr)) (fp : List Addr), PG (X.blk s H scope (compEnvC scope cl C X.env) fp) tg g) ∧ (∀ (s : Shared) (H : Hp) (C : Addr) (cl : List (Str × Addr)) (fp : List Addr), PTs (X.blk s H scope (compEnvC scope cl C X.env) fp) ifs tt) ∧
    (∀ (s : Shared) (H : Hp) (C : Addr) (cl : List (Str × Addr)) (fp : List Addr), PE (X.blk s H scope (compEnvC scope cl C X.env) fp) elt te) ∧ (∀ x, foldedSetIterable iter X.env x = pure x) ∧
    ∀ W σ G H, Sts X.K W ks σ G H → ∀ Q : VK, (∀ a G2 H2, Sts X.K W (ks' ++ [.own es]) (σ ++ [some (.ref a)]) G2 H2 → Same G G2 → Q (.ref a) H2) → tLc wi g tt te (own.map (·.2)) σ H Q
theorem LC.el (c : Ctx P w K mg base T k X) (h : LC X ks e k1 ds) : EL X ks e k1 ds := fun W σ G H S Q q => by
  obtain ⟨elt, tg, iter, ifs, scope, pos, own, wi, g, tt, te, rfl, hi, bk, hg, ht, he, hs, run⟩ := h.out
  exact ev_of (pe_lc c.calm (nd_of c) hi bk hg ht he hs) (run W σ G H S Q q)
theorem sd_asgC (c : Ctx P w K mg base T k X) (i : Nat) {x : Str} {px lpos : Pos} {elt : Expr} {gens : List Comprehension} {scope : Scope} {rest : List Stmt} {Φ : Po} (hi : T.N[i]? = some x) (hx : T.sc.names.lookup x = some .local) (hl : i < k1.length) (hk : T.sc.kind = .function) (hln : (px.line == lpos.line) = true)
    (ha : (scope.names.any fun (n, k) => n == x && (k == .local || k == .cell)) = false) (h : LC X ks (.ListComp elt gens scope lpos) k1 ds) (q : SD X (k1.set i (.own ds)) rest Φ) : SD X ks (.Assign [.Name x px] (.ListComp elt gens scope lpos) pos :: rest) Φ := fun W σ G H D S M => by
  obtain ⟨elt', tg, iter, ifs, scope', pos', own, wi, g, tt, te, ee, hi', bk, hg, ht, he, hs, run⟩ := h.out
  cases ee
  have hx' : X.env.scope.names.lookup x = some .local := by rw [c.hs]; exact hx
  refine sv_of (pss_cons (ps_setLc c.calm (nd_of c) (ix_of c hi) hx' (sw_true (by rw [c.hs]; exact hk) hx' hln ha) hi' bk hg ht he hs) pss_sv) ?_
  exact run W σ G H S (fun v H2 => SV X rest D (List.set σ i (some v)) H2) fun a G2 H2 S2 g2 => q W _ G2 H2 D (S2.popTo hl) M
/-- [elt for tg in iter if ..]: F the slots by the turn, ac what is made so far -/
theorem lc_lc (c : Ctx P w K mg base T k X) {elt tg iter : Expr} {ifs : List Expr} {scope : Scope} (own : List (Str × Nat)) {f : PyData → List SK → Option (List SK)} {js : List Nat} (F : Nat → List SK) (ac : Nat → List PyData)
    (ok : blkC T.N T.sc scope own = true) (hjs : js.all (fun j => (own.map (·.2)).contains j) = true) (hi : ID X ks tg iter k1 ds)
    (nw : ∀ i ∈ own.map (·.2), ∃ k, k1[i]? = some k ∧ (F ds.length)[i]? = some k ∧ (k = .no ∨ ∃ d, k = .dat d))
    (hg : ∀ X', Ctx P w K mg base (Tb T scope) k X' → GD X' tg f js)
    (h0 : F 0 = k1) (hl : ∀ i, (F i).length = k1.length) (a0 : ac 0 = []) (hz : ds.length < sizeLine)
    (turn : ∀ i d, ds[i]? = some d → ∃ kb o, f d (wipeK (F i) (own.map (·.2))) = some kb ∧ TurnD (Ctx P w K mg base (Tb T scope) k) ifs elt kb (wipeK (F (i + 1)) (own.map (·.2))) o ∧ ac (i + 1) = ac i ++ o.toList)
    (hs : ∀ x, foldedSetIterable iter X.env x = pure x) :
    LC X ks (.ListComp elt [⟨tg, iter, ifs, 0⟩] scope pos) (F ds.length) (ac ds.length) := by
  have acl : ∀ i, i ≤ ds.length → (ac i).length ≤ i := by
    intro i
    induction i with
    | zero => intro _; rw [a0]; exact Nat.le_refl _
    | succ i ih =>
      intro hi
      obtain ⟨kb, o, _, _, e⟩ := turn i ds[i] (by simp)
      rw [e, List.length_append]
      have := ih (by omega)
      cases o <;> simp <;> omega
  have bk : BlkOk X.N X.env.scope scope own := by rw [c.hN, c.hs]; exact blkOk_by ok
  have hjs' : ∀ j ∈ js, j ∈ own.map (·.2) := fun j hj => by simpa using List.all_eq_true.mp hjs j hj
  refine ⟨elt, tg, iter, ifs, scope, pos, own, _, gB X scope tg, ttB X scope ifs, teB X scope elt, rfl, pi_iv, bk,
    fun s0 H0 C cl fp => ⟨fun pins s σ H v u Q I r h => h s0 H0 C cl fp pins s u I r⟩, fun s0 H0 C cl fp => ⟨fun pins s σ H Q I h => h s0 H0 C cl fp pins s I⟩, fun s0 H0 C cl fp => ⟨fun pins s σ H Q I h => (h s0 H0 C cl fp).run pins s I⟩, hs, fun W σ G H S Q q => ?_⟩
  refine hi W σ G H S _ fun J G1 H1 S1 g1 src => ?_
  intro D hD
  have wD : W.H D = none := by
    cases e : W.H D with
    | none => rfl
    | some u =>
      obtain ⟨u', e'⟩ := S1.le.there D u e
      rw [hD] at e'; cases e'
  have gD : G1 D = none := by
    cases e : G1 D with
    | none => rfl
    | some u => rw [S1.gh D u e] at hD; cases hD
  -- a world in which the new list is another's
  have lend : ∀ {ks' : List SK} {σ' : St} {G' H' : Hp} {us us' : List V}, Sts X.K ⟨G1, upd W.H D (.lst us), W.M⟩ ks' σ' G' H' → Sts X.K ⟨G1, upd W.H D (.lst us'), W.M⟩ ks' σ' G' (upd H' D (.lst us')) := by
    intro ks' σ' G' H' us us' S'
    obtain ⟨le, len, ow, o, f⟩ := S'
    have no : ∀ i, D ∉ ow i := fun i h => by
      obtain ⟨_, z⟩ := o.mine i D h
      rcases z with z | ⟨z, _⟩
      · have z := upd_same.symm.trans z
        cases z
      · obtain ⟨u, hu⟩ := S1.le.m D z
        rw [wD] at hu; cases hu
    have gz : G' D = none := le.fz D _ gD upd_same
    have hDm0 : ¬ W.M D := fun z => by
      obtain ⟨u, hu⟩ := S1.le.m D z
      rw [wD] at hu; cases hu
    have hD0 : H' D = some (.lst us) := le.keep D _ hDm0 (fun _ z => by cases z) upd_same
    refine ⟨⟨le.g, fun b u e => ?_, fun b u hm nt e => ?_, fun b u e => ?_, fun b u e e2 => ?_, fun b hm => ?_, le.tb.upd fun u e => by rw [hD0] at e; cases e; exact pl_lst⟩, len, ow, ⟨o.dis, fun i b hb => ?_, o.out⟩, fun i k hk => (f i k hk).move (Same.refl _) fun b hb u hu => ?_⟩
    · have : b ≠ D := fun z => by rw [z, gz] at e; cases e
      exact (upd_ne this).trans (le.gh b u e)
    · by_cases z : b = D
      · subst z; exact upd_same.trans (upd_same.symm.trans e)
      · exact (upd_ne z).trans (le.keep b u hm nt ((upd_ne z).trans ((upd_ne z).symm.trans e)))
    · by_cases z : b = D
      · subst z; exact ⟨_, upd_same⟩
      · obtain ⟨o', h'⟩ := le.there b u ((upd_ne z).trans ((upd_ne z).symm.trans e))
        exact ⟨o', (upd_ne z).trans h'⟩
    · by_cases z : b = D
      · subst z; exact gz
      · exact le.fz b u e ((upd_ne z).trans ((upd_ne z).symm.trans e2))
    · obtain ⟨u, hu⟩ := S1.le.m b hm
      have z : b ≠ D := fun z => by rw [z, wD] at hu; cases hu
      exact ⟨u, (upd_ne z).trans hu⟩
    · obtain ⟨b1, b2⟩ := o.mine i b hb
      have z : b ≠ D := fun z => no i (z ▸ hb)
      exact ⟨b1, b2.imp (fun e => (upd_ne z).trans ((upd_ne z).symm.trans e)) id⟩
    · have z : b ≠ D := fun z => no i (z ▸ hb)
      exact (upd_ne z).trans hu
  have first : Sts X.K ⟨G1, upd W.H D (.lst []), W.M⟩ (wipeK k1 (own.map (·.2))) (wipe σ (own.map (·.2))) G1 (upd H1 D (.lst [])) := by
    have S2 := S1.wiped (own.map (·.2)) (fun i hi k hk => by
      obtain ⟨k', h1, _, h2⟩ := nw i hi
      rw [hk] at h1; cases h1; exact h2)
    obtain ⟨le, len, ow, o, f⟩ := S2
    have live := o.live f
    have no : ∀ i, D ∉ ow i := fun i h => by
      obtain ⟨u, hu⟩ := live i D h
      rw [hD] at hu; cases hu
    refine ⟨⟨Same.refl _, fun b u e => ?_, fun b u hm nt e => ?_, fun b u e => ?_, fun b u e _ => e, fun b hm => ?_, le.tb.upd fun u e => by rw [hD] at e; cases e⟩, len, ow, ⟨o.dis, fun i b hb => ?_, o.out⟩, fun i k hk => (f i k hk).move (Same.refl _) fun b hb u hu => ?_⟩
    · have : b ≠ D := fun z => by rw [z, gD] at e; cases e
      exact (upd_ne this).trans (le.gh b u e)
    · by_cases z : b = D
      · subst z; exact upd_same.trans (upd_same.symm.trans e)
      · exact (upd_ne z).trans (le.keep b u hm nt ((upd_ne z).symm.trans e))
    · by_cases z : b = D
      · subst z; exact ⟨_, upd_same⟩
      · obtain ⟨o', h'⟩ := le.there b u ((upd_ne z).symm.trans e)
        exact ⟨o', (upd_ne z).trans h'⟩
    · obtain ⟨u, hu⟩ := S1.le.m b hm
      have z : b ≠ D := fun z => by rw [z, wD] at hu; cases hu
      exact ⟨u, (upd_ne z).trans hu⟩
    · obtain ⟨b1, b2⟩ := o.mine i b hb
      have z : b ≠ D := fun z => no i (z ▸ hb)
      exact ⟨b1, b2.imp (fun e => (upd_ne z).trans e) id⟩
    · have z : b ≠ D := fun z => no i (z ▸ hb)
      exact (upd_ne z).trans hu
  refine lc_it (g := gB X scope tg) (tt := ttB X scope ifs) (te := teB X scope elt) (vs := own.map (·.2)) (σ := σ) (Qd := fun H => Q (.ref D) H) src.wk (fun i H' => ∃ G' us, Sts X.K ⟨G1, upd W.H D (.lst us), W.M⟩ (wipeK (F i) (own.map (·.2))) (wipe σ (own.map (·.2))) G' H' ∧ DpAll X.K G' us (ac i))
    ⟨G1, [], by rw [h0]; exact first, by rw [a0]; exact .nil⟩ (fun i H' _ ⟨G', us, S', _⟩ => S'.le.g.trans S'.le.gh) ?_ ?_
  · rintro i x H' H'' hlt ⟨G', us, S', ra⟩ y
    obtain ⟨d, G3, hd, l, r⟩ := y G' S'.le.g S'.gh
    have hst := S'.pure l
    obtain ⟨kb, o, e1, ⟨k2, b, t1, t2, t3⟩, e2⟩ := turn i d hd
    intro s0 H0 C cl fp pins s u I rx
    have c' := c.blk (scope := scope) (own := own) s0 H0 C cl fp
    obtain ⟨g', pg, hg'⟩ := hg _ c'
    refine pg.run pins s _ H'' x u _ I rx ?_
    refine hg' _ _ G3 H'' _ x d kb hst r e1 _ fun σ2 S3 hσ hσl => ⟨wipe_swap (by rw [hσl, wipe_length]) (fun j hj => ?_), ?_⟩
    · rw [hσ j (fun z => hj (hjs' j z)), wipe_out hj]
    · -- the next turn's state, from the block's
      have nxt : ∀ {k3 : List SK} {G4 H4 : Hp} {us' : List V}, Sts X.K ⟨G1, upd W.H D (.lst us'), W.M⟩ k3 σ2 G4 H4 → Wk k3 (wipeK (F (i + 1)) (own.map (·.2))) → Sts X.K ⟨G1, upd W.H D (.lst us'), W.M⟩ (wipeK (F (i + 1)) (own.map (·.2))) (wipe σ (own.map (·.2))) G4 H4 := fun {k3 G4 H4 us'} S4 hw => by
        refine (S4.weak hw).swap (vs := own.map (·.2)) hσl.symm (fun j hj => ?_) fun j hj k' hk' => ?_
        · rw [hσ j (fun z => hj (hjs' j z))]
        · have hlt : j < (F (i + 1)).length := by have := (List.getElem?_eq_some_iff.mp hk').1; rwa [wipeK_length] at this
          rw [wipeK_in hlt hj] at hk'
          exact (Option.some.inj hk').symm
      intro s0' H0' C' cl' fp' pins' s' I'
      refine t1 _ (c.blk (scope := scope) (own := own) s0' H0' C' cl' fp') _ σ2 G3 H'' S3 _ (fun G4 H4 S4 g4 => ?_) pins' s' I'
      cases b with
      | false =>
        obtain ⟨z, hw⟩ := t2 rfl
        subst z
        rw [if_neg Bool.false_ne_true]
        refine ⟨G4, us, nxt S4 hw, ?_⟩
        rw [e2]
        simp only [Option.toList, List.append_nil]
        exact DpAll.mono (l.g.trans g4) ra
      | true =>
        rw [if_pos rfl]
        obtain ⟨d', k3, z, hE, hw⟩ := t3 rfl
        subst z
        intro s0'' H0'' C'' cl'' fp''
        refine hE _ (c.blk (scope := scope) (own := own) s0'' H0'' C'' cl'' fp'') _ σ2 G4 H4 S4 _ (fun v G5 H5 S5 g5 r5 => ?_)
        have ra5 := DpAll.mono ((l.g.trans g4).trans g5) ra
        refine ⟨us, S5.le.keep D _ (fun z => ?_) (fun _ z => by cases z) upd_same, ?_, G5, us ++ [v], nxt (lend S5) hw, ?_⟩
        · obtain ⟨u, hu⟩ := S1.le.m D z
          rw [wD] at hu; cases hu
        · rw [ra.len]
          exact Nat.lt_of_le_of_lt (Nat.le_trans (acl i (Nat.le_of_lt hlt)) (Nat.le_of_lt hlt)) hz
        · rw [e2]
          exact DpAll.append ra5 (.cons r5 .nil)
  · rintro H' ⟨G', us, S', ra⟩
    have hDm : ¬ W.M D := fun z => by
      obtain ⟨u, hu⟩ := S1.le.m D z
      rw [wD] at hu; cases hu
    have hD' : H' D = some (.lst us) := S'.le.keep D _ hDm (fun _ z => by cases z) upd_same
    have gD' : G' D = none := S'.le.fz D _ gD upd_same
    obtain ⟨le, len, ow, o, f⟩ := S'
    have hvl : (F ds.length).length = k1.length := hl _
    have len' : σ.length = (F ds.length).length := by rw [wipe_length, wipeK_length] at len; exact len
    obtain ⟨le1, len1, ow1, o1, f1⟩ := S1
    refine q D G' H' ⟨⟨le1.g.trans le.g, le.gh, fun b u hm nt e => ?_, fun b u e => ?_, fun b u e e2 => ?_, le1.m, le.tb⟩, by simp [len'], fun j => if j = (F ds.length).length then [D] else if j ∈ own.map (·.2) then [] else ow j, ⟨fun i j a' ha hb => ?_, fun i a' ha => ?_, fun i hi => ?_⟩, fun i k' hk => ?_⟩ (g1.trans le.g)
    · have z : b ≠ D := fun z => by rw [z, wD] at e; cases e
      exact le.keep b u hm nt ((upd_ne z).trans e)
    · have z : b ≠ D := fun z => by rw [z, wD] at e; cases e
      exact le.there b u ((upd_ne z).trans e)
    · have z : b ≠ D := fun z => by rw [z, wD] at e2; cases e2
      exact le.fz b u (le1.fz b u e e2) ((upd_ne z).trans e2)
    · have no : ∀ i, D ∉ ow i := fun i h => by
        obtain ⟨_, z⟩ := o.mine i D h
        rcases z with z | ⟨z, _⟩
        · have z := upd_same.symm.trans z
          cases z
        · exact hDm z
      by_cases q1 : i = (F ds.length).length <;> by_cases q2 : j = (F ds.length).length
      · rw [q1, q2]
      · simp only [q1, if_true, q2, if_false] at ha hb
        simp at ha; subst ha
        split at hb
        · cases hb
        · exact (no j hb).elim
      · simp only [q1, if_false, q2, if_true] at ha hb
        simp at hb; subst hb
        split at ha
        · cases ha
        · exact (no i ha).elim
      · simp only [q1, q2, if_false] at ha hb
        split at ha
        · cases ha
        · split at hb
          · cases hb
          · exact o.dis i j a' ha hb
    · by_cases q1 : i = (F ds.length).length
      · simp only [q1, if_true] at ha
        simp at ha; subst ha
        exact ⟨gD', .inl wD⟩
      · simp only [q1, if_false] at ha
        split at ha
        · cases ha
        · rename_i qv
          obtain ⟨b1, b2⟩ := o.mine i a' ha
          refine ⟨b1, ?_⟩
          have z : a' ≠ D := fun z => by
            subst z
            rcases b2 with z | ⟨z, _⟩
            · have z := upd_same.symm.trans z
              cases z
            · exact hDm z
          rcases b2 with e | ⟨e, r, e2⟩
          · exact .inl ((upd_ne z).symm.trans e)
          · refine .inr ⟨e, r, ?_, e2.2⟩
            have e2 := e2.1
            rw [wipeK_out qv] at e2
            rw [List.getElem?_append_left (List.getElem?_eq_some_iff.mp e2).1]; exact e2
    · have h1 : i ≠ (F ds.length).length := by simp at hi; omega
      simp only [h1, if_false]
      split
      · rfl
      · exact o.out i (by rw [wipeK_length]; simp at hi; omega)
    · by_cases q1 : i = (F ds.length).length
      · subst q1
        rw [List.getElem?_append_right (Nat.le_refl _)] at hk
        simp at hk
        subst hk
        simp only [if_true]
        rw [List.getElem?_append_right (by omega), len']
        simp only [Nat.sub_self]
        exact ⟨D, us, rfl, rfl, hD', ra⟩
      · have hi' : i < (F ds.length).length := by have := (List.getElem?_eq_some_iff.mp hk).1; simp at this; omega
        rw [List.getElem?_append_left hi'] at hk
        simp only [q1, if_false]
        rw [List.getElem?_append_left (by omega)]
        by_cases qv : i ∈ own.map (·.2)
        · simp only [qv, if_true]
          obtain ⟨k'', n1, n2, n3⟩ := nw i qv
          rw [hk] at n2
          cases n2
          rcases n3 with z | ⟨d, z⟩
          · subst z
            exact (show ([] : List Addr) = [] from rfl)
          · subst z
            obtain ⟨_, v, e, r1⟩ := f1 i _ n1
            exact ⟨rfl, v, e, Dp.mono le.g r1⟩
        · simp only [qv, if_false]
          have := f i k' (by rw [wipeK_out qv]; exact hk)
          rw [wipe_out qv] at this
          exact this
end
end Z
namespace Z
open PySem PySem.Spec L2
variable [Tabl]
/-! ### a def's promise by its body -/
structure DefAt (K : PySem.W.Frag) (mg : Str → Option Value) (x : Str) (st : Stmt) (ps : List Str) : Prop where
  ex : ∃ f fd, Fun K x x st f fd ∧ mg x = some (.ref f) ∧ Binds K fd ps []
section
variable {P : Program} {w : World} {K : PySem.W.Frag} {mg : Str → Option Value} {base : Heap}
theorem cxOf_ctx {N ps : List Str} {st : Stmt} {qual : Str} {f : Addr} {k : Nat} (S : FnScope N ps (defScope st)) (cdv : Value) (A : Around) (outer : List Env) (s : Shared) (H : Hp) (E : XK) (hr : Room k (A.deeper (PyProof.Rows.envOfC qual (defScope st) s.heap.objs.size f cdv))) :
    Ctx P w K mg base ⟨N, defScope st, fun _ => true⟩ k (cxOf CX0 P w K mg base N qual (defScope st) f cdv A outer s H E).nox where
  hP := rfl
  hw := rfl
  hK := rfl
  hmg := rfl
  hbase := rfl
  hN := rfl
  nd := S.nd
  hs := rfl
  calm' := fun _ => rfl
  room' := fun _ => hr
  un := Nat.lt_of_le_of_lt (Nat.add_le_add_right (Nat.le_add_right _ _) _) hr.un
  po := PassesOwn.never
  fn := rfl
theorem start_sts {W : Wd} {G H : Hp} {N : List Str} {vs : List V} {ds : List PyData} (le : Le W G H) (r : DpAll K G vs ds) (hl : ds.length ≤ N.length) : Sts K W (ds.map SK.dat ++ List.replicate (N.length - ds.length) .no) (L2.start N vs) G H := by
  have hv := r.len
  refine ⟨le, by simp [L2.start]; omega, fun _ => [], ⟨fun _ _ _ h _ => (by cases h), fun _ _ h => (by cases h), fun _ _ => rfl⟩, fun i k hk => ?_⟩
  by_cases q : i < ds.length
  · rw [List.getElem?_append_left (by simpa using q), List.getElem?_map] at hk
    cases e : ds[i]? with
    | none => rw [e] at hk; cases hk
    | some d =>
      rw [e] at hk
      cases hk
      obtain ⟨v, e1, e2⟩ := r.get e
      refine ⟨rfl, v, ?_, e2⟩
      unfold L2.start
      rw [List.getElem?_append_left (by simp; omega), List.getElem?_map, e1]
      rfl
  · rw [List.getElem?_append_right (by simp; omega)] at hk
    have := List.mem_of_getElem? hk
    rw [List.mem_replicate] at this
    rw [this.2]
    exact (show ([] : List Addr) = [] from rfl)
theorem fn_sd {R : List PyData → PyData → Prop} {x : Str} {st : Stmt} {N ps : List Str} {k : Nat} (D : DefAt K mg x st ps) (S : FnScope N ps (defScope st)) (hl : ∀ ds d, R ds d → ds.length = ps.length) (hN : ps.length ≤ N.length)
    (h : ∀ X, Ctx P w K mg base ⟨N, defScope st, fun _ => true⟩ k X → ∀ ds d, R ds d → SD X (ds.map SK.dat ++ List.replicate (N.length - ds.length) .no) (defBody st) { nx := fun _ => d = .none, rt := fun _ d' => d' = d, rl := fun _ ds' => d = .list ds' }) :
    FnG P w K mg base x ps (k + 1) (spP K R) := by
  obtain ⟨f, fd, F, hm, hb⟩ := D.ex
  refine ⟨f, fd, ?_, hm, F.kp, hb⟩
  refine F.ok S (fun vs H Q E ⟨G, ds, d, _, _, r, hR, _⟩ => by rw [r.len]; exact hl ds d hR) (fun cdv A outer s H vs Q E hr ⟨G, ds, d, g, tb, r, hR, q⟩ => ⟨_, pss_sv, ?_⟩)
  have S0 := start_sts (N := N) (Le.refl g tb) r (by rw [hl ds d hR]; exact hN)
  refine h _ (cxOf_ctx S cdv A outer s H E hr) ds d hR _ _ G H _ S0 ⟨fun ks σ G' H' e S' => ?_, fun _ _ _ _ z => z.elim, fun _ _ _ _ z => z.elim, fun ks σ G' H' v d' e S' r' => ?_, fun ks σ G' H' a ds' e S' => ?_, fun _ _ _ _ _ _ _ _ z => z.elim, ex0⟩
  · exact q .non G' H' S'.le (by rw [e]; exact .non)
  · exact q v G' H' S'.le (by rw [← e]; exact r')
  · obtain ⟨G2, S2, g2, r2⟩ := S'.popFreeze
    exact q _ G2 H' S2.le (by rw [e]; exact r2)
theorem fn_sdL {R : List PyData → List PyData → Prop} {x : Str} {st : Stmt} {N ps : List Str} {k : Nat} (D : DefAt K mg x st ps) (S : FnScope N ps (defScope st)) (hl : ∀ ds d, R ds d → ds.length = ps.length) (hN : ps.length ≤ N.length)
    (h : ∀ X, Ctx P w K mg base ⟨N, defScope st, fun _ => true⟩ k X → ∀ ds es, R ds es → SD X (ds.map SK.dat ++ List.replicate (N.length - ds.length) .no) (defBody st) { nx := fun _ => False, rt := fun _ _ => False, rl := fun _ ds' => ds' = es }) :
    FnG P w K mg base x ps (k + 1) (spL K R) := by
  obtain ⟨f, fd, F, hm, hb⟩ := D.ex
  refine ⟨f, fd, ?_, hm, F.kp, hb⟩
  refine F.ok S (fun vs H Q E ⟨G, ds, d, _, _, r, hR, _⟩ => by rw [r.len]; exact hl ds d hR) (fun cdv A outer s H vs Q E hr ⟨G, ds, es, g, tb, r, hR, q⟩ => ⟨_, pss_sv, ?_⟩)
  have S0 := start_sts (N := N) (Le.refl g tb) r (by rw [hl ds es hR]; exact hN)
  refine h _ (cxOf_ctx S cdv A outer s H E hr) ds es hR _ _ G H _ S0 ⟨fun _ _ _ _ z => z.elim, fun _ _ _ _ z => z.elim, fun _ _ _ _ z => z.elim, fun _ _ _ _ _ _ z => z.elim, fun ks σ G' H' a ds' e S' => ?_, fun _ _ _ _ _ _ _ _ z => z.elim, ex0⟩
  subst e
  obtain ⟨S2, g2, w2, vs2, h2, r2, _⟩ := S'.pop
  exact q a vs2 G' H' S2.le w2 g2 h2 r2
/-- a def whose first argument is the drawing state -/
theorem start_rng {W : Wd} {G H : Hp} {N : List Str} {a b : Addr} {r : Rg} {vs : List V} {ds : List PyData} (le : Le W G H) (hr : RngAt H a b r) (ga : G a = none) (gb : G b = none) (ma : W.M a) (mb : W.M b) (rr : DpAll K G vs ds) (hl : ds.length + 1 ≤ N.length) :
    Sts K W (.rng a b r :: (ds.map SK.dat ++ List.replicate (N.length - (ds.length + 1)) .no)) (L2.start N (.ref a :: vs)) G H := by
  have hv := rr.len
  have e : L2.start N (.ref a :: vs) = some (.ref a) :: (vs.map some ++ List.replicate (N.length - (ds.length + 1)) none) := by
    unfold L2.start
    rw [List.map_cons, List.length_cons, hv]
    rfl
  rw [e]
  refine ⟨le, by simp; omega, fun i => if i = 0 then [a, b] else [], ⟨fun i j x h h' => ?_, fun i x h => ?_, fun i hi => ?_⟩, fun i k hk => ?_⟩
  · by_cases q : i = 0 <;> by_cases q' : j = 0 <;> simp only [q, q', if_true, if_false] at h h' <;> first | (rw [q, q']; done) | exact absurd h List.not_mem_nil | exact absurd h' List.not_mem_nil
  · by_cases q : i = 0
    · simp only [q, if_true] at h
      have : x = a ∨ x = b := by simpa using h
      rcases this with z | z <;> subst z
      · exact ⟨ga, .inr ⟨ma, _, by rw [q]; rfl, rfl⟩⟩
      · exact ⟨gb, .inr ⟨mb, _, by rw [q]; rfl, rfl⟩⟩
    · simp only [q, if_false] at h; cases h
  · have : i ≠ 0 := by simp at hi; omega
    simp only [this, if_false]
  · cases i with
    | zero =>
      cases hk
      exact ⟨rfl, rfl, hr.1, hr.2.1, hr.2.2⟩
    | succ i =>
      simp only [Nat.succ_ne_zero, if_false]
      have hk' : (ds.map SK.dat ++ List.replicate (N.length - (ds.length + 1)) .no)[i]? = some k := hk
      show Sl K G H k (((vs.map some ++ List.replicate (N.length - (ds.length + 1)) none)[i]?).getD none) []
      by_cases q : i < ds.length
      · rw [List.getElem?_append_left (by simpa using q), List.getElem?_map] at hk'
        cases e : ds[i]? with
        | none => rw [e] at hk'; cases hk'
        | some d =>
          rw [e] at hk'
          cases hk'
          obtain ⟨v, e1, e2⟩ := rr.get e
          refine ⟨rfl, v, ?_, e2⟩
          rw [List.getElem?_append_left (by simp; omega), List.getElem?_map, e1]
          rfl
      · rw [List.getElem?_append_right (by simp; omega)] at hk'
        have := List.mem_of_getElem? hk'
        rw [List.mem_replicate] at this
        rw [this.2]
        exact (show ([] : List Addr) = [] from rfl)
theorem fn_sdR {R : Rg → List PyData → Rg → PyData → Prop} {x : Str} {st : Stmt} {N ps : List Str} {k : Nat} (D : DefAt K mg x st ps) (S : FnScope N ps (defScope st)) (hl : ∀ r ds r2 d, R r ds r2 d → ds.length + 1 = ps.length) (hN : ps.length ≤ N.length)
    (h : ∀ X, Ctx P w K mg base ⟨N, defScope st, fun _ => true⟩ k X → ∀ a b r ds r2 d, R r ds r2 d → SD X (.rng a b r :: (ds.map SK.dat ++ List.replicate (N.length - (ds.length + 1)) .no)) (defBody st)
      { nx := fun ks => d = .none ∧ ks[0]? = some (.rng a b r2), rt := fun ks d' => d' = d ∧ ks[0]? = some (.rng a b r2), rl := fun ks ds' => d = .list ds' ∧ ks[0]? = some (.rng a b r2) }) :
    FnG P w K mg base x ps (k + 1) (spR K R) := by
  obtain ⟨f, fd, F, hm, hb⟩ := D.ex
  refine ⟨f, fd, ?_, hm, F.kp, hb⟩
  refine F.ok S (fun vs H Q E ⟨G, a, b, us, r, ds, r2, d, e, _, _, _, _, _, rr, hR, _⟩ => by rw [e, List.length_cons, rr.len]; exact hl r ds r2 d hR) (fun cdv A outer s H vs Q E hr ⟨G, a, b, us, r, ds, r2, d, e, g, tb, hrg, ga, gb, rr, hR, q⟩ => ⟨_, pss_sv, ?_⟩)
  subst e
  have le : Le ⟨G, H, fun x => x = a ∨ x = b⟩ G H := ⟨Same.refl G, g, fun _ _ _ _ e => e, fun _ o e => ⟨o, e⟩, fun _ _ e _ => e, fun x hx => by
    rcases hx with z | z <;> subst z
    · exact ⟨_, hrg.1⟩
    · exact ⟨_, hrg.2.1⟩, tb⟩
  have S0 := start_rng (N := N) le hrg ga gb (.inl rfl) (.inr rfl) rr (by rw [hl r ds r2 d hR]; exact hN)
  refine h _ (cxOf_ctx S cdv A outer s H E hr) a b r ds r2 d hR _ _ G H _ S0 ⟨fun ks σ G' H' e S' => ?_, fun _ _ _ _ z => z.elim, fun _ _ _ _ z => z.elim, fun ks σ G' H' v d' e S' r' => ?_, fun ks σ G' H' p ds' e S' => ?_, fun _ _ _ _ _ _ _ _ z => z.elim, ex0⟩
  · exact q .non G' H' S'.le (S'.rngAt e.2).2.1 (by rw [e.1]; exact .non)
  · exact q v G' H' S'.le (S'.rngAt e.2).2.1 (by rw [← e.1]; exact r')
  · obtain ⟨G2, S2, g2, r2⟩ := S'.popFreeze
    exact q _ G2 H' S2.le (S2.rngAt e.2).2.1 (by rw [e.1]; exact r2)
end
end Z
/-! ### enumerate of a tuple -/
namespace Z
open PySem PySem.Spec L2
variable [Tabl]
section
open Sem (wp)
open AutoSeq1 (wpAny_loadPart')
theorem zmeets_enumT (t : Addr) (items : Array Value) : Meets (Builtin.«enumerate.__new__» ⟨[.type "enumerate", .ref t], []⟩) (fun _ R s => s.heap.IsTuple t items ∧
      R (.ok (.ret (.ref (s.heap.push { cls := .type "tuple_iterator", data := .fields #[.ref t, .int 0 0] }).objs.size))) { s with heap := (s.heap.push { cls := .type "tuple_iterator", data := .fields #[.ref t, .int 0 0] }).push { cls := .type "enumerate", data := .fields #[.none, .bool false, .ref s.heap.objs.size, rawInt 0, .none, .none] } }) :=
  .of_wp fun prog w A R s hh => by
    obtain ⟨zp, zg, zd, zt, zo⟩ := s
    obtain ⟨ht, hr⟩ := hh
    have zsub := sub_enumerate
    have zit : ∀ {A' : Around} {E : Value → Shared → Prop} {Q : Value → Shared → Prop}, Q (.ref zp.objs.size) ⟨zp.push { cls := .type "tuple_iterator", data := .fields #[.ref t, .int 0 0] }, zg, zd, zt, zo⟩ → wpAny (model prog w) A' (pyIter (.ref t)) Q E ⟨zp, zg, zd, zt, zo⟩ :=
      fun q => (begins_tuple t items).iter prog w _ _ ⟨zp, zg, zd, zt, zo⟩ _ ht q
    wp_walk using zit
    refine wpAny_stack_any fun zst => wpAny_pure ?_
    split
    · rename_i cz _ _ _ _ _
      cases (cz == Value.type "enumerate")
      · wp_walk using zit
        exact ⟨_, rfl, hr⟩
      · wp_walk using zit
        exact ⟨_, rfl, hr⟩
    · wp_walk using zit
      exact ⟨_, rfl, hr⟩
theorem zcall_enumT {prog : Program} {w : World} {A : Around} {E : Value → Shared → Prop} {s : Shared} {t : Addr} {items : Array Value} {Q : Value → Shared → Prop} (ht : s.heap.IsTuple t items)
    (h : ∀ h', IsEnum h' (s.heap.objs.size + 1) s.heap.objs.size 0 .none → h'.IsTupleIter s.heap.objs.size t 0 → h'.objs.size = s.heap.objs.size + 2 → (∀ b o, s.heap.get? b = some o → h'.get? b = some o) → Q (.ref (s.heap.objs.size + 1)) { s with heap := h' }) :
    wpAny (model prog w) A (call (.type "enumerate") [.ref t]) Q E s := by
  refine callType_new F.called_enumerate (by decide) (F.typeCall_enumerate_1 _) (F.newCall_enumerate_1 _) (fun ob => F.args_object_init_2 ob _) F.entry_enumerate_new (zmeets_enumT t items) ⟨ht, ?_⟩
  have zz : (s.heap.push { cls := .type "tuple_iterator", data := .fields #[.ref t, .int 0 0] }).objs.size = s.heap.objs.size + 1 := Heap.size_push ..
  show _ ∧ _
  rw [zz]
  have ze : IsEnum ((s.heap.push { cls := .type "tuple_iterator", data := .fields #[.ref t, .int 0 0] }).push { cls := .type "enumerate", data := .fields #[.none, .bool false, .ref s.heap.objs.size, rawInt 0, .none, .none] }) (s.heap.objs.size + 1) s.heap.objs.size 0 .none := by
    have zq := Heap.get?_push_size (s.heap.push { cls := .type "tuple_iterator", data := .fields #[.ref t, .int 0 0] }) (o := { cls := .type "enumerate", data := .fields #[.none, .bool false, .ref s.heap.objs.size, rawInt 0, .none, .none] }) rfl
    rw [zz] at zq
    exact zq
  exact ⟨⟨_, ze, rfl⟩, h _ ze ⟨_, Heap.get?_push_of_some _ (Heap.get?_push_size _ rfl), rfl, rfl⟩ (by rw [Heap.size_push, zz]) fun b o q => Heap.get?_push_of_some _ (Heap.get?_push_of_some _ q)⟩
end
def IteT (K : PySem.W.Frag) (a : Addr) : It :=
  ⟨fun i H => ∃ (xs : List V) (x : V), SqT K H a xs ∧ xs[i]? = some x, fun i H v H' => ∃ T x, v = .ref T ∧ H T = none ∧ H' = upd H T (.tup [.int (i : Nat), x]) ∧ ∀ xs, SqT K H a xs → xs[i]? = some x, fun i H => ∃ xs : List V, SqT K H a xs ∧ xs.length = i⟩
theorem tupIt_ne {h : Heap} {a it : Addr} {i : Nat} {its : Array Value} (ht : h.IsTuple a its) (hi : h.IsTupleIter it a i) : a ≠ it := fun z => by
  subst z
  obtain ⟨o, ho, hc, _⟩ := ht
  obtain ⟨o', ho', hc', _⟩ := hi
  rw [ho] at ho'
  cases ho'
  rw [hc] at hc'
  exact absurd hc' (by decide)
theorem zturn_enumT {P : Program} {w : World} {K : PySem.W.Frag} {elts : List Expr} {kk : Nat} {tpos : Pos} (a e it : Addr) :
    Turn P w K (.Tuple elts kk tpos) (IteT K a) [e, it] e (fun i h => (∃ old, IsEnum h e it ((i : Nat) : Int) old) ∧ h.IsTupleIter it a i ∧ e ≠ it) where
  mem := by simp
  obj := fun i h st b hb => by
    obtain ⟨⟨old, ze⟩, ⟨o, zo, _, zd⟩, _⟩ := st
    rcases (show b = e ∨ b = it by simpa using hb) with q | q <;> subst q
    · exact ⟨_, ze, fun v q => nomatch q⟩
    · exact ⟨o, zo, fun v q => by rw [zd] at q; cases q⟩
  keep := fun i h h' st k => by
    obtain ⟨⟨old, ze⟩, zi, zn⟩ := st
    exact ⟨⟨old, k e (by simp) _ ze⟩, zi.at fun o q => k it (by simp) o q, zn⟩
  item := by
    intro X hP hw hK hc i pins s σ H E I hf st hg
    subst hP hw hK
    obtain ⟨⟨old, ze⟩, zi, zn⟩ := st
    obtain ⟨xs, x, hq, hx⟩ := hg
    obtain ⟨its, rv, p, hz⟩ := I.tuple hq
    have pt : s.heap.IsTuple a its.toArray := p
    obtain ⟨u0, hu0, ru0⟩ := rv.get hx
    have hlt : i < its.toArray.size := by
      have := (List.getElem?_eq_some_iff.mp hu0).1
      simpa using this
    have zne := tupIt_ne pt zi
    have zel : e < s.heap.objs.size := Heap.lt_size ze
    have zil : it < s.heap.objs.size := by obtain ⟨_, q, _⟩ := zi; exact Heap.lt_size q
    have zea : e ∉ [it, a] := by
      intro z
      rcases (show e = it ∨ e = a by simpa using z) with z | z
      · exact zn z
      · subst z
        obtain ⟨o, ho, hcl, _⟩ := pt
        have ze' : s.heap.get? e = some _ := ze
        rw [ze'] at ho
        cases ho
        exact absurd (show Value.type "enumerate" = Value.type "tuple" from hcl) (by decide)
    have zh : X.A.in1.handled = none := I.ok.hd hc
    refine wpAny_pyNext_enum_itemD (Draws.tuple zh it a zne its.toArray) ze ⟨zi, pt⟩ hlt zn zea fun u h' tk hu ho st' hT hsz hk => ?_
    have hu' : its[i]? = some u := by simpa using hu
    have ru : RelV x u := by
      rw [hu0] at hu'
      cases hu'
      exact ru0
    refine ⟨_, rfl, wpAny_letOwnedTupleGo_enum (s := { s with heap := h', toks := tk + 1 }) ho fun h'' he' sb => ?_⟩
    have hT2 : h''.get? s.heap.objs.size = some { cls := .type "tuple", data := .seq #[.int i tk, u] } := (sb.2 _ (Nat.ne_of_gt zel)).trans hT
    have new : ObjOk X.prog X.w (upd H s.heap.objs.size (.tup [.int (i : Nat), x])) h'' s.heap.objs.size (.tup [.int (i : Nat), x]) :=
      ⟨by show 2 ≤ sizeLine; decide, [.int i tk, u], .cons ⟨_, rfl⟩ (.cons ru .nil), ⟨_, hT2, rfl, _, rfl⟩⟩
    have I1 : Inv X pins σ (upd H s.heap.objs.size (.tup [.int (i : Nat), x])) { s with heap := h'', toks := tk + 1 } :=
      I.turnedNew (ch := [e, it]) (fun b ob hb q => (sb.2 b (fun z => hb (by simp [z]))).trans (hk b ob (fun z => hb (by simp [z])) (fun z => hb (by simp [z])) q)) hf (Nat.le_refl _) new
    refine ⟨.ref s.heap.objs.size, _, I1, rfl, ⟨_, x, rfl, I.hok.fresh (Nat.le_refl _), rfl, fun ys hy => by rw [I.tuple_inj hy hq]; exact hx⟩, ⟨⟨u, ?_⟩, st'.1.at fun o q => (sb.2 it (Ne.symm zn)).trans q, zn⟩, fun b hb => ?_⟩
    · have e1 : ((i + 1 : Nat) : Int) = (i : Int) + 1 := by omega
      rw [e1]; exact he'
    · have hb' : b < s.heap.objs.size := by
        rcases (show b = e ∨ b = it by simpa using hb) with z | z
        · rw [z]; exact zel
        · rw [z]; exact zil
      rw [upd_ne (Nat.ne_of_lt hb')]
      exact (hf b hb).1
  done := by
    intro X hP hw hK hc i pins s σ H E I hf st hg
    subst hP hw hK
    obtain ⟨⟨old, ze⟩, zi, zn⟩ := st
    obtain ⟨xs, hq, hx⟩ := hg
    obtain ⟨its, rv, p, hz⟩ := I.tuple hq
    have pt : s.heap.IsTuple a its.toArray := p
    obtain ⟨f0, f1, f2, f3, f4, f5⟩ := hf it (by simp)
    have hl := rv.length
    have zne := tupIt_ne pt zi
    have zh : X.A.in1.handled = none := I.ok.hd hc
    obtain ⟨o, ho, hcl, hd⟩ := id zi
    have zis : s.heap.IsTupleIter it a i ∧ s.heap.IsTuple a its.toArray := ⟨zi, pt⟩
    have q : i = its.toArray.size := by simp; omega
    subst q
    exact wpAny_pyNext_enum_endD (Draws.tuple zh it a zne its.toArray) ze zis fun h' eb => ⟨rfl, I.turned (t' := s.toks) (fun b o hb q => eb b o hb q) f0 f1 f3 f4 f5⟩
  self := fun A i s Q E st q => by
    obtain ⟨⟨_, ze⟩, _⟩ := st
    exact wpAny_pyIter_enum ze q
def iEnumT (K : PySem.W.Frag) (ta : TA) : TI := fun σ H R => ta σ H fun vs H1 => ∃ a xs, vs = [.ref a] ∧ SqT K H1 a xs ∧ R (IteT K a) H1
theorem zpi_enumT {X : Cx} {e : Expr} {ta : TA} {p pos tpos : Pos} {elts : List Expr} {kk : Nat} (hg : Gl X "enumerate") (hm : X.mg "enumerate" = none) (ha : PA X [e] ta) (hs : starEach [e] X.env = [(false, eval e X.env)]) :
    PI X (.Tuple elts kk tpos) (.Call (.Name "enumerate" p) [e] [] pos) (iEnumT X.K ta) := by
  refine ⟨fun pins s σ H R I h => ?_⟩
  refine PyProof.Rows.Call_ (ld_blt I hg hm PyProof.Rows.boot_enumerate (PyProof.Rows.callWith_type1 (thn (ha.run pos pins s σ H _ I h) fun us s1 ⟨vs, H1, I1, r1, q1⟩ => ?_) hs rfl))
  obtain ⟨a, xs, ex, hq, q⟩ := q1
  subst ex
  cases r1 with
  | cons r rr =>
    cases rr
    cases r
    obtain ⟨its, rv, p', hz⟩ := I1.tuple hq
    refine zcall_enumT (show s1.heap.IsTuple a its.toArray from p') fun h' he hit hsz hk => wpAny_pyIter_enum he ?_
    have I2 : Inv X pins σ H1 { s1 with heap := h' } := I1.kept (t' := s1.toks) hk
    refine ⟨s1.heap.objs.size + 1, [s1.heap.objs.size + 1, s1.heap.objs.size], _, _, H1, rfl, I2, zturn_enumT a (s1.heap.objs.size + 1) s1.heap.objs.size, ⟨⟨.none, he⟩, hit, Nat.succ_ne_self _⟩, fun b hb => ?_, q⟩
    have hle : s1.heap.objs.size ≤ b := by
      rcases (show b = s1.heap.objs.size + 1 ∨ b = s1.heap.objs.size by simpa using hb) with z | z
      · rw [z]; exact Nat.le_add_right _ _
      · rw [z]; exact Nat.le_refl _
    exact I1.fpOk hle (I1.hok.fresh hle)
theorem walk_enumT {K : PySem.W.Frag} {a : Addr} {xs : List V} : Walk (IteT K a) xs.length (fun H => SqT K H a xs) (YPair (fun i => some (.int (i : Nat))) (fun i => xs[i]?)) := by
  refine ⟨fun i _ hi q => ⟨xs, xs[i], q, by simp [hi]⟩, fun _ q => ⟨xs, q, rfl⟩, fun i H v H' _ q y => ?_⟩
  obtain ⟨T, x, h1, h2, h3, h4⟩ := y
  exact ⟨T, .int (i : Nat), x, h1, h2, h3, rfl, h4 xs q⟩
section
variable {P : Program} {w : World} {K : PySem.W.Frag} {mg : Str → Option Value} {base : Heap} {T : Sta} {k : Nat} {X : Cx} {ks k1 k2 k3 : List SK} {a b e : Expr} {es : List Expr} {d da db : PyData} {ds : List PyData} {pos p tpos : Pos} {rest body orelse : List Stmt} {Φ : Po}
/-- i, x of enumerate -/
def enumD (ds : List PyData) : List PyData := (List.range ds.length).map fun i => .tuple [.int (i : Nat), ds.getD i .none]
theorem enumD_len (ds : List PyData) : (enumD ds).length = ds.length := by simp [enumD]
theorem enumD_get {ds : List PyData} {i : Nat} {d : PyData} (h : ds[i]? = some d) : (enumD ds)[i]? = some (.tuple [.int (i : Nat), d]) := by
  have hi := (List.getElem?_eq_some_iff.mp h).1
  unfold enumD
  rw [List.getElem?_map, List.getElem?_range hi]
  simp [List.getD_eq_getElem?_getD, h]
theorem enumD_inv {ds : List PyData} {i : Nat} {z : PyData} (h : (enumD ds)[i]? = some z) : ∃ d, ds[i]? = some d ∧ z = .tuple [.int (i : Nat), d] := by
  have hi := (List.getElem?_eq_some_iff.mp h).1
  rw [enumD_len] at hi
  have e : ds[i]? = some ds[i] := by simp [hi]
  rw [enumD_get e] at h
  exact ⟨_, e, (Option.some.inj h).symm⟩
theorem src_pair {J : It} {Gs : Hp} {vs : List V} {n : Nat} {x y : Nat → Option V} {es : List PyData} {Gc : Hp → Prop} (wk : Walk J n Gc (YPair x y)) (hn : n = es.length) (hG : ∀ H, Same Gs H → Gc H)
    (hd : ∀ i u v, i < n → x i = some u → y i = some v → ∃ d d', es[i]? = some (.tuple [d, d']) ∧ Dp K Gs u d ∧ Dp K Gs v d') : SrcOk K J Gs es := by
  subst hn
  refine ⟨wk.mono (fun H s => hG H s) fun i H v H' hi s yy => ?_⟩
  obtain ⟨t, u, v', rfl, nT, rfl, hx, hy⟩ := yy
  intro G s1 s2
  obtain ⟨d, d', h1, h2, h3⟩ := hd i u v' hi hx hy
  have l := Lp.new (o := .tup [u, v']) s2 nT
  exact ⟨_, _, h1, l, .tup (SqT.of upd_same) (.cons (Dp.mono (s1.trans l.g) h2) (.cons (Dp.mono (s1.trans l.g) h3) .nil))⟩
theorem id_enumT {elts : List Expr} {kk : Nat} (c : CtxB cq P w K mg base T k X) (hg : T.sc.names.lookup ("enumerate" : Str) = some .globalImplicit) (hm : mg "enumerate" = none) (h : ED X ks a k1 (.tuple ds)) (hs : starEach [a] X.env = [(false, eval a X.env)]) :
    ID X ks (.Tuple elts kk tpos) (.Call (.Name "enumerate" p) [a] [] pos) k1 (enumD ds) := fun W σ G H S R q => by
  refine iv_of (zpi_enumT (gl_of c hg) (by rw [c.hmg]; exact hm) (pa_cons pe_ev pa_nil hs) hs) (h W σ G H S _ fun v G2 H2 S2 g r => ?_)
  obtain ⟨a, vs, rfl, sa, aa⟩ := r.tup_inv
  refine ⟨a, vs, rfl, Same.seqT S2.gh sa, q _ G2 H2 S2 g (src_pair (vs := vs) walk_enumT (by rw [enumD_len, aa.len]) (fun H s => Same.seqT s sa) fun i u v hi hx hy => ?_)⟩
  obtain ⟨d, hd, rd⟩ := aa.getV hy
  have hx := (Option.some.inj hx).symm
  subst hx
  exact ⟨_, d, enumD_get hd, .int _, rd⟩
theorem id_enumL {elts : List Expr} {kk : Nat} (c : CtxB cq P w K mg base T k X) (hg : T.sc.names.lookup ("enumerate" : Str) = some .globalImplicit) (hm : mg "enumerate" = none) (h : ED X ks a k1 (.list ds)) (hs : starEach [a] X.env = [(false, eval a X.env)]) :
    ID X ks (.Tuple elts kk tpos) (.Call (.Name "enumerate" p) [a] [] pos) k1 (enumD ds) := fun W σ G H S R q => by
  refine iv_of (pi_enum (gl_of c hg) (by rw [c.hmg]; exact hm) (pa_cons pe_ev pa_nil hs) hs) (h W σ G H S _ fun v G2 H2 S2 g r => ?_)
  obtain ⟨a, vs, rfl, sa, aa⟩ := r.lst_inv
  refine ⟨a, vs, rfl, S2.gh.seq sa, q _ G2 H2 S2 g (src_pair (vs := vs) walk_enum (by rw [enumD_len, aa.len]) (fun H s => s.seq sa) fun i u v hi hx hy => ?_)⟩
  obtain ⟨d, hd, rd⟩ := aa.getV hy
  have hx := (Option.some.inj hx).symm
  subst hx
  exact ⟨_, d, enumD_get hd, .int _, rd⟩
/-! ### subscripts, slices, in -/
def ixD : PyData → Int → Option PyData
  | .tuple ds, i => atI ds i
  | .list ds, i => atI ds i
  | _, _ => none
theorem ed_ix {i : Int} (ha : ED X ks a k1 da) (hb : ED X k1 b k2 (.int i)) (hi : ixD da i = some d) (hs : PlainIx b) : ED X ks (.Subscript a b pos) k2 d := by
  cases da with
  | tuple ds => exact ed_ixT ha hb hi hs
  | list ds => exact ed_ixL ha hb hi hs
  | _ => cases hi
def seqD : PyData → Option (List PyData)
  | .tuple ds => some ds
  | .list ds => some ds
  | _ => none
theorem id_seq {tg : Expr} (h : ED X ks e k1 d) (hd : seqD d = some ds) : ID X ks tg e k1 ds := by
  cases d with
  | tuple ds' => cases hd; exact id_tup h
  | list ds' => cases hd; exact id_lst h
  | _ => cases hd
/-- an optional part of a slice -/
def POd (X : Cx) (ks : List SK) (e : Option Expr) (o : Option Int) : Prop := ∃ t : TO, PO X e t ∧ ∀ W σ G H, Sts X.K W ks σ G H → ∀ Q : Option Int → Hp → Prop, (∀ G2 H2, Sts X.K W ks σ G2 H2 → Same G G2 → Q o H2) → t σ H Q
theorem po_no : POd X ks none none := ⟨_, po_none, fun W σ G H S Q q => q G H S (Same.refl G)⟩
theorem po_yes {i : Int} (h : ED X ks e ks (.int i)) : POd X ks (some e) (some i) := ⟨_, po_some pe_ev, fun W σ G H S Q q => h W σ G H S _ fun v G2 H2 S2 g r => ⟨i, r.int_inv, q G2 H2 S2 g⟩⟩
def cutD (xs : List PyData) (lo hi : Option Int) : List PyData := (xs.drop (HT.sIx xs.length 0 lo)).take (HT.sIx xs.length xs.length hi - HT.sIx xs.length 0 lo)
theorem DpAll.cut {G : Hp} {vs : List V} {ds : List PyData} (r : DpAll K G vs ds) (lo hi : Option Int) : DpAll K G (cutV vs lo hi) (cutD ds lo hi) := by
  unfold cutV cutD
  rw [r.len]
  exact (r.drop _).take _
theorem ed_slT {lo hi : Option Expr} {l h : Option Int} {p2 : Pos} (ha : ED X ks a k1 (.tuple ds)) (hl : POd X k1 lo l) (hh : POd X k1 hi h) : ED X ks (.Subscript a (.Slice lo hi none p2) pos) k1 (.tuple (cutD ds l h)) := by
  obtain ⟨tl, pl, ql⟩ := hl
  obtain ⟨th, ph, qh⟩ := hh
  intro W σ G H S Q q
  refine ev_of (pe_slice sl_tupA pe_ev pl ph) (ha W σ G H S _ fun v G1 H1 S1 g1 r1 => ql W σ G1 H1 S1 _ fun G2 H2 S2 g2 => qh W σ G2 H2 S2 _ fun G3 H3 S3 g3 => ?_)
  obtain ⟨t, vs, rfl, sa, aa⟩ := r1.tup_inv
  have sa3 := Same.seqT (g2.trans g3) sa
  have aa3 := DpAll.mono (g2.trans g3) aa
  refine ⟨t, vs, rfl, Same.seqT S3.gh sa3, fun hw => ?_, fun hw m nm => ?_⟩
  · refine q _ G3 H3 S3 ((g1.trans g2).trans g3) ?_
    have e : cutD ds l h = ds := by
      unfold cutD
      rw [← aa.len, hw.1, hw.2, aa.len]
      simp
    rw [e]
    exact .tup sa3 aa3
  · have le := Lp.new (o := .tup (cutV vs l h)) S3.gh nm
    exact q _ _ _ (S3.pure le) (((g1.trans g2).trans g3).trans le.g) (.tup (SqT.of upd_same) (DpAll.mono le.g (DpAll.cut aa3 l h)))
theorem el_slL {lo hi : Option Expr} {l h : Option Int} {p2 : Pos} (ha : ED X ks a k1 (.list ds)) (hl : POd X k1 lo l) (hh : POd X k1 hi h) : EL X ks (.Subscript a (.Slice lo hi none p2) pos) k1 (cutD ds l h) := by
  obtain ⟨tl, pl, ql⟩ := hl
  obtain ⟨th, ph, qh⟩ := hh
  intro W σ G H S Q q
  refine ev_of (pe_slice sl_list pe_ev pl ph) (ha W σ G H S _ fun v G1 H1 S1 g1 r1 => ql W σ G1 H1 S1 _ fun G2 H2 S2 g2 => qh W σ G2 H2 S2 _ fun G3 H3 S3 g3 => ?_)
  obtain ⟨t, vs, rfl, sa, aa⟩ := r1.lst_inv
  have sa3 := (g2.trans g3).seq sa
  have aa3 := DpAll.mono (g2.trans g3) aa
  refine ⟨t, vs, rfl, S3.gh.seq sa3, fun m nm => ?_⟩
  have gm : G3 m = none := by
    cases e : G3 m with
    | none => rfl
    | some u => rw [S3.gh m u e] at nm; cases nm
  have le := Lp.newOwn (o := .lst (cutV vs l h)) S3.gh nm
  exact q m G3 _ (S3.push le nm gm upd_same (DpAll.cut aa3 l h)) ((g1.trans g2).trans g3)
/-- x in a list or tuple of data -/
theorem cd_inL (c : CtxB cq P w K mg base T k X) (sa : SeqAt.shaped da = true) (sb : SeqAt.shaped (.list ds) = true) : CmpD X .In da (.list ds) (ds.any fun z => PyData.eqv z da) :=
  ⟨_, op_inD (by have := c.un; omega), fun G H x y g ha hb Q q => ⟨da, ds, Dp.mono g ha, Dp.mono g hb, sa, sb, q _ G H (Lp.refl g) (.bl _)⟩⟩
theorem cd_niL (c : CtxB cq P w K mg base T k X) (sa : SeqAt.shaped da = true) (sb : SeqAt.shaped (.list ds) = true) : CmpD X .NotIn da (.list ds) (!ds.any fun z => PyData.eqv z da) :=
  ⟨_, op_notInD (by have := c.un; omega), fun G H x y g ha hb Q q => ⟨da, ds, Dp.mono g ha, Dp.mono g hb, sa, sb, q _ G H (Lp.refl g) (.bl _)⟩⟩
/-! ### unpacking, a list of our own handed back -/
theorem sd_unpack (c : CtxB cq P w K mg base T k X) {tg : Expr} {f : PyData → List SK → Option (List SK)} {js : List Nat} (h : ED X ks e k1 d) (hg : GD X tg f js) (hf : f d k1 = some k2) (hs : swapsWithSole [tg] e pos.line X.env = pure false) (hw : swappedStores [tg] e X.env = pure none)
    (h1 : (assignEach [tg] X.env).map (·.2) = [assign tg X.env]) (q : SD X k2 rest Φ) : SD X ks (.Assign [tg] e pos :: rest) Φ := fun W σ G H D S M => by
  obtain ⟨g, pg, hg⟩ := hg
  refine sv_of (pss_cons (ps_asg pe_ev pg hs hw h1) pss_sv) ?_
  refine h W σ G H S _ fun v G2 H2 S2 g2 r => ?_
  exact hg W σ G2 H2 k1 v d k2 S2 r hf _ fun σ2 S3 _ _ => q W σ2 G2 H2 D S3 M
theorem sd_retOwn (c : CtxB cq P w K mg base T k X) (i : Nat) {x : Str} (hN : T.N[i]? = some x) (hv : Vis T.sc x) (hk : ks[i]? = some (.own ds)) (hd : (x == ("__debug__" : Str)) = false) (hcd : (x == ("__classdict__" : Str)) = false) (q : Φ.rl (ks.set i .no) ds) :
    SD X ks (.Return (some (.Name x p)) pos :: rest) Φ := fun W σ G H D S M => by
  obtain ⟨a, vs, e1, h1, r, g, w1, ow, o, f, e2, no⟩ := S.ownAt hk
  refine sv_of (pss_cons (ps_ret (pe_var (ix_of c hN) (vis_of c hv) hd hcd)) pss_sv) ⟨.ref a, e1, ?_⟩
  refine M.rl (ks.set i .no) σ G H a ds q ?_
  have hi := (List.getElem?_eq_some_iff.mp hk).1
  have hl := S.len
  refine ⟨S.le, by simp [hl], fun j => if j = ks.length then [a] else if j = i then [] else ow j, ⟨fun j j' b hb hb' => ?_, fun j b hb => ?_, fun j hj => ?_⟩, fun j kj hj => ?_⟩
  · by_cases q1 : j = ks.length <;> by_cases q2 : j' = ks.length
    · rw [q1, q2]
    · simp only [q1, if_true, q2, if_false] at hb hb'
      simp at hb; subst hb
      split at hb'
      · cases hb'
      · exact (no j' ‹_› hb').elim
    · simp only [q1, if_false, q2, if_true] at hb hb'
      simp at hb'; subst hb'
      split at hb
      · cases hb
      · exact (no j ‹_› hb).elim
    · simp only [q1, q2, if_false] at hb hb'
      split at hb
      · cases hb
      · split at hb'
        · cases hb'
        · exact o.dis j j' b hb hb'
  · by_cases q1 : j = ks.length
    · simp only [q1, if_true] at hb
      simp at hb; subst hb
      exact ⟨g, .inl w1⟩
    · simp only [q1, if_false] at hb
      split at hb
      · cases hb
      · rename_i q2
        obtain ⟨b1, b2⟩ := o.mine j b hb
        refine ⟨b1, ?_⟩
        rcases b2 with b2 | ⟨b2, k', e, e'⟩
        · exact .inl b2
        · refine .inr ⟨b2, k', ?_, e'⟩
          rw [List.getElem?_append_left (by simp; exact (List.getElem?_eq_some_iff.mp e).1), List.getElem?_set_ne (Ne.symm q2)]; exact e
  · have h3 : j ≠ ks.length := by simp at hj; omega
    simp only [h3, if_false]
    split
    · rfl
    · exact o.out j (by simp at hj; omega)
  · by_cases q1 : j = ks.length
    · subst q1
      rw [List.getElem?_append_right (by simp)] at hj
      simp at hj
      subst hj
      simp only [if_true]
      rw [List.getElem?_append_right (by omega), hl]
      simp only [Nat.sub_self]
      exact ⟨a, vs, rfl, rfl, h1, r⟩
    · have hj' : j < ks.length := by have := (List.getElem?_eq_some_iff.mp hj).1; simp at this; omega
      rw [List.getElem?_append_left (by simpa using hj')] at hj
      simp only [q1, if_false]
      rw [List.getElem?_append_left (by omega)]
      by_cases q2 : j = i
      · subst q2
        rw [List.getElem?_set_self hi] at hj
        cases hj
        simp only [if_true]
        exact (show ([] : List Addr) = [] from rfl)
      · rw [List.getElem?_set_ne (Ne.symm q2)] at hj
        simp only [q2, if_false]
        exact f j kj hj
end
end Z
namespace Z
open PySem PySem.Spec L2
/-! ### books as data -/
abbrev Row := Int × Int × Int × Int
structure Book where
  fl : List (List Int)
  st : List Row
  ca : List Row
  bi : List Int
def eInts (l : List Int) : PyData := .tuple (l.map .int)
def eRow (r : Row) : PyData := .tuple [.int r.1, .int r.2.1, .int r.2.2.1, .int r.2.2.2]
def eBook (B : Book) : PyData := .tuple [.tuple (B.fl.map eInts), .tuple (B.st.map eRow), .tuple (B.ca.map eRow), eInts B.bi]
abbrev Book.n (B : Book) : Nat := B.fl.length
def Book.row (B : Book) (o : Int) : List Int := B.fl.getD o.toNat []
def Book.f (B : Book) (o h : Int) : Int := (B.row o).getD h.toNat 0
def Book.off (B : Book) (o : Int) : Prop := 0 ≤ o ∧ o < (B.n : Int)
structure GoodRow (B : Book) (r : Row) : Prop where
  a : B.off r.1
  b : B.off r.2.1
  ne : r.1 ≠ r.2.1
  h0 : 0 ≤ r.2.2.1
  h1 : r.2.2.1 < r.2.2.2
  h2 : r.2.2.2 ≤ 99
structure Good (B : Book) : Prop where
  n2 : 2 ≤ B.n
  n6 : B.n ≤ 6
  rows : ∀ r ∈ B.fl, r.length = B.n
  vals : ∀ o h, B.off o → B.off h → if h = o then B.f o h = 0 else 1 ≤ B.f o h ∧ B.f o h ≤ 9
  st : ∀ r ∈ B.st, GoodRow B r
  stl : B.st.length ≤ 8
  ca : ∀ r ∈ B.ca, GoodRow B r
  cal : B.ca.length ≤ 12
  bi : ∀ h ∈ B.bi, B.off h
  bil : B.bi.length ≤ 6
/-! ### indices -/
theorem atI_of {α : Type} {xs : List α} {i : Int} (h0 : 0 ≤ i) (h1 : i < xs.length) (d : α) : atI xs i = some (xs.getD i.toNat d) := by
  obtain ⟨j, rfl⟩ : ∃ j : Nat, i = (j : Int) := ⟨i.toNat, by omega⟩
  rw [Int.toNat_natCast]
  have hj : j < xs.length := by omega
  exact atI_nat (by rw [List.getD_eq_getElem?_getD]; simp [hj])
theorem atI_map {α β : Type} (f : α → β) (xs : List α) (i : Int) : atI (xs.map f) i = (atI xs i).map f := by
  unfold atI
  rw [List.length_map]
  cases ixN xs.length i with
  | none => rfl
  | some j => simp
theorem ix_fl {B : Book} {o : Int} (h : B.off o) : ixD (.tuple (B.fl.map eInts)) o = some (eInts (B.row o)) := by
  show atI _ _ = _
  rw [atI_map, atI_of h.1 h.2 []]
  rfl
theorem row_len {B : Book} {o : Int} (g : Good B) (h : B.off o) : (B.row o).length = B.n := by
  refine g.rows _ ?_
  unfold Book.row
  have h1 := h.1
  have h2 : o < (B.fl.length : Int) := h.2
  have : o.toNat < B.fl.length := by omega
  rw [List.getD_eq_getElem?_getD, List.getElem?_eq_getElem this]
  simp
theorem ix_row {B : Book} {o h : Int} (g : Good B) (ho : B.off o) (hh : B.off h) : ixD (eInts (B.row o)) h = some (.int (B.f o h)) := by
  show atI _ _ = _
  rw [atI_map, atI_of hh.1 (by rw [row_len g ho]; exact hh.2) 0]
  rfl
theorem ed_to [Tabl] {X : Cx} {ks k1 : List SK} {e : Expr} {d d' : PyData} (h : ED X ks e k1 d) (e' : d = d') : ED X ks e k1 d' := e' ▸ h
theorem td_to [Tabl] {X : Cx} {ks k1 : List SK} {e : Expr} {b b' : Bool} (h : TD X ks e k1 b) (e' : b = b') : TD X ks e k1 b' := e' ▸ h
theorem decT {p : Prop} [Decidable p] (h : p) : decide p = true := decide_eq_true h
end Z
namespace Z
open PySem PySem.Spec L2
variable [Tabl]
section
variable {P : Program} {w : World} {K : PySem.W.Frag} {mg : Str → Option Value} {base : Heap} {T : Sta} {k : Nat} {X : Cx} {ks k1 k2 k3 : List SK} {a b e : Expr} {es : List Expr} {d da db : PyData} {ds : List PyData} {pos p tpos : Pos} {rest body orelse : List Stmt} {Φ : Po}
/-! ### loops with a word of their own -/
theorem sd_forP (c : Ctx P w K mg base T k X) {tg iter : Expr} {f : PyData → List SK → Option (List SK)} {js : List Nat} (F : Nat → List SK → Prop) (hi : ID X ks tg iter k1 ds) (hg : GD X tg f js) (h0 : F 0 k1)
    (turn : ∀ i d ls, ds[i]? = some d → F i ls → ∃ kb, f d ls = some kb ∧ SD X kb body { Φ with nx := F (i + 1), ct := F (i + 1), bk := fun _ => False })
    (fin : ∀ ls, F ds.length ls → SD X ls rest Φ) (hs : ∀ x, foldedSetIterable iter X.env x = pure x) : SD X ks (.For tg iter body [] pos :: rest) Φ := fun W σ G H D S M => by
  obtain ⟨g, pg, hg⟩ := hg
  have hp := c.po
  refine sv_of (pss_cons (ps_for hp c.calm pi_iv pg pss_sv hs) pss_sv) ?_
  refine hi W σ G H S _ fun J G2 H2 S2 g2 src => ?_
  refine for_it src.wk (fun i σ' H' => ∃ G' ls, F i ls ∧ Sts X.K W ls σ' G' H' ∧ Same G2 G') ⟨G2, _, h0, S2, Same.refl G2⟩ (fun i σ' H' _ ⟨G', ls, _, S', g'⟩ => g'.trans S'.gh) ?_ ?_
  · rintro i x σ' H' H'' hlt ⟨G', ls, fl, S', g'⟩ y
    obtain ⟨d, G3, hd, l, r⟩ := y G' g' S'.gh
    obtain ⟨kb, e, b⟩ := turn i d ls hd fl
    refine hg W σ' G3 H'' ls x d kb (S'.pure l) r e _ fun σ2 S3 _ _ => ?_
    refine b ⟨G2, W.H, W.M⟩ σ2 G3 H'' _ (S3.rebase S2.le.g (g'.trans l.g)) ⟨fun ks σ G H q S => ⟨G, ks, q, S.unbase S2.le, S.le.g⟩, fun _ _ _ _ q => q.elim, fun ks σ G H q S => ⟨G, ks, q, S.unbase S2.le, S.le.g⟩, fun ks σ G H v d q S r => M.rt ks σ G H v d q (S.unbase S2.le) r, fun ks σ G H a ds q S => M.rl ks σ G H a ds q (S.unbase S2.le), fun ks σ G H a ds es fs q S => M.rT ks σ G H a ds es fs q (S.unbase S2.le), M.exU S2.le⟩
  · rintro σ' H' ⟨G', ls, fl, S', g'⟩
    exact fin ls fl W σ' G' H' D S' M
/-- slots by the turn, and a word of the turn -/
theorem sd_forJ (c : Ctx P w K mg base T k X) {tg iter : Expr} {f : PyData → List SK → Option (List SK)} {js : List Nat} (F : Nat → List SK) (J : Nat → Prop) (hi : ID X ks tg iter k1 ds) (hg : GD X tg f js) (h0 : Wk k1 (F 0)) (j0 : J 0)
    (turn : ∀ i d, ds[i]? = some d → J i → ∃ kb, f d (F i) = some kb ∧ SD X kb body { Φ with nx := fun k => Wk k (F (i + 1)) ∧ J (i + 1), ct := fun k => Wk k (F (i + 1)) ∧ J (i + 1), bk := fun _ => False })
    (fin : J ds.length → SD X (F ds.length) rest Φ) (hs : ∀ x, foldedSetIterable iter X.env x = pure x) : SD X ks (.For tg iter body [] pos :: rest) Φ := by
  by_cases hz : ds.length = 0
  · refine sd_forP c (fun i ls => Wk ls (F i) ∧ J i ∧ (i = 0 ∨ ls = F i)) hi hg ⟨h0, j0, .inl rfl⟩ (fun i d ls hd => ?_) (fun ls hl => sd_weak hl.1 (fin hl.2.1)) hs
    have := (List.getElem?_eq_some_iff.mp hd).1
    omega
  · exact fun W σ G H D S M => by
      refine sd_forP (Φ := Φ) c (fun i ls => ls = F i ∧ J i) (k1 := F 0) (fun W σ G H S R q => hi W σ G H S R fun Jt G2 H2 S2 => q Jt G2 H2 (S2.weak h0)) hg ⟨rfl, j0⟩ (fun i d ls hd hl => ?_) (fun ls hl => ?_) hs W σ G H D S M
      · obtain ⟨rfl, hj⟩ := hl
        obtain ⟨kb, e, b⟩ := turn i d hd hj
        refine ⟨kb, e, fun W σ G H D S M => b W σ G H D S ⟨fun ks σ G H q S => M.nx (F (i + 1)) σ G H ⟨rfl, q.2⟩ (S.weak q.1), fun _ _ _ _ q => q.elim, fun ks σ G H q S => M.ct (F (i + 1)) σ G H ⟨rfl, q.2⟩ (S.weak q.1), M.rt, M.rl, M.rT, M.ex⟩⟩
      · obtain ⟨rfl, hj⟩ := hl
        exact fin hj
/-! ### a < b < c < d -/
theorem ed_chain3 {op op' op2 : CmpOp} {x y z : Bool} {e3 e4 : Expr} {dc dd : PyData} (ha : ED X ks a ks da) (hb : ED X ks b ks db) (hc : ED X ks e3 ks dc) (hd : ED X ks e4 ks dd) (h : CmpD X op da db x) (h' : CmpD X op' db dc y) (h2 : CmpD X op2 dc dd z)
    (hm : lastMarks [op, op', op2] [b, e3, e4] = false) : ED X ks (.Compare a [op, op', op2] [b, e3, e4] pos) ks (.bool (x && (y && z))) := by
  obtain ⟨r, ho, hr⟩ := h.out
  obtain ⟨r', ho', hr'⟩ := h'.out
  obtain ⟨r2, ho2, hr2⟩ := h2.out
  intro W σ G H S Q q
  refine ⟨fun pins s I => ?_⟩
  refine PyProof.Rows.Compare_chain (thn (EV.run (ha W σ G H S (fun v H1 => ∃ G1, Sts X.K W ks σ G1 H1 ∧ Same G G1 ∧ Dp X.K G1 v da) (fun v G1 H1 S1 g1 r1 => ⟨G1, S1, g1, r1⟩)) pins s I) fun u1 s1 ⟨v1, H1, I1, rv1, G1, S1, g1, d1⟩ => ?_) hm
  refine PyProof.Rows.chain_link (thn (EV.run (hb W σ G1 H1 S1 (fun v H2 => ∃ G2, Sts X.K W ks σ G2 H2 ∧ Same G1 G2 ∧ Dp X.K G2 v db) (fun v G2 H2 S2 g2 r2 => ⟨G2, S2, g2, r2⟩)) pins s1 I1) fun u2 s2 ⟨v2, H2, I2, rv2, G2, S2, g2, d2⟩ => ?_)
  refine thn (ho pins s2 σ H2 v1 v2 u1 u2 (fun v H3 => ∃ G3, Sts X.K W ks σ G3 H3 ∧ Same G2 G3 ∧ v = .bl x) I2 rv1 rv2 (hr G2 H2 v1 v2 S2.gh (Dp.mono g2 d1) d2 _ fun v G3 H3 l r3 => ⟨G3, S2.pure l, l.g, r3.bl_inv⟩)) fun c3 s3 ⟨v3, H3, I3, rv3, G3, S3, g3, e3'⟩ => ?_
  subst e3'
  cases rv3
  refine wpAny_truthy_bool ?_
  cases x with
  | false => exact PyProof.Rows.ite_ff ⟨.bl false, H3, I3, rfl, q _ G3 H3 S3 ((g1.trans g2).trans g3) (.bl _)⟩
  | true =>
    refine PyProof.Rows.ite_tt ?_
    refine PyProof.Rows.chain_link (thn (EV.run (hc W σ G3 H3 S3 (fun v H4 => ∃ G4, Sts X.K W ks σ G4 H4 ∧ Same G3 G4 ∧ Dp X.K G4 v dc) (fun v G4 H4 S4 g4 r4 => ⟨G4, S4, g4, r4⟩)) pins s3 I3) fun u4 s4 ⟨v4, H4, I4, rv4, G4, S4, g4, d4⟩ => ?_)
    refine thn (ho' pins s4 σ H4 v2 v4 u2 u4 (fun v H5 => ∃ G5, Sts X.K W ks σ G5 H5 ∧ Same G4 G5 ∧ v = .bl y) I4 rv2 rv4 (hr' G4 H4 v2 v4 S4.gh (Dp.mono (g3.trans g4) d2) d4 _ fun v G5 H5 l r5 => ⟨G5, S4.pure l, l.g, r5.bl_inv⟩)) fun c5 s5 ⟨v5, H5, I5, rv5, G5, S5, g5, e5'⟩ => ?_
    subst e5'
    cases rv5
    refine wpAny_truthy_bool ?_
    cases y with
    | false => exact PyProof.Rows.ite_ff ⟨.bl false, H5, I5, rfl, q _ G5 H5 S5 ((((g1.trans g2).trans g3).trans g4).trans g5) (.bl _)⟩
    | true =>
      refine PyProof.Rows.ite_tt ?_
      refine PyProof.Rows.chain_last (thn (EV.run (hd W σ G5 H5 S5 (fun v H6 => ∃ G6, Sts X.K W ks σ G6 H6 ∧ Same G5 G6 ∧ Dp X.K G6 v dd) (fun v G6 H6 S6 g6 r6 => ⟨G6, S6, g6, r6⟩)) pins s5 I5) fun u6 s6 ⟨v6, H6, I6, rv6, G6, S6, g6, d6⟩ => ?_)
      exact ho2 pins s6 σ H6 v4 v6 u4 u6 Q I6 rv4 rv6 (hr2 G6 H6 v4 v6 S6.gh (Dp.mono (g5.trans g6) d4) d6 _ fun v G7 H7 l r7 => q v G7 H7 (S6.pure l) ((((((g1.trans g2).trans g3).trans g4).trans g5).trans g6).trans l.g) r7)
/-! ### isinstance -/
def tyD : PyData → String
  | .none => "NoneType"
  | .bool _ => "bool"
  | .int _ => "int"
  | .str _ => "str"
  | .list _ => "list"
  | .tuple _ => "tuple"
  | .dict _ => "dict"
theorem tyx_of {G H : Hp} {v : V} (g : Same G H) (h : Dp K G v d) : TyX K H v (.type (tyD d)) := by
  cases h with
  | non => exact .base .non
  | bl b => exact .base (.bl b)
  | int i => exact .base (.int i)
  | str x => exact .base (.str x)
  | lst s _ =>
    rcases g.seq s with (s | ⟨o, s⟩) | ⟨o, its, n, s, hc, _⟩
    · exact .base (.lst s)
    · exact .base (.frz s)
    · exact .kList s hc
  | tup s _ =>
    rcases Same.seqT g s with (s | ⟨o, s⟩) | ⟨o, its, n, s, hc, _⟩
    · exact .base (.tup s)
    · exact .fTuple s
    · exact .kTuple s hc
theorem ed_isi (c : CtxB cq P w K mg base T k X) {y : Str} {tn : String} {b : Bool} {q q2 : Pos} (hg : T.sc.names.lookup ("isinstance" : Str) = some .globalImplicit) (hm : mg "isinstance" = none) (ha : ED X ks a k1 d) (hy : T.sc.names.lookup y = some .globalImplicit) (hmy : mg y = none)
    (hv : bootBuiltins y = some (.type tn)) (hb : kitB (tyD d) tn = some b) (hn : y ≠ "__name__") (hd : (y == ("__debug__" : Str)) = false) (h1 : starEach [a, .Name y q2] X.env = (false, eval a X.env) :: starEach [.Name y q2] X.env) (h2 : starEach [.Name y q2] X.env = (false, eval (.Name y q2) X.env) :: starEach [] X.env)
    (hpl : (backTo pos (starEach [.Name y q2] X.env)).any (·.1) = false) :
    ED X ks (.Call (.Name "isinstance" q) [a, .Name y q2] [] pos) k1 (.bool b) := fun W σ G H S Q qq => by
  refine ev_of (pe_callB call_isi (gl_of c hg) (by rw [c.hmg]; exact hm) PyProof.Rows.boot_isinstance (pa_cons pe_ev (pa_cons (pe_bltn (v := .ty tn) (gl_of c hy) (by rw [c.hmg]; exact hmy) hv rfl hn hd) pa_nil h2) h1) (he := h1) (hpl := hpl)) ?_
  refine ha W σ G H S _ fun v G1 H1 S1 g1 r1 => ?_
  exact ⟨v, .ty tn, .type (tyD d), .type tn, b, rfl, .ty tn, tyx_of S1.gh r1, kit_ty hb, qq _ G1 H1 S1 g1 (.bl b)⟩
theorem un_minus {i : Int} (h : ED X ks a k1 (.int i)) : ED X ks (.UnaryOp .USub a pos) k1 (.int (-i)) := fun W σ G H S Q q =>
  ev_of (pe_un un_neg pe_ev) (h W σ G H S _ fun v G1 H1 S1 g r => ⟨i, r.int_inv, q _ G1 H1 S1 g (.int _)⟩)
theorem shaped_ints (l : List Int) : SeqAt.shaped (.list (l.map .int)) = true := by
  have h1 : ∀ l : List Int, PyData.canLayAll0 (l.map .int) = true := by
    intro l
    induction l with
    | nil => rfl
    | cons a l ih =>
      show (PyData.canLay0 (.int a) && PyData.canLayAll0 (l.map .int)) = true
      rw [ih]
      rfl
  have h2 : ∀ l : List Int, PyData.depthAll (l.map .int) = 0 := by
    intro l
    induction l with
    | nil => rfl
    | cons a l ih =>
      show max (PyData.depth (.int a)) (PyData.depthAll (l.map .int)) = 0
      rw [ih]
      rfl
  unfold SeqAt.shaped
  have e1 : (PyData.list (l.map .int)).canLay0 = true := h1 l
  have e2 : (PyData.list (l.map .int)).depth = 1 := by
    show PyData.depthAll (l.map .int) + 1 = 1
    rw [h2]
  rw [e1, e2]
  rfl
/-! ### the drawing state, read and changed -/
section
variable {x : Str} {i : Nat} {A B : Addr} {r : Rg} {px : Pos}
/-- _law_h[0], _law_h[2] -/
theorem rng_ix (c : CtxB cq P w K mg base T k X) (hN : T.N[i]? = some x) (hv : Vis T.sc x) (hk : ks[i]? = some (.rng A B r)) (hd : (x == ("__debug__" : Str)) = false) (hcd : (x == ("__classdict__" : Str)) = false) {j : Int} {q : Int} {jj : Nat} {p2 : Pos}
    (hj : (j = 0 ∧ q = r.s) ∨ (j = 2 ∧ q = r.k)) : ED X ks (.Subscript (.Name x px) (.Constant (.int j) jj p2) pos) ks (.int q) := fun W σ G H S Q qq => by
  obtain ⟨e1, ⟨h1, h2, h3⟩, _⟩ := S.rngAt hk
  refine ev_of (pe_ix ix_list (pe_var (ix_of c hN) (vis_of c hv) hd hcd) pe_int (fun _ _ => rfl)) ⟨_, e1, A, _, j, .int q, rfl, rfl, SqL.of h1, ?_, qq _ G H S (Same.refl G) (.int _)⟩
  rcases hj with ⟨rfl, rfl⟩ | ⟨rfl, rfl⟩ <;> rfl
/-- the reading of _law_h[1] -/
theorem rng_cells (c : CtxB cq P w K mg base T k X) (hN : T.N[i]? = some x) (hv : Vis T.sc x) (hk : ks[i]? = some (.rng A B r)) (hd : (x == ("__debug__" : Str)) = false) (hcd : (x == ("__classdict__" : Str)) = false) {jj : Nat} {p2 : Pos} {W : Wd} {σ : St} {G H : Hp} (S : Sts X.K W ks σ G H) {Q : VK} (q : Q (.ref B) H) :
    EV X (.Subscript (.Name x px) (.Constant (.int 1) jj p2) pos) σ H Q := by
  obtain ⟨e1, ⟨h1, h2, h3⟩, _⟩ := S.rngAt hk
  exact ev_of (pe_ix ix_list (pe_var (ix_of c hN) (vis_of c hv) hd hcd) pe_int (fun _ _ => rfl)) ⟨_, e1, A, _, 1, .ref B, rfl, rfl, SqL.of h1, rfl, q⟩
theorem rng_len (c : CtxB cq P w K mg base T k X) (hN : T.N[i]? = some x) (hv : Vis T.sc x) (hk : ks[i]? = some (.rng A B r)) (hd : (x == ("__debug__" : Str)) = false) (hcd : (x == ("__classdict__" : Str)) = false) {jj : Nat} {p2 q1 : Pos} {pp : Pos}
    (hg : T.sc.names.lookup ("len" : Str) = some .globalImplicit) (hm : mg "len" = none) : ED X ks (.Call (.Name "len" q1) [.Subscript (.Name x px) (.Constant (.int 1) jj p2) pp] [] pos) ks (.int r.c.length) := fun W σ G H S Q qq => by
  obtain ⟨e1, ⟨h1, h2, h3⟩, _⟩ := S.rngAt hk
  refine ev_of (pe_callB call_len_seq (gl_of c hg) (by rw [c.hmg]; exact hm) PySem.boot_len (pa_cons pe_ev pa_nil)) ?_
  refine rng_cells c hN hv hk hd hcd S ?_
  exact ⟨B, _, rfl, .inl (SqL.of h2), by rw [List.length_map]; exact qq _ G H S (Same.refl G) (.int _)⟩
theorem rng_some (c : CtxB cq P w K mg base T k X) (hN : T.N[i]? = some x) (hv : Vis T.sc x) (hk : ks[i]? = some (.rng A B r)) (hd : (x == ("__debug__" : Str)) = false) (hcd : (x == ("__classdict__" : Str)) = false) {jj : Nat} {p2 pp q1 : Pos} :
    TD X ks (.Compare (.Subscript (.Name x px) (.Constant (.int 1) jj p2) pp) [.NotEq] [.List [] q1] pos) ks (!r.c.isEmpty) := fun W σ G H S Q qq => by
  obtain ⟨e1, ⟨h1, h2, h3⟩, _⟩ := S.rngAt hk
  refine tv_of (pt_cmpR (op_neD c.units) pe_ev (pe_lst pa_nil) (nomark _)) ?_
  refine rng_cells c hN hv hk hd hcd S ?_
  refine ⟨Nat.zero_le _, fun l nl => ?_⟩
  have nb : B ≠ l := ne_of_none h2 nl
  have gl : G l = none := by
    cases e : G l with
    | none => rfl
    | some u => rw [S.gh l u e] at nl; cases nl
  refine ⟨.list (r.c.map .int), .list [], .lst (SqL.of (by rw [upd_ne nb]; exact h2)) DpAll.ints, .lst (SqL.of upd_same) .nil, ?_, rfl, ?_⟩
  · exact shaped_ints r.c
  · have e : (!PyData.eqv (.list (r.c.map .int)) (.list [])) = !r.c.isEmpty := by cases r.c <;> rfl
    rw [e]
    exact ⟨_, rfl, qq G _ (S.pure (Lp.newOwn S.gh nl)) (Same.refl G)⟩
theorem rng_cell (c : CtxB cq P w K mg base T k X) (hN : T.N[i]? = some x) (hv : Vis T.sc x) (hk : ks[i]? = some (.rng A B r)) (hd : (x == ("__debug__" : Str)) = false) (hcd : (x == ("__classdict__" : Str)) = false) {jj : Nat} {p2 pp : Pos} {j q : Int}
    (hb : ED X ks b ks (.int j)) (hj : atI r.c j = some q) (hs : PlainIx b) : ED X ks (.Subscript (.Subscript (.Name x px) (.Constant (.int 1) jj p2) pp) b pos) ks (.int q) := fun W σ G H S Q qq => by
  refine ev_of (pe_ix ix_list pe_ev pe_ev hs) ?_
  refine rng_cells c hN hv hk hd hcd S ?_
  refine hb W σ G H S _ fun v G1 H1 S1 g1 r1 => ?_
  obtain ⟨e1, ⟨h1, h2, h3⟩, _⟩ := S1.rngAt hk
  rw [r1.int_inv]
  refine ⟨B, _, j, .int q, rfl, rfl, SqL.of h2, ?_, qq _ G1 H1 S1 g1 (.int _)⟩
  rw [atI_map, hj]
  rfl
/-- _law_h[0] = .., _law_h[2] = .. -/
theorem Sts.rngPut {W : Wd} {σ : St} {G H : Hp} {r2 : Rg} {o : HO} {z : Addr} (S : Sts K W ks σ G H) (hk : ks[i]? = some (.rng A B r)) (hz : z = A ∨ z = B) (h2 : RngAt (upd H z o) A B r2) : Sts K W (ks.set i (.rng A B r2)) σ G (upd H z o) := by
  obtain ⟨e1, ⟨q1, q2, q3⟩, q4, q5, _⟩ := S.rngAt hk
  have hzz : ∃ u, H z = some u := by rcases hz with e | e <;> subst e <;> exact ⟨_, ‹_›⟩
  have gz : G z = none := by rcases hz with e | e <;> subst e <;> assumption
  have plz : ∀ u, H z = some u → Pl u := fun u e => by
    rcases hz with y | y <;> subst y
    · rw [q1] at e; cases e; exact pl_lst
    · rw [q2] at e; cases e; exact pl_lst
  refine S.rngStep hk ⟨Same.refl G, fun b u e => ?_, fun b u hm _ e => ?_, fun b u e => ?_, fun _ _ e _ => e, fun b hb => ?_, S.le.tb.upd plz⟩ h2
  · have : b ≠ z := fun y => by
      have e : G b = some u := e
      rw [y, gz] at e; cases e
    rw [upd_ne this]; exact S.gh b u e
  · have : b ≠ z := fun y => hm (y ▸ hz)
    rw [upd_ne this]; exact e
  · by_cases y : b = z
    · subst y; exact ⟨_, upd_same⟩
    · exact ⟨u, by rw [upd_ne y]; exact e⟩
  · rcases (show b = A ∨ b = B from hb) with e | e <;> subst e
    · exact ⟨_, q1⟩
    · exact ⟨_, q2⟩
theorem sd_rngSet (c : CtxB cq P w K mg base T k X) (hN : T.N[i]? = some x) (hv : Vis T.sc x) (hk : k1[i]? = some (.rng A B r)) (hd : (x == ("__debug__" : Str)) = false) (hcd : (x == ("__classdict__" : Str)) = false) {j q : Int} {jj : Nat} {p2 p3 : Pos} {r2 : Rg}
    (h : ED X ks e k1 (.int q)) (hj : (j = 0 ∧ r2 = { r with s := q }) ∨ (j = 2 ∧ r2 = { r with k := q })) (qq : SD X (k1.set i (.rng A B r2)) rest Φ)
    (ha : ∀ v, assign (.Subscript (.Name x px) (.Constant (.int j) jj p2) p3) X.env v = (do
      let ov ← holding [v] (eval (.Name x px) X.env)
      let iv ← holding [v, ov] (eval (.Constant (.int j) jj p2) X.env)
      standAt p3
      holding [v, ov, iv] (setItem ov iv v)
      release [v, ov, iv] []))
    (hs : swapsWithSole [.Subscript (.Name x px) (.Constant (.int j) jj p2) p3] e pos.line X.env = pure false) (hw : swappedStores [.Subscript (.Name x px) (.Constant (.int j) jj p2) p3] e X.env = pure none)
    (h1 : (assignEach [.Subscript (.Name x px) (.Constant (.int j) jj p2) p3] X.env).map (·.2) = [assign (.Subscript (.Name x px) (.Constant (.int j) jj p2) p3) X.env]) :
    SD X ks (.Assign [.Subscript (.Name x px) (.Constant (.int j) jj p2) p3] e pos :: rest) Φ := fun W σ G H D S M => by
  refine sv_of (pss_cons (ps_asg pe_ev (pg_sub (pe_var (ix_of c hN) (vis_of c hv) hd hcd) pe_int set_list ha) hs hw h1) pss_sv) ?_
  refine h W σ G H S _ fun v G1 H1 S1 g1 r1 => ?_
  obtain ⟨e1, ⟨q1, q2, q3⟩, _⟩ := S1.rngAt hk
  rw [r1.int_inv]
  refine ⟨_, e1, ?_⟩
  rcases hj with ⟨rfl, rfl⟩ | ⟨rfl, rfl⟩
  · refine ⟨A, _, 0, 0, rfl, rfl, q1, rfl, ?_⟩
    exact qq W σ G1 _ D (S1.rngPut hk (.inl rfl) ⟨upd_same, by rw [upd_ne (Ne.symm q3)]; exact q2, q3⟩) M
  · refine ⟨A, _, 2, 2, rfl, rfl, q1, rfl, ?_⟩
    exact qq W σ G1 _ D (S1.rngPut hk (.inl rfl) ⟨upd_same, by rw [upd_ne (Ne.symm q3)]; exact q2, q3⟩) M
theorem sd_rngCell (c : CtxB cq P w K mg base T k X) (hN : T.N[i]? = some x) (hv : Vis T.sc x) (hk : ks[i]? = some (.rng A B r)) (hd : (x == ("__debug__" : Str)) = false) (hcd : (x == ("__classdict__" : Str)) = false) {j q : Int} {jj m : Nat} {p2 p3 pp : Pos}
    (h : ED X ks e ks (.int q)) (hb : ED X ks b ks (.int j)) (hj : ixN r.c.length j = some m) (qq : SD X (ks.set i (.rng A B { r with c := r.c.set m q })) rest Φ)
    (ha : ∀ v, assign (.Subscript (.Subscript (.Name x px) (.Constant (.int 1) jj p2) pp) b p3) X.env v = (do
      let ov ← holding [v] (eval (.Subscript (.Name x px) (.Constant (.int 1) jj p2) pp) X.env)
      let iv ← holding [v, ov] (eval b X.env)
      standAt p3
      holding [v, ov, iv] (setItem ov iv v)
      release [v, ov, iv] []))
    (hs : swapsWithSole [.Subscript (.Subscript (.Name x px) (.Constant (.int 1) jj p2) pp) b p3] e pos.line X.env = pure false) (hw : swappedStores [.Subscript (.Subscript (.Name x px) (.Constant (.int 1) jj p2) pp) b p3] e X.env = pure none)
    (h1 : (assignEach [.Subscript (.Subscript (.Name x px) (.Constant (.int 1) jj p2) pp) b p3] X.env).map (·.2) = [assign (.Subscript (.Subscript (.Name x px) (.Constant (.int 1) jj p2) pp) b p3) X.env]) :
    SD X ks (.Assign [.Subscript (.Subscript (.Name x px) (.Constant (.int 1) jj p2) pp) b p3] e pos :: rest) Φ := fun W σ G H D S M => by
  refine sv_of (pss_cons (ps_asg pe_ev (pg_sub pe_ev pe_ev set_list ha) hs hw h1) pss_sv) ?_
  refine h W σ G H S _ fun v G1 H1 S1 g1 r1 => ?_
  rw [r1.int_inv]
  refine rng_cells c hN hv hk hd hcd S1 ?_
  refine hb W σ G1 H1 S1 _ fun y G2 H2 S2 g2 r2 => ?_
  obtain ⟨e1, ⟨q1, q2, q3⟩, _⟩ := S2.rngAt hk
  rw [r2.int_inv]
  refine ⟨B, _, j, m, rfl, rfl, q2, by rw [List.length_map]; exact hj, ?_⟩
  refine qq W σ G2 _ D (S2.rngPut hk (.inr rfl) ⟨by rw [upd_ne q3]; exact q1, ?_, q3⟩) M
  rw [upd_same, List.map_set]
end
end
end Z
namespace Z
open PySem PySem.Spec L2
/-! ### shapes -/
structure Shp (n : Nat) (d : PyData) : Prop where
  lay : d.canLay0 = true
  dep : d.depth ≤ n
theorem Shp.int {n : Nat} (i : Int) : Shp n (.int i) := ⟨rfl, Nat.zero_le _⟩
theorem Shp.non {n : Nat} : Shp n .none := ⟨rfl, Nat.zero_le _⟩
theorem Shp.bool {n : Nat} (b : Bool) : Shp n (.bool b) := ⟨rfl, Nat.zero_le _⟩
theorem shp_all {n : Nat} : ∀ {xs : List PyData}, (∀ x ∈ xs, Shp n x) → PyData.canLayAll0 xs = true ∧ PyData.depthAll xs ≤ n
  | [], _ => ⟨rfl, by simp [PyData.depthAll]⟩
  | x :: xs, h => by
    obtain ⟨a, b⟩ := shp_all (xs := xs) fun y hy => h y (List.mem_cons_of_mem _ hy)
    obtain ⟨c, d⟩ := h x List.mem_cons_self
    refine ⟨?_, ?_⟩
    · show (x.canLay0 && PyData.canLayAll0 xs) = true
      rw [c, a]; rfl
    · show max (PyData.depth x) (PyData.depthAll xs) ≤ n
      exact Nat.max_le.mpr ⟨d, b⟩
theorem Shp.list {n : Nat} {xs : List PyData} (h : ∀ x ∈ xs, Shp n x) : Shp (n + 1) (.list xs) := ⟨(shp_all h).1, by
  show PyData.depthAll xs + 1 ≤ n + 1
  exact Nat.succ_le_succ (shp_all h).2⟩
theorem Shp.tuple {n : Nat} {xs : List PyData} (h : ∀ x ∈ xs, Shp n x) : Shp (n + 1) (.tuple xs) := ⟨(shp_all h).1, by
  show PyData.depthAll xs + 1 ≤ n + 1
  exact Nat.succ_le_succ (shp_all h).2⟩
theorem Shp.mono {n m : Nat} {d : PyData} (h : Shp n d) (l : n ≤ m) : Shp m d := ⟨h.lay, Nat.le_trans h.dep l⟩
theorem Shp.ok {n : Nat} {d : PyData} (h : Shp n d) (l : n ≤ 64) : SeqAt.shaped d = true := by
  unfold SeqAt.shaped
  rw [h.lay, decide_eq_true (Nat.le_trans h.dep l)]; rfl
theorem all1 {α : Type} {p : α → Prop} {a : α} (h : p a) : ∀ x ∈ [a], p x := fun x hx => by simp at hx; subst hx; exact h
theorem allC {α : Type} {p : α → Prop} {a : α} {l : List α} (h : p a) (h2 : ∀ x ∈ l, p x) : ∀ x ∈ a :: l, p x := fun x hx => by
  rcases List.mem_cons.mp hx with z | z
  · rw [z]; exact h
  · exact h2 x z
theorem allN {α : Type} {p : α → Prop} : ∀ x ∈ ([] : List α), p x := fun x hx => by cases hx
theorem allM {α β : Type} {p : β → Prop} {f : α → β} {l : List α} (h : ∀ a ∈ l, p (f a)) : ∀ x ∈ l.map f, p x := fun x hx => by
  obtain ⟨a, ha, e⟩ := List.mem_map.mp hx
  rw [← e]; exact h a ha
/-! ### == of data without bools is equality -/
mutual
def nb : PyData → Bool
  | .none => true
  | .bool _ => false
  | .int _ => true
  | .str _ => true
  | .list xs => nbAll xs
  | .tuple xs => nbAll xs
  | .dict _ => false
def nbAll : List PyData → Bool
  | [] => true
  | x :: xs => nb x && nbAll xs
end
mutual
theorem eqv_iff : ∀ (d e : PyData), nb d = true → nb e = true → (PyData.eqv d e = true ↔ d = e)
  | .none, e, _, he => by cases e <;> simp_all [PyData.eqv, nb]
  | .int i, e, _, he => by cases e <;> simp_all [PyData.eqv, nb]
  | .str x, e, _, he => by cases e <;> simp_all [PyData.eqv, nb]
  | .list xs, e, hd, he => by
    cases e with
    | list ys =>
      have := eqv_iffAll xs ys (by simpa [nb] using hd) (by simpa [nb] using he)
      simpa [PyData.eqv] using this
    | _ => simp_all [PyData.eqv, nb]
  | .tuple xs, e, hd, he => by
    cases e with
    | tuple ys =>
      have := eqv_iffAll xs ys (by simpa [nb] using hd) (by simpa [nb] using he)
      simpa [PyData.eqv] using this
    | _ => simp_all [PyData.eqv, nb]
  | .bool _, _, hd, _ => by simp [nb] at hd
  | .dict _, _, hd, _ => by simp [nb] at hd
theorem eqv_iffAll : ∀ (d e : List PyData), nbAll d = true → nbAll e = true → (PyData.eqvAll d e = true ↔ d = e)
  | [], e, _, _ => by cases e <;> simp [PyData.eqvAll]
  | x :: xs, e, hd, he => by
    cases e with
    | nil => simp [PyData.eqvAll]
    | cons y ys =>
      have h1 : nb x = true ∧ nbAll xs = true := by simpa [nbAll] using hd
      have h2 : nb y = true ∧ nbAll ys = true := by simpa [nbAll] using he
      have a := eqv_iff x y h1.1 h2.1
      have b := eqv_iffAll xs ys h1.2 h2.2
      simp [PyData.eqvAll, a, b]
end
theorem eqv_refl {d : PyData} (h : nb d = true) : PyData.eqv d d = true := (eqv_iff d d h h).mpr rfl
theorem eqv_ne {d e : PyData} (h : nb d = true) (h2 : nb e = true) (n : d ≠ e) : PyData.eqv d e = false := by
  cases q : PyData.eqv d e with
  | false => rfl
  | true => exact absurd ((eqv_iff d e h h2).mp q) n
theorem eqv_dec {d e : PyData} (h : nb d = true) (h2 : nb e = true) {p : Prop} [Decidable p] (i : d = e ↔ p) : PyData.eqv d e = decide p := by
  by_cases q : p
  · rw [decide_eq_true q, i.mpr q]; exact eqv_refl h2
  · rw [decide_eq_false q]; exact eqv_ne h h2 fun z => q (i.mp z)
/-! ### lists -/
theorem map_get {α : Type} {f : α → PyData} {xs : List α} {i : Nat} {d : PyData} (h : (xs.map f)[i]? = some d) : ∃ x, xs[i]? = some x ∧ d = f x := by
  rw [List.getElem?_map] at h
  cases e : xs[i]? with
  | none => rw [e] at h; cases h
  | some x => rw [e] at h; exact ⟨x, rfl, (Option.some.inj h).symm⟩
theorem rngD_inv [Tabl] {n i : Nat} {d : PyData} (h : (rngD n)[i]? = some d) : i < n ∧ d = .int (i : Int) := by
  have hi := (List.getElem?_eq_some_iff.mp h).1
  have hi : i < n := by simpa [rngD] using hi
  rw [rngD_get hi] at h
  exact ⟨hi, (Option.some.inj h).symm⟩
theorem any_true {α : Type} {p : α → Bool} {xs : List α} {i : Nat} {x : α} (h : xs[i]? = some x) (hp : p x = true) : xs.any p = true :=
  List.any_eq_true.mpr ⟨x, List.mem_of_getElem? h, hp⟩
theorem any_false {α : Type} {p : α → Bool} {xs : List α} (h : ∀ (i : Nat) (x : α), xs[i]? = some x → p x = false) : xs.any p = false := by
  rw [List.any_eq_false]
  intro x hx
  obtain ⟨i, hi, e⟩ := List.mem_iff_getElem.mp hx
  have := h i x (by rw [List.getElem?_eq_getElem hi, e])
  simp [this]
theorem prev_succ {α : Type} {xs : List α} {q : α → Prop} {i : Nat} {x : α} (h : ∀ (j : Nat) (y : α), j < i → xs[j]? = some y → q y) (hx : xs[i]? = some x) (hq : q x) : ∀ (j : Nat) (y : α), j < i + 1 → xs[j]? = some y → q y := fun j y hj hy => by
  rcases Nat.lt_succ_iff_lt_or_eq.mp hj with z | z
  · exact h j y z hy
  · subst z; rw [hx] at hy; cases hy; exact hq
end Z
namespace Z
open PySem PySem.Spec L2
variable [Tabl]
/-! ### drawing, as functions -/
def cellOf (r : Rg) : Int := if r.c.isEmpty = true then 0 else r.c.getD (r.k % max 1 (r.c.length : Int)).toNat 0
def nxS (r : Rg) : Int := (r.s * 48271 + cellOf r * 69621 + 11) % 2147483647
def nxR (r : Rg) (m : Int) : Rg := if 10 ^ 18 ≤ cellOf r then { r with c := r.c.set (r.k % max 1 (r.c.length : Int)).toNat (cellOf r / m) } else { s := nxS r, c := r.c, k := r.k + 1 }
def nxV (r : Rg) (m : Int) : Int := if 10 ^ 18 ≤ cellOf r then cellOf r % m else nxS r / 7 % m
theorem nxV_0 {r : Rg} {m : Int} (h : 0 < m) : 0 ≤ nxV r m := by
  unfold nxV
  split <;> exact Int.emod_nonneg _ (by omega)
theorem nxV_1 {r : Rg} {m : Int} (h : 0 < m) : nxV r m < m := by
  unfold nxV
  split <;> exact Int.emod_lt_of_pos _ h
theorem nxV_off {r : Rg} {B : Book} {m : Int} (e : m = (B.n : Int)) (h : 0 < B.n) : B.off (nxV r m) := by
  subst e
  exact ⟨nxV_0 (by omega), nxV_1 (by omega)⟩
def pick2 (a b : Int) (i : Int) : Int := if i = 0 then a else b
def pick3 (a b c : Int) (i : Int) : Int := if i = 0 then a else if i = 1 then b else c
theorem ix_pick2 {a b i : Int} (h0 : 0 ≤ i) (h1 : i < 2) : ixD (.list [.int a, .int b]) i = some (.int (pick2 a b i)) := by
  rcases (show i = 0 ∨ i = 1 by omega) with e | e <;> subst e <;> rfl
theorem ix_pick3 {a b c i : Int} (h0 : 0 ≤ i) (h1 : i < 3) : ixD (.list [.int a, .int b, .int c]) i = some (.int (pick3 a b c i)) := by
  rcases (show i = 0 ∨ i = 1 ∨ i = 2 by omega) with e | e | e <;> subst e <;> rfl
theorem pick2_in {a b i : Int} {p : Int → Prop} (ha : p a) (hb : p b) : p (pick2 a b i) := by unfold pick2; split <;> assumption
theorem pick3_in {a b c i : Int} {p : Int → Prop} (ha : p a) (hb : p b) (hc : p c) : p (pick3 a b c i) := by unfold pick3; split; · assumption
                                                                                                             · split <;> assumption
/-- n draws, each with its number -/
def iterI {α : Type} (f : Nat → Rg → α × Rg) : Nat → Rg → List α × Rg
  | 0, r => ([], r)
  | n + 1, r => ((iterI f n r).1 ++ [(f n (iterI f n r).2).1], (f n (iterI f n r).2).2)
theorem iterI_len {α : Type} (f : Nat → Rg → α × Rg) (n : Nat) (r : Rg) : (iterI f n r).1.length = n := by
  induction n with
  | zero => rfl
  | succ n ih => show ((iterI f n r).1 ++ [_]).length = n + 1; rw [List.length_append, ih]; rfl
theorem iterI_all {α : Type} {f : Nat → Rg → α × Rg} {p : Nat → α → Prop} (h : ∀ i r, p i (f i r).1) : ∀ (n : Nat) (r : Rg) (i : Nat) (x : α), (iterI f n r).1[i]? = some x → p i x
  | 0, r, i, x, e => by simp [iterI] at e
  | n + 1, r, i, x, e => by
    have hl := iterI_len f n r
    have e' : ((iterI f n r).1 ++ [(f n (iterI f n r).2).1])[i]? = some x := e
    by_cases q : i < n
    · rw [List.getElem?_append_left (by omega)] at e'
      exact iterI_all h n r i x e'
    · rw [List.getElem?_append_right (by omega)] at e'
      have hi : i = n := by
        have := (List.getElem?_eq_some_iff.mp e').1
        simp at this
        omega
      subst hi
      rw [hl, Nat.sub_self] at e'
      simp at e'
      rw [← e']
      exact h _ _
theorem iterI_mem {α : Type} {f : Nat → Rg → α × Rg} {p : α → Prop} (h : ∀ i r, p (f i r).1) (n : Nat) (r : Rg) : ∀ x ∈ (iterI f n r).1, p x := fun x hx => by
  obtain ⟨i, hi, e⟩ := List.mem_iff_getElem.mp hx
  exact iterI_all (p := fun _ => p) h n r i x (by rw [List.getElem?_eq_getElem hi, e])
def hourRow (n : Int) (_ : Nat) (r : Rg) : Row × Rg :=
  let one := nxV r n
  let r1 := nxR r n
  let bg := nxV (nxR r1 3) (pick3 20 60 90 (nxV r1 3))
  let r3 := nxR (nxR r1 3) (pick3 20 60 90 (nxV r1 3))
  let ee := nxV (nxR r3 3) (pick3 9 9 70 (nxV r3 3))
  let r5 := nxR (nxR r3 3) (pick3 9 9 70 (nxV r3 3))
  ((one, (one + 1 + nxV r5 (n - 1)) % n, bg, min 99 (bg + 1 + ee)), nxR r5 (n - 1))
def hours (n most : Int) (r : Rg) : List Row × Rg := iterI (hourRow n) (nxV r (most + 1)).toNat (nxR r (most + 1))
def flCell (k j : Nat) (r : Rg) : Int × Rg := ((1 + nxV r 9) * (if (!decide ((j : Int) = (k : Int))) = true then 1 else 0), nxR r 9)
def flights (m : Nat) (r : Rg) : List (List Int) × Rg := iterI (fun k => iterI (flCell k) m) m r
def drawM (m : Int) (_ : Nat) (r : Rg) : Int × Rg := (nxV r m, nxR r m)
def bkN (n : Int) (r : Rg) : Int := 2 + nxV r (n - 1)
def bkF (n : Int) (r : Rg) : List (List Int) × Rg := flights (bkN n r).toNat (nxR r (n - 1))
def bkS (n : Int) (r : Rg) : List Row × Rg := hours (bkN n r) (pick3 0 3 8 (nxV (bkF n r).2 3)) (nxR (bkF n r).2 3)
def bkC (n : Int) (r : Rg) : List Row × Rg := hours (bkN n r) (pick2 4 12 (nxV (bkS n r).2 2)) (nxR (bkS n r).2 2)
def bkB (n b : Int) (r : Rg) : List Int × Rg := iterI (drawM (bkN n r)) (nxV (bkC n r).2 (b + 1)).toNat (nxR (bkC n r).2 (b + 1))
def lawBook (n b : Int) (r : Rg) : Book := ⟨(bkF n r).1, (bkS n r).1, (bkC n r).1, (bkB n b r).1⟩
theorem bkN_in {n : Int} {r : Rg} (h : 2 ≤ n) : 2 ≤ bkN n r ∧ bkN n r ≤ n := by
  unfold bkN
  have h0 := nxV_0 (r := r) (m := n - 1) (by omega)
  have h1 := nxV_1 (r := r) (m := n - 1) (by omega)
  omega
theorem bk_n {n b : Int} {r : Rg} (h : 2 ≤ n) : ((lawBook n b r).n : Int) = bkN n r := by
  show (((flights (bkN n r).toNat (nxR r (n - 1))).1.length : Nat) : Int) = _
  unfold flights
  rw [iterI_len]
  have := bkN_in (r := r) h
  omega
theorem hours_len {n most : Int} {r : Rg} (hm : 0 ≤ most) : ((hours n most r).1.length : Int) ≤ most := by
  unfold hours
  rw [iterI_len]
  have h0 := nxV_0 (r := r) (m := most + 1) (by omega)
  have h1 := nxV_1 (r := r) (m := most + 1) (by omega)
  omega
theorem hours_good {B : Book} {most : Int} {r : Rg} (h2 : 2 ≤ B.n) : ∀ x ∈ (hours (B.n : Int) most r).1, GoodRow B x := by
  refine iterI_mem (fun i r => ?_) _ _
  have hn : (0 : Int) < (B.n : Int) := by omega
  have a0 := nxV_0 (r := r) hn
  have a1 := nxV_1 (r := r) hn
  show GoodRow B (hourRow (B.n : Int) i r).1
  unfold hourRow
  dsimp only
  generalize nxR r (B.n : Int) = r1
  have p1 : 0 < pick3 20 60 90 (nxV r1 3) ∧ pick3 20 60 90 (nxV r1 3) ≤ 90 := pick3_in (p := fun z => 0 < z ∧ z ≤ 90) (by decide) (by decide) (by decide)
  generalize pick3 20 60 90 (nxV r1 3) = m1 at p1
  have b0 := nxV_0 (r := nxR r1 3) p1.1
  have b1 := nxV_1 (r := nxR r1 3) p1.1
  generalize nxV (nxR r1 3) m1 = bg at b0 b1
  generalize nxR (nxR r1 3) m1 = r3
  have p2 : 0 < pick3 9 9 70 (nxV r3 3) := pick3_in (p := fun z => 0 < z) (by decide) (by decide) (by decide)
  generalize pick3 9 9 70 (nxV r3 3) = m2 at p2
  have c0 := nxV_0 (r := nxR r3 3) p2
  generalize nxV (nxR r3 3) m2 = ee at c0
  generalize nxR (nxR r3 3) m2 = r5
  have d0 := nxV_0 (r := r5) (m := (B.n : Int) - 1) (by omega)
  have d1 := nxV_1 (r := r5) (m := (B.n : Int) - 1) (by omega)
  generalize nxV r5 ((B.n : Int) - 1) = ot at d0 d1
  generalize nxV r (B.n : Int) = one at a0 a1
  refine ⟨⟨a0, a1⟩, ⟨Int.emod_nonneg _ (by omega), Int.emod_lt_of_pos _ hn⟩, fun e => ?_, b0, ?_, ?_⟩
  · have e : one = (one + 1 + ot) % (B.n : Int) := e
    by_cases q : one + 1 + ot < (B.n : Int)
    · rw [Int.emod_eq_of_lt (by omega) q] at e
      omega
    · have : (one + 1 + ot) % (B.n : Int) = one + 1 + ot - (B.n : Int) := by
        rw [← Int.sub_emod_right, Int.emod_eq_of_lt (by omega) (by omega)]
      omega
  · show bg < min 99 (bg + 1 + ee)
    omega
  · show min 99 (bg + 1 + ee) ≤ 99
    omega
theorem lawBook_good {n b : Int} {r : Rg} (h2 : 2 ≤ n) (h6 : n ≤ 6) (hb : 0 ≤ b) (hb6 : b ≤ 6) : Good (lawBook n b r) := by
  have hn := bk_n (b := b) (r := r) h2
  have hm := bkN_in (r := r) h2
  have hn2 : 2 ≤ (lawBook n b r).n := by omega
  refine ⟨hn2, by omega, ?_, ?_, ?_, ?_, ?_, ?_, ?_, ?_⟩
  · intro x hx
    have hx : x ∈ (iterI (fun k => iterI (flCell k) (bkN n r).toNat) (bkN n r).toNat (nxR r (n - 1))).1 := hx
    have := iterI_mem (p := fun (x : List Int) => x.length = (bkN n r).toNat) (fun i r' => iterI_len _ _ _) _ _ x hx
    rw [this]
    omega
  · intro o h ho hh
    obtain ⟨i, rfl⟩ : ∃ i : Nat, o = (i : Int) := ⟨o.toNat, by have := ho.1; omega⟩
    obtain ⟨j, rfl⟩ : ∃ j : Nat, h = (j : Int) := ⟨h.toNat, by have := hh.1; omega⟩
    have hi : i < (bkN n r).toNat := by have := ho.2; omega
    have hj : j < (bkN n r).toNat := by have := hh.2; omega
    have fl : (lawBook n b r).fl = (iterI (fun k => iterI (flCell k) (bkN n r).toNat) (bkN n r).toNat (nxR r (n - 1))).1 := rfl
    have cell := iterI_all (f := fun k => iterI (flCell k) (bkN n r).toNat) (p := fun k row => ∀ (j : Nat) (v : Int), row[j]? = some v → (if (j : Int) = (k : Int) then v = 0 else 1 ≤ v ∧ v ≤ 9)) (fun k r' j v hv => by
      refine iterI_all (f := flCell k) (p := fun j v => if (j : Int) = (k : Int) then v = 0 else 1 ≤ v ∧ v ≤ 9) (fun j r'' => ?_) _ r' j v hv
      have v0 := nxV_0 (r := r'') (m := 9) (by decide)
      have v1 := nxV_1 (r := r'') (m := 9) (by decide)
      show if (j : Int) = (k : Int) then (1 + nxV r'' 9) * (if (!decide ((j : Int) = (k : Int))) = true then 1 else 0) = 0 else _
      by_cases q : (j : Int) = (k : Int)
      · rw [if_pos q, decide_eq_true q]; simp
      · rw [if_neg q]
        show 1 ≤ (1 + nxV r'' 9) * (if (!decide ((j : Int) = (k : Int))) = true then 1 else 0) ∧ (1 + nxV r'' 9) * (if (!decide ((j : Int) = (k : Int))) = true then 1 else 0) ≤ 9
        rw [decide_eq_false q]
        simp
        omega) (bkN n r).toNat (nxR r (n - 1))
    have hil : i < (lawBook n b r).fl.length := by rw [fl, iterI_len]; exact hi
    have hr : (lawBook n b r).fl[i]? = some ((lawBook n b r).fl[i]) := List.getElem?_eq_getElem hil
    have c1 := cell i _ (by rw [← fl]; exact hr)
    have rl : ((lawBook n b r).fl[i]).length = (bkN n r).toNat := iterI_mem (p := fun (x : List Int) => x.length = (bkN n r).toNat) (fun i r' => iterI_len _ _ _) _ _ _ (by rw [← fl]; exact List.getElem_mem hil)
    have hv : ((lawBook n b r).fl[i])[j]? = some (((lawBook n b r).fl[i])[j]'(by omega)) := List.getElem?_eq_getElem _
    have c2 := c1 j _ hv
    have ef : (lawBook n b r).f (i : Int) (j : Int) = ((lawBook n b r).fl[i])[j]'(by omega) := by
      unfold Book.f Book.row
      rw [Int.toNat_natCast, Int.toNat_natCast, List.getD_eq_getElem?_getD, List.getD_eq_getElem?_getD, hr]
      show (((lawBook n b r).fl[i])[j]?).getD 0 = _
      rw [hv]; rfl
    rw [ef]
    exact c2
  · have := hours_good (B := lawBook n b r) (most := pick3 0 3 8 (nxV (bkF n r).2 3)) (r := nxR (bkF n r).2 3) hn2
    rw [hn] at this
    exact this
  · have : 0 ≤ pick3 0 3 8 (nxV (bkF n r).2 3) ∧ pick3 0 3 8 (nxV (bkF n r).2 3) ≤ 8 := pick3_in (p := fun z => 0 ≤ z ∧ z ≤ 8) (by decide) (by decide) (by decide)
    have h := hours_len (n := bkN n r) (r := nxR (bkF n r).2 3) this.1
    show (hours _ _ _).1.length ≤ 8
    omega
  · have := hours_good (B := lawBook n b r) (most := pick2 4 12 (nxV (bkS n r).2 2)) (r := nxR (bkS n r).2 2) hn2
    rw [hn] at this
    exact this
  · have : 0 ≤ pick2 4 12 (nxV (bkS n r).2 2) ∧ pick2 4 12 (nxV (bkS n r).2 2) ≤ 12 := pick2_in (p := fun z => 0 ≤ z ∧ z ≤ 12) (by decide) (by decide)
    have h := hours_len (n := bkN n r) (r := nxR (bkS n r).2 2) this.1
    show (hours _ _ _).1.length ≤ 12
    omega
  · refine iterI_mem (fun i r' => ?_) _ _
    show (lawBook n b r).off (nxV r' (bkN n r))
    exact nxV_off hn.symm (by omega)
  · show (iterI _ _ _).1.length ≤ 6
    rw [iterI_len]
    have h0 := nxV_0 (r := (bkC n r).2) (m := b + 1) (by omega)
    have h1 := nxV_1 (r := (bkC n r).2) (m := b + 1) (by omega)
    omega
section
variable {P : Program} {w : World} {K : PySem.W.Frag} {mg : Str → Option Value} {base : Heap} {T : Sta} {k : Nat} {X : Cx} {ks k1 k2 k3 : List SK} {a b e : Expr} {es : List Expr} {d da db : PyData} {ds : List PyData} {pos p tpos : Pos} {rest body orelse : List Stmt} {Φ : Po}
/-- a comprehension that changes nothing -/
theorem lc_filter {α : Type} (c : Ctx P w K mg base T k X) {elt tg iter : Expr} {ifs : List Expr} {scope : Scope} (own : List (Str × Nat)) {f : PyData → List SK → Option (List SK)} {js : List Nat} {xs : List α} {enc : α → PyData} (pr : α → Bool) (g : α → PyData)
    (ok : blkC T.N T.sc scope own = true) (hjs : js.all (fun j => (own.map (·.2)).contains j) = true) (hi : ID X ks tg iter k1 (xs.map enc))
    (nw : ∀ i ∈ own.map (·.2), ∃ k, k1[i]? = some k ∧ (k = .no ∨ ∃ d, k = .dat d))
    (hg : ∀ X', Ctx P w K mg base (Tb T scope) k X' → GD X' tg f js) (hz : xs.length < sizeLine)
    (turn : ∀ x ∈ xs, ∃ kb, f (enc x) (wipeK k1 (own.map (·.2))) = some kb ∧ (∀ X', Ctx P w K mg base (Tb T scope) k X' → TsD X' kb ifs kb (pr x)) ∧ Wk kb (wipeK k1 (own.map (·.2))) ∧ (pr x = true → ∀ X', Ctx P w K mg base (Tb T scope) k X' → ED X' kb elt kb (g x)))
    (hs : ∀ x, foldedSetIterable iter X.env x = pure x) : LC X ks (.ListComp elt [⟨tg, iter, ifs, 0⟩] scope pos) k1 ((xs.filter pr).map g) := by
  have key := lc_lc (pos := pos) c own (fun _ => k1) (fun i => ((xs.take i).filter pr).map g) ok hjs hi (fun i hi => by
    obtain ⟨k', h1, h2⟩ := nw i hi
    exact ⟨k', h1, h1, h2⟩) hg rfl (fun _ => rfl) (by simp) (by rw [List.length_map]; exact hz) (fun i d hd => by
    obtain ⟨x, hx, rfl⟩ := map_get hd
    obtain ⟨kb, e1, e2, e3, e4⟩ := turn x (List.mem_of_getElem? hx)
    refine ⟨kb, if pr x = true then some (g x) else none, e1, ⟨kb, pr x, e2, fun h => ⟨by rw [if_neg (by rw [h]; decide)], e3⟩, fun h => ⟨g x, kb, by rw [if_pos h], e4 h, e3⟩⟩, ?_⟩
    have ht : xs.take (i + 1) = xs.take i ++ [x] := by
      rw [List.take_succ, hx]; rfl
    rw [ht, List.filter_append, List.map_append]
    congr 1
    by_cases h : pr x = true
    · rw [if_pos h]; simp [h]
    · rw [if_neg h]; simp [h]) hs
  rw [List.length_map, List.take_length] at key
  exact key
theorem el_filter {α : Type} (c : Ctx P w K mg base T k X) {elt tg iter : Expr} {ifs : List Expr} {scope : Scope} (own : List (Str × Nat)) {f : PyData → List SK → Option (List SK)} {js : List Nat} {xs : List α} {enc : α → PyData} (pr : α → Bool) (g : α → PyData)
    (ok : blkC T.N T.sc scope own = true) (hjs : js.all (fun j => (own.map (·.2)).contains j) = true) (hi : ID X ks tg iter k1 (xs.map enc))
    (nw : ∀ i ∈ own.map (·.2), ∃ k, k1[i]? = some k ∧ (k = .no ∨ ∃ d, k = .dat d))
    (hg : ∀ X', Ctx P w K mg base (Tb T scope) k X' → GD X' tg f js) (hz : xs.length < sizeLine)
    (turn : ∀ x ∈ xs, ∃ kb, f (enc x) (wipeK k1 (own.map (·.2))) = some kb ∧ (∀ X', Ctx P w K mg base (Tb T scope) k X' → TsD X' kb ifs kb (pr x)) ∧ Wk kb (wipeK k1 (own.map (·.2))) ∧ (pr x = true → ∀ X', Ctx P w K mg base (Tb T scope) k X' → ED X' kb elt kb (g x)))
    (hs : ∀ x, foldedSetIterable iter X.env x = pure x) : EL X ks (.ListComp elt [⟨tg, iter, ifs, 0⟩] scope pos) k1 ((xs.filter pr).map g) := (lc_filter c own pr g ok hjs hi nw hg hz turn hs).el c
/-- a comprehension that draws at each turn -/
theorem lc_draw {α : Type} (c : Ctx P w K mg base T k X) {elt tg iter : Expr} {scope : Scope} (own : List (Str × Nat)) (h : Nat) {A B : Addr} {r : Rg} {f : PyData → List SK → Option (List SK)} {js : List Nat} {n : Nat} (fr : Nat → Rg → α × Rg) (g : α → PyData)
    (ok : blkC T.N T.sc scope own = true) (hjs : js.all (fun j => (own.map (·.2)).contains j) = true) (hi : ID X ks tg iter k1 (rngD n)) (hk : k1[h]? = some (.rng A B r)) (hh : h ∉ own.map (·.2))
    (nw : ∀ i ∈ own.map (·.2), ∃ k, k1[i]? = some k ∧ (k = .no ∨ ∃ d, k = .dat d))
    (hg : ∀ X', Ctx P w K mg base (Tb T scope) k X' → GD X' tg f js) (hz : n < sizeLine)
    (turn : ∀ i r', i < n → ∃ kb k3, f (.int (i : Nat)) (wipeK (k1.set h (.rng A B r')) (own.map (·.2))) = some kb ∧ (∀ X', Ctx P w K mg base (Tb T scope) k X' → ED X' kb elt k3 (g (fr i r').1)) ∧ Wk k3 (wipeK (k1.set h (.rng A B (fr i r').2)) (own.map (·.2))))
    (hs : ∀ x, foldedSetIterable iter X.env x = pure x) : LC X ks (.ListComp elt [⟨tg, iter, [], 0⟩] scope pos) (k1.set h (.rng A B (iterI fr n r).2)) ((iterI fr n r).1.map g) := by
  have hset : k1.set h (.rng A B r) = k1 := by
    apply List.ext_getElem?
    intro j
    by_cases q : h = j
    · subst q; rw [List.getElem?_set_self (List.getElem?_eq_some_iff.mp hk).1, hk]
    · rw [List.getElem?_set_ne q]
  have key := lc_lc (pos := pos) c own (fun i => k1.set h (.rng A B (iterI fr i r).2)) (fun i => (iterI fr i r).1.map g) ok hjs hi (fun i hi => by
    obtain ⟨k', h1, h2⟩ := nw i hi
    refine ⟨k', h1, ?_, h2⟩
    rw [List.getElem?_set_ne (show h ≠ i from fun z => hh (by rw [z]; exact hi))]; exact h1) hg hset (fun _ => by simp) rfl (by simp [rngD]; exact hz) (fun i d hd => by
    obtain ⟨hin, rfl⟩ := rngD_inv hd
    obtain ⟨kb, k3, e1, e2, e3⟩ := turn i (iterI fr i r).2 hin
    refine ⟨kb, some (g (fr i (iterI fr i r).2).1), e1, ⟨kb, true, fun X' _ => ts_nil, (fun h => by cases h), fun _ => ⟨_, k3, rfl, e2, e3⟩⟩, ?_⟩
    show List.map g ((iterI fr i r).1 ++ [_]) = _
    rw [List.map_append]; rfl) hs
  have hl : (rngD n).length = n := by simp [rngD]
  rw [hl] at key
  exact key
theorem el_draw {α : Type} (c : Ctx P w K mg base T k X) {elt tg iter : Expr} {scope : Scope} (own : List (Str × Nat)) (h : Nat) {A B : Addr} {r : Rg} {f : PyData → List SK → Option (List SK)} {js : List Nat} {n : Nat} (fr : Nat → Rg → α × Rg) (g : α → PyData)
    (ok : blkC T.N T.sc scope own = true) (hjs : js.all (fun j => (own.map (·.2)).contains j) = true) (hi : ID X ks tg iter k1 (rngD n)) (hk : k1[h]? = some (.rng A B r)) (hh : h ∉ own.map (·.2))
    (nw : ∀ i ∈ own.map (·.2), ∃ k, k1[i]? = some k ∧ (k = .no ∨ ∃ d, k = .dat d))
    (hg : ∀ X', Ctx P w K mg base (Tb T scope) k X' → GD X' tg f js) (hz : n < sizeLine)
    (turn : ∀ i r', i < n → ∃ kb k3, f (.int (i : Nat)) (wipeK (k1.set h (.rng A B r')) (own.map (·.2))) = some kb ∧ (∀ X', Ctx P w K mg base (Tb T scope) k X' → ED X' kb elt k3 (g (fr i r').1)) ∧ Wk k3 (wipeK (k1.set h (.rng A B (fr i r').2)) (own.map (·.2))))
    (hs : ∀ x, foldedSetIterable iter X.env x = pure x) : EL X ks (.ListComp elt [⟨tg, iter, [], 0⟩] scope pos) (k1.set h (.rng A B (iterI fr n r).2)) ((iterI fr n r).1.map g) := (lc_draw c own h fr g ok hjs hi hk hh nw hg hz turn hs).el c
end
end Z
namespace Z
open PySem PySem.Spec L2
variable [Tabl]
section
variable {P : Program} {w : World} {K : PySem.W.Frag} {mg : Str → Option Value} {base : Heap} {T : Sta} {k : Nat} {X : Cx} {ks k1 k2 k3 : List SK} {a b e : Expr} {es : List Expr} {d da db : PyData} {ds : List PyData} {pos p tpos : Pos} {rest body orelse : List Stmt} {Φ : Po}
/-- both arms end in a word, the rest is walked once -/
theorem sd_ifJ {t : Expr} {c : Bool} (J : List SK → Prop) (h : TD X ks t k1 c) (h1 : c = true → SD X k1 body { Φ with nx := J }) (h0 : c = false → SD X k1 orelse { Φ with nx := J }) (tail : ∀ k, J k → SD X k rest Φ) : SD X ks (.If t body orelse pos :: rest) Φ :=
  sd_if h (fun e => (h1 e).imp tail (fun _ _ z => z) (fun _ _ z => z) (fun _ z => z) (fun _ z => z) (fun _ _ _ _ z => z) (fun _ _ _ z => z) (fun _ _ z => z)) (fun e => (h0 e).imp tail (fun _ _ z => z) (fun _ _ z => z) (fun _ z => z) (fun _ z => z) (fun _ _ _ _ z => z) (fun _ _ _ z => z) (fun _ _ z => z))
theorem SD.nxW {L L' : List SK} {rt : List SK → PyData → Prop} {rl : List SK → List PyData → Prop} {bk : List SK → Prop} {rT : List SK → List PyData → List PyData → List PyData → Prop} {ex : List SK → Value → List (Str × PyData) → Prop} {rc : List SK → SK → Prop} (e : L = L') (h : SD X ks rest ⟨fun k => Wk k L', rt, rl, bk, fun k => Wk k L', rT, ex, rc⟩) : SD X ks rest ⟨fun k => Wk k L, rt, rl, bk, fun k => Wk k L, rT, ex, rc⟩ := e ▸ h
theorem rngD_len (n : Nat) : (rngD n).length = n := by simp [rngD]
theorem ok_sd {R : List PyData → PyData → Prop} {x : Str} {st : Stmt} {N ps : List Str} {k : Nat} {f : Addr} {fd : FuncData} (F : Fun K x x st f fd) (S : FnScope N ps (defScope st)) (hl : ∀ ds d, R ds d → ds.length = ps.length) (hN : ps.length ≤ N.length)
    (h : ∀ X, Ctx P w K mg base ⟨N, defScope st, fun _ => true⟩ k X → ∀ ds d, R ds d → SD X (ds.map SK.dat ++ List.replicate (N.length - ds.length) .no) (defBody st) { nx := fun _ => d = .none, rt := fun _ d' => d' = d, rl := fun _ ds' => d = .list ds' }) :
    FnOk P w K mg base CX0 (k + 1) f fd ps (spP K R) := by
  refine F.ok S (fun vs H Q E ⟨G, ds, d, _, _, r, hR, _⟩ => by rw [r.len]; exact hl ds d hR) (fun cdv A outer s H vs Q E hr ⟨G, ds, d, g, tb, r, hR, q⟩ => ⟨_, pss_sv, ?_⟩)
  have S0 := start_sts (N := N) (Le.refl g tb) r (by rw [hl ds d hR]; exact hN)
  refine h _ (cxOf_ctx S cdv A outer s H E hr) ds d hR _ _ G H _ S0 ⟨fun ks σ G' H' e S' => ?_, fun _ _ _ _ z => z.elim, fun _ _ _ _ z => z.elim, fun ks σ G' H' v d' e S' r' => ?_, fun ks σ G' H' a ds' e S' => ?_, fun _ _ _ _ _ _ _ _ z => z.elim, ex0⟩
  · exact q .non G' H' S'.le (by rw [e]; exact .non)
  · exact q v G' H' S'.le (by rw [← e]; exact r')
  · obtain ⟨G2, S2, g2, r2⟩ := S'.popFreeze
    exact q _ G2 H' S2.le (by rw [e]; exact r2)
/-- what a law's call begins with -/
theorem sp_law {R : List PyData → PyData → Prop} (hR : ∀ ns : List Int, ns.length ≤ 63 → R [.list (ns.map .int)] (.bool true)) (H : Hp) (a : Addr) (ns : List Int) (hl : ns.length ≤ 63) (hT : LamX.Tabs Tabl.T H) (hS : SqL K H a (ns.map V.int)) : spP K R [.ref a] H (fun v _ => v = .bl true) fun _ _ _ => False :=
by
  classical
  refine ⟨fun b => if ∃ ps, H b = some (.tbl ps) then none else H b, [.list (ns.map .int)], .bool true, fun b u e => ?_, ⟨fun p hp => ?_, hT⟩, .cons (.lst ?_ DpAll.ints) .nil, hR ns hl, fun v G2 H2 _ r => r.bl_inv⟩
  · have e : (if ∃ ps, H b = some (.tbl ps) then none else H b) = some u := e
    split at e
    · cases e
    · exact e
  · obtain ⟨ps, h, _⟩ := hT p hp
    exact if_pos ⟨ps, h⟩
  · rcases hS with (h | ⟨o, h⟩) | h
    · refine .inl (.inl ?_)
      show (if ∃ ps, H a = some (.tbl ps) then none else H a) = _
      rw [h, if_neg (fun ⟨ps, z⟩ => by cases z)]
    · refine .inl (.inr ⟨o, ?_⟩)
      show (if ∃ ps, H a = some (.tbl ps) then none else H a) = _
      rw [h, if_neg (fun ⟨ps, z⟩ => by cases z)]
    · exact .inr h
/-- _law_h = [c, list(..), 0] -/
theorem sd_rngNew (c : CtxB cq P w K mg base T k X) (i : Nat) {x : Str} {c0 : Int} {ns : List Int} {q0 q1 q2 q3 q4 : Pos} {j0 j2 : Nat} (hi : T.N[i]? = some x) (hx : Loc T.sc x) (hf : T.fn x = true ∨ T.sc.names.lookup x = some .local) (hl : i < ks.length)
    (hg : T.sc.names.lookup ("list" : Str) = some .globalImplicit) (hm : mg "list" = none) (h : ED X ks e ks (.list (ns.map .int)))
    (hs : swapsWith (.List [.Constant (.int c0) j0 q0, .Call (.Name "list" q1) [e] [] q2, .Constant (.int 0) j2 q3] q4) (some (.Name x p)) pos.line X.env = pure false)
    (he : starEach [e] X.env = (false, eval e X.env) :: starEach [] X.env)
    (q : ∀ A B, SD X (ks.set i (.rng A B ⟨c0, ns, 0⟩)) rest Φ) : SD X ks (.Assign [.Name x p] (.List [.Constant (.int c0) j0 q0, .Call (.Name "list" q1) [e] [] q2, .Constant (.int 0) j2 q3] q4) pos :: rest) Φ := fun W σ G H D S M => by
  refine sv_of (pss_cons (ps_set (nd_of c) (ix_of c hi) (loc_of c hx) (pe_lst (pa_cons pe_int (pa_cons (pe_callTy call_list_of (gl_of c hg) (by rw [c.hmg]; exact hm) PyProof.Rows.boot_list (pa_cons pe_ev pa_nil he) (he := he)) (pa_cons pe_int pa_nil)))) hs (fn_of' c hf)) pss_sv) ?_
  refine h W σ G H S _ fun v G1 H1 S1 g1 r1 => ?_
  obtain ⟨B0, us, rfl, sq, au⟩ := r1.lst_inv
  have eu := au.ints_inv
  subst eu
  refine ⟨B0, _, rfl, .inl (S1.gh.seq sq), fun B nB => ?_⟩
  refine ⟨by show 3 ≤ sizeLine; exact Nat.le_of_ble_eq_true rfl, fun A nA => ?_⟩
  have nab : B ≠ A := ne_of_none (H := upd H1 B _) upd_same nA
  have gA : G1 A = none := by
    cases e : G1 A with
    | none => rfl
    | some u =>
      have := S1.gh A u e
      rw [upd_ne (Ne.symm nab), this] at nA; cases nA
  have gB : G1 B = none := by
    cases e : G1 B with
    | none => rfl
    | some u => rw [S1.gh B u e] at nB; cases nB
  have l1 := Lp.newOwn (o := .lst (ns.map V.int)) S1.gh nB
  have l2 := Lp.newOwn (o := .lst [.int c0, .ref B, .int 0]) l1.gh nA
  have ll := l1.trans l2
  refine q A B W _ G1 _ D (S1.put hl (S1.le.trans ll) (Same.refl _) (fun _ _ e _ => e) fun ow o f => ⟨fun j b hj hb u hu => ll.keep b u (fun z => z) hu, [A, B], ⟨rfl, rfl, upd_same, ?_, Ne.symm nab⟩, fun b hb => ?_⟩) M
  · rw [upd_ne nab]; exact upd_same
  · have wn : ∀ z, H1 z = none → (∀ j, z ∉ ow j) ∧ W.H z = none := fun z hz => by
      refine ⟨fun j hj => ?_, ?_⟩
      · obtain ⟨u, hu⟩ := o.live f j z hj
        rw [hz] at hu; cases hu
      · cases e : W.H z with
        | none => rfl
        | some u =>
          obtain ⟨u', e'⟩ := S1.le.there z u e
          rw [hz] at e'; cases e'
    rcases (show b = A ∨ b = B by simpa using hb) with z | z <;> subst z
    · have := wn b (by rw [upd_ne (Ne.symm nab)] at nA; exact nA)
      exact ⟨fun j _ => this.1 j, gA, .inl this.2⟩
    · have := wn b nB
      exact ⟨fun j _ => this.1 j, gB, .inl this.2⟩
end
end Z
namespace Z
open PySem PySem.Spec L2
/-! ### the earliest hours: plain -/
structure Edge where
  a : Int
  b : Int
  go : Int → Option Int
structure Edge.Ok (e : Edge) : Prop where
  mono : ∀ v v' t', v ≤ v' → e.go v' = some t' → ∃ t, e.go v = some t ∧ t ≤ t'
  late : ∀ v t, e.go v = some t → v < t
abbrev Dt := Int → Option Int
/-- D is nowhere later than D' -/
def NL (D D' : Dt) : Prop := ∀ o t, D' o = some t → ∃ u, D o = some u ∧ u ≤ t
theorem NL.rfl {D : Dt} : NL D D := fun o t h => ⟨t, h, Int.le_refl t⟩
theorem NL.trans {D D' D2 : Dt} (h : NL D D') (h' : NL D' D2) : NL D D2 := fun o t e => by
  obtain ⟨u, e', l⟩ := h' o t e
  obtain ⟨u', e2, l'⟩ := h o u e'
  exact ⟨u', e2, Int.le_trans l' l⟩
theorem NL.anti {D D' : Dt} (h : NL D D') (h' : NL D' D) : D = D' := by
  funext o
  cases e : D o with
  | none =>
    cases e' : D' o with
    | none => rfl
    | some t =>
      obtain ⟨u, e2, _⟩ := h o t e'
      rw [e] at e2; cases e2
  | some t =>
    obtain ⟨u, e2, l⟩ := h' o t e
    obtain ⟨u', e3, l'⟩ := h o u e2
    rw [e] at e3
    cases e3
    rw [e2, Int.le_antisymm l l']
structure Sound (E : Edge → Prop) (bs : Int × Int → Prop) (D : Dt) : Prop where
  pos : ∀ o t, D o = some t → 0 ≤ t
  from_ : ∀ o t, D o = some t → bs (o, t) ∨ ∃ e, E e ∧ e.b = o ∧ ∃ v u, D e.a = some v ∧ e.go v = some u ∧ u ≤ t
structure Stable (E : Edge → Prop) (bs : Int × Int → Prop) (D : Dt) : Prop where
  beg : ∀ o t, bs (o, t) → ∃ u, D o = some u ∧ u ≤ t
  ed : ∀ e, E e → ∀ v t, D e.a = some v → e.go v = some t → ∃ u, D e.b = some u ∧ u ≤ t
section
variable {E E' : Edge → Prop} {bs bs' : Int × Int → Prop} {D D' : Dt}
theorem snd_le (hE : ∀ e, E e → e.Ok) (S : Sound E bs D) (T : Stable E bs D') : NL D' D := by
  have : ∀ (n : Nat) o t, t.toNat < n → D o = some t → ∃ u, D' o = some u ∧ u ≤ t := by
    intro n
    induction n with
    | zero => intro o t h; exact absurd h (Nat.not_lt_zero _)
    | succ n ih =>
      intro o t hn ht
      have p := S.pos o t ht
      rcases S.from_ o t ht with h | ⟨e, he, rfl, v, u, h1, h2, h3⟩
      · exact T.beg o t h
      · have lv := (hE e he).late v u h2
        have pv := S.pos _ _ h1
        obtain ⟨v', h4, h5⟩ := ih e.a v (by omega) h1
        obtain ⟨u', h6, h7⟩ := (hE e he).mono v' v u h5 h2
        obtain ⟨z, h8, h9⟩ := T.ed e he v' u' h4 h6
        exact ⟨z, h8, by omega⟩
  exact fun o t h => this _ o t (Nat.lt_succ_self _) h
theorem sp_uniq (hE : ∀ e, E e → e.Ok) (S : Sound E bs D) (T : Stable E bs D) (S' : Sound E bs D') (T' : Stable E bs D') : D = D' := NL.anti (snd_le hE S' T) (snd_le hE S T')
theorem Stable.less (T : Stable E' bs' D) (h : ∀ e, E e → E' e) (hb : ∀ p, bs p → bs' p) : Stable E bs D := ⟨fun o t q => T.beg o t (hb _ q), fun e he => T.ed e (h e he)⟩
/-- what is soundly there stays soundly there when all else comes earlier -/
theorem Sound.earlier (hE : ∀ e, E e → e.Ok) (l : NL D' D) {o t : Int} (h : bs (o, t) ∨ ∃ e, E e ∧ e.b = o ∧ ∃ v u, D e.a = some v ∧ e.go v = some u ∧ u ≤ t) : bs (o, t) ∨ ∃ e, E e ∧ e.b = o ∧ ∃ v u, D' e.a = some v ∧ e.go v = some u ∧ u ≤ t := by
  rcases h with h | ⟨e, he, hb, v, u, h1, h2, h3⟩
  · exact .inl h
  · obtain ⟨v', h4, h5⟩ := l _ _ h1
    obtain ⟨u', h6, h7⟩ := (hE e he).mono v' v u h5 h2
    exact .inr ⟨e, he, hb, v', u', h4, h6, by omega⟩
end
def better (u : Option Int) (t : Int) : Bool := match u with
  | none => true
  | some u => decide (t < u)
def upD (D : Dt) (o : Int) (t : Option Int) : Dt := fun x => if x = o then t else D x
theorem upD_at {D : Dt} {o : Int} {t : Option Int} : upD D o t o = t := if_pos rfl
theorem upD_ne {D : Dt} {o x : Int} {t : Option Int} (h : x ≠ o) : upD D o t x = D x := if_neg h
def low (D : Dt) (o t : Int) : Dt := if better (D o) t = true then upD D o (some t) else D
theorem low_le {D : Dt} {o t : Int} : NL (low D o t) D := fun x s h => by
  unfold low
  by_cases q : better (D o) t = true
  · rw [if_pos q]
    by_cases qx : x = o
    · subst qx
      rw [h] at q
      exact ⟨t, upD_at, by have : t < s := of_decide_eq_true q; omega⟩
    · exact ⟨s, by rw [upD_ne qx]; exact h, Int.le_refl _⟩
  · rw [if_neg q]; exact ⟨s, h, Int.le_refl _⟩
theorem low_at {D : Dt} {o t : Int} : ∃ u, low D o t o = some u ∧ u ≤ t := by
  unfold low
  by_cases q : better (D o) t = true
  · rw [if_pos q]; exact ⟨t, upD_at, Int.le_refl _⟩
  · rw [if_neg q]
    cases e : D o with
    | none => rw [e] at q; exact absurd rfl q
    | some u =>
      rw [e] at q
      exact ⟨u, rfl, by have : ¬ t < u := fun z => q (decide_eq_true z); omega⟩
theorem low_out {D : Dt} {o t x : Int} (h : x ≠ o) : low D o t x = D x := by
  unfold low; split
  · exact upD_ne h
  · rfl
theorem low_inv {D : Dt} {o t x s : Int} (h : low D o t x = some s) : (x = o ∧ s = t) ∨ D x = some s := by
  unfold low at h
  split at h
  · by_cases q : x = o
    · subst q; rw [upD_at] at h; cases h; exact .inl ⟨rfl, rfl⟩
    · rw [upD_ne q] at h; exact .inr h
  · exact .inr h
section
variable {E E' : Edge → Prop} {bs bs' : Int × Int → Prop} {D D' : Dt}
theorem Sound.low (hE : ∀ e, E e → e.Ok) (S : Sound E bs D) {o t : Int} (p : 0 ≤ t) (h : bs (o, t) ∨ ∃ e, E e ∧ e.b = o ∧ ∃ v u, D e.a = some v ∧ e.go v = some u ∧ u ≤ t) : Sound E bs (low D o t) := by
  refine ⟨fun x s hs => ?_, fun x s hs => ?_⟩
  · rcases low_inv hs with ⟨_, rfl⟩ | z
    · exact p
    · exact S.pos x s z
  · rcases low_inv hs with ⟨rfl, rfl⟩ | z
    · exact Sound.earlier hE low_le h
    · exact Sound.earlier hE low_le (S.from_ x s z)
def rel (D : Dt) (e : Edge) : Dt := match D e.a with
  | none => D
  | some v => match e.go v with
    | none => D
    | some t => low D e.b t
theorem rel_le {D : Dt} {e : Edge} : NL (rel D e) D := by
  unfold rel
  cases D e.a with
  | none => exact NL.rfl
  | some v =>
    dsimp only
    cases e.go v with
    | none => exact NL.rfl
    | some t => exact low_le
theorem Sound.rel (hE : ∀ e, E e → e.Ok) {e : Edge} (he : E e) (S : Sound E bs D) : Sound E bs (rel D e) := by
  unfold Z.rel
  cases h : D e.a with
  | none => exact S
  | some v =>
    dsimp only
    cases h' : e.go v with
    | none => exact S
    | some t =>
      have := (hE e he).late v t h'
      have := S.pos _ _ h
      exact S.low hE (by omega) (.inr ⟨e, he, rfl, v, t, h, h', Int.le_refl _⟩)
def rnd (es : List Edge) (D : Dt) : Dt := es.foldl Z.rel D
def its (es : List Edge) : Nat → Dt → Dt
  | 0, D => D
  | k + 1, D => rnd es (its es k D)
theorem rnd_le : ∀ (es : List Edge) (D : Dt), NL (rnd es D) D
  | [], D => NL.rfl
  | e :: es, D => (rnd_le es (Z.rel D e)).trans rel_le
theorem Sound.rnd (hE : ∀ e, E e → e.Ok) : ∀ {es : List Edge} {D : Dt}, (∀ e ∈ es, E e) → Sound E bs D → Sound E bs (rnd es D)
  | [], D, _, S => S
  | e :: es, D, h, S => Sound.rnd hE (es := es) (fun x hx => h x (List.mem_cons_of_mem _ hx)) (S.rel hE (h e List.mem_cons_self))
theorem Sound.its (hE : ∀ e, E e → e.Ok) {es : List Edge} {D : Dt} (h : ∀ e ∈ es, E e) (S : Sound E bs D) : ∀ k, Sound E bs (its es k D)
  | 0 => S
  | k + 1 => (Sound.its hE h S k).rnd hE h
/-- behind a round, an edge of it has been gone -/
theorem rnd_gone (hE : ∀ e, E e → e.Ok) : ∀ {es : List Edge} {D : Dt} {e : Edge}, (∀ e ∈ es, E e) → e ∈ es → ∀ v t, D e.a = some v → e.go v = some t → ∃ u, Z.rnd es D e.b = some u ∧ u ≤ t
  | x :: es, D, e, h, hm, v, t, hv, ht => by
    by_cases q : e = x
    · subst q
      have : ∃ u, Z.rel D e e.b = some u ∧ u ≤ t := by
        unfold Z.rel
        rw [hv]
        dsimp only
        rw [ht]
        exact low_at
      obtain ⟨u, h1, h2⟩ := this
      obtain ⟨z, h3, h4⟩ := rnd_le es (Z.rel D e) _ _ h1
      exact ⟨z, h3, by omega⟩
    · have hm' := (List.mem_cons.mp hm).resolve_left q
      obtain ⟨v', h1, h2⟩ := rel_le (D := D) (e := x) _ _ hv
      obtain ⟨t', h3, h4⟩ := (hE e (h e hm)).mono v' v t h2 ht
      obtain ⟨u, h5, h6⟩ := rnd_gone hE (es := es) (D := Z.rel D x) (fun y hy => h y (List.mem_cons_of_mem _ hy)) hm' v' t' h1 h3
      exact ⟨u, h5, by omega⟩
/-- a round that changes nothing ends in what is stable -/
theorem stable_of_rnd (hE : ∀ e, E e → e.Ok) {es : List Edge} (h : ∀ e, E e ↔ e ∈ es) (hb : ∀ o t, bs (o, t) → ∃ u, D o = some u ∧ u ≤ t) (e0 : Z.rnd es D = D) : Stable E bs D :=
  ⟨hb, fun e he v t hv ht => by
    obtain ⟨u, h1, h2⟩ := rnd_gone hE (fun e he => (h e).mpr he) ((h e).mp he) v t hv ht
    rw [e0] at h1
    exact ⟨u, h1, h2⟩⟩
/-! ### there is one -/
inductive Ach (E : Edge → Prop) (bs : Int × Int → Prop) : Int → Int → Prop
  | beg {o t : Int} : bs (o, t) → Ach E bs o t
  | ed {e : Edge} {v t : Int} : E e → Ach E bs e.a v → e.go v = some t → Ach E bs e.b t
theorem least {p : Nat → Prop} {n : Nat} (h : p n) : ∃ m, p m ∧ ∀ k, p k → m ≤ k := by
  induction n using Nat.strongRecOn with
  | _ n ih =>
    by_cases q : ∃ k, p k ∧ k < n
    · obtain ⟨k, h1, h2⟩ := q
      exact ih k h2 h1
    · exact ⟨n, h, fun k hk => Nat.le_of_not_lt fun z => q ⟨k, hk, z⟩⟩
theorem sp_exists (hE : ∀ e, E e → e.Ok) (hb : ∀ o t, bs (o, t) → 0 ≤ t) : ∃ D, Sound E bs D ∧ Stable E bs D := by
  have pos : ∀ o t, Ach E bs o t → 0 ≤ t := fun o t h => by
    induction h with
    | beg h => exact hb _ _ h
    | ed he _ hg ih => have := (hE _ he).late _ _ hg; omega
  have mn : ∀ o, (∃ t, Ach E bs o t) → ∃ t, Ach E bs o t ∧ ∀ s, Ach E bs o s → t ≤ s := fun o ⟨t, h⟩ => by
    have h' : Ach E bs o ((t.toNat : Nat) : Int) := by
      have := pos o t h
      rw [show ((t.toNat : Nat) : Int) = t by omega]; exact h
    obtain ⟨m, h1, h2⟩ := least (p := fun n => Ach E bs o (n : Int)) h'
    refine ⟨m, h1, fun s hs => ?_⟩
    have := pos o s hs
    have := h2 s.toNat (by rw [show ((s.toNat : Nat) : Int) = s by omega]; exact hs)
    omega
  have key : ∀ o, ∃ r : Option Int, (∀ t, r = some t → Ach E bs o t ∧ ∀ s, Ach E bs o s → t ≤ s) ∧ (r = none → ¬ ∃ t, Ach E bs o t) := fun o => by
    by_cases q : ∃ t, Ach E bs o t
    · obtain ⟨t, h1, h2⟩ := mn o q
      exact ⟨some t, fun s e => by cases e; exact ⟨h1, h2⟩, fun e => by cases e⟩
    · exact ⟨none, (fun s e => by cases e), fun _ => q⟩
  obtain ⟨D, hD⟩ : ∃ D : Dt, ∀ o, (∀ t, D o = some t → Ach E bs o t ∧ ∀ s, Ach E bs o s → t ≤ s) ∧ (D o = none → ¬ ∃ t, Ach E bs o t) := ⟨fun o => (key o).choose, fun o => (key o).choose_spec⟩
  have at_ : ∀ o t, Ach E bs o t → ∃ u, D o = some u ∧ u ≤ t := fun o t h => by
    cases e : D o with
    | none => exact absurd ⟨t, h⟩ ((hD o).2 e)
    | some u => exact ⟨u, rfl, ((hD o).1 u e).2 t h⟩
  refine ⟨D, ⟨fun o t h => pos o t ((hD o).1 t h).1, fun o t h => ?_⟩, ⟨fun o t h => at_ o t (.beg h), fun e he v t hv ht => at_ _ _ (.ed he ((hD _).1 v hv).1 ht)⟩⟩
  have := ((hD o).1 t h).1
  cases this with
  | beg h => exact .inl h
  | ed he ha hg =>
    rename_i e v
    obtain ⟨v', h1, h2⟩ := at_ _ _ ha
    obtain ⟨t', h3, h4⟩ := (hE e he).mono v' v t h2 hg
    exact .inr ⟨e, he, rfl, v', t', h1, h3, h4⟩
open Classical in
/-- the earliest hours -/
noncomputable def Sp (E : Edge → Prop) (bs : Int × Int → Prop) : Dt := if h : ∃ D, Sound E bs D ∧ Stable E bs D then h.choose else fun _ => none
theorem sp_spec (hE : ∀ e, E e → e.Ok) (hb : ∀ o t, bs (o, t) → 0 ≤ t) : Sound E bs (Sp E bs) ∧ Stable E bs (Sp E bs) := by
  have h := sp_exists hE hb
  unfold Sp
  rw [dif_pos h]
  exact h.choose_spec
theorem sp_is (hE : ∀ e, E e → e.Ok) (hb : ∀ o t, bs (o, t) → 0 ≤ t) (S : Sound E bs D) (T : Stable E bs D) : D = Sp E bs := sp_uniq hE S T (sp_spec hE hb).1 (sp_spec hE hb).2
/-! ### how many rounds do -/
theorem countP_lt {α : Type} {p q : α → Bool} : ∀ {l : List α}, (∀ x, p x = true → q x = true) → (∃ y ∈ l, q y = true ∧ p y = false) → l.countP p < l.countP q
  | [], _, ⟨y, h, _⟩ => by cases h
  | x :: l, h, ⟨y, hy, h1, h2⟩ => by
    have mono : ∀ l : List α, l.countP p ≤ l.countP q := fun l => List.countP_mono_left fun x _ => h x
    rcases List.mem_cons.mp hy with e | e
    · subst e
      rw [List.countP_cons_of_neg (by rw [h2]; decide), List.countP_cons_of_pos h1]
      have := mono l
      omega
    · have ih := countP_lt (l := l) h ⟨y, e, h1, h2⟩
      rw [List.countP_cons, List.countP_cons]
      by_cases z : p x = true
      · rw [if_pos z, if_pos (h x z)]; omega
      · rw [if_neg z]; omega
def within (D : Dt) (t : Int) (b : Int) : Bool := match D b with
  | none => false
  | some u => decide (u ≤ t)
def rank (T : List Int) (D : Dt) (o : Int) : Nat := match D o with
  | none => 0
  | some t => T.countP (within D t)
theorem rank_lt {T : List Int} {D : Dt} {a b v t : Int} (hb : b ∈ T) (ha : D a = some v) (h : D b = some t) (l : v < t) : rank T D a < rank T D b := by
  unfold rank
  rw [ha, h]
  refine countP_lt (fun x hx => ?_) ⟨b, hb, ?_, ?_⟩
  · unfold within at hx ⊢
    cases e : D x with
    | none => rw [e] at hx; cases hx
    | some u =>
      rw [e] at hx
      have : u ≤ v := of_decide_eq_true hx
      exact decide_eq_true (by omega)
  · unfold within; rw [h]; exact decide_eq_true (Int.le_refl t)
  · unfold within; rw [h]; exact decide_eq_false (by omega)
theorem rounds (hE : ∀ e, E e → e.Ok) {es : List Edge} (h : ∀ e, E e ↔ e ∈ es) {Q : Dt} (SQ : Sound E bs Q) (TQ : Stable E bs Q) (S : Sound E bs D) (hb : ∀ o t, bs (o, t) → ∃ u, D o = some u ∧ u ≤ t) (T : List Int) (hT : ∀ e, E e → e.b ∈ T) :
    ∀ k o t, Q o = some t → rank T Q o ≤ k + 1 → its es k D o = some t ∨ (∃ e, E e ∧ e.b = o ∧ ∃ v, Q e.a = some v ∧ v < t ∧ k + 1 ≤ rank T Q e.a + 1 ∧ rank T Q e.a < rank T Q o) := by
  intro k
  have lowQ : ∀ k, NL Q (its es k D) := fun k => snd_le hE (Sound.its hE (fun e he => (h e).mpr he) S k) TQ
  induction k with
  | zero =>
    intro o t ht hr
    rcases SQ.from_ o t ht with z | ⟨e, he, hb', v, u, h1, h2, h3⟩
    · obtain ⟨u, h1, h2⟩ := hb o t z
      obtain ⟨u', h3, h4⟩ := lowQ 0 o u h1
      rw [ht] at h3
      cases h3
      left
      show D o = some t
      rw [h1]; congr 1; omega
    · have lv := (hE e he).late v u h2
      refine .inr ⟨e, he, hb', v, h1, by omega, by omega, ?_⟩
      subst hb'
      exact rank_lt (hT e he) h1 ht (by omega)
  | succ k ih =>
    intro o t ht hr
    rcases SQ.from_ o t ht with z | ⟨e, he, hb', v, u, h1, h2, h3⟩
    · obtain ⟨u, h1, h2⟩ := hb o t z
      have : NL (its es (k + 1) D) D := by
        generalize k + 1 = m
        clear ih hr
        induction m with
        | zero => exact NL.rfl
        | succ m ih => exact (rnd_le es _).trans ih
      obtain ⟨u', h3, h4⟩ := this o u h1
      obtain ⟨u2, h5, h6⟩ := lowQ (k + 1) o u' h3
      rw [ht] at h5
      cases h5
      left
      rw [h3]; congr 1; omega
    · have lv := (hE e he).late v u h2
      subst hb'
      have rk := rank_lt (hT e he) h1 ht (show v < t by omega)
      by_cases q : rank T Q e.a ≤ k
      · left
        have : its es k D e.a = some v := by
          rcases ih e.a v h1 (by omega) with z | ⟨e', he', hb2, v', h4, h5, h6, h7⟩
          · exact z
          · omega
        obtain ⟨u', h4, h5⟩ := rnd_gone hE (D := its es k D) (fun e he => (h e).mpr he) ((h e).mp he) v u this h2
        obtain ⟨u2, h6, h7⟩ := lowQ (k + 1) _ _ h4
        rw [ht] at h6
        cases h6
        show rnd es (its es k D) e.b = some t
        rw [h4]; congr 1; omega
      · exact .inr ⟨e, he, rfl, v, h1, by omega, by omega, rk⟩
theorem rank_le {T : List Int} {D : Dt} {o : Int} : rank T D o ≤ T.length := by
  unfold rank
  cases D o with
  | none => exact Nat.zero_le _
  | some t => exact List.countP_le_length
theorem rounds_do (hE : ∀ e, E e → e.Ok) {es : List Edge} (h : ∀ e, E e ↔ e ∈ es) {Q : Dt} (SQ : Sound E bs Q) (TQ : Stable E bs Q) (S : Sound E bs D) (hb : ∀ o t, bs (o, t) → ∃ u, D o = some u ∧ u ≤ t) (T : List Int) (hT : ∀ e, E e → e.b ∈ T) {k : Nat} (hk : T.length ≤ k) :
    its es k D = Q := by
  have lowQ : NL Q (its es k D) := snd_le hE (Sound.its hE (fun e he => (h e).mpr he) S k) TQ
  refine NL.anti (fun o t ht => ?_) lowQ
  have rl := rank_le (T := T) (D := Q) (o := o)
  rcases rounds hE h SQ TQ S hb T hT k o t ht (by omega) with z | ⟨e, he, hb', v, h1, h2, h3, h4⟩
  · exact ⟨t, z, Int.le_refl _⟩
  · omega
end
/-! ### hours as a list -/
def oD : Option Int → PyData
  | none => .none
  | some t => .int t
def fl (n : Nat) (D : Dt) : List PyData := (List.range n).map fun (i : Nat) => oD (D (i : Int))
theorem fl_len {n : Nat} {D : Dt} : (fl n D).length = n := by simp [fl]
theorem fl_get {n i : Nat} {D : Dt} (h : i < n) : (fl n D)[i]? = some (oD (D (i : Int))) := by simp [fl, h]
theorem fl_at {n : Nat} {D : Dt} {o : Int} (h : 0 ≤ o ∧ o < (n : Int)) : L2.atI (fl n D) o = some (oD (D o)) := by
  obtain ⟨i, rfl⟩ : ∃ i : Nat, o = (i : Int) := ⟨o.toNat, by omega⟩
  exact L2.atI_nat (fl_get (by omega))
theorem fl_ix {n : Nat} {D : Dt} {o : Int} (h : 0 ≤ o ∧ o < (n : Int)) : ixD (.list (fl n D)) o = some (oD (D o)) := fl_at h
theorem fl_set {n : Nat} {D : Dt} {o : Int} {x : Option Int} (h : 0 ≤ o ∧ o < (n : Int)) : (fl n D).set o.toNat (oD x) = fl n (upD D o x) := by
  obtain ⟨i, rfl⟩ : ∃ i : Nat, o = (i : Int) := ⟨o.toNat, by omega⟩
  rw [Int.toNat_natCast]
  apply List.ext_getElem?
  intro j
  by_cases q : i = j
  · subst q
    rw [List.getElem?_set_self (by rw [fl_len]; omega), fl_get (by omega), upD_at]
  · rw [List.getElem?_set_ne q]
    by_cases qj : j < n
    · rw [fl_get qj, fl_get qj, upD_ne (by omega)]
    · rw [List.getElem?_eq_none (by rw [fl_len]; omega), List.getElem?_eq_none (by rw [fl_len]; omega)]
theorem fl_ixN {n : Nat} {D : Dt} {o : Int} (h : 0 ≤ o ∧ o < (n : Int)) : L2.ixN (fl n D).length o = some o.toNat := by
  obtain ⟨i, rfl⟩ : ∃ i : Nat, o = (i : Int) := ⟨o.toNat, by omega⟩
  rw [fl_len]
  unfold L2.ixN
  rw [if_pos (by omega), if_pos (by omega)]
theorem fl_none {n : Nat} : fl n (fun _ => none) = List.replicate n .none := by
  apply List.ext_getElem?
  intro j
  by_cases qj : j < n
  · rw [fl_get qj]; simp [oD, qj]
  · rw [List.getElem?_eq_none (by rw [fl_len]; omega), List.getElem?_eq_none (by simp; omega)]
end Z
namespace Z
open PySem PySem.Spec L2
variable [Tabl]
section
variable {P : Program} {w : World} {K : PySem.W.Frag} {mg : Str → Option Value} {base : Heap} {T : Sta} {k : Nat} {X : Cx} {ks k1 k2 k3 : List SK} {a b e : Expr} {es : List Expr} {d da db : PyData} {ds : List PyData} {pos p tpos : Pos} {rest body orelse : List Stmt} {Φ : Po}
theorem SD.to {ls : List SK} (e : ks = ls) (h : SD X ls rest Φ) : SD X ks rest Φ := e ▸ h
/-- [g for .. in ..] -/
theorem lc_map {α : Type} (c : Ctx P w K mg base T k X) {elt tg iter : Expr} {scope : Scope} (own : List (Str × Nat)) {f : PyData → List SK → Option (List SK)} {js : List Nat} {xs : List α} {enc : α → PyData} (g : α → PyData)
    (ok : blkC T.N T.sc scope own = true) (hjs : js.all (fun j => (own.map (·.2)).contains j) = true) (hi : ID X ks tg iter k1 (xs.map enc))
    (nw : ∀ i ∈ own.map (·.2), ∃ k, k1[i]? = some k ∧ (k = .no ∨ ∃ d, k = .dat d))
    (hg : ∀ X', Ctx P w K mg base (Tb T scope) k X' → GD X' tg f js) (hz : xs.length < sizeLine)
    (turn : ∀ x ∈ xs, ∃ kb, f (enc x) (wipeK k1 (own.map (·.2))) = some kb ∧ (∀ X', Ctx P w K mg base (Tb T scope) k X' → ED X' kb elt kb (g x)) ∧ Wk kb (wipeK k1 (own.map (·.2))))
    (hs : ∀ x, foldedSetIterable iter X.env x = pure x) : LC X ks (.ListComp elt [⟨tg, iter, [], 0⟩] scope pos) k1 (xs.map g) := by
  have key := lc_filter (pos := pos) c own (xs := xs) (enc := enc) (fun _ => true) g ok hjs hi nw hg hz (fun x hx => by
    obtain ⟨kb, h1, h2, h3⟩ := turn x hx
    exact ⟨kb, h1, fun X' _ => ts_nil, h3, fun _ => h2⟩) hs
  rw [List.filter_eq_self.mpr (fun _ _ => rfl)] at key
  exact key
theorem el_map {α : Type} (c : Ctx P w K mg base T k X) {elt tg iter : Expr} {scope : Scope} (own : List (Str × Nat)) {f : PyData → List SK → Option (List SK)} {js : List Nat} {xs : List α} {enc : α → PyData} (g : α → PyData)
    (ok : blkC T.N T.sc scope own = true) (hjs : js.all (fun j => (own.map (·.2)).contains j) = true) (hi : ID X ks tg iter k1 (xs.map enc))
    (nw : ∀ i ∈ own.map (·.2), ∃ k, k1[i]? = some k ∧ (k = .no ∨ ∃ d, k = .dat d))
    (hg : ∀ X', Ctx P w K mg base (Tb T scope) k X' → GD X' tg f js) (hz : xs.length < sizeLine)
    (turn : ∀ x ∈ xs, ∃ kb, f (enc x) (wipeK k1 (own.map (·.2))) = some kb ∧ (∀ X', Ctx P w K mg base (Tb T scope) k X' → ED X' kb elt kb (g x)) ∧ Wk kb (wipeK k1 (own.map (·.2))))
    (hs : ∀ x, foldedSetIterable iter X.env x = pure x) : EL X ks (.ListComp elt [⟨tg, iter, [], 0⟩] scope pos) k1 (xs.map g) := (lc_map c own g ok hjs hi nw hg hz turn hs).el c
/-- found[o] is None or t < found[o] -/
theorem td_low (c : CtxB cq P w K mg base T k X) (i : Nat) {x : Str} {p1 p2 q1 q2 q3 q4 : Pos} {e1 e2 e3 : Expr} {o t : Int} {n jj : Nat} {D : Dt} (hN : T.N[i]? = some x) (hv : Vis T.sc x) (hk : ks[i]? = some (.own (fl n D))) (h1 : ED X ks e1 ks (.int o)) (h2 : ED X ks e2 ks (.int o)) (h3 : ED X ks e3 ks (.int t)) (ho : 0 ≤ o ∧ o < (n : Int))
    (s1 : PlainIx e1) (s2 : PlainIx e2) (hd : (x == ("__debug__" : Str)) = false) (hcd : (x == ("__classdict__" : Str)) = false)
    (m2 : behindInMarks .Lt (.Subscript (.Name x p2) e2 q2) = false) : TD X ks (.BoolOp .Or [.Compare (.Subscript (.Name x p1) e1 q1) [.Is] [.Constant .none jj p] q3, .Compare e3 [.Lt] [.Subscript (.Name x p2) e2 q2] q4] pos) ks (better (D o) t) := by
  have hx : L2.atI (fl n D) o = some (oD (D o)) := fl_at ho
  cases e : D o with
  | none =>
    rw [e] at hx
    exact td_w (wd_or (x := true) (y := true) (td_cmp (own_ix c i hN hv h1 hk hx s1 hk hd hcd) ed_non cd_isN (nomark _)) (fun z => nomatch z))
  | some u =>
    rw [e] at hx
    exact td_w (wd_or (x := false) (td_cmp (own_ix c i hN hv h1 hk hx s1 hk hd hcd) ed_non cd_isN (nomark _)) (fun _ => wd_or1 (td_cmp h3 (own_ix c i hN hv h2 hk hx s2 hk hd hcd) cd_lt m2)))
/-- found[o] = t, where it is better, is low -/
theorem low_t {D : Dt} {o t : Int} (h : better (D o) t = true) : low D o t = upD D o (some t) := if_pos h
theorem low_f {D : Dt} {o t : Int} (h : better (D o) t = false) : low D o t = D := if_neg (by rw [h]; decide)
theorem low_fix {D : Dt} {o t : Int} (h : better (D o) t = true) : low D o t ≠ D := fun z => by
  rw [low_t h] at z
  have : upD D o (some t) o = D o := by rw [z]
  rw [upD_at] at this
  rw [← this] at h
  exact absurd (of_decide_eq_true h : t < t) (Int.lt_irrefl t)
end
end Z
namespace Z
open PySem PySem.Spec L2
variable [Tabl]
/-! ### list + list of any lists -/
def rCatS (K : PySem.W.Frag) : R2 := fun x y H Q => ∃ l b xs zs, x = .ref l ∧ y = .ref b ∧ SqL K H l xs ∧ SqL K H b zs ∧ xs.length + zs.length ≤ sizeLine ∧ ∀ p, H p = none → Q (.ref p) (upd H p (.lst (xs ++ zs)))
theorem op_catS {X : Cx} : OpR X (binaryOp .Add) (rCatS X.K) := by
  intro pins s σ H x y v u Q I rx ry h
  obtain ⟨l, b, xs, zs, rfl, rfl, hH, hB, hz, q⟩ := h
  cases rx
  cases ry
  obtain ⟨its, r, ⟨o1, n1, g1, c1, d1, e1⟩, _⟩ := I.list hH
  obtain ⟨its2, r2, ⟨o2, n2, g2, c2, d2, e2⟩, _⟩ := I.list hB
  obtain ⟨cls, dd, data, sl⟩ := o1
  obtain ⟨cls2, dd2, data2, sl2⟩ := o2
  simp only at c1 d1 e1 c2 d2 e2
  subst c1 d1 e1 c2 d2 e2
  have e : its.toArray ++ its2.toArray = (its ++ its2).toArray := by simp
  refine PySem.concat_meets ⟨_, g1, rfl⟩ ⟨_, g2, rfl⟩ PySem.noFill_list_add PySem.seq_list_add PySem.F.slot_list_add PySem.F.entry_list_add (PySem.F.args_list_add_2 _ _) (PyProof.Rows.list_addW l b its.toArray its2.toArray n1 n2 none none sl sl2 (by rw [List.size_toArray, List.size_toArray, ← r.length, ← r2.length]; exact hz)) ⟨g1, g2, ?_⟩
  rw [e]
  exact ⟨.ref _, _, I.lnew (t' := s.toks) (r.append r2) (by rw [List.length_append]; exact hz), rfl, q _ I.fresh⟩
section
variable {P : Program} {w : World} {K : PySem.W.Frag} {mg : Str → Option Value} {base : Heap} {T : Sta} {k : Nat} {X : Cx} {ks k1 k2 k3 : List SK} {a b e : Expr} {es : List Expr} {d da db : PyData} {ds ds' : List PyData} {pos p tpos : Pos} {rest body orelse : List Stmt} {Φ : Po}
theorem el_cat (ha : ED X ks a k1 (.list ds)) (hb : ED X k1 b k2 (.list ds')) (hz : ds.length + ds'.length ≤ sizeLine) : EL X ks (.BinOp a .Add b pos) k2 (ds ++ ds') := fun W σ G H S Q q => by
  refine ev_of (pe_op op_catS pe_ev pe_ev) (ha W σ G H S _ fun v G1 H1 S1 g1 r1 => hb W σ G1 H1 S1 _ fun u G2 H2 S2 g2 r2 => ?_)
  obtain ⟨l, xs, rfl, sx, ax⟩ := r1.lst_inv
  obtain ⟨m, ys, rfl, sy, ay⟩ := r2.lst_inv
  refine ⟨l, m, xs, ys, rfl, rfl, (g2.trans S2.gh).seq sx, S2.gh.seq sy, by rw [ax.len, ay.len]; exact hz, fun p np => ?_⟩
  have gp : G2 p = none := by
    cases e : G2 p with
    | none => rfl
    | some u => rw [S2.gh p u e] at np; cases np
  exact q p G2 _ (S2.push (Lp.newOwn S2.gh np) np gp upd_same (DpAll.append (DpAll.mono g2 ax) ay)) (g1.trans g2)
theorem ed_cat (ha : ED X ks a k1 (.list ds)) (hb : ED X k1 b k2 (.list ds')) (hz : ds.length + ds'.length ≤ sizeLine) : ED X ks (.BinOp a .Add b pos) k2 (.list (ds ++ ds')) := ed_el (el_cat ha hb hz)
theorem cl_minL (hc : X.calm = true) {ns : List Int} {m : Int} (h : m ∈ ns) (hl : ∀ y ∈ ns, m ≤ y) : CallD X (.builtin "min") [.list (ns.map .int)] (.int m) := ⟨_, cr_min hc, fun G H vs g r Q q => by
  obtain ⟨v, rfl, r1⟩ := DpAll.one r
  obtain ⟨p, us, rfl, sp, ap⟩ := r1.lst_inv
  rw [ap.ints_inv] at sp
  refine ⟨p, ns, rfl, g.seq sp, List.length_pos_of_mem h, fun m' hm hm' => ?_⟩
  have : m' = m := Int.le_antisymm (hm' m h) (hl m' hm)
  subst this
  exact q _ G H (Lp.refl g) (.int _)⟩
theorem id_to {tg iter : Expr} (h : ID X ks tg iter k1 ds) (e : ds = ds') : ID X ks tg iter k1 ds' := e ▸ h
end
end Z
namespace Z
open PySem PySem.Spec L2
variable [Tabl]
/-! ### a list of our own looked at as data -/
def dOnly : SK → SK
  | .dat d => .dat d
  | _ => .no
def less (G : Hp) (a : Addr) : Hp := fun b => if b = a then none else G b
section
variable {P : Program} {w : World} {K : PySem.W.Frag} {mg : Str → Option Value} {base : Heap} {T : Sta} {k : Nat} {X : Cx} {ks k1 k2 k3 : List SK} {a b e : Expr} {es : List Expr} {d da db : PyData} {ds ds' : List PyData} {pos p tpos : Pos} {rest body orelse : List Stmt} {Φ : Po}
theorem thaw_le {G H G2 H2 : Hp} {a : Addr} {vs : List V} (ga : G a = none) (ha : H a = some (.lst vs)) (gh : Same G H) (l : Le (pur (upd G a (.lst vs)) H) G2 H2) : Le (pur G H) (less G2 a) H2 where
  tb := l.tb.mono (fun p hp => by
    show (if p.1 = a then none else G2 p.1) = none
    split
    · rfl
    · exact l.tb.g p hp) fun _ _ _ e => e
  g := fun b u e => by
    have z : b ≠ a := fun z => by
      have e : G b = some u := e
      rw [z, ga] at e; cases e
    show (if b = a then none else G2 b) = some u
    rw [if_neg z]
    exact l.g b u (show upd G a (.lst vs) b = some u by rw [upd_ne z]; exact e)
  gh := fun b u e => by
    have e : (if b = a then none else G2 b) = some u := e
    split at e
    · cases e
    · exact l.gh b u e
  keep := fun b u m nt e => l.keep b u (fun z => z) nt e
  there := fun b u e => l.there b u e
  fz := fun b u e e2 => by
    show (if b = a then none else G2 b) = none
    by_cases z : b = a
    · rw [if_pos z]
    · rw [if_neg z]
      exact l.fz b u (show upd G a (.lst vs) b = none by rw [upd_ne z]; exact e) e2
  m := fun _ z => z.elim
theorem less_gg {G G2 : Hp} {a : Addr} {vs : List V} (ga : G a = none) (g : Same (upd G a (.lst vs)) G2) : Same G (less G2 a) := fun b u e => by
  have z : b ≠ a := fun z => by rw [z, ga] at e; cases e
  show (if b = a then none else G2 b) = some u
  rw [if_neg z]
  exact g b u (by rw [upd_ne z]; exact e)
def flatD : PyData → Bool
  | .none => true
  | .bool _ => true
  | .int _ => true
  | .str _ => true
  | _ => false
theorem Dp.flat {G G2 : Hp} {v : V} (h : flatD d = true) (r : Dp K G v d) : Dp K G2 v d := by
  cases r with
  | non => exact .non
  | bl b => exact .bl b
  | int i => exact .int i
  | str x => exact .str x
  | lst _ _ => cases h
  | tup _ _ => cases h
/-! ### a walk over a list of our own, that stays -/
theorem DpAll.rep {G : Hp} {vs : List V} {ds : List PyData} (r : DpAll K G vs ds) : ∀ n : Nat, DpAll K G (List.replicate n vs).flatten (List.replicate n ds).flatten
  | 0 => .nil
  | n + 1 => by
    rw [List.replicate_succ, List.replicate_succ, List.flatten_cons, List.flatten_cons]
    exact DpAll.append r (DpAll.rep r n)
/-- [None] * n -/
theorem el_rep {n : Int} (ha : EL X ks a k1 ds) (hb : ED X (k1.map dOnly) b (k1.map dOnly) (.int n)) (h0 : 0 ≤ n) (hn : n < 1000) (hz : ds.length * n.toNat ≤ sizeLine) : EL X ks (.BinOp a .Mult b pos) k1 (List.replicate n.toNat ds).flatten := fun W σ G H S Q q => by
  refine ev_of (pe_op op_rep pe_ev pe_ev) (ha W σ G H S _ fun l G1 H1 S1 g1 => ?_)
  obtain ⟨S1', gl, wl, vs, hl, rl, _⟩ := S1.pop
  -- the right side is walked with the new list as another's
  have S1w : Sts X.K (pur G1 H1) ((k1.map dOnly)) σ G1 H1 := by
    obtain ⟨le, len, ow, o, f⟩ := S1'
    refine ⟨Le.refl le.gh le.tb, by simpa using len, fun _ => [], ⟨fun _ _ _ h _ => (by cases h), fun _ _ h => (by cases h), fun _ _ => rfl⟩, fun i q' hq => ?_⟩
    rw [List.getElem?_map] at hq
    cases e : k1[i]? with
    | none => rw [e] at hq; cases hq
    | some q2 =>
      rw [e] at hq
      have hq : dOnly q2 = q' := Option.some.inj hq
      cases q2 with
      | dat d => subst hq; obtain ⟨h0, v, h1, h2⟩ := f i _ e; exact ⟨rfl, v, h1, h2⟩
      | _ => subst hq; exact (show ([] : List Addr) = [] from rfl)
  refine hb _ σ G1 H1 S1w _ fun v G2 H2 S2 g2 r2 => ?_
  rw [r2.int_inv]
  refine ⟨l, n, vs, rfl, rfl, S2.le.keep l _ (fun z => z) (fun _ z => by cases z) hl, by omega, by omega, by rw [rl.len]; exact hz, fun p np => ?_⟩
  have gp : G2 p = none := by
    cases e : G2 p with
    | none => rfl
    | some u => rw [S2.gh p u e] at np; cases np
  have S3 := S1'.step S2.le
  exact q p G2 _ (S3.push (Lp.newOwn S2.gh np) np gp upd_same (DpAll.rep (DpAll.mono g2 rl) n.toNat)) (g1.trans g2)
end
end Z
namespace Z
open PySem PySem.Spec L2
variable [Tabl]
/-! ### sorted -/
abbrev T3 := Int × Int × Int
def cd3 (r : T3) : Int := TS.code 1000 [r.1, r.2.1, r.2.2]
end Z
namespace Z
open PySem PySem.Spec L2 RT
end Z
namespace Z
open PySem PySem.Spec L2 PyProof.Rows
/-! ### x in a tuple -/
end Z
namespace Z
open PySem PySem.Spec L2 PyProof.Rows
end Z
namespace Z
open PySem PySem.Spec L2 PyProof.Rows
end Z
namespace Z
open PySem PySem.Spec L2
/-! ### dicts of ints -/
end Z
namespace Z
open PySem PySem.Spec L2
variable [Tabl]
section
variable {P : Program} {w : World} {K : PySem.W.Frag} {mg : Str → Option Value} {base : Heap} {T : Sta} {k : Nat} {X : Cx} {ks k1 k2 k3 : List SK} {a b e : Expr} {es : List Expr} {d da db : PyData} {ds ds' el : List PyData} {pos p tpos : Pos} {rest body orelse : List Stmt} {Φ : Po}
/-! ### slots moved -/
section
variable {W : Wd} {σ : St} {G H : Hp} {i : Nat}
/-- a slot told otherwise, of the same things -/
theorem Sts.told {k0 k' : SK} {v' : Option V} (S : Sts K W ks σ G H) (hk : ks[i]? = some k0) (nr : isRng k0 = false) (h : ∀ as, Sl K G H k0 ((σ[i]?).getD none) as → Sl K G H k' v' as) : Sts K W (ks.set i k') (σ.set i v') G H := by
  obtain ⟨le, len, ow, o, f⟩ := S
  have hi := (List.getElem?_eq_some_iff.mp hk).1
  refine ⟨le, by simp [len], ow, ⟨o.dis, fun j a ha => ?_, fun j hj => o.out j (by simpa using hj)⟩, fun j kj hj => ?_⟩
  · obtain ⟨b1, c⟩ := o.mine j a ha
    refine ⟨b1, ?_⟩
    rcases c with c | ⟨c, r, e, e'⟩
    · exact .inl c
    · by_cases q : j = i
      · subst q
        rw [hk] at e
        cases e
        rw [nr] at e'
        cases e'
      · exact .inr ⟨c, r, by rw [List.getElem?_set_ne (Ne.symm q)]; exact e, e'⟩
  · by_cases q : j = i
    · subst q
      rw [List.getElem?_set_self hi] at hj
      cases hj
      rw [List.getElem?_set_self (by omega)]
      exact h _ (f j k0 hk)
    · rw [List.getElem?_set_ne (Ne.symm q)] at hj
      rw [List.getElem?_set_ne (Ne.symm q)]
      exact f j kj hj
/-- slot i goes to the end -/
theorem Sts.toEnd {k' : SK} (S : Sts K W ks σ G H) (hk : ks[i]? = some k') (nr : isRng k' = false) : Sts K W (ks.set i .no ++ [k']) (σ ++ [(σ[i]?).getD none]) G H := by
  obtain ⟨le, len, ow, o, f⟩ := S
  have hi := (List.getElem?_eq_some_iff.mp hk).1
  refine ⟨le, by simp [len], fun j => if j = ks.length then ow i else if j = i then [] else ow j, ⟨fun j j' b hb hb' => ?_, fun j b hb => ?_, fun j hj => ?_⟩, fun j kj hj => ?_⟩
  · by_cases q1 : j = ks.length <;> by_cases q2 : j' = ks.length
    · rw [q1, q2]
    · simp only [q1, if_true, q2, if_false] at hb hb'
      split at hb'
      · cases hb'
      · exact absurd (o.dis _ _ b hb' hb) ‹_›
    · simp only [q1, if_false, q2, if_true] at hb hb'
      split at hb
      · cases hb
      · exact absurd (o.dis _ _ b hb hb') ‹_›
    · simp only [q1, q2, if_false] at hb hb'
      split at hb
      · cases hb
      · split at hb'
        · cases hb'
        · exact o.dis j j' b hb hb'
  · by_cases q1 : j = ks.length
    · simp only [q1, if_true] at hb
      obtain ⟨b1, c⟩ := o.mine _ b hb
      refine ⟨b1, ?_⟩
      rcases c with c | ⟨c, r, e, e'⟩
      · exact .inl c
      · rw [hk] at e
        cases e
        rw [nr] at e'
        cases e'
    · simp only [q1, if_false] at hb
      split at hb
      · cases hb
      · rename_i q2
        obtain ⟨b1, c⟩ := o.mine j b hb
        refine ⟨b1, ?_⟩
        rcases c with c | ⟨c, k', e, e'⟩
        · exact .inl c
        · refine .inr ⟨c, k', ?_, e'⟩
          rw [List.getElem?_append_left (by simp; exact (List.getElem?_eq_some_iff.mp e).1), List.getElem?_set_ne (Ne.symm q2)]; exact e
  · have h3 : j ≠ ks.length := by simp at hj; omega
    simp only [h3, if_false]
    split
    · rfl
    · exact o.out j (by simp at hj; omega)
  · by_cases q1 : j = ks.length
    · subst q1
      rw [List.getElem?_append_right (by simp)] at hj
      simp at hj
      subst hj
      simp only [if_true]
      rw [List.getElem?_append_right (by omega), len]
      simp only [Nat.sub_self]
      exact f i _ hk
    · simp only [q1, if_false]
      have hj1 := (List.getElem?_eq_some_iff.mp hj).1
      have hj' : j < ks.length := by simp at hj1; omega
      rw [List.getElem?_append_left (by simpa using hj')] at hj
      rw [List.getElem?_append_left (by omega)]
      by_cases q2 : j = i
      · subst q2
        rw [List.getElem?_set_self hi] at hj
        cases hj
        simp only [if_true]
        exact (show ([] : List Addr) = [] from rfl)
      · rw [List.getElem?_set_ne (Ne.symm q2)] at hj
        simp only [q2, if_false]
        exact f j kj hj
theorem Sts.at {k' : SK} (S : Sts K W ks σ G H) (hk : ks[i]? = some k') : ∃ as, Sl K G H k' ((σ[i]?).getD none) as := let ⟨_, _, ow, _, f⟩ := S; ⟨ow i, f i _ hk⟩
theorem Sts.there (S : Sts K W ks σ G H) (hi : i < ks.length) {v : V} (h : (σ[i]?).getD none = some v) : σ[i]? = some (some v) := by
  have hl : i < σ.length := by rw [S.len]; exact hi
  rw [List.getElem?_eq_getElem hl] at h ⊢
  simpa using h
end
/-! ### a tuple that ends with a list of our own -/
def ET (X : Cx) (ks : List SK) (e : Expr) (ks' : List SK) (ds el : List PyData) : Prop :=
  ∀ W σ G H, Sts X.K W ks σ G H → ∀ Q : VK, (∀ p G2 H2, Sts X.K W (ks' ++ [.tlo ds el []]) (σ ++ [some (.ref p)]) G2 H2 → Same G G2 → Q (.ref p) H2) → EV X e σ H Q
/-- (e, f, x) -/
theorem et_tup2 (c : CtxB cq P w K mg base T k X) (i : Nat) {x : Str} {x1} (hN : T.N[i]? = some x) (hv : Vis T.sc x) (ha : ED X ks a k1 da) (hb : ED X k1 b k2 db) (hk : k2[i]? = some (.own el)) (hd : (x == ("__debug__" : Str)) = false) (hcd : (x == ("__classdict__" : Str)) = false)
    (h1 : starEach [a, b, .Name x p] X.env = (false, eval a X.env) :: starEach [b, .Name x p] X.env) (h2 : starEach [b, .Name x p] X.env = (false, eval b X.env) :: starEach [.Name x p] X.env) : ET X ks (.Tuple [a, b, .Name x p] x1 pos) (k2.set i .no) [da, db] el := fun W σ G H S Q q => by
  refine ev_of (pe_tup (pa_cons pe_ev (pa_cons pe_ev (pa_cons (pe_var (ix_of c hN) (vis_of c hv) hd hcd) pa_nil) h2) h1)) ?_
  refine ha W σ G H S _ fun v1 G1 H1 S1 g1 r1 => hb W σ G1 H1 S1 _ fun v2 G2 H2 S2 g2 r2 => ?_
  obtain ⟨a0, vs, e0, h0, r0, ga, wa, _⟩ := S2.ownAt hk
  refine ⟨.ref a0, e0, Nat.le_of_ble_eq_true rfl, fun p np => ?_⟩
  have l := Lp.new (o := .tup [v1, v2, .ref a0]) S2.gh np
  have pa : a0 ≠ p := ne_of_none h0 np
  have S3 := (S2.pure l).toEnd hk rfl
  rw [e0] at S3
  have e4 := S3.told (i := (k2.set i .no).length) (k0 := .own el) (k' := .tlo [da, db] el []) (v' := some (.ref p)) (by simp) rfl fun as h => by
    obtain ⟨a', us, q1, q2, q3, q4⟩ := h
    have q0 : (some (.ref a0) : Option V) = some (.ref a') := by
      rw [← q1, List.getElem?_append_right (by simp [S2.len]), S2.len]
      simp
    cases q0
    exact ⟨p, a0, [v1, v2], us, [], rfl, q2, upd_same, .cons (Dp.mono (g2.trans l.g) r1) (.cons (Dp.mono l.g r2) .nil), q3, q4, .nil⟩
  have e5 : (k2.set i .no ++ [SK.own el]).set (k2.set i .no).length (.tlo [da, db] el []) = k2.set i .no ++ [.tlo [da, db] el []] := by
    rw [List.set_append_right _ _ (Nat.le_refl _), Nat.sub_self]; rfl
  have e6 : (σ ++ [(some (some (V.ref a0))).getD none]).set (k2.set i .no).length (some (.ref p)) = σ ++ [some (.ref p)] := by
    rw [List.set_append_right _ _ (by simp [S2.len]), List.length_set, S2.len, Nat.sub_self]; rfl
  rw [e5, e6] at e4
  exact q p _ _ e4 ((g1.trans g2).trans l.g)
end
end Z
namespace Z
open PySem PySem.Spec L2
variable [Tabl]
section
variable {P : Program} {w : World} {K : PySem.W.Frag} {mg : Str → Option Value} {base : Heap} {T : Sta} {k : Nat} {X : Cx} {ks k1 k2 k3 : List SK} {a b e : Expr} {es : List Expr} {d da db : PyData} {ds ds' : List PyData} {pos p p2 pos2 : Pos}
/-! ### slices whose parts draw -/
def POe (X : Cx) (ks : List SK) (e : Option Expr) (ks' : List SK) (o : Option Int) : Prop := ∃ t : TO, PO X e t ∧ ∀ W σ G H, Sts X.K W ks σ G H → ∀ Q : Option Int → Hp → Prop, (∀ G2 H2, Sts X.K W ks' σ G2 H2 → Same G G2 → Q o H2) → t σ H Q
theorem poe_no : POe X ks none ks none := ⟨_, po_none, fun W σ G H S Q q => q G H S (Same.refl G)⟩
theorem poe_yes {i : Int} (h : ED X ks e k1 (.int i)) : POe X ks (some e) k1 (some i) := ⟨_, po_some pe_ev, fun W σ G H S Q q => h W σ G H S _ fun v G2 H2 S2 g r => ⟨i, r.int_inv, q G2 H2 S2 g⟩⟩
theorem el_slLe {lo hi : Option Expr} {l h : Option Int} {p2 : Pos} (ha : ED X ks a k1 (.list ds)) (hl : POe X k1 lo k2 l) (hh : POe X k2 hi k3 h) : EL X ks (.Subscript a (.Slice lo hi none p2) pos) k3 (cutD ds l h) := by
  obtain ⟨tl, pl, ql⟩ := hl
  obtain ⟨th, ph, qh⟩ := hh
  intro W σ G H S Q q
  refine ev_of (pe_slice sl_list pe_ev pl ph) (ha W σ G H S _ fun v G1 H1 S1 g1 r1 => ql W σ G1 H1 S1 _ fun G2 H2 S2 g2 => qh W σ G2 H2 S2 _ fun G3 H3 S3 g3 => ?_)
  obtain ⟨t, vs, rfl, sa, aa⟩ := r1.lst_inv
  have sa3 := (g2.trans g3).seq sa
  have aa3 := DpAll.mono (g2.trans g3) aa
  refine ⟨t, vs, rfl, S3.gh.seq sa3, fun m nm => ?_⟩
  have gm : G3 m = none := by
    cases e : G3 m with
    | none => rfl
    | some u => rw [S3.gh m u e] at nm; cases nm
  have le := Lp.newOwn (o := .lst (cutV vs l h)) S3.gh nm
  exact q m G3 _ (S3.push le nm gm upd_same (DpAll.cut aa3 l h)) ((g1.trans g2).trans g3)
def cutG {α : Type} (xs : List α) (lo hi : Option Int) : List α := (xs.drop (HT.sIx xs.length 0 lo)).take (HT.sIx xs.length xs.length hi - HT.sIx xs.length 0 lo)
theorem cutD_map {α : Type} {f : α → PyData} {xs : List α} {lo hi : Option Int} : cutD (xs.map f) lo hi = (cutG xs lo hi).map f := by
  unfold cutD cutG
  rw [List.length_map, List.map_take, List.map_drop]
theorem cutG_len {α : Type} {xs : List α} {lo hi : Option Int} : (cutG xs lo hi).length ≤ xs.length := by
  unfold cutG
  rw [List.length_take, List.length_drop]
  omega
theorem cutG_mem {α : Type} {xs : List α} {lo hi : Option Int} {x : α} (h : x ∈ cutG xs lo hi) : x ∈ xs := List.mem_of_mem_drop (List.mem_of_mem_take h)
/-! ### such a tuple, frozen -/
theorem ed_et {el : List PyData} (h : ET X ks e k1 ds el) : ED X ks e k1 (.tuple (ds ++ [.list el])) := fun W σ G H S Q q => h W σ G H S Q fun p G2 H2 S2 g2 => by
  obtain ⟨le, len, ow, o, f⟩ := S2
  have len' : σ.length = k1.length := by simpa using len
  have z := f k1.length (.tlo ds el []) (by simp)
  rw [List.getElem?_append_right (by omega), len', Nat.sub_self] at z
  obtain ⟨p', a, vs, us, w2, e1, e2, e3, e4, e5, e6, e7⟩ := z
  cases e7
  cases e1
  obtain ⟨m1, m2⟩ := o.mine k1.length a (by rw [e2]; simp)
  have m2 : W.H a = none := by
    rcases m2 with m2 | ⟨_, r, m2, m3⟩
    · exact m2
    · simp at m2
      subst m2
      cases m3
  have O : Ow W k1 G2 (fun j => if j < k1.length then ow j else []) := by
    refine ⟨fun i j b h h' => ?_, fun i b h => ?_, fun i hi => by rw [if_neg (by omega)]⟩
    · by_cases q : i < k1.length <;> by_cases q' : j < k1.length <;> simp only [q, q', if_true, if_false] at h h' <;> first | exact o.dis i j b h h' | cases h | cases h'
    · by_cases q : i < k1.length
      · simp only [q, if_true] at h
        obtain ⟨b1, c⟩ := o.mine i b h
        refine ⟨b1, ?_⟩
        rcases c with c | ⟨c, r, e⟩
        · exact .inl c
        · refine .inr ⟨c, r, ?_, e.2⟩
          have e := e.1
          rw [List.getElem?_append_left q] at e; exact e
      · simp only [q, if_false] at h; cases h
  have Fs : ∀ i k, k1[i]? = some k → Sl X.K G2 H2 k ((σ[i]?).getD none) (if i < k1.length then ow i else []) := fun i k hk => by
    have hi := (List.getElem?_eq_some_iff.mp hk).1
    rw [if_pos hi]
    have q := f i k (by rw [List.getElem?_append_left hi]; exact hk)
    rw [List.getElem?_append_left (by omega)] at q
    exact q
  obtain ⟨S3, gg⟩ := Sts.freeze (ks := k1) (σ := σ) le len' O Fs (fun j hb => by
    by_cases q : j < k1.length
    · simp only [q, if_true] at hb
      have := o.dis j k1.length a hb (by rw [e2]; simp)
      omega
    · simp only [q, if_false] at hb; cases hb) m1 m2 e5 pl_lst
  exact q _ _ H2 S3 (g2.trans gg) (.tup (SqT.of (gg _ _ e3)) (DpAll.append (DpAll.mono gg e4) (.cons (.lst (SqL.of upd_same) (DpAll.mono gg e6)) .nil)))
end
end Z
namespace ZL
open PySem PySem.Spec PySem.W PySem.Calls PyProof.Rows L2
section
variable {prog : Program} {w : World} {A : Around} {E : Value → Shared → Prop} {s : Shared}
/-! ### sorted of a tuple or a list, by a key -/
abbrev cop1 (h : Heap) (vs : List Value) : Heap := (h.push (seqObj "list" #[] 0)).update h.objs.size (Obj.mapSeq (· ++ vs.toArray))
theorem coll_tup {l : Addr} {vs : List Value} {Q : List Value → Shared → Prop} (il : s.heap.IsTuple l vs.toArray) (q : Q vs { s with heap := cop1 s.heap vs }) (hz : vs.length ≤ sizeLine) : wpAny (model prog w) A (collect (.ref l)) Q E s := by
  obtain ⟨o, ho, hc, n, hd⟩ := id il
  unfold collect
  refine wpAny_bind (wpAny_runValue (codeAny_builtin entry_proto_collect' (show wpAny _ _ (do again (.builtin "list.__iadd__" ⟨[← newList [], .ref l], []⟩)) _ _ s from ?_)))
  refine wpAny_bind (wpAny_newList (wpAny_pure ⟨Code.quiet_builtin _ (by decide +kernel), codeAny_builtin entry_list_iadd' (show wpAny _ _ (Builtin.List.listExtendWith (.ref s.heap.objs.size) (.ref l) (.ref s.heap.objs.size)) _ _ { s with heap := s.heap.push (seqObj "list" #[] 0) } from ?_)⟩))
  unfold Builtin.List.listExtendWith
  have g : (s.heap.push (seqObj "list" #[] 0)).get? l = some o := Heap.get?_push_of_some _ ho
  have gn : (s.heap.push (seqObj "list" #[] 0)).get? s.heap.objs.size = some (seqObj "list" #[] 0) := Heap.get?_push_size _ rfl
  refine wpAny_bind (wpAny_typeOf (T := "tuple") ⟨o, g, hc⟩ ?_)
  rw [if_pos (by rw [show (Value.type "tuple" == Value.type "tuple") = true from rfl, Bool.or_true])]
  refine wpAny_bind (listItems_at g hd (wpAny_bind (listItems_at (xs := #[]) (n := 0) gn rfl ?_)))
  rw [if_neg (by simp)]
  refine wpAny_bind (listUpdate_at (xs := #[]) (n := 0) gn rfl (wpAny_pure ?_) (Nat.zero_le _) (by show (#[] ++ vs.toArray).size ≤ sizeLine + 1; simp only [Array.size_append, List.size_toArray, List.length_nil]; omega))
  show wpAny (model prog w) A (do
      let o ← load s.heap.objs.size
      match o.data with
      | .seq xs _ => pure xs.toList
      | _ => unsupported "internal:collect") Q E { s with heap := cop1 s.heap vs }
  refine wpAny_bind (wpAny_load (get?_update_seq gn _) (show wpAny _ _ (pure ((#[] : Array Value) ++ vs.toArray).toList) Q E _ from ?_))
  rw [show ((#[] : Array Value) ++ vs.toArray).toList = vs by simp]
  exact wpAny_pure q
/-- what collect makes of l -/
def Colls (prog : Program) (w : World) (s : Shared) (l : Addr) (vs : List Value) : Prop := ∀ (A : Around) (E : Value → Shared → Prop) (Q : List Value → Shared → Prop), Q vs { s with heap := cop1 s.heap vs } → wpAny (model prog w) A (collect (.ref l)) Q E s
theorem colls_tup {l : Addr} {vs : List Value} (il : s.heap.IsTuple l vs.toArray) (hz : vs.length ≤ sizeLine) : Colls prog w s l vs := fun _ _ _ q => coll_tup il q hz
theorem colls_lst {l : Addr} {vs : List Value} (il : s.heap.IsList l vs.toArray) (hz : vs.length ≤ sizeLine) : Colls prog w s l vs := fun _ _ _ q => collect_list il q hz
variable {β : Type} {vs : List Value} {bs : List β} {R : Value → β → Prop}
theorem sorted_by {l : Addr} {f : Value} {kw : List (Str × Value)} {b : Bool} {Q : Value → Shared → Prop} (k : β → PyData) (il : Colls prog w s l vs) (e : EachIs R vs bs) (al : AllAlike (bs.map k)) (so : Sortable (bs.map k)) (hz : bs.length ≤ sizeLine) (un : ∀ x, x ∈ bs → A.units + 2 + (k x).depth < cLine)
    (a1 : argsOk "sorted" ⟨[.ref l], kw⟩) (a2 : ∀ x, argsOk "list.sort" ⟨[.ref x], kw⟩) (tr : ∀ x, Builtin.«list.sort» ⟨[.ref x], kw⟩ = ksk_tree x f b)
    (turn : ∀ (v : Value) (x : β), R v x → x ∈ bs → ∀ (h : Heap) (tk : Nat), (∀ b o, s.heap.get? b = some o → h.get? b = some o) → wpAny (model prog w) A.in1.in1 (call f [v]) (KeyPure (k x) { s with heap := h, toks := tk }) (fun _ _ => False) { s with heap := h, toks := tk })
    (q : ∀ out c h' tk, (∀ b o, s.heap.get? b = some o → h'.get? b = some o) → s.heap.get? (s.heap.objs.size + 1) = none → h'.get? (s.heap.objs.size + 1) = some (seqObj "list" (List.toArray out) c) → out.length = bs.length → EachIs R out (bs.mergeSort (dataLe b k)) → Q (.ref (s.heap.objs.size + 1)) { s with heap := h', toks := tk }) :
    wpAny (model prog w) A (call (.builtin "sorted") [.ref l] kw) Q E s := by
  have vl : vs.length = bs.length := e.length
  have up : ∀ {g : Heap}, KeepsBut (s.heap.objs.size + 1) (copyHeap s.heap vs) g → ∀ b o, s.heap.get? b = some o → g.get? b = some o := fun {g} kp b o y => kp b o (Nat.ne_of_lt (Nat.lt_succ_of_lt (Heap.lt_size y))) (copyHeap_old y)
  have sz : (cop1 s.heap vs).objs.size = s.heap.objs.size + 1 := by rw [Heap.size_update, size_push']
  refine call_function_entry_kw kind_sorted plain_sorted entry_sorted a1 ?_
  unfold Builtin.«sorted»
  refine wpAny_bind (m := checkCount "sorted" 1 1 _) (wpAny_pure (wpAny_bind (il _ _ _ (wpAny_bind (wpAny_newList (show wpAny _ _ _ _ _ { s with heap := copyHeap s.heap vs } from ?_) (by rw [vl]; exact hz))))))
  rw [sz]
  refine wpAny_bind (wpAny_holding (wpAny_call_entry_kw slot_list_sort ⟨_, copyHeap_at s.heap vs, rfl⟩ entry_list_sort (show wpAny (model prog w) A.in1.in1 (Builtin.«list.sort» ⟨[.ref (s.heap.objs.size + 1)], kw⟩) _ _ _ from ?_) (a2 _)))
  rw [tr]
  refine keyH_tree (kz := bs.map k) (s := { s with heap := copyHeap s.heap vs }) (copyHeap_at s.heap vs) (by rw [List.length_map]; exact vl.symm) (by rw [vl]; exact hz) al so (bound_map (A := A.in1.in1) un) (keyH_turns (s := { s with heap := copyHeap s.heap vs }) e fun v x hR hx h tk kp => turn v x hR hx h tk (up kp)) fun h' tk out c kp hD ko => ⟨_, rfl, wpAny_pure ⟨_, rfl, ?_⟩⟩
  exact q out c h' tk (up kp) (Heap.get?_none_of_le (Nat.le_succ _)) hD ((ko.length (by rw [List.length_map]; exact vl.symm)).trans vl) (keyedOut_each k ko e)
/-! ### lambda x: (x[i], x[j]) called -/
theorem pair_ix {M : Model} {env : Env} {x : Str} {t : Addr} {items : Array Value} {i : Nat} {a : Int} {ta : Tok} {p1 p2 p3 : Pos} {kk : Nat} {Q : Value → Shared → Prop} {m : Str → Option Value} (hM : M = model prog w) (kd : env.scope.kind = .function) (lk : env.kindOf x = some .local) (hn : s.heap.Ns env.locals m) (hm : m x = some (.ref t))
    (it : IsTup s.heap t items) (hi : items[i]? = some (.int a ta)) (sm : items.size < 1000) (hd : (x == ("__debug__" : Str)) = false) (q : Q (.int a ta) { s with toks := s.toks + 1 }) :
    wpAny M A (eval (.Subscript (.Name x p1) (.Constant (.int (i : Int)) kk p2) p3) env) Q E s := by
  subst hM
  refine Subscript_ (wpAny_Name (wpAny_loadName_local kd lk hn hm (wpAny_Constant_int ?_)) hd)
  have hl : i < items.size := (Array.getElem?_eq_some_iff.mp hi).1
  refine subscriptTail_builtinR (x := .int a ta) (T := "tuple") it.typeIs slot_tuple_getitem.lookup ?_ rfl
  have h63 : (2 : Int) ^ 63 = 9223372036854775808 := by decide
  have hi0 : ((i : Nat) : Int) < 1000 := by omega
  refine getItem_tuple (j := i) it (by rw [h63]; omega) (by rw [h63]; omega) ?_ hi ⟨rfl, q⟩
  unfold seqIndex?
  rw [if_neg (show ¬ ((i : Nat) : Int) < 0 by omega)]
  have e : (decide (0 ≤ ((i : Nat) : Int)) && decide (((i : Nat) : Int) < (items.size : Nat))) = true := by
    rw [decide_eq_true (show (0 : Int) ≤ (i : Nat) by omega), decide_eq_true (show ((i : Nat) : Int) < (items.size : Nat) by omega)]
    rfl
  show (if (decide (0 ≤ ((i : Nat) : Int)) && decide (((i : Nat) : Int) < (items.size : Nat))) = true then some ((i : Nat) : Int).toNat else none) = some i
  rw [if_pos e]
  rfl
end
end ZL
namespace ZL
open PySem PySem.Spec PySem.W PySem.Calls PyProof.Rows L2
section
variable {prog : Program} {w : World} {A : Around} {E : Value → Shared → Prop} {s : Shared}
theorem key_call {f t c' : Addr} {q x : Str} {i j : Nat} {a b : Int} {ta tb : Tok} {args : Arguments} {scope : Scope} {clos : List (Str × Addr)} {pm ctv : Value} {items : Array Value} {k1 k2 k3 : Nat} {p1 p2 p3 p4 p5 p6 p7 : Pos} (room : A.depth < recursionLimit) (nl : s.heap.NoLimit)
    (ho : s.heap.get? f = some (kla_obj "<lambda>" q args (.Tuple [.Subscript (.Name x p1) (.Constant (.int (i : Int)) k1 p2) p3, .Subscript (.Name x p4) (.Constant (.int (j : Int)) k2 p5) p6] k3 p7) scope clos pm c' ctv)) (co : s.heap.CodeRec (.ref c') q)
    (hb : ∀ v, bindArgs (kla_fn "<lambda>" q args (.Tuple [.Subscript (.Name x p1) (.Constant (.int (i : Int)) k1 p2) p3, .Subscript (.Name x p4) (.Constant (.int (j : Int)) k2 p5) p6] k3 p7) scope clos pm (.ref c') ctv) ⟨[v], []⟩ = pure [(x, v)])
    (kd : scope.kind = .function) (nc : scope.isCoroutine = false) (ng : scope.isGenerator = false) (own : ∀ y ∈ scope.names, y.2 ≠ .cell) (lk : scope.names.lookup x = some .local) (hd : (x == ("__debug__" : Str)) = false)
    (it : IsTup s.heap t items) (hi : items[i]? = some (.int a ta)) (hj : items[j]? = some (.int b tb)) (sm : items.size < 1000) :
    wpAny (model prog w) A (call (.ref f) [.ref t]) (KeyPure (.tuple [.int a, .int b]) s) (fun _ _ => False) s := by
  refine wpAny_call (codeAny_mono (R := fun r s' => ∃ v, r = .ok (.ret v) ∧ KeyPure (.tuple [.int a, .int b]) s v s') (kla_callFunE room ho rfl nc ng rfl co ?_) fun r s' hr => ?_)
  · rw [hb]
    refine wpAny_pure (wpAny_newFunctionEnv own (fun y hy => ?_) (fun h1 hns hsb => ⟨nl.fresh _ hsb, kla_codeExpr ?_⟩) kd)
    · rw [List.mem_singleton.mp hy]; exact lk
    have kp : ∀ b o, s.heap.get? b = some o → h1.get? b = some o := fun b o e => hsb.extBut b o (Nat.ne_of_lt (Heap.lt_size e)) (Heap.get?_push_of_some _ e)
    have it1 : IsTup h1 t items := it.keeps kp
    have hm : (fun y => ([(x, Value.ref t)] : List (Str × Value)).reverse.lookup y) x = some (.ref t) := by simp
    refine wpAny_Tuple_spliced (Calls.spliced_cons (pair_ix rfl kd lk hns hm it1 hi sm hd (Calls.spliced_cons (pair_ix rfl kd lk hns hm it1 hj sm hd (Calls.spliced_nil ?_)))))
    refine ⟨Nat.le_of_ble_eq_true rfl, _, rfl, _, _, rfl, fun b o e => Heap.get?_push_of_some _ (kp b o e), ?_⟩
    exact .tuple (Heap.get?_push_size _ rfl) rfl rfl (.cons (as := []) (bs := []) (.int _ _) (.cons (as := []) (bs := []) (.int _ _) .nil))
  · obtain ⟨v, rfl, hk⟩ := hr
    exact hk
end
end ZL
namespace ZL
open PySem PySem.Spec PyProof.Rows L2
section
variable {X : Cx} {pins : List (Addr × Obj)} {σ : L2.St} {H : Hp} {s : Shared}
/-- a lambda is made; but for its maker's table all stays -/
theorem lam_new {T : List (Addr × Str)} {cc tt : Addr} {nm : Str} {args : Arguments} {body : Expr} {scope : Scope} {pos : Pos} {E : Value → Shared → Prop} {Q : Value → Shared → Prop} (I : Inv X pins σ H s) (B : LamX.TabB X.base X.mg cc tt) (hc : X.env.code = .ref cc) (hq : X.env.qual ++ "<lambda>" = nm)
    (mem : (tt, nm) ∈ T) (uni : ∀ p ∈ T, p.1 = tt → p.2 = nm) (ok : LamX.Tabs T H) (hdef : defaultsOf args X.env = ([], [])) (hfree : ∀ y ∈ scope.names, y.2 = .free → ∃ c, X.env.cells.lookup y.1 = some c)
    (q : ∀ (f c' : Addr) (pm ctv : Value) (H1 : Hp) (s' : Shared), Inv X pins σ H1 s' → (∀ b o, b ≠ tt → H b = some o → H1 b = some o) → LamX.Tabs T H1 →
      s'.heap.get? f = some (PySem.W.kla_obj "<lambda>" nm args body scope (cloFrom X.env.cells scope.names []) pm c' ctv) → (∃ (oc : Obj) (vs : Array Value) (t : Tok), s'.heap.get? c' = some oc ∧ oc.data = .fields vs ∧ vs[1]? = some (.str nm t)) → Q (.ref f) s') :
    wpAny (model X.prog X.w) X.A (eval (.Lambda args body scope pos) X.env) Q E s := by
  subst hq
  obtain ⟨ps, tb, tr, am⟩ := ok _ mem
  have gt : s.heap.get? tt = some { cls := .none, data := .fields ps } := I.hok tt _ tb
  have bt : s.heap.BuiltinsAt X.mg tt := B.bm.keeps I.bk
  have cd := B.code.keeps I.bk
  have ns := I.mod.glob.keeps I.bk
  refine PySem.W.kla_eval hdef ?_
  cases hit : codeAmong pos ps.toList with
  | some cv =>
    obtain ⟨c', rfl, co⟩ := am pos cv hit
    refine PySem.W.kla_makeFunctionHit (mg := X.mg) (c := cc) (P := tt) (ps := ps) (closure_ok hfree) I.ok.glob ns hc cd gt tr hit bt fun ctv h' tk hx hsz => ?_
    have kp : ∀ (o : Obj) b u, s.heap.get? b = some u → (h'.push o).get? b = some u := fun o b u e => Heap.get?_push_of_some _ (hx b u e)
    obtain ⟨⟨oc, vs, t, e1, e2, e3⟩, _, _⟩ := I.hok c' _ co
    exact q h'.objs.size c' ((X.mg "__name__").getD .none) ctv H _ (I.kept (kp _)) (fun _ _ _ e => e) ok (Heap.get?_push_size _ rfl) ⟨oc, vs, t, kp _ _ _ e1, e2, e3⟩
  | none =>
    refine PySem.W.kla_makeFunction (mg := X.mg) (c := cc) (P := tt) (ps := ps) (closure_ok hfree) I.ok.glob ns hc cd gt tr hit B.gP bt fun c' ctv h' tk hx hge hlt hrec htb => ?_
    obtain ⟨c2, oc, vs, t, ec, hoc, hd, hv⟩ := hrec
    cases ec
    have fresh : H c' = none := I.hok.fresh hge
    have fr2 : ∀ {b u}, H b = some u → b ≠ c' := fun e => ne_of_none e fresh
    have J := LamX.inv_table (q := X.env.qual ++ "<lambda>") (t' := tk) (more := #[rawInt pos.line, rawInt pos.col, .ref c']) (h' := h'.push (PySem.W.kla_obj "<lambda>" (X.env.qual ++ "<lambda>") args body scope (cloFrom X.env.cells scope.names []) ((X.mg "__name__").getD .none) c' ctv)) I tb (fun b o nb e => Heap.get?_push_of_some _ (hx b o nb e)) (Heap.get?_push_of_some _ htb) hge ⟨oc, vs, t, Heap.get?_push_of_some _ hoc, hd, hv⟩
    have up : ∀ b u, b ≠ tt → H b = some u → upd (upd H tt (.tbl (ps ++ #[rawInt pos.line, rawInt pos.col, .ref c']))) c' (LamX.CodeO c' (X.env.qual ++ "<lambda>")) b = some u := fun b u nb e => by rw [upd_ne (fr2 e), upd_ne nb]; exact e
    have lt : (ps ++ #[rawInt pos.line, rawInt pos.col, .ref c']).toList = ps.toList ++ [rawInt pos.line, rawInt pos.col, .ref c'] := by simp
    refine q h'.objs.size c' ((X.mg "__name__").getD .none) ctv _ _ J up (fun p hp => ?_) (Heap.get?_push_size _ rfl) ⟨oc, vs, t, Heap.get?_push_of_some _ hoc, hd, hv⟩
    by_cases z : p.1 = tt
    · rw [uni p hp z, z]
      refine ⟨_, (upd_ne (fr2 tb)).trans upd_same, by rw [lt]; exact PySem.TriplesOk_snoc _ _ _ _ tr, fun p' cv e => ?_⟩
      rw [lt] at e
      rcases LamX.among_app _ tr e with y | y
      · obtain ⟨c0, e1, e2⟩ := am p' cv y
        exact ⟨c0, e1, up _ _ (fun y => by rw [y, tb] at e2; exact absurd (Option.some.inj e2).symm (LamX.codeO_ne _)) e2⟩
      · exact ⟨c', y, upd_same⟩
    · obtain ⟨qs, a1, a2, a3⟩ := ok p hp
      refine ⟨qs, up _ _ z a1, a2, fun p' cv e => ?_⟩
      obtain ⟨c0, e1, e2⟩ := a3 p' cv e
      exact ⟨c0, e1, up _ _ (fun y => by rw [y, tb] at e2; exact absurd (Option.some.inj e2).symm (LamX.codeO_ne _)) e2⟩
end
end ZL
namespace Z
open PySem PySem.Spec PyProof.Rows L2
variable [Tabl]
/-! ### defs that make lambdas: the code object is known -/
structure FunC (K : PySem.W.Frag) (x : Str) (st : Stmt) (f : Addr) (fd : FuncData) (cc : Addr) : Prop where
  ex : ∃ (oc : Value) (od : Option Addr) (kV doc pm : Value) (an : Option Addr) (ct : Value) (osl : Array (Option Value)), fd = PySem.W.fnOf x x (defArgs st) (defBody st) (defScope st) .none kV doc pm an (.ref cc) ct ∧ K.lookup f = some ⟨oc, od, .func fd, osl⟩ ∧ PySem.W.codeIn K (.ref cc) x = true
  kp : PySem.W.keepIn K (.ref f) = true
structure DefC (K : PySem.W.Frag) (mg : Str → Option Value) (x : Str) (st : Stmt) (ps : List Str) (cc : Addr) : Prop where
  ex : ∃ f fd, FunC K x st f fd cc ∧ mg x = some (.ref f) ∧ Binds K fd ps []
theorem fun_mkC {K : PySem.W.Frag} {x : Str} {st : Stmt} {f cc : Addr} {oc : Value} {od : Option Addr} {kV doc pm : Value} {an : Option Addr} {ct : Value} {osl : Array (Option Value)} (lk : K.lookup f = some ⟨oc, od, .func (PySem.W.fnOf x x (defArgs st) (defBody st) (defScope st) .none kV doc pm an (.ref cc) ct), osl⟩)
    (hcd : PySem.W.codeIn K (.ref cc) x = true) (kp : PySem.W.keepIn K (.ref f) = true) : FunC K x st f (PySem.W.fnOf x x (defArgs st) (defBody st) (defScope st) .none kV doc pm an (.ref cc) ct) cc := ⟨⟨_, _, _, _, _, _, _, _, rfl, lk, hcd⟩, kp⟩
theorem FunC.fun {K : PySem.W.Frag} {x : Str} {st : Stmt} {f cc : Addr} {fd : FuncData} (F : FunC K x st f fd cc) : L2.Fun K x x st f fd := by
  obtain ⟨oc, od, kV, doc, pm, an, ct, osl, e, lk, hcd⟩ := F.ex
  exact ⟨⟨oc, od, kV, doc, pm, an, .ref cc, ct, osl, e, lk, hcd⟩, F.kp⟩
/-- what a lambda's making asks of the def around it -/
structure LamIn (X : Cx) (cc tt : Addr) (nm : Str) : Prop where
  tb : LamX.TabB X.base X.mg cc tt
  code : X.env.code = .ref cc
  qual : X.env.qual ++ "<lambda>" = nm
  mem : (tt, nm) ∈ Tabl.T
  uni : ∀ p ∈ Tabl.T, p.1 = tt → p.2 = nm
section
variable {P : Program} {w : World} {K : PySem.W.Frag} {mg : Str → Option Value} {base : Heap}
theorem fn_sdLC {R : List PyData → List PyData → Prop} {x : Str} {st : Stmt} {N ps : List Str} {k : Nat} {cc tt : Addr} {nm : Str} (D : DefC K mg x st ps cc) (TB : LamX.TabB base mg cc tt) (hq : x ++ ".<locals>." ++ "<lambda>" = nm) (hmem : (tt, nm) ∈ Tabl.T) (huni : ∀ p ∈ Tabl.T, p.1 = tt → p.2 = nm)
    (S : FnScope N ps (defScope st)) (hl : ∀ ds d, R ds d → ds.length = ps.length) (hN : ps.length ≤ N.length)
    (h : ∀ X, Ctx P w K mg base ⟨N, defScope st, fun _ => true⟩ k X → LamIn X cc tt nm → ∀ ds es, R ds es → SD X (ds.map SK.dat ++ List.replicate (N.length - ds.length) .no) (defBody st) { nx := fun _ => False, rt := fun _ _ => False, rl := fun _ ds' => ds' = es }) :
    FnG P w K mg base x ps (k + 1) (spL K R) := by
  obtain ⟨f, fd, F, hm, hb⟩ := D.ex
  obtain ⟨oc, od, kV, doc, pm, an, ct, osl, rfl, lk, hcd⟩ := F.ex
  refine ⟨f, _, ?_, hm, F.kp, hb⟩
  refine fn_of lk hcd S (fun vs H Q E ⟨G, ds, d, _, _, r, hR, _⟩ => by rw [r.len]; exact hl ds d hR) fun A outer s H vs Q E hr ⟨G, ds, es, g, tb, r, hR, q⟩ => ?_
  have S0 := start_sts (N := N) (Le.refl g tb) r (by rw [hl ds es hR]; exact hN)
  refine ⟨_, (pss_sv (X := (cxOf CX0 P w K mg base N x (defScope st) f (.ref cc) A outer s H E).nox)).nox, ?_⟩
  refine h _ (cxOf_ctx S (.ref cc) A outer s H E hr) ⟨TB, rfl, hq, hmem, huni⟩ ds es hR _ _ G H _ S0 ⟨fun _ _ _ _ z => z.elim, fun _ _ _ _ z => z.elim, fun _ _ _ _ z => z.elim, fun _ _ _ _ _ _ z => z.elim, fun ks σ G' H' a ds' e S' => ?_, fun _ _ _ _ _ _ _ _ z => z.elim, ex0⟩
  subst e
  obtain ⟨S2, g2, w2, vs2, h2, r2, _⟩ := S'.pop
  exact q a vs2 G' H' S2.le w2 g2 h2 r2
end
/-! ### sorted(.., key = lambda x: (x[i], x[j])) -/
section
variable {P : Program} {w : World} {K : PySem.W.Frag} {mg : Str → Option Value} {base : Heap} {T : Sta} {k : Nat} {X : Cx} {ks k1 : List SK} {e : Expr}
theorem each_of {G : Hp} {β : Type} {enc : β → PyData} : ∀ {vs : List V} {us : List Value} {bs : List β}, Vals vs us → DpAll K G vs (bs.map enc) → PySem.W.EachIs (fun u b => ∃ v, RelV v u ∧ Dp K G v (enc b)) us bs
  | _, _, [], .nil, _ => .nil
  | _, _, [], .cons _ _, h => by cases h
  | _, _, b :: bs, .nil, h => by cases h
  | _, _, b :: bs, .cons r rr, h => by cases h with | cons a t => exact .cons ⟨_, r, a⟩ (each_of rr t)
theorem each_to {G : Hp} {β : Type} {enc : β → PyData} : ∀ {us : List Value} {bs : List β}, PySem.W.EachIs (fun u b => ∃ v, RelV v u ∧ Dp K G v (enc b)) us bs → ∃ vs, Vals vs us ∧ DpAll K G vs (bs.map enc)
  | _, _, .nil => ⟨[], .nil, .nil⟩
  | _, _, .cons ⟨v, r, d⟩ t => by
    obtain ⟨vs, a, b⟩ := each_to t
    exact ⟨v :: vs, .cons r a, .cons d b⟩
theorem depth_ii {i j : Int} : (PyData.tuple [.int i, .int j]).depth = 1 := by simp [PyData.depth, PyData.depthAll]
theorem el_sortedKey {cc tt : Addr} {nm : Str} (c : Ctx P w K mg base T (k + 2) X) (L : LamIn X cc tt nm) (hg : T.sc.names.lookup ("sorted" : Str) = some .globalImplicit) (hm : mg "sorted" = none) {β : Type} {bs : List β} {enc : β → List Int} {fi fj : β → Int} {i j : Nat}
    {x : Str} {args : Arguments} {scope : Scope} {k1' k2' k3' : Nat} {p p1 p2 p3 p4 p5 p6 p7 lpos kpos pos : Pos} {da : PyData}
    (h : ED X ks e k1 da) (hda : da = .list (bs.map fun b => .tuple ((enc b).map .int)) ∨ da = .tuple (bs.map fun b => .tuple ((enc b).map .int)))
    (hi : ∀ b ∈ bs, (enc b)[i]? = some (fi b)) (hj : ∀ b ∈ bs, (enc b)[j]? = some (fj b)) (sm : ∀ b ∈ bs, (enc b).length < 1000)
    (hdef : defaultsOf args X.env = ([], [])) (hfree : ∀ y ∈ scope.names, y.2 = .free → False)
    (hb : ∀ f pm cv ctv v, bindArgs (PySem.W.kla_fn "<lambda>" nm args (.Tuple [.Subscript (.Name x p1) (.Constant (.int (i : Int)) k1' p2) p3, .Subscript (.Name x p4) (.Constant (.int (j : Int)) k2' p5) p6] k3' p7) scope f pm cv ctv) ⟨[v], []⟩ = pure [(x, v)])
    (kd : scope.kind = .function) (nc : scope.isCoroutine = false) (ng : scope.isGenerator = false) (own : ∀ y ∈ scope.names, y.2 ≠ .cell) (lk : scope.names.lookup x = some .local) (hd : (x == ("__debug__" : Str)) = false)
    (hs : starEach [e] X.env = (false, eval e X.env) :: starEach [] X.env) :
    EL X ks (.Call (.Name "sorted" p) [e] [⟨some "key", .Lambda args (.Tuple [.Subscript (.Name x p1) (.Constant (.int (i : Int)) k1' p2) p3, .Subscript (.Name x p4) (.Constant (.int (j : Int)) k2' p5) p6] k3' p7) scope lpos, kpos⟩] pos) k1
      ((bs.mergeSort fun a b => decide (fi a < fi b ∨ (fi a = fi b ∧ fj a ≤ fj b))).map fun b => .tuple ((enc b).map .int)) := by
  intro W σ G H S Q q
  refine ⟨fun pins s I => ?_⟩
  refine wpAny_Call_Name_kw (ld_blt I (gl_of c hg) (by rw [c.hmg]; exact hm) PyProof.Rows.boot_sorted ?_)
  have run1 := (av_of (t := tCons (EV X e) tNil) (pa_cons pe_ev pa_nil hs) (σ := σ) (H := H) (Q := fun vs H1 => ∃ G1 v, vs = [v] ∧ Sts X.K W k1 σ G1 H1 ∧ Same G G1 ∧ Dp X.K G1 v da)
    (h W σ G H S _ fun v G1 H1 S1 g1 r1 => ⟨G1, v, rfl, S1, g1, r1⟩))
  refine PyProof.Rows.callWith_kw (thn (run1.run pos pins s I) fun us s1 ⟨vs, H1, I1, rv, G1, v, ev, S1, g1, r1⟩ => ?_) (by rw [hs]; rfl) (by rw [hs]; rfl)
  subst ev
  show wpAny _ _ (evalAll [(do let v ← eval (.Lambda args _ scope lpos) X.env; standAt pos; pure v)]) _ _ s1
  refine wpAny_evalAll_cons (wpAny_bind (ZL.lam_new I1 L.tb L.code L.qual L.mem L.uni S1.le.tb.t hdef (fun y hy e => (hfree y hy e).elim) fun f c' pm ctv H2 s2 I2 st T2 hf hc => wpAny_bind (wpAny_standAt (wpAny_pure (wpAny_evalAll_nil ?_)))))
  show wpAny _ _ (call (.builtin "sorted") us [(Str.ofString "key", .ref f)]) _ _ s2
  have tg : G1 tt = none := S1.le.tb.g _ L.mem
  have gh2 : Same G1 H2 := fun b u e => st b u (fun z => by rw [z, tg] at e; cases e) (S1.gh b u e)
  have le2 : Le (pur G1 H1) G1 H2 := {
    g := Same.refl _
    gh := gh2
    keep := fun a o _ nt e => by
      by_cases z : a = tt
      · obtain ⟨ps, hp⟩ := S1.le.tb.at L.mem
        have e : H1 a = some o := e
        rw [z, hp] at e
        cases e
        exact (nt _ rfl).elim
      · exact st a o z e
    there := fun a o e => by
      by_cases z : a = tt
      · obtain ⟨ps, hp, _⟩ := T2 _ L.mem
        rw [z]; exact ⟨_, hp⟩
      · exact ⟨o, st a o z e⟩
    fz := fun _ _ e _ => e
    m := fun _ z => z.elim
    tb := ⟨S1.le.tb.g, T2⟩ }
  have S2 := S1.step le2
  -- the items
  obtain ⟨l, vs, its, ev, dp, rvs, cl, hz⟩ : ∃ (l : Addr) (vs : List V) (its : List Value), us = [.ref l] ∧ DpAll X.K G1 vs (bs.map fun b => .tuple ((enc b).map .int)) ∧ Vals vs its ∧ ZL.Colls X.prog X.w s2 l its ∧ its.length ≤ sizeLine := by
    rcases hda with e | e
    · subst e
      obtain ⟨l, xs, rfl, sl, al⟩ := r1.lst_inv
      obtain ⟨its, ri, pl, hz⟩ := I2.list (gh2.seq sl)
      have hz' : its.length ≤ sizeLine := by rw [← ri.length]; exact hz
      exact ⟨l, xs, its, Vals.ref1 rv, al, ri, ZL.colls_lst pl.isList hz', hz'⟩
    · subst e
      obtain ⟨l, xs, rfl, sl, al⟩ := r1.tup_inv
      obtain ⟨its, ri, pl, hz⟩ := I2.tuple (Same.seqT gh2 sl)
      have hz' : its.length ≤ sizeLine := by rw [← ri.length]; exact hz
      obtain ⟨o, h1, h2, n, h3⟩ := pl
      exact ⟨l, xs, its, Vals.ref1 rv, al, ri, ZL.colls_tup ⟨o, h1, h2, n, h3⟩ hz', hz'⟩
  subst ev
  have E := each_of rvs dp
  have hlen : bs.length ≤ sizeLine := by rw [← E.length]; exact hz
  refine ZL.sorted_by (b := false) (fun b : β => .tuple [.int (fi b), .int (fj b)]) cl E (PySem.W.AllAlike.of fun _ _ => by simp [PySem.W.alike, PySem.W.alikeAll]) (PySem.W.Sortable.tuples fun _ => ⟨_, _, rfl⟩) hlen (fun b _ => ?_) (PyProof.Rows.ksk_s1 _ _) (fun _ => PyProof.Rows.ksk_l1 _ _) (fun _ => PyProof.Rows.ksk_t1 _ _) (fun u b ⟨v, ru, rb⟩ hb' h3 tk kp => ?_) fun out cx h' tk kp hn hD hol eo => ?_
  · rw [depth_ii]
    have := c.un
    omega
  · obtain ⟨t, xs, rfl, st', at'⟩ := rb.tup_inv
    obtain rfl : u = .ref t := ru
    have ea := DpAll.ints_inv at'
    subst ea
    obtain ⟨is, ri, it, _⟩ := I2.tuple (Same.seqT gh2 st')
    have key : ∀ {n : Nat} {a : Int}, (enc b)[n]? = some a → ∃ ta, is.toArray[n]? = some (.int a ta) := fun {n a} hn => by
      obtain ⟨y, h1, h2⟩ := ri.get (i := n) (x := .int a) (by rw [List.getElem?_map, hn]; rfl)
      obtain ⟨ta, rfl⟩ : ∃ ta, y = .int a ta := h2
      exact ⟨ta, by simpa using h1⟩
    obtain ⟨ta, h1⟩ := key (hi b hb')
    obtain ⟨tb, h2⟩ := key (hj b hb')
    obtain ⟨oc, ws, tq, c1, c2, c3⟩ := hc
    exact ZL.key_call (s := { s2 with heap := h3, toks := tk }) c.room.in1.in1.depth (I2.nolimit.keeps kp) (kp _ _ hf) ⟨c', oc, ws, tq, rfl, kp _ _ c1, c2, c3⟩ (hb _ _ _ _) kd nc ng own lk hd (it.keeps kp) h1 h2 (by
      have e := ri.length
      rw [List.length_map] at e
      rw [List.size_toArray, ← e]; exact sm b hb')
  · rw [PySem.W.dataLe_ii] at eo
    obtain ⟨zs, rz, dz⟩ := each_to eo
    have nH : H2 (s2.heap.objs.size + 1) = none := I2.hok.fresh (Nat.le_succ _)
    have gp : G1 (s2.heap.objs.size + 1) = none := by
      cases e : G1 (s2.heap.objs.size + 1) with
      | none => rfl
      | some u => rw [gh2 _ u e] at nH; cases nH
    have l3 := Lp.newOwn (o := .lst zs) S2.gh nH
    refine ⟨.ref _, upd H2 (s2.heap.objs.size + 1) (.lst zs), I2.laid (t' := tk) kp (Nat.le_succ _) ⟨by rw [rz.length, hol]; exact hlen, _, cx, rz, hD⟩, rfl, ?_⟩
    exact q _ G1 _ (S2.push l3 nH gp upd_same dz) g1
end
end Z
namespace Z
open PySem PySem.Spec L2
variable [Tabl]
section
variable {P : Program} {w : World} {K : PySem.W.Frag} {mg : Str → Option Value} {base : Heap} {T : Sta} {k : Nat} {X : Cx} {ks k1 k2 k3 : List SK} {a b e : Expr} {es : List Expr} {d da db : PyData} {ds ds' el dl : List PyData} {pos p tpos : Pos} {rest body orelse : List Stmt} {Φ : Po}
/-! ### a tuple that begins with a list of our own -/
/-- return (x, y): x a list of our own, y data -/
theorem sd_retF (c : CtxB cq P w K mg base T k X) (i j : Nat) {x y : Str} {x1} {q1 q2 : Pos} (hN : T.N[i]? = some x) (hv : Vis T.sc x) (hk : ks[i]? = some (.own el)) (hN2 : T.N[j]? = some y) (hv2 : Vis T.sc y) (hk2 : ks[j]? = some (.dat db)) (hd : (x == ("__debug__" : Str)) = false) (hcd : (x == ("__classdict__" : Str)) = false)
    (hd2 : (y == ("__debug__" : Str)) = false) (hcd2 : (y == ("__classdict__" : Str)) = false)
    (h1 : starEach [.Name x q1, .Name y q2] X.env = (false, eval (.Name x q1) X.env) :: starEach [.Name y q2] X.env) (h2 : starEach [.Name y q2] X.env = (false, eval (.Name y q2) X.env) :: starEach [] X.env)
    (q : Φ.rT (ks.set i .no) [] el [db]) : SD X ks (.Return (some (.Tuple [.Name x q1, .Name y q2] x1 pos)) tpos :: rest) Φ := fun W σ G H D S M => by
  refine sv_of (pss_cons (ps_ret (pe_tup (pa_cons (pe_var (ix_of c hN) (vis_of c hv) hd hcd) (pa_cons (pe_var (ix_of c hN2) (vis_of c hv2) hd2 hcd2) pa_nil h2) h1))) pss_sv) ?_
  obtain ⟨a0, vs, e0, h0, r0, ga, wa, _⟩ := S.ownAt hk
  obtain ⟨v2, e2, r2⟩ := S.dat hk2
  refine ⟨.ref a0, e0, v2, e2, Nat.le_of_ble_eq_true rfl, fun p np => ?_⟩
  have l := Lp.new (o := .tup [.ref a0, v2]) S.gh np
  have pa : a0 ≠ p := ne_of_none h0 np
  have S3 := (S.pure l).toEnd hk rfl
  rw [e0] at S3
  have e4 := S3.told (i := (ks.set i .no).length) (k0 := .own el) (k' := .tlo [] el [db]) (v' := some (.ref p)) (by simp) rfl fun as h => by
    obtain ⟨a', us, q1, q2, q3, q4⟩ := h
    have q0 : (some (.ref a0) : Option V) = some (.ref a') := by
      rw [← q1, List.getElem?_append_right (by simp [S.len]), S.len]
      simp
    cases q0
    exact ⟨p, a0, [], us, [v2], rfl, q2, upd_same, .nil, q3, q4, .cons (Dp.mono l.g r2) .nil⟩
  have e5 : (ks.set i .no ++ [SK.own el]).set (ks.set i .no).length (.tlo [] el [db]) = ks.set i .no ++ [.tlo [] el [db]] := by
    rw [List.set_append_right _ _ (Nat.le_refl _), Nat.sub_self]; rfl
  have e6 : (σ ++ [(some (some (V.ref a0))).getD none]).set (ks.set i .no).length (some (.ref p)) = σ ++ [some (.ref p)] := by
    rw [List.set_append_right _ _ (by simp [S.len]), List.length_set, S.len, Nat.sub_self]; rfl
  rw [e5, e6] at e4
  exact M.rT _ σ _ _ p [] el [db] q e4
/-- a def that tells such a tuple -/
def spF (K : PySem.W.Frag) (R : List PyData → List PyData → List PyData → Prop) : L2.Sp := fun vs H Q _ => ∃ G ds el dl, Same G H ∧ TbO G H ∧ DpAll K G vs ds ∧ R ds el dl ∧
  ∀ p a us ws G2 H2, Le (pur G H) G2 H2 → H a = none → G2 a = none → H2 a = some (.lst us) → DpAll K G2 us el → G2 p = some (.tup (.ref a :: ws)) → DpAll K G2 ws dl → Q (.ref p) H2
theorem fn_sdF {R : List PyData → List PyData → List PyData → Prop} {x : Str} {st : Stmt} {N ps : List Str} {k : Nat} (D : DefAt K mg x st ps) (S : FnScope N ps (defScope st)) (hl : ∀ ds es el, R ds es el → ds.length = ps.length) (hN : ps.length ≤ N.length)
    (h : ∀ X, Ctx P w K mg base ⟨N, defScope st, fun _ => true⟩ k X → ∀ ds el dl, R ds el dl → SD X (ds.map SK.dat ++ List.replicate (N.length - ds.length) .no) (defBody st) { nx := fun _ => False, rt := fun _ _ => False, rT := fun _ es' el' fs' => es' = [] ∧ el' = el ∧ fs' = dl }) :
    FnG P w K mg base x ps (k + 1) (spF K R) := by
  obtain ⟨f, fd, F, hm, hb⟩ := D.ex
  refine ⟨f, fd, ?_, hm, F.kp, hb⟩
  refine F.ok S (fun vs H Q E ⟨G, ds, es, el, _, _, r, hR, _⟩ => by rw [r.len]; exact hl ds es el hR) (fun cdv A outer s H vs Q E hr ⟨G, ds, es, el, g, tb, r, hR, q⟩ => ⟨_, pss_sv, ?_⟩)
  have S0 := start_sts (N := N) (Le.refl g tb) r (by rw [hl ds es el hR]; exact hN)
  refine h _ (cxOf_ctx S cdv A outer s H E hr) ds es el hR _ _ G H _ S0 ⟨fun _ _ _ _ z => z.elim, fun _ _ _ _ z => z.elim, fun _ _ _ _ z => z.elim, fun _ _ _ _ _ _ z => z.elim, fun _ _ _ _ _ _ z => z.elim, fun ks σ G' H' p es' el' fs' e S' => ?_, ex0⟩
  obtain ⟨e1, e2, e3⟩ := e
  rw [e1, e2, e3] at S'
  have le := S'.le
  obtain ⟨le', len, ow, o, fs⟩ := S'
  have len' : σ.length = ks.length := by simpa using len
  have z := fs ks.length (.tlo [] es el) (by simp)
  rw [List.getElem?_append_right (by omega), len', Nat.sub_self] at z
  obtain ⟨p', a, vs2, us, w2, e1, e2, e3, e4, e5, e6, e7⟩ := z
  cases e4
  cases e1
  obtain ⟨m1, m2⟩ := o.mine ks.length a (by rw [e2]; simp)
  have m2 : H a = none := by
    rcases m2 with m2 | ⟨m2, _⟩
    · exact m2
    · exact m2.elim
  exact q p a us w2 G' H' le m2 m1 e5 e6 e3 e7
theorem spP_of_F {R : List PyData → List PyData → List PyData → Prop} {R' : List PyData → PyData → Prop} {x : Str} {ps : List Str} {k : Nat} (F : FnG P w K mg base x ps k (spF K R)) (h : ∀ ds d, R' ds d → ∃ el dl, d = .tuple (.list el :: dl) ∧ R ds el dl) : FnG P w K mg base x ps k (spP K R') := by
  obtain ⟨f, fd, F, r⟩ := F.ex
  refine ⟨f, fd, F.imp fun vs H Q E ⟨G, ds, d, g, tb, r1, hR, q⟩ => ?_, r⟩
  obtain ⟨el, dl, e, hR'⟩ := h ds d hR
  subst e
  refine ⟨G, ds, el, dl, g, tb, r1, hR', fun p a us ws G2 H2 l na ga ha r2 gp r3 => ?_⟩
  have gg : Same G2 (upd G2 a (.lst us)) := fun b u e => by
    have : b ≠ a := fun z => by rw [z, ga] at e; cases e
    rw [upd_ne this]; exact e
  refine q _ (upd G2 a (.lst us)) H2 ⟨l.g.trans gg, fun b u e => ?_, l.keep, l.there, fun b u e1 e2 => ?_, l.m, l.tb.updG ha pl_lst⟩ (.tup (SqT.of (gg _ _ gp)) (.cons (.lst (SqL.of upd_same) (DpAll.mono gg r2)) (DpAll.mono gg r3)))
  · by_cases z : b = a
    · subst z; rw [upd_same] at e; cases e; exact ha
    · rw [upd_ne z] at e; exact l.gh b u e
  · have z : b ≠ a := fun z => by
      have e2 : H b = some u := e2
      rw [z, na] at e2; cases e2
    rw [upd_ne z]; exact l.fz b u e1 e2
end
end Z
namespace Z
open PySem PySem.Spec PyProof.Rows L2
end Z
namespace ZM
open PySem PySem.Spec PyProof.Rows L2
/-- t * 1 is t -/
theorem mul_one (l : Addr) (items : Array Value) (n : Nat) (dd : Option Addr) (sl : Array (Option Value)) (u : Tok) :
    Meets (Builtin.«tuple.__mul__» ⟨[.ref l, .int 1 u], []⟩) (fun _ R s => s.heap.get? l = some { cls := .type "tuple", dict := dd, data := .seq items n, slots := sl } ∧ R (.ok (.ret (Value.ref l))) s) :=
  .of_wp fun prog w A R s h => by
    obtain ⟨hp, g, d, tk, os⟩ := s
    obtain ⟨hl, h⟩ := h
    have f1 := AutoSeq1.idx_int
    have c1 : (items.isEmpty || (1 : Int) == 1) = true := by rw [show ((1 : Int) == 1) = true from rfl, Bool.or_true]
    wp_walk using wpAny_loadPart' hl
    repeat (first
      | (refine wpAny_ite_false (decide_eq_false (show ¬ (decide ((1 : Int) < -(2 ^ 63)) || decide ((1 : Int) ≥ 2 ^ 63)) = true by decide)) ?_; wp_walk using wpAny_loadPart' hl)
      | (refine wpAny_ite_true (decide_eq_true c1) ?_; wp_walk using wpAny_loadPart' hl))
    exact ⟨_, rfl, h⟩
/-- t * 0 is () -/
theorem mul_zero (l : Addr) (items : Array Value) (n : Nat) (dd : Option Addr) (sl : Array (Option Value)) (u : Tok) (c1 : (items.isEmpty || (0 : Int) == 1) = false) :
    Meets (Builtin.«tuple.__mul__» ⟨[.ref l, .int 0 u], []⟩) (fun _ R s => s.heap.get? l = some { cls := .type "tuple", dict := dd, data := .seq items n, slots := sl } ∧
      R (.ok (.ret (Value.ref s.heap.objs.size))) { s with heap := s.heap.push { cls := Value.type "tuple", data := Data.seq #[] }, toks := s.toks }) :=
  .of_wp fun prog w A R s h => by
    obtain ⟨hp, g, d, tk, os⟩ := s
    obtain ⟨hl, h⟩ := h
    have f1 := AutoSeq1.idx_int
    wp_walk using wpAny_loadPart' hl
    repeat (first
      | (refine wpAny_ite_false (decide_eq_false (show ¬ (decide ((0 : Int) < -(2 ^ 63)) || decide ((0 : Int) ≥ 2 ^ 63)) = true by decide)) ?_; wp_walk using wpAny_loadPart' hl)
      | (refine wpAny_ite_false (decide_eq_false (show ¬ _ = true by rw [c1]; decide)) ?_; wp_walk using wpAny_loadPart' hl)
      | (refine wpAny_ite_true (decide_eq_true (show (decide ((0 : Int) ≤ 0) || items.isEmpty) = true by rfl)) ?_; wp_walk using wpAny_loadPart' hl))
    exact ⟨_, rfl, h⟩
def rRep0 (K : PySem.W.Frag) : R2 := fun x y H Q => ∃ l k xs, x = .ref l ∧ y = .int k ∧ SqT K H l xs ∧ xs ≠ [] ∧ ((k = 1 ∧ Q (.ref l) H) ∨ (k = 0 ∧ ∀ p, H p = none → Q (.ref p) (upd H p (.tup []))))
section
variable {X : Cx}
theorem op_rep0 : OpR X (binaryOp .Mult) (rRep0 X.K) := by
  intro pins s σ H x y v u Q I rx ry h
  obtain ⟨l, k, xs, rfl, rfl, hT, hne, q⟩ := h
  cases rx
  obtain ⟨t, rfl⟩ := ry
  obtain ⟨its, r, ⟨⟨cls, dd, data, sl⟩, ho, hc, n, hd⟩, hs⟩ := I.tuple hT
  cases (show cls = .type "tuple" from hc)
  cases (show data = .seq its.toArray n from hd)
  have hi : its.toArray.isEmpty = false := by
    cases its with
    | nil =>
      have := r.length
      exact (hne (List.eq_nil_of_length_eq_zero this)).elim
    | cons a b => rfl
  refine wpAny_binaryOp_repeat_ref (T := "tuple") (U := "int") (by decide) ⟨_, ho, rfl⟩ (fun s' => typeIs_int s' k t) noFill_tuple_mul F.fills_int_mul F.slot_int_rmul repeat_tuple F.slot_int_index.lookup (call_meets F.slot_int_rmul (typeIs_int s k t) F.entry_int_rmul (F.args_int_rmul_2 _ _) (int_rmul_tuple k t l its.toArray n dd sl) ⟨ho, rfl, ⟨_, ho, rfl⟩, ?_⟩)
  rcases q with ⟨rfl, q⟩ | ⟨rfl, q⟩
  · exact call_meets F.slot_tuple_mul ⟨_, ho, rfl⟩ F.entry_tuple_mul (F.args_tuple_mul_2 _ _) (mul_one l its.toArray n dd sl t) ⟨ho, ⟨.ref l, H, I, rfl, q⟩⟩
  · refine call_meets F.slot_tuple_mul ⟨_, ho, rfl⟩ F.entry_tuple_mul (F.args_tuple_mul_2 _ _) (mul_zero l its.toArray n dd sl t (by rw [hi]; rfl)) ⟨ho, ?_⟩
    exact ⟨.ref s.heap.objs.size, _, I.laid (t' := s.toks) (o := .tup []) (fun b ob q => Heap.get?_push_of_some _ q) (Nat.le_refl _) ⟨Nat.zero_le _, _, .nil, IsTup.new _ _⟩, rfl, q _ (I.hok.fresh (Nat.le_refl _))⟩
end
end ZM
namespace Z
open PySem PySem.Spec L2
variable [Tabl]
section
variable {X : Cx} {d : PyData}
/-- (d,) * n -/
theorem bd_repT {n : Nat} (hn : n ≤ 1000) : BinD X .Mult (.tuple [d]) (.int (n : Int)) (.tuple (List.replicate n d)) := by
  by_cases h : 2 ≤ n
  · refine ⟨_, op_repT, fun G H x y g ha hb Q q => ?_⟩
    obtain ⟨a, vs, rfl, sa, aa⟩ := ha.tup_inv
    cases aa with
    | cons r t =>
      cases t
      rename_i v
      refine ⟨a, (n : Int), [v], rfl, hb.int_inv, Same.seqT g sa, by simp, by omega, by omega, (show 1 ≤ 1000 by decide), fun p np => ?_⟩
      have l := Lp.new (o := .tup (List.replicate ((n : Int)).toNat [v]).flatten) g np
      refine q _ _ _ l (.tup (SqT.of upd_same) ?_)
      rw [Int.toNat_natCast]
      have key : ∀ m : Nat, DpAll X.K (upd G p (.tup (List.replicate ((n : Int)).toNat [v]).flatten)) (List.replicate m [v]).flatten (List.replicate m d) := by
        intro m
        induction m with
        | zero => exact .nil
        | succ m ih => exact .cons (Dp.mono l.g r) ih
      exact key n
  · refine ⟨_, ZM.op_rep0, fun G H x y g ha hb Q q => ?_⟩
    obtain ⟨a, vs, rfl, sa, aa⟩ := ha.tup_inv
    refine ⟨a, (n : Int), vs, rfl, hb.int_inv, Same.seqT g sa, (fun z => by subst z; cases aa), ?_⟩
    have : n = 0 ∨ n = 1 := by omega
    rcases this with rfl | rfl
    · refine .inr ⟨rfl, fun p np => ?_⟩
      have l := Lp.new (o := .tup []) g np
      exact q _ _ _ l (.tup (SqT.of upd_same) .nil)
    · exact .inl ⟨rfl, q _ G H (Lp.refl g) ha⟩
end
end Z
namespace Z
open PySem PySem.Spec L2
variable [Tabl]
/-! ### instances that stay -/
section
variable {P : Program} {w : World} {K : PySem.W.Frag} {mg : Str → Option Value} {base : Heap} {T : Sta} {k : Nat} {X : Cx} {ks k1 k2 k3 : List SK} {a b e o : Expr} {es : List Expr} {d da db : PyData} {ds ds' el : List PyData} {pos p tpos apos : Pos} {rest : List Stmt} {Φ : Po} {C : Addr} {fs : List (Str × PyData)}
theorem FsD.get {G : Hp} {f : Str} : ∀ {vs : List (Str × V)} {fs : List (Str × PyData)}, FsD K G vs fs → fs.lookup f = some d → ∃ v, vs.lookup f = some v ∧ Dp K G v d
  | _, _, .nil, h => by cases h
  | (x, v) :: vs, (y, e) :: fs, .cons ⟨h1, h2⟩ t, h => by
    have h1 : x = y := h1
    subst h1
    rw [List.lookup_cons] at h ⊢
    by_cases q : (f == x) = true
    · rw [q] at h ⊢
      cases h
      exact ⟨v, rfl, h2⟩
    · have q : (f == x) = false := by simpa using q
      rw [q] at h ⊢
      exact FsD.get t h
theorem FsD.none {G : Hp} {f : Str} : ∀ {vs : List (Str × V)} {fs : List (Str × PyData)}, FsD K G vs fs → fs.lookup f = none → vs.lookup f = none
  | _, _, .nil, _ => rfl
  | (x, v) :: vs, (y, e) :: fs, .cons ⟨h1, h2⟩ t, h => by
    have h1 : x = y := h1
    subst h1
    rw [List.lookup_cons] at h ⊢
    by_cases q : (f == x) = true
    · rw [q] at h; cases h
    · have q : (f == x) = false := by simpa using q
      rw [q] at h ⊢
      exact FsD.none t h
/-- an expression that gives an instance that stays -/
def EI (X : Cx) (ks : List SK) (e : Expr) (ks' : List SK) (C : Addr) (fs : List (Str × PyData)) : Prop :=
  ∀ W σ G H, Sts X.K W ks σ G H → ∀ Q : VK, (∀ p dx vs G2 H2, Sts X.K W ks' σ G2 H2 → Same G G2 → G2 p = some (.ins C dx vs) → FsD X.K G2 vs fs → Q (.ref p) H2) → EV X e σ H Q
theorem ei_var (c : CtxB cq P w K mg base T k X) (i : Nat) {x : Str} (hN : T.N[i]? = some x) (hv : Vis T.sc x) (hk : ks[i]? = some (.ins C fs)) (hd : (x == ("__debug__" : Str)) = false) (hcd : (x == ("__classdict__" : Str)) = false) : EI X ks (.Name x pos) ks C fs := by
  intro W σ G H S Q q
  obtain ⟨as, h⟩ := S.at hk
  obtain ⟨_, p, dx, vs, e1, e2, e3⟩ := h
  exact ev_of (pe_var (ix_of c hN) (vis_of c hv) hd hcd) ⟨.ref p, S.there (List.getElem?_eq_some_iff.mp hk).1 e1, q p dx vs G H S (Same.refl G) e2 e3⟩
/-- e.f -/
theorem ed_fld {f : Str} (cl : Cls X.K C) (na : NoAttr X.K C f) (h : EI X ks e k1 C fs) (hf : fs.lookup f = some d) (hb : attributeBase e f X.env (eval e X.env) = eval e X.env) : ED X ks (.Attribute e f pos) k1 d := fun W σ G H S Q q => by
  refine ev_of (pe_fld pe_ev hb) (h W σ G H S _ fun p dx vs G2 H2 S2 g hp r => ?_)
  obtain ⟨v, hv, rv⟩ := r.get hf
  exact ⟨p, C, dx, vs, v, rfl, S2.gh _ _ hp, cl, na, hv, q v G2 H2 S2 g rv⟩
theorem sd_asgI (c : CtxB cq P w K mg base T k X) (i : Nat) {x : Str} (hi : T.N[i]? = some x) (hx : Loc T.sc x) (hf : T.fn x = true ∨ T.sc.names.lookup x = some .local) (hl : i < k1.length) (h : EI X ks e k1 C fs) (hs : swapsWith e (some (.Name x p)) pos.line X.env = pure false)
    (q : SD X (k1.set i (.ins C fs)) rest Φ) : SD X ks (.Assign [.Name x p] e pos :: rest) Φ := fun W σ G H D S M => by
  refine sv_of (pss_cons (ps_set (nd_of c) (ix_of c hi) (loc_of c hx) pe_ev hs (fn_of' c hf)) pss_sv) ?_
  exact h W σ G H S _ fun p dx vs G2 H2 S2 g hp r => q W _ G2 H2 D (S2.put hl S2.le (Same.refl G2) (fun _ _ e _ => e) fun ow o f => ⟨fun _ _ _ _ u e => e, [], ⟨rfl, p, dx, vs, rfl, hp, r⟩, fun _ h => by cases h⟩) M
/-! ### methods of such an instance -/
structure MethG (P : Program) (w : World) (K : PySem.W.Frag) (mg : Str → Option Value) (base : Heap) (C : Addr) (m : Str) (ps : List Str) (j : Nat) (sp : L2.Sp) : Prop where
  ex : ∃ f fd, FnOk P w K mg base CX0 j f fd ps sp ∧ Meth K C m f ∧ Binds K fd ps []
/-- a def whose first argument is an instance that stays -/
def spI (K : PySem.W.Frag) (C : Addr) (R : List (Str × PyData) → List PyData → PyData → Prop) : L2.Sp := fun vs H Q _ => ∃ G p dx ivs fs ws ds d, vs = V.ref p :: ws ∧ Same G H ∧ TbO G H ∧ G p = some (.ins C dx ivs) ∧ FsD K G ivs fs ∧ DpAll K G ws ds ∧ R fs ds d ∧
  ∀ v G2 H2, Le (pur G H) G2 H2 → Dp K G2 v d → Q v H2
theorem ed_meth (c : Ctx P w K mg base T k X) {m : Str} {ps : List Str} {j : Nat} {R : List (Str × PyData) → List PyData → PyData → Prop} {pl : Sem Bool} (cl : Cls X.K C) (F : MethG P w K mg base C m ps j (spI K C R)) (hj : j ≤ k) (ho : EI X ks o k1 C fs) (hno : fs.lookup m = none) (ha : AD X k1 (e :: es) k2 ds) (hR : R fs ds d)
    (hst : starEach (e :: es) X.env = (false, eval e X.env) :: starEach es X.env) (hpl : (backTo pos (starEach es X.env)).any (·.1) = false)
    (ht : eval (.Call (.Attribute o m apos) (e :: es) [] pos) X.env = (do
      let ov ← eval o X.env
      standAt apos.atName
      let (f, first) ← holding [ov] (getMethod ov m pl)
      callWith pos f first (backTo pos (starEach (e :: es) X.env)) (backToKw pos (keywordEach [] X.env)))) : ED X ks (.Call (.Attribute o m apos) (e :: es) [] pos) k2 d := fun W σ G H S Q q => by
  obtain ⟨f, fd, F, hm, hb⟩ := F.ex
  have h1 := c.hP
  have h2 := c.hw
  have h3 := c.hK
  have h4 := c.hmg
  have h5 := c.hbase
  subst h1 h2 h3 h4 h5
  refine ev_of (pe_meth pe_ev cl hm F (c.room.mono hj) hb .nil pass0 pa_av hst hpl ht) (ho W σ G H S _ fun p dx vs G1 H1 S1 g1 hp r => ⟨p, dx, vs, rfl, S1.gh _ _ hp, r.none hno, ?_⟩)
  refine ha W σ G1 H1 S1 _ fun ws G2 H2 S2 g2 r2 => ?_
  rw [List.append_nil]
  exact ⟨G2, p, dx, vs, fs, ws, ds, d, rfl, S2.gh, S2.le.tb, g2 _ _ hp, r.mono g2, r2, hR, fun v G3 H3 l r3 => q v G3 H3 (S2.step l) ((g1.trans g2).trans l.g) r3⟩
theorem ed_meth0 (c : Ctx P w K mg base T k X) {m : Str} {ps : List Str} {j : Nat} {R : List (Str × PyData) → List PyData → PyData → Prop} {pl : Sem Bool} (cl : Cls X.K C) (F : MethG P w K mg base C m ps j (spI K C R)) (hj : j ≤ k) (ho : EI X ks o k1 C fs) (hno : fs.lookup m = none) (hR : R fs [] d)
    (ht : eval (.Call (.Attribute o m apos) [] [] pos) X.env = (do
      let ov ← eval o X.env
      standAt apos.atName
      let (f, first) ← holding [ov] (getMethod ov m pl)
      callWith pos f first (backTo pos (starEach [] X.env)) (backToKw pos (keywordEach [] X.env)))) : ED X ks (.Call (.Attribute o m apos) [] [] pos) k1 d := fun W σ G H S Q q => by
  obtain ⟨f, fd, F, hm, hb⟩ := F.ex
  have h1 := c.hP
  have h2 := c.hw
  have h3 := c.hK
  have h4 := c.hmg
  have h5 := c.hbase
  subst h1 h2 h3 h4 h5
  refine ev_of (pe_meth0 pe_ev cl hm F (c.room.mono hj) hb .nil pass0 ht) (ho W σ G H S _ fun p dx vs G1 H1 S1 g1 hp r => ⟨p, dx, vs, rfl, S1.gh _ _ hp, r.none hno, ?_⟩)
  exact ⟨G1, p, dx, vs, fs, [], [], d, rfl, S1.gh, S1.le.tb, hp, r, .nil, hR, fun v G3 H3 l r3 => q v G3 H3 (S1.step l) (g1.trans l.g) r3⟩
/-- a method as the written part holds it -/
structure MethAt (K : PySem.W.Frag) (C : Addr) (m qual : Str) (st : Stmt) (ps : List Str) : Prop where
  ex : ∃ f fd, Fun K m qual st f fd ∧ Meth K C m f ∧ Binds K fd ps []
theorem start_ins {W : Wd} {G H : Hp} {N : List Str} {p dx : Addr} {ivs : List (Str × V)} {vs : List V} {ds : List PyData} (le : Le W G H) (hp : G p = some (.ins C dx ivs)) (hi : FsD K G ivs fs) (rr : DpAll K G vs ds) (hl : ds.length + 1 ≤ N.length) :
    Sts K W (.ins C fs :: (ds.map SK.dat ++ List.replicate (N.length - (ds.length + 1)) .no)) (L2.start N (.ref p :: vs)) G H := by
  have hv := rr.len
  have e : L2.start N (.ref p :: vs) = some (.ref p) :: (vs.map some ++ List.replicate (N.length - (ds.length + 1)) none) := by
    unfold L2.start
    rw [List.map_cons, List.length_cons, hv]
    rfl
  rw [e]
  refine ⟨le, by simp; omega, fun _ => [], ⟨fun _ _ _ h _ => (by cases h), fun _ _ h => (by cases h), fun _ _ => rfl⟩, fun i k hk => ?_⟩
  cases i with
  | zero =>
    cases hk
    exact ⟨rfl, p, dx, ivs, rfl, hp, hi⟩
  | succ i =>
    have hk' : (ds.map SK.dat ++ List.replicate (N.length - (ds.length + 1)) .no)[i]? = some k := hk
    show Sl K G H k (((vs.map some ++ List.replicate (N.length - (ds.length + 1)) none)[i]?).getD none) []
    by_cases q : i < ds.length
    · rw [List.getElem?_append_left (by simpa using q), List.getElem?_map] at hk'
      cases e : ds[i]? with
      | none => rw [e] at hk'; cases hk'
      | some d =>
        rw [e] at hk'
        cases hk'
        obtain ⟨v, e1, e2⟩ := rr.get e
        refine ⟨rfl, v, ?_, e2⟩
        rw [List.getElem?_append_left (by simp; omega), List.getElem?_map, e1]
        rfl
    · rw [List.getElem?_append_right (by simp; omega)] at hk'
      have := List.mem_of_getElem? hk'
      rw [List.mem_replicate] at this
      rw [this.2]
      exact (show ([] : List Addr) = [] from rfl)
theorem fn_sdI {R : List (Str × PyData) → List PyData → PyData → Prop} {m qual : Str} {st : Stmt} {N ps : List Str} {k : Nat} (D : MethAt K C m qual st ps) (S : FnScope N ps (defScope st)) (hl : ∀ fs ds d, R fs ds d → ds.length + 1 = ps.length) (hN : ps.length ≤ N.length)
    (h : ∀ X, Ctx P w K mg base ⟨N, defScope st, fun _ => true⟩ k X → ∀ fs ds d, R fs ds d → SD X (.ins C fs :: (ds.map SK.dat ++ List.replicate (N.length - (ds.length + 1)) .no)) (defBody st) { nx := fun _ => d = .none, rt := fun _ d' => d' = d, rl := fun _ ds' => d = .list ds' }) :
    MethG P w K mg base C m ps (k + 1) (spI K C R) := by
  obtain ⟨f, fd, F, hm, hb⟩ := D.ex
  refine ⟨f, fd, ?_, hm, hb⟩
  refine F.ok S (fun vs H Q E ⟨G, p, dx, ivs, fs, ws, ds, d, e, _, _, _, _, r, hR, _⟩ => by rw [e, List.length_cons, r.len]; exact hl fs ds d hR) (fun cdv A outer s H vs Q E hr ⟨G, p, dx, ivs, fs, ws, ds, d, e, g, tb, hp, hi, r, hR, q⟩ => ⟨_, pss_sv, ?_⟩)
  subst e
  have S0 := start_ins (N := N) (Le.refl g tb) hp hi r (by rw [hl fs ds d hR]; exact hN)
  refine h _ (cxOf_ctx S cdv A outer s H E hr) fs ds d hR _ _ G H _ S0 ⟨fun ks σ G' H' e S' => ?_, fun _ _ _ _ z => z.elim, fun _ _ _ _ z => z.elim, fun ks σ G' H' v d' e S' r' => ?_, fun ks σ G' H' a ds' e S' => ?_, fun _ _ _ _ _ _ _ _ z => z.elim, ex0⟩
  · exact q .non G' H' S'.le (by rw [e]; exact .non)
  · exact q v G' H' S'.le (by rw [← e]; exact r')
  · obtain ⟨G2, S2, g2, r2⟩ := S'.popFreeze
    exact q _ G2 H' S2.le (by rw [e]; exact r2)
end
end Z
namespace Z
open PySem PySem.Spec L2
variable [Tabl]
/-! ### instances of our own: __init__ -/
section
variable {P : Program} {w : World} {K : PySem.W.Frag} {mg : Str → Option Value} {base : Heap} {T : Sta} {k : Nat} {X : Cx} {ks k1 k2 k3 : List SK} {a b e o : Expr} {es : List Expr} {d da db : PyData} {ds ds' el : List PyData} {pos p tpos apos : Pos} {rest : List Stmt} {Φ : Po} {C : Addr} {fs : List (Str × PyData)}
def putD (f : Str) (d : PyData) : List (Str × PyData) → List (Str × PyData)
  | [] => [(f, d)]
  | (g, x) :: r => if g = f then (g, d) :: r else (g, x) :: putD f d r
theorem FsD.put {G : Hp} {f : Str} {v : V} (hv : Dp K G v d) : ∀ {vs : List (Str × V)} {fs : List (Str × PyData)}, FsD K G vs fs → FsD K G (putF f v vs) (putD f d fs)
  | _, _, .nil => .cons ⟨rfl, hv⟩ .nil
  | (x, u) :: vs, (y, e) :: fs, .cons ⟨h1, h2⟩ t => by
    have h1 : x = y := h1
    subst h1
    show FsD K G (if x = f then (x, v) :: vs else (x, u) :: putF f v vs) (if x = f then (x, d) :: fs else (x, e) :: putD f d fs)
    by_cases q : x = f
    · rw [if_pos q, if_pos q]; exact .cons ⟨rfl, hv⟩ t
    · rw [if_neg q, if_neg q]; exact .cons ⟨rfl, h2⟩ (FsD.put hv t)
theorem FsD.len {G : Hp} {vs : List (Str × V)} {fs : List (Str × PyData)} (h : FsD K G vs fs) : vs.length = fs.length := Paired.length h
theorem pl_ins {dx : Addr} {vs : List (Str × V)} : Pl (.ins C dx vs) := ⟨(fun _ z => by cases z), (fun _ z => by cases z)⟩
theorem Sts.oinPut {W : Wd} {σ : St} {G H : Hp} {i : Nat} {a dx : Addr} {fs' : List (Str × PyData)} {vs : List (Str × V)} (S : Sts K W ks σ G H) (hk : ks[i]? = some (.oin a dx C fs)) (r : FsD K G vs fs') : Sts K W (ks.set i (.oin a dx C fs')) σ G (upd H a (.ins C dx vs)) := by
  have hi := (List.getElem?_eq_some_iff.mp hk).1
  obtain ⟨as, h⟩ := S.at hk
  obtain ⟨e1, _, ⟨vs0, h1, _⟩, h2, n⟩ := h
  have hσ : σ.set i (some (.ref a)) = σ := by
    apply List.ext_getElem?
    intro j
    by_cases q : j = i
    · subst q; rw [List.getElem?_set_self (by rw [S.len]; exact hi), S.there hi e1]
    · rw [List.getElem?_set_ne (Ne.symm q)]
  obtain ⟨ga, wa⟩ : G a = none ∧ (W.H a = none ∨ W.M a) := by
    obtain ⟨le, len, ow, o, f⟩ := S
    obtain ⟨_, b1, _⟩ := f i _ hk
    obtain ⟨m1, m2⟩ := o.mine i a (by rw [b1]; simp)
    exact ⟨m1, m2.imp id fun z => z.1⟩
  have l := S.le.upd (o := .ins C dx vs) ⟨_, h1⟩ (fun u e => by rw [h1] at e; cases e; exact pl_ins) ga wa
  have S2 := S.put (k := .oin a dx C fs') (v := some (.ref a)) hi l (Same.refl G) (fun _ _ e _ => e) fun ow o f => by
    obtain ⟨_, b1, _⟩ := f i _ hk
    refine ⟨fun j b hj hb u hu => ?_, [a, dx], ⟨rfl, rfl, ⟨vs, upd_same, r⟩, by rw [upd_ne (Ne.symm n)]; exact h2, n⟩, fun b hb => ?_⟩
    · have : b ≠ a := fun z => hj (o.dis j i b hb (by rw [b1, z]; simp))
      rw [upd_ne this]; exact hu
    · have hb : b ∈ ow i := by rw [b1]; exact hb
      obtain ⟨m1, m2⟩ := o.mine i b hb
      exact ⟨fun j hj hb' => hj (o.dis j i b hb' hb), m1, m2.imp id fun z => ⟨z.1, rfl⟩⟩
  rw [hσ] at S2
  exact S2
/-- self.f = e -/
theorem sd_setfld (c : CtxB cq P w K mg base T k X) (i : Nat) {x f : Str} {a dx : Addr} {p1 p2 : Pos} (cl : Cls X.K C) (na : NoAttr X.K C f) (hN : T.N[i]? = some x) (hv : Vis T.sc x) (h : ED X ks e k1 d) (hk : k1[i]? = some (.oin a dx C fs)) (hz : fs.length < 1000)
    (q : SD X (k1.set i (.oin a dx C (putD f d fs))) rest Φ) (hd : (x == ("__debug__" : Str)) = false) (hcd : (x == ("__classdict__" : Str)) = false) (hs : swapsWith e (some (.Attribute (.Name x p1) f p2)) pos.line X.env = pure false) :
    SD X ks (.Assign [.Attribute (.Name x p1) f p2] e pos :: rest) Φ := fun W σ G H D S M => by
  refine sv_of (pss_cons (ps_fld (pe_var (ix_of c hN) (vis_of c hv) hd hcd) pe_ev hs) pss_sv) ?_
  refine h W σ G H S _ fun v G1 H1 S1 g1 r1 => ?_
  obtain ⟨as, z⟩ := S1.at hk
  obtain ⟨e1, _, ⟨vs, h1, r⟩, _, _⟩ := z
  refine ⟨.ref a, S1.there (List.getElem?_eq_some_iff.mp hk).1 e1, a, C, dx, vs, rfl, h1, cl, na, by rw [r.len]; exact hz, ?_⟩
  exact q W σ G1 _ D (S1.oinPut hk (r.put r1)) M
/-- an __init__ -/
def spN (K : PySem.W.Frag) (C : Addr) (R : List PyData → List (Str × PyData) → Prop) : L2.Sp := fun vs H Q _ => ∃ G p dx ws ds fs, vs = V.ref p :: ws ∧ Same G H ∧ TbO G H ∧ G p = none ∧ G dx = none ∧ H p = some (.ins C dx []) ∧ H dx = some (.own p) ∧ p ≠ dx ∧ DpAll K G ws ds ∧ R ds fs ∧
  ∀ ivs G2 H2, Le ⟨G, H, fun a => a = p ∨ a = dx⟩ G2 H2 → G2 p = none → H2 p = some (.ins C dx ivs) → FsD K G2 ivs fs → Q .non H2
theorem start_oin {G H : Hp} {N : List Str} {p dx : Addr} {vs : List V} {ds : List PyData} (g : Same G H) (tb : TbO G H) (gp : G p = none) (gd : G dx = none) (hp : H p = some (.ins C dx [])) (hd : H dx = some (.own p)) (n : p ≠ dx) (rr : DpAll K G vs ds) (hl : ds.length + 1 ≤ N.length) :
    Sts K ⟨G, H, fun a => a = p ∨ a = dx⟩ (.oin p dx C [] :: (ds.map SK.dat ++ List.replicate (N.length - (ds.length + 1)) .no)) (L2.start N (.ref p :: vs)) G H := by
  have hv := rr.len
  have e : L2.start N (.ref p :: vs) = some (.ref p) :: (vs.map some ++ List.replicate (N.length - (ds.length + 1)) none) := by
    unfold L2.start
    rw [List.map_cons, List.length_cons, hv]
    rfl
  rw [e]
  refine ⟨⟨Same.refl G, g, fun _ _ _ _ e => e, fun _ o e => ⟨o, e⟩, fun _ _ e _ => e, fun x hx => ?_, tb⟩, by simp; omega, fun i => if i = 0 then [p, dx] else [], ⟨fun i j x h h' => ?_, fun i x h => ?_, fun i hi => ?_⟩, fun i k hk => ?_⟩
  · rcases hx with z | z <;> subst z
    · exact ⟨_, hp⟩
    · exact ⟨_, hd⟩
  · by_cases q : i = 0 <;> by_cases q' : j = 0 <;> simp only [q, q', if_true, if_false] at h h' <;> first | (rw [q, q']; done) | exact absurd h List.not_mem_nil | exact absurd h' List.not_mem_nil
  · by_cases q : i = 0
    · simp only [q, if_true] at h
      have : x = p ∨ x = dx := by simpa using h
      rcases this with z | z <;> subst z
      · exact ⟨gp, .inr ⟨.inl rfl, _, by rw [q]; rfl, rfl⟩⟩
      · exact ⟨gd, .inr ⟨.inr rfl, _, by rw [q]; rfl, rfl⟩⟩
    · simp only [q, if_false] at h; cases h
  · have : i ≠ 0 := by simp at hi; omega
    simp only [this, if_false]
  · cases i with
    | zero =>
      cases hk
      exact ⟨rfl, rfl, ⟨[], hp, .nil⟩, hd, n⟩
    | succ i =>
      simp only [Nat.succ_ne_zero, if_false]
      have hk' : (ds.map SK.dat ++ List.replicate (N.length - (ds.length + 1)) .no)[i]? = some k := hk
      show Sl K G H k (((vs.map some ++ List.replicate (N.length - (ds.length + 1)) none)[i]?).getD none) []
      by_cases q : i < ds.length
      · rw [List.getElem?_append_left (by simpa using q), List.getElem?_map] at hk'
        cases e : ds[i]? with
        | none => rw [e] at hk'; cases hk'
        | some d =>
          rw [e] at hk'
          cases hk'
          obtain ⟨v, e1, e2⟩ := rr.get e
          refine ⟨rfl, v, ?_, e2⟩
          rw [List.getElem?_append_left (by simp; omega), List.getElem?_map, e1]
          rfl
      · rw [List.getElem?_append_right (by simp; omega)] at hk'
        have := List.mem_of_getElem? hk'
        rw [List.mem_replicate] at this
        rw [this.2]
        exact (show ([] : List Addr) = [] from rfl)
/-- a class that is made by its __init__ -/
structure MkG (P : Program) (w : World) (K : PySem.W.Frag) (mg : Str → Option Value) (base : Heap) (x : Str) (C : Addr) (ps : List Str) (j : Nat) (sp : L2.Sp) : Prop where
  ex : ∃ f fd, FnOk P w K mg base CX0 j f fd ps sp ∧ Mk K C f ∧ mg x = some (.ref C) ∧ Binds K fd ps []
structure MkAt (K : PySem.W.Frag) (mg : Str → Option Value) (x : Str) (C : Addr) (qual : Str) (st : Stmt) (ps : List Str) : Prop where
  ex : ∃ f fd, Fun K "__init__" qual st f fd ∧ Mk K C f ∧ mg x = some (.ref C) ∧ Binds K fd ps []
theorem fn_sdN {R : List PyData → List (Str × PyData) → Prop} {x qual : Str} {st : Stmt} {N ps : List Str} {k : Nat} (D : MkAt K mg x C qual st ps) (S : FnScope N ps (defScope st)) (hl : ∀ ds fs, R ds fs → ds.length + 1 = ps.length) (hN : ps.length ≤ N.length)
    (h : ∀ X, Ctx P w K mg base ⟨N, defScope st, fun _ => true⟩ k X → ∀ a dx ds fs, R ds fs → SD X (.oin a dx C [] :: (ds.map SK.dat ++ List.replicate (N.length - (ds.length + 1)) .no)) (defBody st) { nx := fun ks => ks[0]? = some (.oin a dx C fs), rt := fun _ _ => False }) :
    MkG P w K mg base x C ps (k + 1) (spN K C R) := by
  obtain ⟨f, fd, F, hm, hx, hb⟩ := D.ex
  refine ⟨f, fd, ?_, hm, hx, hb⟩
  refine F.ok S (fun vs H Q E ⟨G, p, dx, ws, ds, fs, e, _, _, _, _, _, _, _, r, hR, _⟩ => by rw [e, List.length_cons, r.len]; exact hl ds fs hR) (fun cdv A outer s H vs Q E hr ⟨G, p, dx, ws, ds, fs, e, g, tb, gp, gd, hp, hd, n, r, hR, q⟩ => ⟨_, pss_sv, ?_⟩)
  subst e
  have S0 := start_oin (N := N) g tb gp gd hp hd n r (by rw [hl ds fs hR]; exact hN)
  refine h _ (cxOf_ctx S cdv A outer s H E hr) p dx ds fs hR _ _ G H _ S0 ⟨fun ks σ G' H' e S' => ?_, fun _ _ _ _ z => z.elim, fun _ _ _ _ z => z.elim, fun _ _ _ _ _ _ z => z.elim, fun _ _ _ _ _ _ z => z.elim, fun _ _ _ _ _ _ _ _ z => z.elim, ex0⟩
  obtain ⟨le, len, ow, o, fz⟩ := S'
  obtain ⟨e1, b1, ⟨vs, h1, r1⟩, _, _⟩ := fz 0 _ e
  obtain ⟨m1, _⟩ := o.mine 0 p (by rw [b1]; simp)
  exact q vs G' H' le m1 h1 r1
/-- C(e, ..) -/
theorem ei_make (c : Ctx P w K mg base T k X) {x : Str} {ps : List Str} {j : Nat} {R : List PyData → List (Str × PyData) → Prop} (F : MkG P w K mg base x C ps j (spN K C R)) (hj : j + 1 ≤ k) (hg : T.sc.names.lookup x = some .globalImplicit) (ha : AD X ks (e :: es) k1 ds) (hR : R ds fs) (hdb : (x == ("__debug__" : Str)) = false)
    (he : starEach (e :: es) X.env = (false, eval e X.env) :: starEach es X.env) (hpl : (backTo pos (starEach es X.env)).any (·.1) = false) : EI X ks (.Call (.Name x p) (e :: es) [] pos) k1 C fs := fun W σ G H S Q q => by
  obtain ⟨f, fd, F, hm, hmx, hb⟩ := F.ex
  have h1 := c.hP
  have h2 := c.hw
  have h3 := c.hK
  have h4 := c.hmg
  have h5 := c.hbase
  subst h1 h2 h3 h4 h5
  refine ev_of (pe_make hm F (c.room.mono hj) (gl_of c hg) hmx hb .nil pass0 pa_av hdb he hpl) (ha W σ G H S _ fun vs G1 H1 S1 g1 r1 => fun x dx nx nd ne => ?_)
  rw [List.append_nil]
  have gn : ∀ {b}, H1 b = none → G1 b = none := fun {b} n => by
    cases e : G1 b with
    | none => rfl
    | some u => rw [S1.gh b u e] at n; cases n
  have old : ∀ {b u}, H1 b = some u → (upd (upd H1 dx (.own x)) x (.ins C dx [])) b = some u := fun {b u} e => by rw [upd_ne (ne_of_none e nx), upd_ne (ne_of_none e nd)]; exact e
  refine ⟨G1, x, dx, vs, ds, fs, rfl, fun b u e => old (S1.gh b u e), (S1.le.tb.upd (fun u e => by rw [nd] at e; cases e)).upd (fun u e => by rw [upd_ne (Ne.symm ne), nx] at e; cases e), gn nx, gn nd, upd_same, by rw [upd_ne ne, upd_same], Ne.symm ne, r1, hR, fun ivs G2 H2 l gp hp r => ⟨rfl, ?_⟩⟩
  have gg : Same G2 (upd G2 x (.ins C dx ivs)) := fun b u e => by
    have : b ≠ x := fun z => by rw [z, gp] at e; cases e
    rw [upd_ne this]; exact e
  have nm : ∀ {b u}, H1 b = some u → ¬ (b = x ∨ b = dx) := fun {b u} e z => z.elim (ne_of_none e nx) (ne_of_none e nd)
  have l3 : Le (pur G1 H1) (upd G2 x (.ins C dx ivs)) H2 := {
    g := l.g.trans gg
    gh := fun b u e => by
      by_cases z : b = x
      · subst z; rw [upd_same] at e; cases e; exact hp
      · rw [upd_ne z] at e; exact l.gh b u e
    keep := fun b u _ nt e => l.keep b u (nm e) nt (old e)
    there := fun b u e => l.there b u (old e)
    fz := fun b u e1 e2 => by
      have z : b ≠ x := ne_of_none e2 nx
      rw [upd_ne z]; exact l.fz b u e1 (old e2)
    m := fun _ z => z.elim
    tb := l.tb.updG hp pl_ins }
  exact q x dx ivs _ H2 (S1.step l3) (g1.trans l3.g) upd_same (r.mono gg)
end
end Z
namespace Z
open PySem PySem.Spec L2
variable [Tabl]
/-! ### defs that raise -/
section
variable {P : Program} {w : World} {K : PySem.W.Frag} {mg : Str → Option Value} {base : Heap} {T : Sta} {k : Nat} {X : Cx} {ks k1 k2 k3 : List SK} {a b e o : Expr} {es : List Expr} {d da db : PyData} {ds ds' el : List PyData} {pos p tpos apos : Pos} {rest body : List Stmt} {Φ : Po} {C : Addr} {fs : List (Str × PyData)} {cls : Value}
theorem EV.mono {σ : St} {H : Hp} {Q Q' : VK} (h : EV X e σ H Q) (q : ∀ v H, Q v H → Q' v H) : EV X e σ H Q' := ⟨fun pins s I => wpAny_mono (h.run pins s I) (fun u s1 ⟨v, H', I', r, z⟩ => ⟨v, H', I', r, q v H' z⟩) (fun _ _ x => x)⟩
/-- an expression that raises -/
def EX (X : Cx) (ks : List SK) (e : Expr) (ks' : List SK) (cls : Value) (fs : List (Str × PyData)) : Prop :=
  ∀ W σ G H, Sts X.K W ks σ G H → ∀ Wx : WX, Takes X Wx → (∀ G2 H2 d, Sts X.K W ks' σ G2 H2 → Same G G2 → ExF X.K G2 d fs → Wx cls d σ H2) → EV X e σ H (fun _ _ => False)
theorem sd_retX (h : EX X ks e k1 cls fs) (q : Φ.ex k1 cls fs) : SD X ks (.Return (some e) pos :: rest) Φ := fun W σ G H D S M => by
  obtain ⟨⟨Wx, tk, hx⟩, _⟩ := M.ex
  exact sv_of (pss_cons (ps_ret pe_ev) pss_sv) ((h W σ G H S Wx tk fun G2 H2 d S2 _ r => hx k1 σ G2 H2 cls d fs q S2 r).mono fun _ _ z => z.elim)
/-- what a def promises that may raise -/
def spPX (K : PySem.W.Frag) (R : List PyData → PyData → Prop) (Rx : List PyData → Value → List (Str × PyData) → Prop) : L2.Sp := fun vs H Q E => ∃ G ds, Same G H ∧ TbO G H ∧ DpAll K G vs ds ∧
  ((∃ d, R ds d ∧ ∀ v G2 H2, Le (pur G H) G2 H2 → Dp K G2 v d → Q v H2) ∨ ∃ cls fs, Rx ds cls fs ∧ ∀ dx G2 H2, Le (pur G H) G2 H2 → ExF K G2 dx fs → E cls dx H2)
structure FnX (P : Program) (w : World) (K : PySem.W.Frag) (mg : Str → Option Value) (base : Heap) (x : Str) (ps : List Str) (j : Nat) (sp : L2.Sp) : Prop where
  ex : ∃ f fd, FnOk P w K mg base (L2.CX P w) j f fd ps sp ∧ mg x = some (.ref f) ∧ PySem.W.keepIn K (.ref f) = true ∧ Binds K fd ps []
theorem cxOf_ctxX {N ps : List Str} {st : Stmt} {qual : Str} {f : Addr} {k : Nat} (S : FnScope N ps (defScope st)) (cdv : Value) (A : Around) (outer : List Env) (s : Shared) (H : Hp) (E : XK) (hr : Room k (A.deeper (PyProof.Rows.envOfC qual (defScope st) s.heap.objs.size f cdv))) :
    Ctx P w K mg base ⟨N, defScope st, fun _ => true⟩ k (cxOf (L2.CX P w) P w K mg base N qual (defScope st) f cdv A outer s H E) where
  hP := rfl
  hw := rfl
  hK := rfl
  hmg := rfl
  hbase := rfl
  hN := rfl
  nd := S.nd
  hs := rfl
  calm' := fun _ => rfl
  room' := fun _ => hr
  un := Nat.lt_of_le_of_lt (Nat.add_le_add_right (Nat.le_add_right _ _) _) hr.un
  po := passes_of rfl
  fn := rfl
/-- such a context stands on its own stack -/
structure StkC (X : Cx) : Prop where
  hs : X.stack = X.env :: X.outer
  hf : X.env.frame = some X.env.locals
theorem fn_sdX {R : List PyData → PyData → Prop} {Rx : List PyData → Value → List (Str × PyData) → Prop} {x : Str} {st : Stmt} {N ps : List Str} {k : Nat} (D : DefAt K mg x st ps) (S : FnScope N ps (defScope st)) (hl : ∀ ds d, R ds d → ds.length = ps.length) (hl2 : ∀ ds cls fs, Rx ds cls fs → ds.length = ps.length) (hN : ps.length ≤ N.length)
    (h : ∀ X, Ctx P w K mg base ⟨N, defScope st, fun _ => true⟩ k X → StkC X → ∀ ds d, R ds d → SD X (ds.map SK.dat ++ List.replicate (N.length - ds.length) .no) (defBody st) { nx := fun _ => d = .none, rt := fun _ d' => d' = d, rl := fun _ ds' => d = .list ds' })
    (hx : ∀ X, Ctx P w K mg base ⟨N, defScope st, fun _ => true⟩ k X → StkC X → ∀ ds cls fs, Rx ds cls fs → SD X (ds.map SK.dat ++ List.replicate (N.length - ds.length) .no) (defBody st) { nx := fun _ => False, rt := fun _ _ => False, ex := fun _ c' fs' => c' = cls ∧ fs' = fs }) :
    FnX P w K mg base x ps (k + 1) (spPX K R Rx) := by
  obtain ⟨f, fd, F, hm, hb⟩ := D.ex
  refine ⟨f, fd, ?_, hm, F.kp, hb⟩
  refine F.okX S (fun vs H Q E ⟨G, ds, _, _, r, h⟩ => ?_) (fun cdv A outer s H vs Q E hr ⟨G, ds, g, tb, r, h'⟩ => ⟨_, pss_sv, ?_⟩)
  · rw [r.len]
    rcases h with ⟨d, h, _⟩ | ⟨c, fs, h, _⟩
    · exact hl ds d h
    · exact hl2 ds c fs h
  · rcases h' with ⟨d, hR, q⟩ | ⟨cls, fs, hR, q⟩
    · have S0 := start_sts (N := N) (Le.refl g tb) r (by rw [hl ds d hR]; exact hN)
      refine h _ (cxOf_ctxX S cdv A outer s H E hr) ⟨rfl, rfl⟩ ds d hR _ _ G H _ S0 ⟨fun ks σ G' H' e S' => ?_, fun _ _ _ _ z => z.elim, fun _ _ _ _ z => z.elim, fun ks σ G' H' v d' e S' r' => ?_, fun ks σ G' H' a ds' e S' => ?_, fun _ _ _ _ _ _ _ _ z => z.elim, ⟨⟨_, takes_of rfl rfl rfl rfl, fun _ _ _ _ _ _ _ z => z.elim⟩, fun _ _ _ _ _ _ z => z.elim⟩⟩
      · exact q .non G' H' S'.le (by rw [e]; exact .non)
      · exact q v G' H' S'.le (by rw [← e]; exact r')
      · obtain ⟨G2, S2, g2, r2⟩ := S'.popFreeze
        exact q _ G2 H' S2.le (by rw [e]; exact r2)
    · have S0 := start_sts (N := N) (Le.refl g tb) r (by rw [hl2 ds cls fs hR]; exact hN)
      refine hx _ (cxOf_ctxX S cdv A outer s H E hr) ⟨rfl, rfl⟩ ds cls fs hR _ _ G H _ S0 ⟨fun _ _ _ _ z => z.elim, fun _ _ _ _ z => z.elim, fun _ _ _ _ z => z.elim, fun _ _ _ _ _ _ z => z.elim, fun _ _ _ _ _ _ z => z.elim, fun _ _ _ _ _ _ _ _ z => z.elim, ⟨⟨_, takes_of rfl rfl rfl rfl, fun ks σ G' H' c' dx fs' e S' r' => ?_⟩, fun _ _ _ _ _ _ z => z.elim⟩⟩
      obtain ⟨rfl, rfl⟩ := e
      exact q dx G' H' S'.le r'
section
variable {x : Str} {ps : List Str} {j : Nat} {R : List PyData → PyData → Prop} {Rx : List PyData → Value → List (Str × PyData) → Prop}
/-- a call that gives something -/
theorem ed_callX (c : Ctx P w K mg base T k X) (F : FnX P w K mg base x ps j (spPX K R Rx)) (hj : j ≤ k) (hg : T.sc.names.lookup x = some .globalImplicit) (ha : AD X ks (e :: es) k1 ds) (hR : R ds d) (hdb : (x == ("__debug__" : Str)) = false)
    (he : starEach (e :: es) X.env = (false, eval e X.env) :: starEach es X.env) (hpl : (backTo pos (starEach es X.env)).any (·.1) = false) : ED X ks (.Call (.Name x p) (e :: es) [] pos) k1 d := fun W σ G H S Q q => by
  obtain ⟨f, fd, F, hm, hk, hb⟩ := F.ex
  have h1 := c.hP
  have h2 := c.hw
  have h3 := c.hK
  have h4 := c.hmg
  have h5 := c.hbase
  subst h1 h2 h3 h4 h5
  refine ev_of (pe_call F (c.room.mono hj) (gl_of c hg) hm hk hb .nil passL pa_av hdb he hpl) (ha W σ G H S _ fun vs G1 H1 S1 g1 r1 => ?_)
  rw [List.append_nil]
  exact ⟨G1, ds, S1.gh, S1.le.tb, r1, .inl ⟨d, hR, fun v G2 H2 l r2 => q v G2 H2 (S1.step l) (g1.trans l.g) r2⟩⟩
/-- a call that raises -/
theorem ex_call (c : Ctx P w K mg base T k X) (F : FnX P w K mg base x ps j (spPX K R Rx)) (hj : j ≤ k) (hg : T.sc.names.lookup x = some .globalImplicit) (ha : AD X ks (e :: es) k1 ds) (hR : Rx ds cls fs) (hdb : (x == ("__debug__" : Str)) = false)
    (he : starEach (e :: es) X.env = (false, eval e X.env) :: starEach es X.env) (hpl : (backTo pos (starEach es X.env)).any (·.1) = false) : EX X ks (.Call (.Name x p) (e :: es) [] pos) k1 cls fs := fun W σ G H S Wx tk q => by
  obtain ⟨f, fd, F, hm, hk, hb⟩ := F.ex
  have h1 := c.hP
  have h2 := c.hw
  have h3 := c.hK
  have h4 := c.hmg
  have h5 := c.hbase
  subst h1 h2 h3 h4 h5
  refine ev_of (pe_callS F (c.room.mono hj) (gl_of c hg) hm hk hb (fun σ => passAt tk σ) pa_av hdb he hpl) (ha W σ G H S _ fun vs G1 H1 S1 g1 r1 => ?_)
  exact ⟨G1, ds, S1.gh, S1.le.tb, r1, .inr ⟨cls, fs, hR, fun dx G2 H2 l r2 => q G2 H2 dx (S1.step l) (g1.trans l.g) r2⟩⟩
end
/-! ### raise -/
/-- an exception class whose __init__ sets one field -/
structure Exc1 (P : Program) (w : World) (K : PySem.W.Frag) (mg : Str → Option Value) (base : Heap) (x f : Str) (C : Addr) (j : Nat) : Prop where
  gC : mg x = some (.ref C)
  oc : OexC K C
  ini : ∃ fI fd ps, PySem.W.findIn K (.ref C) "__init__" = some (some (.ref fI)) ∧ PySem.W.typeIn K (.ref fI) = some (.type "function") ∧ Binds K fd ps [] ∧
    FnOk P w K mg base (L2.CX P w) j fI fd ps (fun vs H Q _ => ∃ a v, vs = [.ref a, v] ∧ H a = some (exo a C none) ∧ ∀ dx, H dx = none → dx ≠ a → Q .non (upd (upd H dx (exd dx [(f, v)])) a (exo a C (some dx))))
/-- the same, of the text -/
structure Exc1At (K : PySem.W.Frag) (mg : Str → Option Value) (x f : Str) (C : Addr) (qual : Str) (st : Stmt) (ps : List Str) : Prop where
  gC : mg x = some (.ref C)
  oc : OexC K C
  no : PySem.W.findIn K (.ref C) f = some none
  ini : ∃ fI fd, PySem.W.findIn K (.ref C) "__init__" = some (some (.ref fI)) ∧ PySem.W.typeIn K (.ref fI) = some (.type "function") ∧ Binds K fd ps [] ∧ Fun K "__init__" qual st fI fd
theorem exc1_of {x f y z qual : Str} {st : Stmt} {p1 p2 p3 p4 : Pos} (E : Exc1At K mg x f C qual st [y, z]) (S : FnScope [y, z] [y, z] (defScope st)) (hb : defBody st = [.Assign [.Attribute (.Name y p1) f p2] (.Name z p3) p4])
    (hy : (defScope st).names.lookup y = some .local) (hz : (defScope st).names.lookup z = some .local) (h1 : (y == ("__debug__" : Str)) = false) (h2 : (y == ("__classdict__" : Str)) = false) (h3 : (z == ("__debug__" : Str)) = false) (h4 : (z == ("__classdict__" : Str)) = false)
    (hs : ∀ env : Env, env.scope = defScope st → swapsWith (.Name z p3) (some (.Attribute (.Name y p1) f p2)) p4.line env = pure false) : Exc1 P w K mg base x f C 1 := by
  obtain ⟨gC, oc, no, fI, fd, hI, tI, hbd, F⟩ := E
  refine ⟨gC, oc, fI, fd, _, hI, tI, hbd, ?_⟩
  refine F.okX S (fun vs H Q E h => ?_) (fun cdv A outer s H vs Q E hr h => ⟨tSeq (tOst K f (tVar 0) (tVar 1)) tNext, ?_, ?_⟩)
  · obtain ⟨a, v, rfl, _⟩ := h
    rfl
  · rw [hb]
    exact pss_cons (ps_ost (pe_var rfl (.inl hy) h1 h2) (pe_var rfl (.inl hz) h3 h4) (hs _ rfl)) pss_nil
  · obtain ⟨a, v, rfl, ha, q⟩ := h
    exact ⟨v, rfl, .ref a, rfl, a, C, rfl, oc, no, .inl ⟨ha, fun dx n ne => q dx n ne⟩⟩
/-- raise X(e) -/
theorem sd_raise1 (c : Ctx P w K mg base T k X) {x f : Str} {j : Nat} {pos' : Pos} (E : Exc1 P w K mg base x f C j) (hj : j + 1 ≤ k) (hg : T.sc.names.lookup x = some .globalImplicit) (h : ED X ks e k1 d) (hdb : (x == ("__debug__" : Str)) = false)
    (he : starEach [e] X.env = (false, eval e X.env) :: starEach [] X.env) (q : Φ.ex k1 (.ref C) [(f, d)]) :
    SD X ks (.Raise (some (.Call (.Name x p) [e] [] pos)) none pos' :: rest) Φ := fun W σ G H D S M => by
  obtain ⟨⟨Wx, tk, hx⟩, _⟩ := M.ex
  obtain ⟨gC, oc, fI, fd, ps, hI, tI, hb, F⟩ := E
  have h1 := c.hP
  have h2 := c.hw
  have h3 := c.hK
  have h4 := c.hmg
  have h5 := c.hbase
  subst h1 h2 h3 h4 h5
  refine sv_of (pss_cons (ps_raise c.calm tk (pmk_oex oc hI tI F (c.room.mono hj) hb .nil passL (gl_of c hg) gC (pa_cons pe_ev pa_nil he) hdb he rfl)) pss_sv) ?_
  refine h W σ G H S _ fun v G1 H1 S1 g1 r1 => ⟨Nat.le_of_ble_eq_true rfl, fun a ha => ⟨a, v, rfl, upd_same, fun dx n ne => ⟨rfl, dx, [(f, v)], upd_same, ?_, ?_, ?_⟩⟩⟩
  · rw [upd_ne ne, upd_same]
  · rw [upd_ne ne] at n; exact n
  · have n' : H1 dx = none := by rw [upd_ne ne] at n; exact n
    have e3 : upd (del (upd (upd (upd H1 a (exo a C none)) dx (exd dx [(f, v)])) a (exo a C (some dx))) a) dx (.xd [(f, v)]) = upd H1 dx (.xd [(f, v)]) := by
      funext b
      by_cases q1 : b = dx
      · subst q1; rw [upd_same, upd_same]
      · rw [upd_ne q1, upd_ne q1]
        by_cases q2 : b = a
        · subst q2; rw [del_same, ha]
        · rw [del_ne q2, upd_ne q2, upd_ne q1, upd_ne q2]
    rw [e3]
    have l : Lp G1 H1 (upd G1 dx (.xd [(f, v)])) (upd H1 dx (.xd [(f, v)])) := Lp.new S1.gh n'
    refine hx k1 σ _ _ (.ref C) (some dx) [(f, d)] q (S1.pure l) ⟨_, upd_same, .cons ⟨rfl, Dp.mono l.g r1⟩ .nil⟩
end
end Z
namespace Z
open PySem PySem.Spec L2
variable [Tabl]
/-! ### try .. except C as e -/
section
variable {P : Program} {w : World} {K : PySem.W.Frag} {mg : Str → Option Value} {base : Heap} {T : Sta} {k : Nat} {X Y : Cx} {ks k1 k2 k3 : List SK} {b e o : Expr} {es : List Expr} {d' da db : PyData} {ds ds' el : List PyData} {pos p tpos apos : Pos} {rest body : List Stmt} {Φ : Po} {C a : Addr} {d : Option Addr} {fs : List (Str × PyData)} {cls : Value} {oe : Obj} {pn : List (Addr × Obj)} {cq : Bool}
/-- the exception that a suite holds -/
def excC (a : Addr) (d : Option Addr) (fs : List (Str × PyData)) : Cus :=
  ⟨fun K G H o as => as = [] ∧ o = some (.ref a) ∧ ExF K G d fs, false, fun K G H G2 H2 o as e ⟨x, y, z⟩ _ => ⟨x, y, z.mono e⟩, fun K G H o as ⟨x, _⟩ => by subst x; simp⟩
theorem CtxB.tr (c : Ctx P w K mg base T k X) {xe : Value → Shared → Prop} (po : PassesOwn (model X.prog X.w) X.A X.env xe) : Ctx P w K mg base T k (X.tr pn xe) := ⟨c.hP, c.hw, c.hK, c.hmg, c.hbase, c.hN, c.nd, c.hs, c.calm', c.room', c.un, po, c.fn⟩
theorem CtxB.suite (c : Ctx P w K mg base T k X) : CtxB false P w K mg base T k (X.suite a pn) := ⟨c.hP, c.hw, c.hK, c.hmg, c.hbase, c.hN, c.nd, c.hs, fun z => Bool.noConfusion z, fun z => Bool.noConfusion z, c.un, PassesOwn.never, c.fn⟩
theorem Sts.unset {W : Wd} {σ : St} {G H : Hp} (S : Sts K W ks σ G H) (i : Nat) : Sts K W (ks.set i .no) (σ.set i none) G H := by
  by_cases hi : i < ks.length
  · exact S.put hi S.le (Same.refl G) (fun _ _ e _ => e) fun ow o f => ⟨fun _ _ _ _ u e => e, [], rfl, fun _ h => by cases h⟩
  · rw [List.set_eq_of_length_le (by omega), List.set_eq_of_length_le (by rw [S.len]; omega)]
    exact S
theorem sd_tryAs (c : Ctx P w K mg base T k X) (st : StkC X) (i : Nat) {n x : Str} {cv : Value} {b₀ : Stmt} {suite : List Stmt} {np pos' : Pos} (hN : T.N[i]? = some n) (hln : T.sc.names.lookup n = some .local) (hx : T.sc.names.lookup x = some .globalImplicit) (hdb : (x == ("__debug__" : Str)) = false) (hcv : mg x = some cv)
    (hb : ∀ pn xe, Ctx P w K mg base T k (X.tr pn xe) → SD (X.tr pn xe) ks body { Φ with
      nx := fun k => SD X k rest Φ,
      ex := fun ks' cls fs => ∃ b, PySem.W.exmOne K cls cv = some b ∧
        (b = true → i < ks'.length ∧ ∀ a d oe pn, Zc cls d oe → (∃ vs, oe.data = .fields vs) → CtxB false P w K mg base T k (X.suite a ((a, oe) :: pn)) →
          SD (X.suite a ((a, oe) :: pn)) (ks'.set i (.cus (excC a d fs))) (b₀ :: suite) { Φ with nx := fun k => SD X (k.set i .no) rest Φ, bk := fun _ => False, ct := fun _ => False, ex := fun _ _ _ => False }) ∧
        (b = false → Φ.ex ks' cls fs) }) :
    SD X ks (.Try body [.ExceptHandler (some (.Name x np)) (some n) (b₀ :: suite) pos'] [] [] pos :: rest) Φ := fun W σ G H D S M => by
  obtain ⟨⟨Wx, tk, hwx⟩, hrc⟩ := M.ex
  have hK := c.hK
  subst hK
  refine sv_of (pss_cons (ps_try_as (i := i) (n := n) (c := cv) (tb := fun W' D' σ' H' => ∀ pn xe, Takes (X.tr pn xe) W' → PassesOwn (model X.prog X.w) X.A X.env xe → SV (X.tr pn xe) body D' σ' H')
    (ts := fun a cls d D' σ' H' => ∀ oe pn, Zc cls d oe → (∃ vs, oe.data = .fields vs) → SV (X.suite a ((a, oe) :: pn)) (b₀ :: suite) D' σ' H') (Wout := Wx) st.hs st.hf (nd_of c) (ix_of c hN) (by show X.env.scope.names.lookup n = some .local; rw [c.hs]; exact hln)
    ⟨gl_of c hx, hdb, .inl (by rw [c.hmg]; exact hcv)⟩ tk (fun W' pn xe tk' po => ⟨fun pins s σ H D I h => (h pn xe tk' po).run pins s I⟩) (fun a oe cls d pn hz hf => ⟨fun pins s σ H D I h => (h oe pn hz hf).run pins s I⟩)) pss_sv) ?_
  intro pn xe tk' po
  refine hb pn xe (c.tr po) W σ G H _ S ⟨fun ks σ G H q S => q W σ G H D S M, M.bk, M.ct, M.rt, M.rl, M.rT, ⟨⟨_, tk', fun ks' σ' G' H' cls d fs q S' r' => ?_⟩, hrc⟩⟩
  obtain ⟨b, e, h1, h0⟩ := q
  refine ⟨b, e, fun hb' a na oe pn hz hf => ?_, fun hb' => hwx ks' σ' G' H' cls d fs (h0 hb') S' r'⟩
  obtain ⟨hi, h1⟩ := h1 hb'
  have S2 : Sts X.K W (ks'.set i (.cus (excC a d fs))) (σ'.set i (some (.ref a))) G' H' := S'.put hi S'.le (Same.refl _) (fun _ _ e _ => e) fun ow o f => ⟨fun _ _ _ _ u e => e, [], ⟨rfl, rfl, r'⟩, fun _ h => by cases h⟩
  refine h1 a d oe pn hz hf c.suite W _ G' H' _ S2 ⟨fun ks σ G H q S => q W _ G H D (S.unset i) M, fun _ _ _ _ z => z.elim, fun _ _ _ _ z => z.elim, M.rt, M.rl, M.rT, ⟨⟨fun _ _ _ _ => False, fun u s' ⟨_, _, _, _, _, _, _, _, _, _, _, _, _, _, _, _, z⟩ => z, fun _ _ _ _ _ _ _ z => z.elim⟩, hrc⟩⟩
/-! ### in the suite -/
structure ExcI (K : PySem.W.Frag) (C : Addr) : Prop where
  hcl : (PySem.W.clsIn K C).isSome = true
  hga : PySem.W.findIn K (.ref C) "__getattribute__" = some (some (.builtin "BaseException.__getattribute__"))
  hgt : PySem.W.findIn K (.ref C) "__getattr__" = some none
  hsub : PySem.W.subIn K (.ref C) (.type "BaseException") = some true
  ha : PySem.W.findIn K (.ref C) "__class__" = some (some (.builtin "object.__class__"))
  hn : PySem.W.specialIn K (.builtin "object.__class__") "__get__" = some (some (.builtin "getset_descriptor.__get__"))
  ht : PySem.W.takesIn K (.builtin "object.__class__") = some true
  hm : PySem.W.mroIn K C (.type "object") = some true
  hd : PySem.W.hasDictIn K C = true
/-- e.f -/
theorem ed_excF (c : CtxB cq P w K mg base T k (Y.suite a ((a, oe) :: pn))) (E : ExcI K C) (hz : Zc (.ref C) d oe) (hf : ∃ vs, oe.data = .fields vs) (i : Nat) {n f : Str} {q1 : Pos} (hN : T.N[i]? = some n) (hv : Vis T.sc n) (hk : ks[i]? = some (.cus (excC a d fs))) (hno : PySem.W.findIn K (.ref C) f = some none) (hl : fs.lookup f = some d')
    (hd : (n == ("__debug__" : Str)) = false) (hcd : (n == ("__classdict__" : Str)) = false) (hb : attributeBase (.Name n q1) f Y.env (eval (.Name n q1) Y.env) = eval (.Name n q1) Y.env) :
    ED (Y.suite a ((a, oe) :: pn)) ks (.Attribute (.Name n q1) f pos) ks d' := fun W σ G H S Q qq => by
  have hK : Y.K = K := c.hK
  subst hK
  refine ev_of (pe_xf ⟨E.hga, E.hgt, E.hsub, E.hd⟩ hno hz hf (pe_var (ix_of c hN) (vis_of c hv) hd hcd) hb) ?_
  obtain ⟨as, z⟩ := S.at hk
  obtain ⟨_, e1, r⟩ := z
  cases d with
  | none =>
    have r : fs = [] := r
    subst r
    cases hl
  | some dd =>
    obtain ⟨vs, a1, a2⟩ := r
    obtain ⟨v, b1, b2⟩ := a2.get hl
    exact ⟨.ref a, S.there (List.getElem?_eq_some_iff.mp hk).1 e1, rfl, rfl, dd, vs, v, rfl, S.gh _ _ a1, b1, qq v G H S (Same.refl G) b2⟩
end
end Z
namespace Z
open PySem PySem.Spec L2
variable [Tabl]
/-! ### defs that are handed an instance first -/
section
variable {P : Program} {w : World} {K : PySem.W.Frag} {mg : Str → Option Value} {base : Heap} {T : Sta} {k : Nat} {X : Cx} {ks k1 k2 k3 : List SK} {a b e o : Expr} {es : List Expr} {d da db : PyData} {ds ds' el : List PyData} {pos p tpos apos : Pos} {rest : List Stmt} {Φ : Po} {C : Addr} {fs : List (Str × PyData)}
theorem fn_sdID {R : List (Str × PyData) → List PyData → PyData → Prop} {x : Str} {st : Stmt} {N ps : List Str} {k : Nat} (D : DefAt K mg x st ps) (S : FnScope N ps (defScope st)) (hl : ∀ fs ds d, R fs ds d → ds.length + 1 = ps.length) (hN : ps.length ≤ N.length)
    (h : ∀ X, Ctx P w K mg base ⟨N, defScope st, fun _ => true⟩ k X → ∀ fs ds d, R fs ds d → SD X (.ins C fs :: (ds.map SK.dat ++ List.replicate (N.length - (ds.length + 1)) .no)) (defBody st) { nx := fun _ => d = .none, rt := fun _ d' => d' = d, rl := fun _ ds' => d = .list ds' }) :
    FnG P w K mg base x ps (k + 1) (spI K C R) := by
  obtain ⟨f, fd, F, hm, hb⟩ := D.ex
  refine ⟨f, fd, ?_, hm, F.kp, hb⟩
  refine F.ok S (fun vs H Q E ⟨G, p, dx, ivs, fs, ws, ds, d, e, _, _, _, _, r, hR, _⟩ => by rw [e, List.length_cons, r.len]; exact hl fs ds d hR) (fun cdv A outer s H vs Q E hr ⟨G, p, dx, ivs, fs, ws, ds, d, e, g, tb, hp, hi, r, hR, q⟩ => ⟨_, pss_sv, ?_⟩)
  subst e
  have S0 := start_ins (N := N) (Le.refl g tb) hp hi r (by rw [hl fs ds d hR]; exact hN)
  refine h _ (cxOf_ctx S cdv A outer s H E hr) fs ds d hR _ _ G H _ S0 ⟨fun ks σ G' H' e S' => ?_, fun _ _ _ _ z => z.elim, fun _ _ _ _ z => z.elim, fun ks σ G' H' v d' e S' r' => ?_, fun ks σ G' H' a ds' e S' => ?_, fun _ _ _ _ _ _ _ _ z => z.elim, ex0⟩
  · exact q .non G' H' S'.le (by rw [e]; exact .non)
  · exact q v G' H' S'.le (by rw [← e]; exact r')
  · obtain ⟨G2, S2, g2, r2⟩ := S'.popFreeze
    exact q _ G2 H' S2.le (by rw [e]; exact r2)
theorem ed_callI (c : Ctx P w K mg base T k X) {x : Str} {ps : List Str} {j : Nat} {R : List (Str × PyData) → List PyData → PyData → Prop} (F : FnG P w K mg base x ps j (spI K C R)) (hj : j ≤ k) (hg : T.sc.names.lookup x = some .globalImplicit) (ho : EI X ks o k1 C fs) (ha : AD X k1 es k2 ds) (hR : R fs ds d) (hdb : (x == ("__debug__" : Str)) = false)
    (he : starEach (o :: es) X.env = (false, eval o X.env) :: starEach es X.env) (hpl : (backTo pos (starEach es X.env)).any (·.1) = false) : ED X ks (.Call (.Name x p) (o :: es) [] pos) k2 d := fun W σ G H S Q q => by
  have hK := c.hK
  refine ev_of (fn_run c F hj hg hdb he hpl (pa_cons pe_ev pa_av he)) ?_
  refine ho W σ G H S _ fun p dx vs G1 H1 S1 g1 hp r => ?_
  refine ha W σ G1 H1 S1 _ fun ws G2 H2 S2 g2 r2 => ?_
  show spI K C R (.ref _ :: ws ++ []) H2 Q E0
  rw [List.append_nil]
  have r := r.mono g2
  rw [hK] at r r2
  exact ⟨G2, p, dx, vs, fs, ws, ds, d, rfl, S2.gh, S2.le.tb, g2 _ _ hp, r, r2, hR, fun v G3 H3 l r3 => q v G3 H3 (S2.step l) ((g1.trans g2).trans l.g) (by rw [hK]; exact r3)⟩
end
end Z
namespace Z
open PySem PySem.Spec L2
variable [Tabl]
/-! ### a list that is lent -/
def borC (a : Addr) (ds : List PyData) : Cus :=
  ⟨fun K G H o as => as = [a] ∧ o = some (.ref a) ∧ ∃ vs, H a = some (.lst vs) ∧ DpAll K G vs ds, true,
   fun K G H G2 H2 o as e ⟨x, y, vs, z, r⟩ k2 => ⟨x, y, vs, k2 a (by rw [x]; simp) _ z, DpAll.mono e r⟩,
   fun K G H o as ⟨x, y, vs, z, r⟩ b hb => by rw [x] at hb; simp at hb; subst hb; exact ⟨_, z, fun _ q => by cases q⟩⟩
/-- slot k holds the list ds, our own or lent -/
def LsK (k : SK) (ds : List PyData) : Prop := k = .own ds ∨ ∃ a, k = .cus (borC a ds)
section
variable {K : PySem.W.Frag} {W : Wd} {ks : List SK} {σ : St} {G H G2 H2 : Hp} {i : Nat} {k' : SK} {cs : List PyData}
/-- how a body begins, by what is handed in -/
theorem start_any {M : Addr → Prop} {N : List Str} {vs : List V} {ks0 : List SK} {ow : Nat → List Addr} (g : Same G H) (tb : TbO G H) (hm : ∀ a, M a → ∃ o, H a = some o) (hl : vs.length = ks0.length) (hN : ks0.length ≤ N.length)
    (dis : ∀ i j a, a ∈ ow i → a ∈ ow j → i = j) (mine : ∀ i a, a ∈ ow i → G a = none ∧ M a ∧ ∃ k, ks0[i]? = some k ∧ isRng k = true) (out : ∀ i, ks0.length ≤ i → ow i = []) (h : ∀ i k, ks0[i]? = some k → Sl K G H k (vs[i]?) (ow i)) :
    Sts K ⟨G, H, M⟩ (ks0 ++ List.replicate (N.length - ks0.length) .no) (L2.start N vs) G H := by
  refine ⟨⟨Same.refl G, g, fun _ _ _ _ e => e, fun _ o e => ⟨o, e⟩, fun _ _ e _ => e, hm, tb⟩, by simp [L2.start]; omega, ow, ⟨dis, fun i a ha => ?_, fun i hi => out i (by simp at hi; omega)⟩, fun i k hk => ?_⟩
  · obtain ⟨m1, m2, k, m3, m4⟩ := mine i a ha
    exact ⟨m1, .inr ⟨m2, k, by rw [List.getElem?_append_left (List.getElem?_eq_some_iff.mp m3).1]; exact m3, m4⟩⟩
  · by_cases q : i < ks0.length
    · rw [List.getElem?_append_left q] at hk
      have := h i k hk
      have e : ((L2.start N vs)[i]?).getD none = vs[i]? := by
        unfold L2.start
        rw [List.getElem?_append_left (by simp; omega), List.getElem?_map]
        cases vs[i]? <;> rfl
      rw [e]
      exact this
    · rw [List.getElem?_append_right (by omega)] at hk
      have := List.mem_of_getElem? hk
      rw [List.mem_replicate] at this
      rw [this.2]
      exact (show ow i = [] from out i (by omega))
theorem Sts.lsAt (S : Sts K W ks σ G H) (hk : ks[i]? = some k') (hl : LsK k' cs) : ∃ a vs, σ[i]? = some (some (.ref a)) ∧ H a = some (.lst vs) ∧ DpAll K G vs cs ∧ G a = none ∧ (W.H a = none ∨ W.M a ∧ isRng k' = true) ∧
    ∀ ow, Ow W ks G ow → (∀ i k, ks[i]? = some k → Sl K G H k ((σ[i]?).getD none) (ow i)) → ow i = [a] := by
  have hi := (List.getElem?_eq_some_iff.mp hk).1
  have S0 := S
  obtain ⟨le, len, ow, o, f⟩ := S
  have key : ∃ a vs, (σ[i]?).getD none = some (.ref a) ∧ ow i = [a] ∧ H a = some (.lst vs) ∧ DpAll K G vs cs ∧ ∀ ow' : Nat → List Addr, Sl K G H k' ((σ[i]?).getD none) (ow' i) → ow' i = [a] := by
    have z := f i k' hk
    rcases hl with rfl | ⟨a, rfl⟩
    · obtain ⟨a, vs, e1, e2, e3, e4⟩ := z
      refine ⟨a, vs, e1, e2, e3, e4, fun ow' z' => ?_⟩
      obtain ⟨a', vs', d1, d2, d3, d4⟩ := z'
      rw [e1] at d1
      cases d1
      exact d2
    · obtain ⟨e1, e2, vs, e3, e4⟩ := z
      exact ⟨a, vs, e2, e1, e3, e4, fun ow' z' => z'.1⟩
  obtain ⟨a, vs, e1, e2, e3, e4, e5⟩ := key
  obtain ⟨m1, m2⟩ := o.mine i a (by rw [e2]; simp)
  refine ⟨a, vs, S0.there hi e1, e3, e4, m1, m2.imp id fun ⟨z, k, q1, q2⟩ => ⟨z, ?_⟩, fun ow' o' f' => e5 ow' (f' i k' hk)⟩
  rw [hk] at q1
  cases q1
  exact q2
/-- behind a call to which the list was lent -/
theorem Sts.lent {a : Addr} {us : List V} (S : Sts K W ks σ G H) (hk : ks[i]? = some k') (hl : LsK k' cs) (ha : σ[i]? = some (some (.ref a))) (l : Le ⟨G, H, fun x => x = a⟩ G2 H2) (h2 : H2 a = some (.lst us)) (r : DpAll K G2 us cs) : Sts K W ks σ G2 H2 := by
  obtain ⟨a', vs, e1, e2, e3, e4, e5, e6⟩ := S.lsAt hk hl
  rw [ha] at e1
  cases e1
  have hi := (List.getElem?_eq_some_iff.mp hk).1
  have hσ : σ.set i (some (.ref a)) = σ := by
    apply List.ext_getElem?
    intro j
    by_cases q : j = i
    · subst q; rw [List.getElem?_set_self (by rw [S.len]; exact hi), ha]
    · rw [List.getElem?_set_ne (Ne.symm q)]
  have hks : ks.set i k' = ks := by
    apply List.ext_getElem?
    intro j
    by_cases q : j = i
    · subst q; rw [List.getElem?_set_self hi, hk]
    · rw [List.getElem?_set_ne (Ne.symm q)]
  have nab : ∀ x u, ¬ W.M x → W.H x = some u → ¬ (x = a) := fun x u hm hx z => by
    subst z
    rcases e5 with e5 | e5
    · rw [hx] at e5; cases e5
    · exact hm e5.1
  have le : Le W G2 H2 := ⟨S.le.g.trans l.g, l.gh, fun x u hm nt hx => l.keep x u (nab x u hm hx) nt (S.le.keep x u hm nt hx), fun x u hx => by
    obtain ⟨u', hu⟩ := S.le.there x u hx
    exact l.there x u' hu, fun x u h1 h2 => by
    obtain ⟨u', hu⟩ := S.le.there x u h2
    exact l.fz x u' (S.le.fz x u h1 h2) hu, S.le.m, l.tb⟩
  rw [← hσ, ← hks]
  refine S.put hi le l.g (fun x u h1 h2 => l.fz x u h1 h2) fun ow' o' f' => ?_
  have q2 := e6 ow' o' f'
  refine ⟨fun j x hj hx u hu => by
    obtain ⟨u', hu', nt⟩ := o'.liveN f' j x hx
    rw [hu] at hu'
    cases hu'
    refine l.keep x u ?_ nt hu
    intro z
    subst z
    exact hj (o'.dis j i _ hx (by rw [q2]; simp)), [a], ?_, fun x hx => ?_⟩
  · rcases hl with rfl | ⟨a', rfl⟩
    · exact ⟨a, us, rfl, rfl, h2, r⟩
    · obtain ⟨_, z, _⟩ := f' i _ hk
      rw [ha] at z
      cases z
      exact ⟨rfl, rfl, us, h2, r⟩
  · have : x = a := by simpa using hx
    subst this
    exact ⟨fun j hj hx' => hj (o'.dis j i x hx' (by rw [q2]; simp)), l.fz x _ e4 e2, e5⟩
def dKeep : SK → SK
  | .dat d => .dat d
  | .ins C fs => .ins C fs
  | _ => .no
/-- the list looked at as data -/
def view2 (ks : List SK) (j : Nat) (ds : List PyData) : List SK := (ks.map dKeep).set j (.dat (.list ds))
theorem view2_sts {j : Nat} (S : Sts K W ks σ G H) (hk : ks[j]? = some k') (hl : LsK k' cs) : ∃ a vs, σ[j]? = some (some (.ref a)) ∧ H a = some (.lst vs) ∧ G a = none ∧ DpAll K G vs cs ∧ Sts K (pur (upd G a (.lst vs)) H) (view2 ks j cs) σ (upd G a (.lst vs)) H := by
  obtain ⟨a, vs, e1, e2, e3, e4, e5, e6⟩ := S.lsAt hk hl
  have gg : Same G (upd G a (.lst vs)) := fun b u e => by
    have : b ≠ a := fun z => by rw [z, e4] at e; cases e
    rw [upd_ne this]; exact e
  have gh : Same (upd G a (.lst vs)) H := fun b u e => by
    by_cases z : b = a
    · subst z; rw [upd_same] at e; cases e; exact e2
    · rw [upd_ne z] at e; exact S.gh b u e
  have hj := (List.getElem?_eq_some_iff.mp hk).1
  have tb := S.le.tb
  obtain ⟨le, len, ow, o, f⟩ := S
  refine ⟨a, vs, e1, e2, e4, e3, ⟨Le.refl gh (tb.updG e2 pl_lst), by rw [len]; simp [view2], fun _ => [], ⟨fun _ _ _ h _ => (by cases h), fun _ _ h => (by cases h), fun _ _ => rfl⟩, fun i q hq => ?_⟩⟩
  unfold view2 at hq
  by_cases z : i = j
  · subst z
    rw [List.getElem?_set_self (by simpa using hj)] at hq
    cases hq
    refine ⟨rfl, .ref a, by rw [e1]; rfl, .lst (SqL.of upd_same) (DpAll.mono gg e3)⟩
  · rw [List.getElem?_set_ne (Ne.symm z), List.getElem?_map] at hq
    cases e : ks[i]? with
    | none => rw [e] at hq; cases hq
    | some q' =>
      rw [e] at hq
      have hq : dKeep q' = q := Option.some.inj hq
      cases q' with
      | dat d =>
        subst hq
        obtain ⟨h0, v, h1, h2⟩ := f i _ e
        exact ⟨rfl, v, h1, Dp.mono gg h2⟩
      | ins C fs =>
        subst hq
        obtain ⟨h0, p, dx, vs', h1, h2, h3⟩ := f i _ e
        exact ⟨rfl, p, dx, vs', h1, gg _ _ h2, FsD.mono gg h3⟩
      | _ => subst hq; exact (show ([] : List Addr) = [] from rfl)
end
section
variable {P : Program} {w : World} {K : PySem.W.Frag} {mg : Str → Option Value} {base : Heap} {T : Sta} {k : Nat} {X : Cx} {ks k1 k2 k3 : List SK} {a b e o : Expr} {es : List Expr} {d da db : PyData} {ds ds' el cs : List PyData} {pos p tpos apos : Pos} {rest : List Stmt} {Φ : Po} {C : Addr} {fs : List (Str × PyData)} {k' : SK}
/-- something flat told of a list of our own, or lent -/
theorem ed_thawL (j : Nat) (hk : ks[j]? = some k') (hl : LsK k' cs) (hf : flatD d = true) (h : ED X (view2 ks j cs) e (view2 ks j cs) d) : ED X ks e ks d := fun W σ G H S Q q => by
  obtain ⟨a, vs, e1, e2, e4, e3, S'⟩ := view2_sts S hk hl
  refine h _ σ _ H S' Q fun v G2 H2 S2 g2 r => ?_
  exact q v _ H2 (S.step (thaw_le e4 e2 S.gh S2.le)) (less_gg e4 g2) (Dp.flat hf r)
/-- arguments that end with such a list, in slot i -/
def AB (X : Cx) (ks : List SK) (es : List Expr) (ks' : List SK) (ds : List PyData) (i : Nat) : Prop :=
  ∀ W σ G H, Sts X.K W ks σ G H → ∀ Q : List V → Hp → Prop, (∀ vs a G2 H2, Sts X.K W ks' σ G2 H2 → Same G G2 → DpAll X.K G2 vs ds → σ[i]? = some (some (.ref a)) → Q (vs ++ [.ref a]) H2) → AV X es σ H Q
theorem ab_one (c : CtxB cq P w K mg base T k X) (i : Nat) {x : Str} (hN : T.N[i]? = some x) (hv : Vis T.sc x) (hk : ks[i]? = some k') (hl : LsK k' cs) (hd : (x == ("__debug__" : Str)) = false) (hcd : (x == ("__classdict__" : Str)) = false)
    (hs : starEach [.Name x p] X.env = (false, eval (.Name x p) X.env) :: starEach [] X.env) : AB X ks [.Name x p] ks [] i := fun W σ G H S Q q => by
  obtain ⟨a, vs, e1, _⟩ := S.lsAt hk hl
  exact av_of (pa_cons (pe_var (ix_of c hN) (vis_of c hv) hd hcd) pa_nil hs) ⟨.ref a, e1, q [] a G H S (Same.refl G) .nil e1⟩
theorem ab_cons {i : Nat} (ha : ED X ks a k1 d) (hr : AB X k1 es k2 ds i) (hs : starEach (a :: es) X.env = (false, eval a X.env) :: starEach es X.env) : AB X ks (a :: es) k2 (d :: ds) i := fun W σ G H S Q q =>
  av_of (pa_cons pe_ev pa_av hs) (ha W σ G H S _ fun v G1 H1 S1 g1 r1 => hr W σ G1 H1 S1 _ fun vs a G2 H2 S2 g2 r2 e2 => q (v :: vs) a G2 H2 S2 (g1.trans g2) (.cons (Dp.mono g2 r1) r2) e2)
/-- a method whose last argument is such a list, that stays as it is -/
def spIB (K : PySem.W.Frag) (C : Addr) (R : List (Str × PyData) → List PyData → List PyData → PyData → Prop) : L2.Sp := fun vs H Q _ => ∃ G p dx ivs fs ws ds a us cs d, vs = V.ref p :: (ws ++ [V.ref a]) ∧ Same G H ∧ TbO G H ∧ G p = some (.ins C dx ivs) ∧ FsD K G ivs fs ∧ DpAll K G ws ds ∧
  G a = none ∧ H a = some (.lst us) ∧ DpAll K G us cs ∧ R fs ds cs d ∧ ∀ v G2 H2 us2, Le ⟨G, H, fun x => x = a⟩ G2 H2 → H2 a = some (.lst us2) → DpAll K G2 us2 cs → Dp K G2 v d → Q v H2
theorem ed_methB (c : Ctx P w K mg base T k X) {m : Str} {ps : List Str} {j i : Nat} {R : List (Str × PyData) → List PyData → List PyData → PyData → Prop} {pl : Sem Bool} (cl : Cls X.K C) (F : MethG P w K mg base C m ps j (spIB K C R)) (hj : j ≤ k) (ho : EI X ks o k1 C fs) (hno : fs.lookup m = none) (ha : AB X k1 (e :: es) k2 ds i) (hk : k2[i]? = some k') (hl : LsK k' cs) (hR : R fs ds cs d)
    (hst : starEach (e :: es) X.env = (false, eval e X.env) :: starEach es X.env) (hpl : (backTo pos (starEach es X.env)).any (·.1) = false)
    (ht : eval (.Call (.Attribute o m apos) (e :: es) [] pos) X.env = (do
      let ov ← eval o X.env
      standAt apos.atName
      let (f, first) ← holding [ov] (getMethod ov m pl)
      callWith pos f first (backTo pos (starEach (e :: es) X.env)) (backToKw pos (keywordEach [] X.env)))) : ED X ks (.Call (.Attribute o m apos) (e :: es) [] pos) k2 d := fun W σ G H S Q q => by
  obtain ⟨f, fd, F, hm, hb⟩ := F.ex
  have h1 := c.hP
  have h2 := c.hw
  have h3 := c.hK
  have h4 := c.hmg
  have h5 := c.hbase
  subst h1 h2 h3 h4 h5
  refine ev_of (pe_meth pe_ev cl hm F (c.room.mono hj) hb .nil pass0 pa_av hst hpl ht) (ho W σ G H S _ fun p dx vs G1 H1 S1 g1 hp r => ⟨p, dx, vs, rfl, S1.gh _ _ hp, r.none hno, ?_⟩)
  refine ha W σ G1 H1 S1 _ fun ws a G2 H2 S2 g2 r2 ea => ?_
  obtain ⟨a', us, e1, e2, e3, e4, e5, e6⟩ := S2.lsAt hk hl
  rw [ea] at e1
  cases e1
  rw [List.append_nil]
  exact ⟨G2, p, dx, vs, fs, ws, ds, a, us, cs, d, rfl, S2.gh, S2.le.tb, g2 _ _ hp, r.mono g2, r2, e4, e2, e3, hR, fun v G3 H3 us2 l h3 r3 r4 => q v G3 H3 (S2.lent hk hl ea l h3 r3) ((g1.trans g2).trans l.g) r4⟩
theorem fn_sdIB {R : List (Str × PyData) → List PyData → List PyData → PyData → Prop} {m qual : Str} {st : Stmt} {N ps : List Str} {k : Nat} (D : MethAt K C m qual st ps) (S : FnScope N ps (defScope st)) (hl : ∀ fs ds cs d, R fs ds cs d → ds.length + 2 = ps.length) (hN : ps.length ≤ N.length)
    (h : ∀ X, Ctx P w K mg base ⟨N, defScope st, fun _ => true⟩ k X → ∀ fs ds cs d a, R fs ds cs d → SD X ((.ins C fs :: (ds.map SK.dat ++ [.cus (borC a cs)])) ++ List.replicate (N.length - ps.length) .no) (defBody st)
      { nx := fun ks => d = .none ∧ ks[ds.length + 1]? = some (.cus (borC a cs)), rt := fun ks d' => d' = d ∧ ks[ds.length + 1]? = some (.cus (borC a cs)), rl := fun ks ds' => d = .list ds' ∧ ks[ds.length + 1]? = some (.cus (borC a cs)) }) :
    MethG P w K mg base C m ps (k + 1) (spIB K C R) := by
  obtain ⟨f, fd, F, hm, hb⟩ := D.ex
  refine ⟨f, fd, ?_, hm, hb⟩
  refine F.ok S (fun vs H Q E ⟨G, p, dx, ivs, fs, ws, ds, a, us, cs, d, e, _, _, _, _, r, _, _, _, hR, _⟩ => by rw [e, List.length_cons, List.length_append, r.len]; exact hl fs ds cs d hR) (fun cdv A outer s H vs Q E hr ⟨G, p, dx, ivs, fs, ws, ds, a, us, cs, d, e, g, tb, hp, hi, r, ga, ha, rr, hR, q⟩ => ⟨_, pss_sv, ?_⟩)
  subst e
  have hlen := hl fs ds cs d hR
  have hws := r.len
  have S0 : Sts K ⟨G, H, fun x => x = a⟩ ((.ins C fs :: (ds.map SK.dat ++ [.cus (borC a cs)])) ++ List.replicate (N.length - (SK.ins C fs :: (ds.map SK.dat ++ [.cus (borC a cs)])).length) .no) (L2.start N (V.ref p :: (ws ++ [V.ref a]))) G H := by
    refine start_any (ow := fun i => if i = ds.length + 1 then [a] else []) g tb (fun b z => ⟨.lst us, by rw [show b = a from z]; exact ha⟩) (by simp; omega) (by simp; omega) (fun i j b h1 h2 => ?_) (fun i b h1 => ?_) (fun i hi => ?_) (fun i q hq => ?_)
    · by_cases z1 : i = ds.length + 1
      · by_cases z2 : j = ds.length + 1
        · omega
        · simp only [z2, if_false] at h2; cases h2
      · simp only [z1, if_false] at h1; cases h1
    · by_cases z1 : i = ds.length + 1
      · simp only [z1, if_true] at h1
        have z : b = a := by simpa using h1
        subst z
        refine ⟨ga, rfl, .cus (borC b cs), ?_, rfl⟩
        rw [z1, List.getElem?_cons_succ, List.getElem?_append_right (by simp)]
        simp
      · simp only [z1, if_false] at h1; cases h1
    · have : i ≠ ds.length + 1 := by simp at hi; omega
      simp only [this, if_false]
    · cases i with
      | zero =>
        cases hq
        have : (0 : Nat) ≠ ds.length + 1 := by omega
        simp only [this, if_false]
        exact ⟨rfl, p, dx, ivs, rfl, hp, hi⟩
      | succ i =>
        rw [List.getElem?_cons_succ] at hq ⊢
        by_cases z1 : i < ds.length
        · rw [List.getElem?_append_left (by simpa using z1), List.getElem?_map] at hq
          rw [List.getElem?_append_left (by omega)]
          have : i + 1 ≠ ds.length + 1 := by omega
          simp only [this, if_false]
          cases e : ds[i]? with
          | none => rw [e] at hq; cases hq
          | some d' =>
            rw [e] at hq
            cases hq
            obtain ⟨v, e1, e2⟩ := r.get e
            exact ⟨rfl, v, e1, e2⟩
        · rw [List.getElem?_append_right (by simp; omega)] at hq
          have z2 : i = ds.length := by
            have := (List.getElem?_eq_some_iff.mp hq).1
            simp at this
            omega
          subst z2
          simp at hq
          subst hq
          simp only [if_true]
          rw [List.getElem?_append_right (by omega)]
          exact ⟨rfl, by simp [hws], us, ha, rr⟩
  have hz : (SK.ins C fs :: (ds.map SK.dat ++ [.cus (borC a cs)])).length = ps.length := by simp; omega
  rw [hz] at S0
  have back : ∀ {ks : List SK} {σ : St} {G' H' : Hp}, ks[ds.length + 1]? = some (.cus (borC a cs)) → Sts K ⟨G, H, fun x => x = a⟩ ks σ G' H' → ∃ us2, H' a = some (.lst us2) ∧ DpAll K G' us2 cs := fun {ks σ G' H'} e S' => by
    obtain ⟨as, z⟩ := S'.at e
    obtain ⟨_, _, us2, h1, h2⟩ := z
    exact ⟨us2, h1, h2⟩
  refine h _ (cxOf_ctx S cdv A outer s H E hr) fs ds cs d a hR _ _ G H _ S0 ⟨fun ks σ G' H' e S' => ?_, fun _ _ _ _ z => z.elim, fun _ _ _ _ z => z.elim, fun ks σ G' H' v d' e S' r' => ?_, fun ks σ G' H' b ds' e S' => ?_, fun _ _ _ _ _ _ _ _ z => z.elim, ex0⟩
  · obtain ⟨us2, h1, h2⟩ := back e.2 S'
    exact q .non G' H' us2 S'.le h1 h2 (by rw [e.1]; exact .non)
  · obtain ⟨us2, h1, h2⟩ := back e.2 S'
    exact q v G' H' us2 S'.le h1 h2 (by rw [← e.1]; exact r')
  · obtain ⟨G2, S2, g2, r2⟩ := S'.popFreeze
    obtain ⟨us2, h1, h2⟩ := back e.2 S2
    exact q _ G2 H' us2 S2.le h1 h2 (by rw [e.1]; exact r2)
end
end Z
namespace Z
open PySem PySem.Spec L2
variable [Tabl]
section
variable {P : Program} {w : World} {K : PySem.W.Frag} {mg : Str → Option Value} {base : Heap} {T : Sta} {k : Nat} {X : Cx} {ks k1 k2 k3 : List SK} {a b e o : Expr} {es : List Expr} {d da db : PyData} {ds ds' el cs : List PyData} {pos p tpos apos : Pos} {rest : List Stmt} {Φ : Po} {C D : Addr} {fs : List (Str × PyData)}
/-- a def that lets out no exception, on its own stack -/
theorem fn_sdS {R : List PyData → PyData → Prop} {x : Str} {st : Stmt} {N ps : List Str} {k : Nat} (D : DefAt K mg x st ps) (S : FnScope N ps (defScope st)) (hl : ∀ ds d, R ds d → ds.length = ps.length) (hN : ps.length ≤ N.length)
    (h : ∀ X, Ctx P w K mg base ⟨N, defScope st, fun _ => true⟩ k X → StkC X → ∀ ds d, R ds d → SD X (ds.map SK.dat ++ List.replicate (N.length - ds.length) .no) (defBody st) { nx := fun _ => d = .none, rt := fun _ d' => d' = d, rl := fun _ ds' => d = .list ds' }) :
    FnG P w K mg base x ps (k + 1) (spP K R) := by
  obtain ⟨f, fd, F, hm, hb⟩ := D.ex
  refine ⟨f, fd, ?_, hm, F.kp, hb⟩
  refine F.ok S (fun vs H Q E ⟨G, ds, d, _, _, r, hR, _⟩ => by rw [r.len]; exact hl ds d hR) (fun cdv A outer s H vs Q E hr ⟨G, ds, d, g, tb, r, hR, q⟩ => ⟨_, pss_sv, ?_⟩)
  have S0 := start_sts (N := N) (Le.refl g tb) r (by rw [hl ds d hR]; exact hN)
  refine h _ (cxOf_ctx S cdv A outer s H E hr) ⟨rfl, rfl⟩ ds d hR _ _ G H _ S0 ⟨fun ks σ G' H' e S' => ?_, fun _ _ _ _ z => z.elim, fun _ _ _ _ z => z.elim, fun ks σ G' H' v d' e S' r' => ?_, fun ks σ G' H' a ds' e S' => ?_, fun _ _ _ _ _ _ _ _ z => z.elim, ex0⟩
  · exact q .non G' H' S'.le (by rw [e]; exact .non)
  · exact q v G' H' S'.le (by rw [← e]; exact r')
  · obtain ⟨G2, S2, g2, r2⟩ := S'.popFreeze
    exact q _ G2 H' S2.le (by rw [e]; exact r2)
/-! ### is an exception of a class one of another -/
end
end Z
namespace Z
open PySem PySem.Spec L2
variable [Tabl]
/-! ### argument lists without stars -/
def isStar : Expr → Bool
  | .Starred _ _ => true
  | _ => false
theorem starE {e : Expr} {es : List Expr} {env : Env} (h : isStar e = false) : starEach (e :: es) env = (false, eval e env) :: starEach es env := by
  cases e <;> first | rfl | cases h
/-! ### a def that draws, of which only a word is told -/
section
variable {P : Program} {w : World} {K : PySem.W.Frag} {mg : Str → Option Value} {base : Heap} {T : Sta} {k : Nat} {X : Cx} {ks k1 k2 k3 : List SK} {a b e o : Expr} {es : List Expr} {d da db : PyData} {ds ds' el cs : List PyData} {pos p tpos apos : Pos} {rest : List Stmt} {Φ : Po}
theorem ad_consN (ha : ED X ks a k1 d) (hr : AD X k1 es k2 ds) (h : isStar a = false) : AD X ks (a :: es) k2 (d :: ds) := ad_cons ha hr (starE h)
end
end Z
namespace Z
open PySem PySem.Spec L2
variable [Tabl]
/-! ### an index into what raises -/
section
variable {P : Program} {w : World} {K : PySem.W.Frag} {mg : Str → Option Value} {base : Heap} {T : Sta} {k : Nat} {X : Cx} {ks k1 k2 k3 : List SK} {a b e o : Expr} {es : List Expr} {d da db : PyData} {ds ds' el cs : List PyData} {pos p tpos apos : Pos} {rest : List Stmt} {Φ : Po} {cls : Value} {fs : List (Str × PyData)}
theorem ex_ix (h : EX X ks a k1 cls fs) (hs : PlainIx b) : EX X ks (.Subscript a b pos) k1 cls fs := fun W σ G H S Wx tk q =>
  ev_of (pe_ix ix_tup pe_ev pe_ev hs) ((h W σ G H S Wx tk q).mono fun _ _ z => z.elim)
end
end Z
local macro_rules | `(tactic| kspl_open vis) => `(tactic| first | exact .inl rfl | exact .inr (.inl rfl) | exact .inr (.inr rfl))
local macro_rules | `(tactic| kspl_open loc) => `(tactic| first | exact .inl rfl | exact .inr rfl)
local macro_rules | `(tactic| kspl_open bd) => `(tactic| first | exact Z.bd_add | exact Z.bd_sub | exact Z.bd_mod (by first | decide | omega) | exact Z.bd_fdiv ⟨by first | decide | omega, by first | decide | omega⟩ | exact Z.bd_mul (.inl ⟨by omega, by omega⟩) | exact Z.bd_mul (.inr ⟨by omega, by omega⟩))
local macro_rules | `(tactic| kspl_open cd) => `(tactic| first | exact Z.cd_lt | exact Z.cd_le | exact Z.cd_gt | exact Z.cd_ge | exact Z.cd_eqI | exact Z.cd_neI | exact Z.cd_isN | exact Z.cd_notN)
local macro_rules | `(tactic| kspl_open cl) => `(tactic| first | exact Z.cl_lenT | exact Z.cl_lenL | exact Z.cl_max2 (Z.CtxB.calm (by assumption)) | exact Z.cl_min2 (Z.CtxB.calm (by assumption)) | exact Z.cl_intB | exact Z.cl_tupL | exact Z.cl_lstL | exact Z.cl_lstT)
local macro_rules | `(tactic| kspl_open ix) => `(tactic| first | rfl | assumption | exact Z.ix_fl (by assumption) | exact Z.ix_row (by assumption) (by assumption) (by assumption))
namespace K
open PySem L2 Z
def top (i : Nat) : Stmt := PySem.Challenge.pw_homingpost_k09_whole_what_cuts_say_is_so.main.body.getD i (.Pass ⟨0, 0, 0, 0⟩)
abbrev s_PostError : Stmt := top 1
abbrev s_BadBook : Stmt := top 2
abbrev s_NoOffice : Stmt := top 3
abbrev s_BadPosting : Stmt := top 4
abbrev s_NoPosting : Stmt := top 5
abbrev s_need : Stmt := top 18
abbrev s_is_office : Stmt := top 19
abbrev s_need_flights : Stmt := top 20
abbrev s_need_rows : Stmt := top 21
abbrev s_need_book : Stmt := top 22
abbrev s_need_posting : Stmt := top 23
abbrev s_need_office : Stmt := top 24
abbrev s_need_letters : Stmt := top 25
abbrev s_arrivals : Stmt := top 27
abbrev s_all_choices : Stmt := top 28
abbrev s_is_barred : Stmt := top 30
abbrev s_let_go : Stmt := top 31
abbrev s_comes : Stmt := top 32
abbrev s_posted : Stmt := top 34
abbrev s_spread : Stmt := top 35
abbrev s_without : Stmt := top 36
abbrev s_losses : Stmt := top 37
abbrev s_comes_by : Stmt := top 38
abbrev s_first_failing : Stmt := top 39
abbrev s_Ground : Stmt := top 41
abbrev s_is_cut : Stmt := top 42
abbrev s_shows : Stmt := top 43
abbrev s_narrowed : Stmt := top 45
abbrev s_posting_of : Stmt := top 46
abbrev s_fewest : Stmt := top 47
abbrev s__law_next : Stmt := top 49
abbrev s__law_hours : Stmt := top 50
abbrev s__law_book : Stmt := top 51
abbrev s__law_posting : Stmt := top 52
abbrev s__law_begins : Stmt := top 53
abbrev s__law_barred : Stmt := top 54
abbrev s__law_rows : Stmt := top 55
abbrev s__law_carried : Stmt := top 56
abbrev s__law_choices : Stmt := top 57
abbrev s__law_comes : Stmt := top 58
abbrev s__law_spread : Stmt := top 59
abbrev s__law_kept : Stmt := top 60
abbrev s__law_letters : Stmt := top 61
abbrev s__law_is_cut : Stmt := top 62
abbrev s__law_all : Stmt := top 63
abbrev s__law_has_two : Stmt := top 64
abbrev s__law_drawn : Stmt := top 65
abbrev s__law_told : Stmt := top 66
abbrev s_law : Stmt := top 67
def clsBody : Stmt → List Stmt
  | .ClassDef _ _ _ b .. => b
  | _ => []
abbrev s_NoPosting___init__ : Stmt := (clsBody s_NoPosting).getD 0 (.Pass ⟨0, 0, 0, 0⟩)
structure Exs (K : PySem.W.Frag) (mg : Str → Option Value) (aPostError aBadBook aNoOffice aBadPosting aNoPosting : Addr) : Prop where
  g_PostError : mg "PostError" = some (.ref aPostError)
  c_PostError : (PySem.W.clsIn K aPostError).isSome = true
  t_PostError : PySem.W.typeIn K (.ref aPostError) = some (.type "type")
  s_PostError : PySem.W.subIn K (.ref aPostError) (.type "BaseException") = some true
  h_PostError : PySem.W.hasDictIn K aPostError = true
  g_BadBook : mg "BadBook" = some (.ref aBadBook)
  c_BadBook : (PySem.W.clsIn K aBadBook).isSome = true
  t_BadBook : PySem.W.typeIn K (.ref aBadBook) = some (.type "type")
  s_BadBook : PySem.W.subIn K (.ref aBadBook) (.type "BaseException") = some true
  h_BadBook : PySem.W.hasDictIn K aBadBook = true
  g_NoOffice : mg "NoOffice" = some (.ref aNoOffice)
  c_NoOffice : (PySem.W.clsIn K aNoOffice).isSome = true
  t_NoOffice : PySem.W.typeIn K (.ref aNoOffice) = some (.type "type")
  s_NoOffice : PySem.W.subIn K (.ref aNoOffice) (.type "BaseException") = some true
  h_NoOffice : PySem.W.hasDictIn K aNoOffice = true
  g_BadPosting : mg "BadPosting" = some (.ref aBadPosting)
  c_BadPosting : (PySem.W.clsIn K aBadPosting).isSome = true
  t_BadPosting : PySem.W.typeIn K (.ref aBadPosting) = some (.type "type")
  s_BadPosting : PySem.W.subIn K (.ref aBadPosting) (.type "BaseException") = some true
  h_BadPosting : PySem.W.hasDictIn K aBadPosting = true
  g_NoPosting : mg "NoPosting" = some (.ref aNoPosting)
  c_NoPosting : (PySem.W.clsIn K aNoPosting).isSome = true
  t_NoPosting : PySem.W.typeIn K (.ref aNoPosting) = some (.type "type")
  s_NoPosting : PySem.W.subIn K (.ref aNoPosting) (.type "BaseException") = some true
  h_NoPosting : PySem.W.hasDictIn K aNoPosting = true
  p_NoPosting_PostError : PySem.W.subIn K (.ref aNoPosting) (.ref aPostError) = some true
  p_NoPosting_BadBook : PySem.W.subIn K (.ref aNoPosting) (.ref aBadBook) = some false
  p_NoPosting_NoOffice : PySem.W.subIn K (.ref aNoPosting) (.ref aNoOffice) = some false
  p_NoPosting_BadPosting : PySem.W.subIn K (.ref aNoPosting) (.ref aBadPosting) = some false
  p_NoPosting_NoPosting : PySem.W.subIn K (.ref aNoPosting) (.ref aNoPosting) = some true
  v_NoPosting : PySem.W.subIn K (.ref aNoPosting) (.type "ValueError") = some true
  i_NoPosting : ExcI K aNoPosting
  x_NoPosting : Exc1At K mg "NoPosting" "cuts" aNoPosting "NoPosting.__init__" s_NoPosting___init__ ["self", "cuts"]
abbrev s_Ground___init__ : Stmt := (clsBody s_Ground).getD 0 (.Pass ⟨0, 0, 0, 0⟩)
abbrev s_Ground_rows : Stmt := (clsBody s_Ground).getD 1 (.Pass ⟨0, 0, 0, 0⟩)
abbrev s_Ground_left : Stmt := (clsBody s_Ground).getD 2 (.Pass ⟨0, 0, 0, 0⟩)
abbrev s_Ground_is_cut : Stmt := (clsBody s_Ground).getD 3 (.Pass ⟨0, 0, 0, 0⟩)
abbrev s_Ground_has_two : Stmt := (clsBody s_Ground).getD 4 (.Pass ⟨0, 0, 0, 0⟩)
abbrev s_Ground_choosing : Stmt := (clsBody s_Ground).getD 5 (.Pass ⟨0, 0, 0, 0⟩)
abbrev s_Ground_first_with : Stmt := (clsBody s_Ground).getD 6 (.Pass ⟨0, 0, 0, 0⟩)
structure Ground_at (K : PySem.W.Frag) (mg : Str → Option Value) (C : Addr) : Prop where
  cl : L2.Cls K C
  mkd : MkAt K mg "Ground" C "Ground.__init__" s_Ground___init__ ["self", "book", "letters", "start", "gone", "now"]
  m_rows : MethAt K C "rows" "Ground.rows" s_Ground_rows ["self"]
  m_left : MethAt K C "left" "Ground.left" s_Ground_left ["self", "cut"]
  m_is_cut : MethAt K C "is_cut" "Ground.is_cut" s_Ground_is_cut ["self", "cut"]
  m_has_two : MethAt K C "has_two" "Ground.has_two" s_Ground_has_two ["self", "rows", "cut"]
  m_choosing : MethAt K C "choosing" "Ground.choosing" s_Ground_choosing ["self", "many", "bird", "rows", "cuts"]
  m_first_with : MethAt K C "first_with" "Ground.first_with" s_Ground_first_with ["self", "many", "cuts"]
  na_book : L2.NoAttr K C "book"
  na_letters : L2.NoAttr K C "letters"
  na_stands : L2.NoAttr K C "stands"
  na_free : L2.NoAttr K C "free"
class LamC where
  cc : Addr
  tt : Addr
instance tabOf [LamC] : Tabl := ⟨[(LamC.tt, "_law_carried.<locals>.<lambda>")]⟩
variable [LamC]
structure Md (K : PySem.W.Frag) (mg : Str → Option Value) : Prop where
  c_LEAST_OFFICES : ∃ t, mg "LEAST_OFFICES" = some (.int 2 t)
  c_MOST_OFFICES : ∃ t, mg "MOST_OFFICES" = some (.int 6 t)
  c_MOST_FLIGHT : ∃ t, mg "MOST_FLIGHT" = some (.int 9 t)
  c_MOST_STORMS : ∃ t, mg "MOST_STORMS" = some (.int 8 t)
  c_MOST_CARTS : ∃ t, mg "MOST_CARTS" = some (.int 12 t)
  c_MOST_BIRDS : ∃ t, mg "MOST_BIRDS" = some (.int 6 t)
  c_MOST_HOUR : ∃ t, mg "MOST_HOUR" = some (.int 99 t)
  c_FLIGHTS : ∃ t, mg "FLIGHTS" = some (.int 0 t)
  c_STORMS : ∃ t, mg "STORMS" = some (.int 1 t)
  c_CARTS : ∃ t, mg "CARTS" = some (.int 2 t)
  c_BIRDS : ∃ t, mg "BIRDS" = some (.int 3 t)
  d_need : DefAt K mg "need" s_need ["good", "why"]
  d_is_office : DefAt K mg "is_office" s_is_office ["book", "office"]
  d_need_flights : DefAt K mg "need_flights" s_need_flights ["book"]
  d_need_rows : DefAt K mg "need_rows" s_need_rows ["book", "place", "most", "why"]
  d_need_book : DefAt K mg "need_book" s_need_book ["book"]
  d_need_posting : DefAt K mg "need_posting" s_need_posting ["book", "posting"]
  d_need_office : DefAt K mg "need_office" s_need_office ["book", "office"]
  d_need_letters : DefAt K mg "need_letters" s_need_letters ["book", "letters"]
  d_arrivals : DefAt K mg "arrivals" s_arrivals ["book", "office", "now"]
  d_all_choices : DefAt K mg "all_choices" s_all_choices ["book", "start", "gone", "now"]
  d_is_barred : DefAt K mg "is_barred" s_is_barred ["book", "office", "home", "hour"]
  d_let_go : DefAt K mg "let_go" s_let_go ["book", "office", "home", "hour"]
  d_comes : DefAt K mg "comes" s_comes ["book", "office", "home", "hour"]
  d_posted : DefAt K mg "posted" s_posted ["posting"]
  d_spread : DefAt K mg "spread" s_spread ["book", "rows", "begins"]
  d_without : DefAt K mg "without" s_without ["rows", "bird"]
  d_losses : DefAt K mg "losses" s_losses ["rows"]
  d_comes_by : DefAt K mg "comes_by" s_comes_by ["book", "rows", "letter"]
  d_first_failing : DefAt K mg "first_failing" s_first_failing ["book", "rows", "letters"]
  d_is_cut : DefAt K mg "is_cut" s_is_cut ["book", "letters", "start", "gone", "now", "cut"]
  d_shows : DefAt K mg "shows" s_shows ["book", "letters", "start", "gone", "now", "many", "cuts"]
  d_narrowed : DefAt K mg "narrowed" s_narrowed ["ground", "rows"]
  d_posting_of : DefAt K mg "posting_of" s_posting_of ["book", "rows"]
  d_fewest : DefAt K mg "fewest" s_fewest ["book", "letters", "start", "gone", "now"]
  d__law_next : DefAt K mg "_law_next" s__law_next ["_law_h", "_law_many"]
  d__law_hours : DefAt K mg "_law_hours" s__law_hours ["_law_h", "_law_offices", "_law_most"]
  d__law_book : DefAt K mg "_law_book" s__law_book ["_law_h", "_law_offices", "_law_birds"]
  d__law_posting : DefAt K mg "_law_posting" s__law_posting ["_law_h", "_law_book_here"]
  d__law_begins : DefAt K mg "_law_begins" s__law_begins ["_law_h", "_law_book_here"]
  d__law_barred : DefAt K mg "_law_barred" s__law_barred ["_law_book_here", "_law_office", "_law_home", "_law_hour"]
  d__law_rows : DefAt K mg "_law_rows" s__law_rows ["_law_posting_here"]
  d__law_carried : DefAt K mg "_law_carried" s__law_carried ["_law_book_here", "_law_office", "_law_now"]
  d__law_choices : DefAt K mg "_law_choices" s__law_choices ["_law_book_here", "_law_start", "_law_gone", "_law_now"]
  d__law_comes : DefAt K mg "_law_comes" s__law_comes ["_law_book_here", "_law_rows_here", "_law_letter"]
  d__law_spread : DefAt K mg "_law_spread" s__law_spread ["_law_book_here", "_law_rows_here", "_law_begins_here"]
  d__law_kept : DefAt K mg "_law_kept" s__law_kept ["_law_book_here", "_law_rows_here", "_law_letters_here"]
  d__law_letters : DefAt K mg "_law_letters" s__law_letters ["_law_h", "_law_book_here"]
  d__law_is_cut : DefAt K mg "_law_is_cut" s__law_is_cut ["_law_book_here", "_law_letters_here", "_law_rows_here", "_law_cut"]
  d__law_all : DefAt K mg "_law_all" s__law_all ["_law_start_rows", "_law_free", "_law_many", "_law_most"]
  d__law_has_two : DefAt K mg "_law_has_two" s__law_has_two ["_law_rows_here", "_law_cut"]
  d__law_drawn : DefAt K mg "_law_drawn" s__law_drawn ["_law_h", "_law_rows_here"]
  d__law_told : DefAt K mg "_law_told" s__law_told ["_law_book_here", "_law_letters_here", "_law_start", "_law_gone", "_law_now"]
  b_bool : mg "bool" = none
  b_enumerate : mg "enumerate" = none
  b_int : mg "int" = none
  b_isinstance : mg "isinstance" = none
  b_len : mg "len" = none
  b_list : mg "list" = none
  b_max : mg "max" = none
  b_min : mg "min" = none
  b_range : mg "range" = none
  b_sorted : mg "sorted" = none
  b_tuple : mg "tuple" = none
  b_ValueError : mg "ValueError" = none
  exs : ∃ aPostError aBadBook aNoOffice aBadPosting aNoPosting, Exs K mg aPostError aBadBook aNoOffice aBadPosting aNoPosting
  g_Ground : ∃ C, Ground_at K mg C
  e__law_carried : DefC K mg "_law_carried" s__law_carried ["_law_book_here", "_law_office", "_law_now"] LamC.cc
end K
namespace K
open PySem L2 Z
section
variable {P : Program} {w : World} {K : PySem.W.Frag} {mg : Str → Option Value} {base : Heap} [LamC]
def R_need (ds : List PyData) (d : PyData) : Prop := ∃ b w, ds = [.bool b, w] ∧ b = true ∧ d = .none
theorem ok_need (M : Md K mg) : FnG P w K mg base "need" ["good", "why"] 1 (spP K R_need) := by
  refine fn_sd (N := ["good", "why"]) M.d_need ⟨rfl, rfl, rfl, by decide +kernel, rfl, by decide +kernel, by decide +kernel⟩ (fun ds d ⟨_, _, e, _⟩ => by rw [e]; rfl) (by decide) (fun X c ds d hR => ?_)
  obtain ⟨b, w, rfl, rfl, rfl⟩ := hR
  show SD X [.dat (.bool true), .dat w] _ _
  refine sd_if (td_not (td_val (ed_var c 0 rfl (.inl rfl) rfl rfl rfl) (fun _ => rfl))) (fun hb => ?_) (fun hb => ?_)
  · cases hb
  · exact sd_nil (sd_nil rfl)
def R_is_office (ds : List PyData) (d : PyData) : Prop := ∃ B o, ds = [eBook B, .int o] ∧ d = .bool (decide (0 ≤ o) && decide (o < (B.n : Int)))
theorem ok_is_office (M : Md K mg) : FnG P w K mg base "is_office" ["book", "office"] 1 (spP K R_is_office) := by
  refine fn_sd (N := ["book", "office"]) M.d_is_office ⟨rfl, rfl, rfl, by decide +kernel, rfl, by decide +kernel, by decide +kernel⟩ (fun ds d ⟨_, _, e, _⟩ => by rw [e]; rfl) (by decide) (fun X c ds d hR => ?_)
  obtain ⟨B, o, rfl, rfl⟩ := hR
  show SD X [.dat (eBook B), .dat (.int o)] _ _
  refine sd_ret (ed_chain ed_int (ed_var c 1 rfl (.inl rfl) rfl rfl rfl) (fun _ => (ed_callB c rfl M.b_len PySem.boot_len (ad_cons (ed_ix (ed_var c 0 rfl (.inl rfl) rfl rfl rfl) (ed_gint c rfl M.c_FLIGHTS rfl) (by kspl_open ix) (fun _ _ => rfl)) ad_nil rfl) (by kspl_open cl) (by decide) rfl rfl rfl)) (by kspl_open cd) (by kspl_open cd) (by with_unfolding_all rfl)) ?_
  show PyData.bool _ = _
  rw [List.length_map]
end
end K
namespace K
open PySem L2 Z
section
variable {P : Program} {w : World} {K : PySem.W.Frag} {mg : Str → Option Value} {base : Heap} [LamC]
def R_need_office (ds : List PyData) (d : PyData) : Prop := ∃ B o, ds = [eBook B, .int o] ∧ B.off o ∧ d = .none
theorem ok_need_office (M : Md K mg) : FnG P w K mg base "need_office" ["book", "office"] 2 (spP K R_need_office) := by
  have Fis_office := ok_is_office (P := P) (w := w) (base := base) M
  refine fn_sd (N := ["book", "office"]) M.d_need_office ⟨rfl, rfl, rfl, by decide +kernel, rfl, by decide +kernel, by decide +kernel⟩ (fun ds d ⟨_, _, e, _⟩ => by rw [e]; rfl) (by decide) (fun X c ds d hR => ?_)
  obtain ⟨B, o, rfl, ho, rfl⟩ := hR
  show SD X [.dat (eBook B), .dat (.int o)] _ _
  refine sd_if (td_not (td_val (ed_call c Fis_office (by decide) rfl (ad_cons (ed_var c 0 rfl (.inl rfl) rfl rfl rfl) (ad_cons (ed_var c 1 rfl (.inl rfl) rfl rfl rfl) ad_nil rfl) rfl) ⟨B, o, rfl, rfl⟩ rfl rfl rfl) (fun _ => rfl))) (fun hb => ?_) (fun hb => ?_)
  · rw [decT ho.1, decT ho.2] at hb
    cases hb
  · exact sd_nil (sd_nil rfl)
end
end K
namespace K
open PySem L2 Z
section
variable {P : Program} {w : World} {K : PySem.W.Frag} {mg : Str → Option Value} {base : Heap} [LamC]
/-! ### books -/
def R_need_flights (ds : List PyData) (d : PyData) : Prop := ∃ B, ds = [eBook B] ∧ Good B ∧ d = .none
theorem row_at {B : Book} {i : Nat} {r : List Int} (h : B.fl[i]? = some r) : B.row (i : Int) = r ∧ B.off (i : Int) := by
  have hi := (List.getElem?_eq_some_iff.mp h).1
  refine ⟨?_, by omega, ?_⟩
  · unfold Book.row
    rw [Int.toNat_natCast, List.getD_eq_getElem?_getD, h]; rfl
  · show ((i : Nat) : Int) < (B.fl.length : Int)
    omega
theorem f_at {B : Book} {i j : Nat} {r : List Int} {v : Int} (h : B.fl[i]? = some r) (hv : r[j]? = some v) : B.f (i : Int) (j : Int) = v := by
  unfold Book.f
  rw [(row_at h).1, Int.toNat_natCast, List.getD_eq_getElem?_getD, hv]; rfl
theorem ok_need_flights (M : Md K mg) : FnG P w K mg base "need_flights" ["book"] 2 (spP K R_need_flights) := by
  have Fneed := ok_need (P := P) (w := w) (base := base) M
  refine fn_sd (N := ["book", "rows", "office", "row", "home", "hours"]) M.d_need_flights ⟨rfl, rfl, rfl, by decide +kernel, rfl, by decide +kernel, by decide +kernel⟩ (fun ds d ⟨_, e, _⟩ => by rw [e]; rfl) (by decide) (fun X c ds d hR => ?_)
  obtain ⟨B, rfl, g, rfl⟩ := hR
  show SD X [.dat (eBook B), .no, .no, .no, .no, .no] _ _
  -- rows = book[FLIGHTS]
  refine sd_asg c 1 rfl (.inl rfl) (.inl rfl) (Nat.le_of_ble_eq_true rfl) (ed_ix (ed_var c 0 rfl (.inl rfl) rfl rfl rfl) (ed_gint c rfl M.c_FLIGHTS rfl) (by kspl_open ix) (fun _ _ => rfl)) rfl ?_
  -- need(LEAST_OFFICES <= len(rows) <= MOST_OFFICES, 'flights')
  refine sd_expr (ed_call c Fneed (by decide) rfl (ad_cons (ed_chain (ed_gint c rfl M.c_LEAST_OFFICES rfl) (ed_callB c rfl M.b_len PySem.boot_len (ad_cons (ed_var c 1 rfl (.inl rfl) rfl rfl rfl) ad_nil rfl) (by kspl_open cl) (by decide) rfl rfl rfl) (fun _ => (ed_gint c rfl M.c_MOST_OFFICES rfl)) (by kspl_open cd) (by kspl_open cd) (by with_unfolding_all rfl)) (ad_cons ed_str ad_nil rfl) rfl) ⟨_, _, rfl, ?_, rfl⟩ rfl rfl rfl) rfl ?_
  · have h1 := g.n2
    have h2 := g.n6
    rw [List.length_map, decT (show (2 : Int) ≤ (B.fl.length : Int) by show _; have : 2 ≤ B.fl.length := h1; omega), decT (show (B.fl.length : Int) ≤ 6 by have : B.fl.length ≤ 6 := h2; omega)]
    rfl
  -- for office, row in enumerate(rows):
  refine sd_for c (fun i => [.dat (eBook B), .dat (.tuple (B.fl.map eInts)), .no, .no, .no, .no]) (id_enumT c rfl M.b_enumerate (ed_var c 1 rfl (.inl rfl) rfl rfl rfl) rfl) (gd_tup c (gs_cons c 2 rfl (by kspl_open loc) (by kspl_open loc) (gs_cons c 3 rfl (by kspl_open loc) (by kspl_open loc) gs_nil rfl) rfl) rfl rfl) Wk.rfl' (fun i d hd => ?_) (sd_nil rfl) (fun _ => rfl)
  obtain ⟨d', hd', rfl⟩ := enumD_inv hd
  obtain ⟨r, hr, rfl⟩ := map_get hd'
  have rl : r.length = B.n := g.rows r (List.mem_of_getElem? hr)
  refine ⟨_, rfl, ?_⟩
  -- need(len(row) == len(rows), 'flights')
  refine sd_expr (ed_call c Fneed (by decide) rfl (ad_cons (ed_cmp (ed_callB c rfl M.b_len PySem.boot_len (ad_cons (ed_var c 3 rfl (.inl rfl) rfl rfl rfl) ad_nil rfl) (by kspl_open cl) (by decide) rfl rfl rfl) (ed_callB c rfl M.b_len PySem.boot_len (ad_cons (ed_var c 1 rfl (.inl rfl) rfl rfl rfl) ad_nil rfl) (by kspl_open cl) (by decide) rfl rfl rfl) (by kspl_open cd) (nomark _)) (ad_cons ed_str ad_nil rfl) rfl) ⟨_, _, rfl, ?_, rfl⟩ rfl rfl rfl) rfl ?_
  · rw [List.length_map, List.length_map, rl]
    exact decT rfl
  -- for home, hours in enumerate(row):
  refine sd_for c (fun j => [.dat (eBook B), .dat (.tuple (B.fl.map eInts)), .dat (.int (i : Int)), .dat (eInts r), .no, .no]) (id_enumT c rfl M.b_enumerate (ed_var c 3 rfl (.inl rfl) rfl rfl rfl) rfl) (gd_tup c (gs_cons c 4 rfl (by kspl_open loc) (by kspl_open loc) (gs_cons c 5 rfl (by kspl_open loc) (by kspl_open loc) gs_nil rfl) rfl) rfl rfl) Wk.rfl' (fun j d hd => ?_) (sd_nil ⟨.inr rfl, .inr rfl, .inl rfl, .inl rfl, .inl rfl, .inl rfl, trivial⟩) (fun _ => rfl)
  obtain ⟨d', hd'', rfl⟩ := enumD_inv hd
  obtain ⟨v, hv, rfl⟩ := map_get hd''
  refine ⟨_, rfl, ?_⟩
  have jn : j < B.n := by rw [← rl]; exact (List.getElem?_eq_some_iff.mp hv).1
  have jj : B.off (j : Int) := ⟨by omega, Int.ofNat_lt.mpr jn⟩
  have val := g.vals (i : Int) (j : Int) (row_at hr).2 jj
  rw [f_at hr hv] at val
  -- need(hours == 0 if home == office else 1 <= hours <= MOST_FLIGHT, 'flights')
  refine sd_expr (ed_call c Fneed (by decide) rfl (ad_cons (ed_if (d := .bool true) (td_cmp (ed_var c 4 rfl (.inl rfl) rfl rfl rfl) (ed_var c 2 rfl (.inl rfl) rfl rfl rfl) (by kspl_open cd) (nomark _)) (fun hb => ed_to (ed_cmp (ed_var c 5 rfl (.inl rfl) rfl rfl rfl) ed_int (by kspl_open cd) (nomark _)) ?_) (fun hb => ed_to (ed_chain ed_int (ed_var c 5 rfl (.inl rfl) rfl rfl rfl) (fun _ => (ed_gint c rfl M.c_MOST_FLIGHT rfl)) (by kspl_open cd) (by kspl_open cd) (by with_unfolding_all rfl)) ?_)) (ad_cons ed_str ad_nil rfl) rfl) ⟨_, _, rfl, rfl, rfl⟩ rfl rfl rfl) rfl ?_
  · rw [if_pos (of_decide_eq_true hb)] at val
    rw [decT val]
  · rw [if_neg (of_decide_eq_false hb)] at val
    rw [decT val.1, decT val.2]; rfl
  exact sd_nil ⟨.inr rfl, .inr rfl, .inr rfl, .inr rfl, .inl rfl, .inl rfl, trivial⟩
def R_need_rows (ds : List PyData) (d : PyData) : Prop := ∃ (B : Book) (p m : Int) (w : PyData) (l : List Row), ds = [eBook B, .int p, .int m, w] ∧ ixD (eBook B) p = some (.tuple (l.map eRow)) ∧ (l.length : Int) ≤ m ∧ (∀ r ∈ l, GoodRow B r) ∧ d = .none
theorem ok_need_rows (M : Md K mg) : FnG P w K mg base "need_rows" ["book", "place", "most", "why"] 2 (spP K R_need_rows) := by
  have Fneed := ok_need (P := P) (w := w) (base := base) M
  have Fis_office := ok_is_office (P := P) (w := w) (base := base) M
  refine fn_sd (N := ["book", "place", "most", "why", "one", "other", "begin", "end"]) M.d_need_rows ⟨rfl, rfl, rfl, by decide +kernel, rfl, by decide +kernel, by decide +kernel⟩ (fun ds d ⟨_, _, _, _, _, e, _⟩ => by rw [e]; rfl) (by decide) (fun X c ds d hR => ?_)
  obtain ⟨B, p, m, w, l, rfl, hp, hm, hl, rfl⟩ := hR
  show SD X [.dat (eBook B), .dat (.int p), .dat (.int m), .dat w, .no, .no, .no, .no] _ _
  -- need(len(book[place]) <= most, why)
  refine sd_expr (ed_call c Fneed (by decide) rfl (ad_cons (ed_cmp (ed_callB c rfl M.b_len PySem.boot_len (ad_cons (ed_ix (ed_var c 0 rfl (.inl rfl) rfl rfl rfl) (ed_var c 1 rfl (.inl rfl) rfl rfl rfl) hp (fun _ _ => rfl)) ad_nil rfl) (by kspl_open cl) (by decide) rfl rfl rfl) (ed_var c 2 rfl (.inl rfl) rfl rfl rfl) (by kspl_open cd) (nomark _)) (ad_cons (ed_var c 3 rfl (.inl rfl) rfl rfl rfl) ad_nil rfl) rfl) ⟨_, _, rfl, by rw [List.length_map]; exact decT hm, rfl⟩ rfl rfl rfl) rfl ?_
  -- for one, other, begin, end in book[place]:
  refine sd_for c (fun _ => [.dat (eBook B), .dat (.int p), .dat (.int m), .dat w, .no, .no, .no, .no]) (id_seq (ed_ix (ed_var c 0 rfl (.inl rfl) rfl rfl rfl) (ed_var c 1 rfl (.inl rfl) rfl rfl rfl) hp (fun _ _ => rfl)) rfl) (gd_tup c (gs_cons c 4 rfl (by kspl_open loc) (by kspl_open loc) (gs_cons c 5 rfl (by kspl_open loc) (by kspl_open loc) (gs_cons c 6 rfl (by kspl_open loc) (by kspl_open loc) (gs_cons c 7 rfl (by kspl_open loc) (by kspl_open loc) gs_nil rfl) rfl) rfl) rfl) rfl rfl) Wk.rfl' (fun i d hd => ?_) (sd_nil rfl) (fun _ => rfl)
  obtain ⟨r, hr, rfl⟩ := map_get hd
  have gr := hl r (List.mem_of_getElem? hr)
  refine ⟨_, rfl, ?_⟩
  -- need(is_office(book, one) and is_office(book, other) and (one != other), why)
  refine sd_expr (ed_call c Fneed (by decide) rfl (ad_cons (ed_and (ed_call c Fis_office (by decide) rfl (ad_cons (ed_var c 0 rfl (.inl rfl) rfl rfl rfl) (ad_cons (ed_var c 4 rfl (.inl rfl) rfl rfl rfl) ad_nil rfl) rfl) ⟨B, _, rfl, rfl⟩ rfl rfl rfl) (fun _ => (ed_and (ed_call c Fis_office (by decide) rfl (ad_cons (ed_var c 0 rfl (.inl rfl) rfl rfl rfl) (ad_cons (ed_var c 5 rfl (.inl rfl) rfl rfl rfl) ad_nil rfl) rfl) ⟨B, _, rfl, rfl⟩ rfl rfl rfl) (fun _ => (ed_and1 (ed_cmp (ed_var c 4 rfl (.inl rfl) rfl rfl rfl) (ed_var c 5 rfl (.inl rfl) rfl rfl rfl) (by kspl_open cd) (nomark _))))))) (ad_cons (ed_var c 3 rfl (.inl rfl) rfl rfl rfl) ad_nil rfl) rfl) ⟨_, _, rfl, ?_, rfl⟩ rfl rfl rfl) rfl ?_
  · rw [decT gr.a.1, decT gr.a.2, decT gr.b.1, decT gr.b.2, decide_eq_false gr.ne]; rfl
  -- need(0 <= begin < end <= MOST_HOUR, why)
  refine sd_expr (ed_call c Fneed (by decide) rfl (ad_cons (ed_chain3 ed_int (ed_var c 6 rfl (.inl rfl) rfl rfl rfl) (ed_var c 7 rfl (.inl rfl) rfl rfl rfl) (ed_gint c rfl M.c_MOST_HOUR rfl) (by kspl_open cd) (by kspl_open cd) (by kspl_open cd) (by with_unfolding_all rfl)) (ad_cons (ed_var c 3 rfl (.inl rfl) rfl rfl rfl) ad_nil rfl) rfl) ⟨_, _, rfl, ?_, rfl⟩ rfl rfl rfl) rfl ?_
  · rw [decT gr.h0, decT gr.h1, decT gr.h2]; rfl
  exact sd_nil ⟨.inr rfl, .inr rfl, .inr rfl, .inr rfl, .inl rfl, .inl rfl, .inl rfl, .inl rfl, trivial⟩
def R_need_book (ds : List PyData) (d : PyData) : Prop := ∃ B, ds = [eBook B] ∧ Good B ∧ d = .none
theorem ok_need_book (M : Md K mg) : FnG P w K mg base "need_book" ["book"] 3 (spP K R_need_book) := by
  have Fneed := ok_need (P := P) (w := w) (base := base) M
  have Fis_office := ok_is_office (P := P) (w := w) (base := base) M
  have Fneed_flights := ok_need_flights (P := P) (w := w) (base := base) M
  have Fneed_rows := ok_need_rows (P := P) (w := w) (base := base) M
  refine fn_sd (N := ["book", "home"]) M.d_need_book ⟨rfl, rfl, rfl, by decide +kernel, rfl, by decide +kernel, by decide +kernel⟩ (fun ds d ⟨_, e, _⟩ => by rw [e]; rfl) (by decide) (fun X c ds d hR => ?_)
  obtain ⟨B, rfl, g, rfl⟩ := hR
  show SD X [.dat (eBook B), .no] _ _
  -- need_flights(book)
  refine sd_expr (ed_call c Fneed_flights (by decide) rfl (ad_cons (ed_var c 0 rfl (.inl rfl) rfl rfl rfl) ad_nil rfl) ⟨B, rfl, g, rfl⟩ rfl rfl rfl) rfl ?_
  -- need_rows(book, STORMS, MOST_STORMS, 'storms')
  refine sd_expr (ed_call c Fneed_rows (by decide) rfl (ad_cons (ed_var c 0 rfl (.inl rfl) rfl rfl rfl) (ad_cons (ed_gint c rfl M.c_STORMS rfl) (ad_cons (ed_gint c rfl M.c_MOST_STORMS rfl) (ad_cons ed_str ad_nil rfl) rfl) rfl) rfl) ⟨B, 1, 8, _, B.st, rfl, rfl, by have := g.stl; omega, g.st, rfl⟩ rfl rfl rfl) rfl ?_
  -- need_rows(book, CARTS, MOST_CARTS, 'carts')
  refine sd_expr (ed_call c Fneed_rows (by decide) rfl (ad_cons (ed_var c 0 rfl (.inl rfl) rfl rfl rfl) (ad_cons (ed_gint c rfl M.c_CARTS rfl) (ad_cons (ed_gint c rfl M.c_MOST_CARTS rfl) (ad_cons ed_str ad_nil rfl) rfl) rfl) rfl) ⟨B, 2, 12, _, B.ca, rfl, rfl, by have := g.cal; omega, g.ca, rfl⟩ rfl rfl rfl) rfl ?_
  -- need(len(book[BIRDS]) <= MOST_BIRDS, 'birds')
  refine sd_expr (ed_call c Fneed (by decide) rfl (ad_cons (ed_cmp (ed_callB c rfl M.b_len PySem.boot_len (ad_cons (ed_ix (ed_var c 0 rfl (.inl rfl) rfl rfl rfl) (ed_gint c rfl M.c_BIRDS rfl) (by kspl_open ix) (fun _ _ => rfl)) ad_nil rfl) (by kspl_open cl) (by decide) rfl rfl rfl) (ed_gint c rfl M.c_MOST_BIRDS rfl) (by kspl_open cd) (nomark _)) (ad_cons ed_str ad_nil rfl) rfl) ⟨_, _, rfl, by rw [List.length_map]; exact decT (by have := g.bil; omega), rfl⟩ rfl rfl rfl) rfl ?_
  -- for home in book[BIRDS]:
  refine sd_for c (fun _ => [.dat (eBook B), .no]) (id_seq (ed_ix (ed_var c 0 rfl (.inl rfl) rfl rfl rfl) (ed_gint c rfl M.c_BIRDS rfl) (by kspl_open ix) (fun _ _ => rfl)) rfl) (gd_name c 1 rfl (by kspl_open loc) (by kspl_open loc)) Wk.rfl' (fun i d hd => ?_) (sd_nil rfl) (fun _ => rfl)
  obtain ⟨h, hh, rfl⟩ := map_get hd
  have gh := g.bi h (List.mem_of_getElem? hh)
  refine ⟨_, rfl, ?_⟩
  -- need(is_office(book, home), 'birds')
  refine sd_expr (ed_call c Fneed (by decide) rfl (ad_cons (ed_call c Fis_office (by decide) rfl (ad_cons (ed_var c 0 rfl (.inl rfl) rfl rfl rfl) (ad_cons (ed_var c 1 rfl (.inl rfl) rfl rfl rfl) ad_nil rfl) rfl) ⟨B, _, rfl, rfl⟩ rfl rfl rfl) (ad_cons ed_str ad_nil rfl) rfl) ⟨_, _, rfl, by rw [decT gh.1, decT gh.2]; rfl, rfl⟩ rfl rfl rfl) rfl ?_
  exact sd_nil ⟨.inr rfl, .inl rfl, trivial⟩
end
end K
namespace K
open PySem L2 Z
section
variable {P : Program} {w : World} {K : PySem.W.Frag} {mg : Str → Option Value} {base : Heap} [LamC]
/-! ### flying: pure -/
def stormIn (B : Book) (o h t : Int) (r : Row) : Bool := decide (r.1 = o) && (decide (r.2.1 = h) && (decide (r.2.2.1 < t + B.f o h) && decide (t < r.2.2.2)))
def barred (B : Book) (o h t : Int) : Bool := B.st.any (stormIn B o h t)
theorem barred_late {B : Book} (g : Good B) {o h t : Int} (ht : 99 ≤ t) : barred B o h t = false := by
  unfold barred
  rw [List.any_eq_false]
  intro r hr
  have := (g.st r hr).h2
  simp [stormIn]
  omega
/-- from an hour on, the first at which nothing bars; n: how many are looked at -/
def goAt (B : Book) (o h : Int) : Nat → Int → Int
  | 0, t => t
  | n + 1, t => if barred B o h t = true then goAt B o h n (t + 1) else t
def letGo (B : Book) (o h t : Int) : Int := goAt B o h (99 - t).toNat t
theorem letGo_yes {B : Book} (g : Good B) {o h t : Int} (hb : barred B o h t = true) : letGo B o h t = letGo B o h (t + 1) := by
  have ht : t < 99 := by
    rcases Int.lt_or_le t 99 with z | z
    · exact z
    · rw [barred_late g z] at hb; cases hb
  unfold letGo
  have e : (99 - t).toNat = (99 - (t + 1)).toNat + 1 := by omega
  rw [e]
  show (if barred B o h t = true then goAt B o h (99 - (t + 1)).toNat (t + 1) else t) = _
  rw [if_pos hb]
theorem letGo_no {B : Book} {o h t : Int} (hb : barred B o h t = false) : letGo B o h t = t := by
  unfold letGo
  cases (99 - t).toNat with
  | zero => rfl
  | succ n =>
    show (if barred B o h t = true then goAt B o h n (t + 1) else t) = _
    rw [if_neg (by rw [hb]; decide)]
def comesAt (B : Book) (o h t : Int) : Int := if o = h then t else letGo B o h t + B.f o h
end
end K
namespace K
open PySem L2 Z
section
variable {P : Program} {w : World} {K : PySem.W.Frag} {mg : Str → Option Value} {base : Heap} [LamC]
def R_is_barred (ds : List PyData) (d : PyData) : Prop := ∃ B o h t, ds = [eBook B, .int o, .int h, .int t] ∧ Good B ∧ B.off o ∧ B.off h ∧ d = .bool (barred B o h t)
theorem ok_is_barred (M : Md K mg) : FnG P w K mg base "is_barred" ["book", "office", "home", "hour"] 1 (spP K R_is_barred) := by
  refine fn_sd (N := ["book", "office", "home", "hour", "come", "one", "other", "begin", "end"]) M.d_is_barred ⟨rfl, rfl, rfl, by decide +kernel, rfl, by decide +kernel, by decide +kernel⟩ (fun ds d ⟨_, _, _, _, e, _⟩ => by rw [e]; rfl) (by decide) (fun X c ds d hR => ?_)
  obtain ⟨B, o, h, t, rfl, g, ho, hh, rfl⟩ := hR
  show SD X [.dat (eBook B), .dat (.int o), .dat (.int h), .dat (.int t), .no, .no, .no, .no, .no] _ _
  -- come = hour + book[FLIGHTS][office][home]
  refine sd_asg c 4 rfl (.inl rfl) (.inl rfl) (Nat.le_of_ble_eq_true rfl) (ed_bin (ed_var c 3 rfl (.inl rfl) rfl rfl rfl) (ed_ix (ed_ix (ed_ix (ed_var c 0 rfl (.inl rfl) rfl rfl rfl) (ed_gint c rfl M.c_FLIGHTS rfl) (by kspl_open ix) (fun _ _ => rfl)) (ed_var c 1 rfl (.inl rfl) rfl rfl rfl) (by kspl_open ix) (fun _ _ => rfl)) (ed_var c 2 rfl (.inl rfl) rfl rfl rfl) (by kspl_open ix) (fun _ _ => rfl)) (by kspl_open bd)) rfl ?_
  -- for one, other, begin, end in book[STORMS]:
  refine sd_forJ c (fun i => [.dat (eBook B), .dat (.int o), .dat (.int h), .dat (.int t), .dat (.int (t + B.f o h)), .no, .no, .no, .no]) (fun i => ∀ (j : Nat) (r : Row), j < i → B.st[j]? = some r → stormIn B o h t r = false) (id_seq (ed_ix (ed_var c 0 rfl (.inl rfl) rfl rfl rfl) (ed_gint c rfl M.c_STORMS rfl) (by kspl_open ix) (fun _ _ => rfl)) rfl) (gd_tup c (gs_cons c 5 rfl (by kspl_open loc) (by kspl_open loc) (gs_cons c 6 rfl (by kspl_open loc) (by kspl_open loc) (gs_cons c 7 rfl (by kspl_open loc) (by kspl_open loc) (gs_cons c 8 rfl (by kspl_open loc) (by kspl_open loc) gs_nil rfl) rfl) rfl) rfl) rfl rfl) Wk.rfl' (fun _ _ z => absurd z (Nat.not_lt_zero _)) (fun i d hd hj => ?_) (fun hj => ?_) (fun _ => rfl)
  · obtain ⟨r, hr, rfl⟩ := map_get hd
    refine ⟨_, rfl, ?_⟩
    -- if one == office and other == home and (begin < come) and (hour < end):
    refine sd_if (td_w (wd_and (td_cmp (ed_var c 5 rfl (.inl rfl) rfl rfl rfl) (ed_var c 1 rfl (.inl rfl) rfl rfl rfl) (by kspl_open cd) (nomark _)) (fun _ => (wd_and (td_cmp (ed_var c 6 rfl (.inl rfl) rfl rfl rfl) (ed_var c 2 rfl (.inl rfl) rfl rfl rfl) (by kspl_open cd) (nomark _)) (fun _ => (wd_and (td_cmp (ed_var c 7 rfl (.inl rfl) rfl rfl rfl) (ed_var c 4 rfl (.inl rfl) rfl rfl rfl) (by kspl_open cd) (nomark _)) (fun _ => (wd_and1 (td_cmp (ed_var c 3 rfl (.inl rfl) rfl rfl rfl) (ed_var c 8 rfl (.inl rfl) rfl rfl rfl) (by kspl_open cd) (nomark _)))))))))) (fun hb => ?_) (fun hb => ?_)
    · refine sd_ret ed_bl ?_
      show PyData.bool true = .bool (barred B o h t)
      rw [show barred B o h t = true from any_true hr hb]
    · refine sd_nil (sd_nil ⟨?_, prev_succ hj hr hb⟩)
      exact ⟨.inr rfl, .inr rfl, .inr rfl, .inr rfl, .inr rfl, .inl rfl, .inl rfl, .inl rfl, .inl rfl, trivial⟩
  · refine sd_ret ed_bl ?_
    show PyData.bool false = .bool (barred B o h t)
    rw [show barred B o h t = false from any_false fun j r hr => hj j r (by have := (List.getElem?_eq_some_iff.mp hr).1; simpa using this) hr]
def R_let_go (ds : List PyData) (d : PyData) : Prop := ∃ B o h t, ds = [eBook B, .int o, .int h, .int t] ∧ Good B ∧ B.off o ∧ B.off h ∧ d = .int (letGo B o h t)
theorem ok_let_go (M : Md K mg) : FnG P w K mg base "let_go" ["book", "office", "home", "hour"] 2 (spP K R_let_go) := by
  have Fis_barred := ok_is_barred (P := P) (w := w) (base := base) M
  refine fn_sd (N := ["book", "office", "home", "hour"]) M.d_let_go ⟨rfl, rfl, rfl, by decide +kernel, rfl, by decide +kernel, by decide +kernel⟩ (fun ds d ⟨_, _, _, _, e, _⟩ => by rw [e]; rfl) (by decide) (fun X c ds d hR => ?_)
  obtain ⟨B, o, h, t, rfl, g, ho, hh, rfl⟩ := hR
  show SD X [.dat (eBook B), .dat (.int o), .dat (.int h), .dat (.int t)] _ _
  -- while is_barred(book, office, home, hour):
  refine sd_while c (fun m ls => ∃ u : Int, ls = [.dat (eBook B), .dat (.int o), .dat (.int h), .dat (.int u)] ∧ letGo B o h u = letGo B o h t ∧ m = (99 - u).toNat) _ ⟨t, rfl, rfl, rfl⟩ (fun m ls ⟨u, e1, e2, e3⟩ => ?_)
  subst e1
  refine ⟨_, _, (td_val (ed_call c Fis_barred (by decide) rfl (ad_cons (ed_var c 0 rfl (.inl rfl) rfl rfl rfl) (ad_cons (ed_var c 1 rfl (.inl rfl) rfl rfl rfl) (ad_cons (ed_var c 2 rfl (.inl rfl) rfl rfl rfl) (ad_cons (ed_var c 3 rfl (.inl rfl) rfl rfl rfl) ad_nil rfl) rfl) rfl) rfl) ⟨B, o, h, u, rfl, g, ho, hh, rfl⟩ rfl rfl rfl) (fun _ => rfl)), fun hb => ?_, fun hb => ?_⟩
  · -- hour = hour + 1
    refine sd_asg c 3 rfl (.inl rfl) (.inl rfl) (Nat.le_of_ble_eq_true rfl) (ed_bin (ed_var c 3 rfl (.inl rfl) rfl rfl rfl) ed_int (by kspl_open bd)) rfl ?_
    have hu : u < 99 := by
      rcases Int.lt_or_le u 99 with z | z
      · exact z
      · rw [barred_late g z] at hb; cases hb
    exact sd_nil ⟨_, by omega, u + 1, rfl, by rw [← letGo_yes g hb]; exact e2, rfl⟩
  · -- return hour
    refine sd_ret (ed_var c 3 rfl (.inl rfl) rfl rfl rfl) ?_
    show PyData.int u = .int (letGo B o h t)
    rw [← e2, letGo_no hb]
def R_comes (ds : List PyData) (d : PyData) : Prop := ∃ B o h t, ds = [eBook B, .int o, .int h, .int t] ∧ Good B ∧ B.off o ∧ B.off h ∧ d = .int (comesAt B o h t)
theorem ok_comes (M : Md K mg) : FnG P w K mg base "comes" ["book", "office", "home", "hour"] 3 (spP K R_comes) := by
  have Flet_go := ok_let_go (P := P) (w := w) (base := base) M
  refine fn_sd (N := ["book", "office", "home", "hour"]) M.d_comes ⟨rfl, rfl, rfl, by decide +kernel, rfl, by decide +kernel, by decide +kernel⟩ (fun ds d ⟨_, _, _, _, e, _⟩ => by rw [e]; rfl) (by decide) (fun X c ds d hR => ?_)
  obtain ⟨B, o, h, t, rfl, g, ho, hh, rfl⟩ := hR
  show SD X [.dat (eBook B), .dat (.int o), .dat (.int h), .dat (.int t)] _ _
  -- if office == home:
  refine sd_if (td_cmp (ed_var c 1 rfl (.inl rfl) rfl rfl rfl) (ed_var c 2 rfl (.inl rfl) rfl rfl rfl) (by kspl_open cd) (nomark _)) (fun hb => ?_) (fun hb => ?_)
  · refine sd_ret (ed_var c 3 rfl (.inl rfl) rfl rfl rfl) ?_
    show PyData.int t = .int (comesAt B o h t)
    rw [comesAt, if_pos (of_decide_eq_true hb)]
  · refine sd_nil ?_
    -- return let_go(book, office, home, hour) + book[FLIGHTS][office][home]
    refine sd_ret (ed_bin (ed_call c Flet_go (by decide) rfl (ad_cons (ed_var c 0 rfl (.inl rfl) rfl rfl rfl) (ad_cons (ed_var c 1 rfl (.inl rfl) rfl rfl rfl) (ad_cons (ed_var c 2 rfl (.inl rfl) rfl rfl rfl) (ad_cons (ed_var c 3 rfl (.inl rfl) rfl rfl rfl) ad_nil rfl) rfl) rfl) rfl) ⟨B, o, h, t, rfl, g, ho, hh, rfl⟩ rfl rfl rfl) (ed_ix (ed_ix (ed_ix (ed_var c 0 rfl (.inl rfl) rfl rfl rfl) (ed_gint c rfl M.c_FLIGHTS rfl) (by kspl_open ix) (fun _ _ => rfl)) (ed_var c 1 rfl (.inl rfl) rfl rfl rfl) (by kspl_open ix) (fun _ _ => rfl)) (ed_var c 2 rfl (.inl rfl) rfl rfl rfl) (by kspl_open ix) (fun _ _ => rfl)) (by kspl_open bd)) ?_
    show PyData.int _ = .int (comesAt B o h t)
    rw [comesAt, if_neg (of_decide_eq_false hb)]
end
end K
namespace K
open PySem L2 Z
section
variable {P : Program} {w : World} {K : PySem.W.Frag} {mg : Str → Option Value} {base : Heap} [LamC]
/-! ### drawing -/
def R_next (r : Rg) (ds : List PyData) (r2 : Rg) (d : PyData) : Prop := ∃ m : Int, ds = [.int m] ∧ 0 < m ∧ m < 1073741824 ∧ r2 = nxR r m ∧ d = .int (nxV r m)
theorem ok_next (M : Md K mg) : FnG P w K mg base "_law_next" ["_law_h", "_law_many"] 1 (spR K R_next) := by
  refine fn_sdR (N := ["_law_h", "_law_many", "_law_at", "_law_cell"]) M.d__law_next ⟨rfl, rfl, rfl, by decide +kernel, rfl, by decide +kernel, by decide +kernel⟩ (fun r ds r2 d ⟨_, e, _⟩ => by rw [e]; rfl) (by decide) (fun X c A B r ds r2 d hR => ?_)
  obtain ⟨m, rfl, m0, m1, rfl, rfl⟩ := hR
  show SD X [.rng A B r, .dat (.int m), .no, .no] _ _
  have hm : 0 < max 1 (r.c.length : Int) := by omega
  refine sd_asg c 2 rfl (.inl rfl) (.inl rfl) (Nat.le_of_ble_eq_true rfl) (ed_bin (rng_ix (i := 0) c rfl (.inl rfl) rfl rfl rfl (.inr ⟨rfl, rfl⟩)) (ed_callB c rfl M.b_max PyProof.Rows.boot_max (ad_cons ed_int (ad_cons (rng_len (i := 0) c rfl (.inl rfl) rfl rfl rfl rfl M.b_len) ad_nil rfl) rfl) (cl_max2 c.calm) (by decide) rfl rfl rfl) (bd_mod hm)) rfl ?_
  refine sd_asg c 3 rfl (.inl rfl) (.inl rfl) (Nat.le_of_ble_eq_true rfl) (ed_if (d := .int (Z.cellOf r)) (rng_some (i := 0) c rfl (.inl rfl) rfl rfl rfl) (fun hb => rng_cell (i := 0) c rfl (.inl rfl) rfl rfl rfl (ed_var c 2 rfl (.inl rfl) rfl rfl rfl) ?_ (fun _ _ => rfl)) (fun hb => ed_to ed_int ?_)) rfl ?_
  · have hc : r.c.isEmpty = false := by cases e : r.c.isEmpty <;> simp_all
    have hl : 0 < r.c.length := by
      cases e : r.c with
      | nil => rw [e] at hc; cases hc
      | cons _ _ => simp
    unfold Z.cellOf
    rw [if_neg (by rw [hc]; decide)]
    refine atI_of (Int.emod_nonneg _ (by omega)) ?_ 0
    have := Int.emod_lt_of_pos r.k hm
    omega
  · have hc : r.c.isEmpty = true := by cases e : r.c.isEmpty <;> simp_all
    unfold Z.cellOf
    rw [if_pos hc]
  refine sd_if (td_cmp (ed_var c 3 rfl (.inl rfl) rfl rfl rfl) (ed_bin ed_int ed_int (bd_pow ⟨by decide, by decide, by decide⟩)) cd_ge (nomark _)) (fun hb => ?_) (fun hb => ?_)
  · have hb : (10 : Int) ^ 18 ≤ Z.cellOf r := of_decide_eq_true hb
    have hl : 0 < r.c.length := by
      cases e : r.c with
      | nil =>
        unfold Z.cellOf at hb
        rw [e] at hb
        have hb : (10 : Int) ^ 18 ≤ 0 := hb
        exact absurd hb (by decide)
      | cons _ _ => simp
    refine sd_rngCell (i := 0) c rfl (.inl rfl) rfl rfl rfl (ed_bin (ed_var c 3 rfl (.inl rfl) rfl rfl rfl) (ed_var c 1 rfl (.inl rfl) rfl rfl rfl) (bd_fdiv ⟨m0, m1⟩)) (ed_var c 2 rfl (.inl rfl) rfl rfl rfl) (m := (r.k % max 1 (r.c.length : Int)).toNat) ?_ ?_ (fun _ => rfl) rfl rfl rfl
    · have h0 := Int.emod_nonneg r.k (b := max 1 (r.c.length : Int)) (by omega)
      have h1 := Int.emod_lt_of_pos r.k hm
      generalize r.k % max 1 (r.c.length : Int) = z at h0 h1
      obtain ⟨j, rfl⟩ : ∃ j : Nat, z = (j : Int) := ⟨z.toNat, by omega⟩
      unfold L2.ixN; rw [if_pos (by omega), if_pos (by omega)]
    · refine sd_ret (ed_bin (ed_var c 3 rfl (.inl rfl) rfl rfl rfl) (ed_var c 1 rfl (.inl rfl) rfl rfl rfl) (bd_mod m0)) ⟨?_, ?_⟩
      · unfold nxV; rw [if_pos hb]
      · unfold nxR; rw [if_pos hb]; rfl
  · have hb : ¬ (10 : Int) ^ 18 ≤ Z.cellOf r := of_decide_eq_false hb
    refine sd_nil ?_
    refine sd_rngSet (i := 0) c rfl (.inl rfl) rfl rfl rfl (ed_bin (ed_bin (ed_bin (ed_bin (rng_ix (i := 0) c rfl (.inl rfl) rfl rfl rfl (.inl ⟨rfl, rfl⟩)) ed_int (bd_mul (.inr (by decide)))) (ed_bin (ed_var c 3 rfl (.inl rfl) rfl rfl rfl) ed_int (bd_mul (.inr (by decide)))) bd_add) ed_int bd_add) ed_int (bd_mod (by decide))) (.inl ⟨rfl, rfl⟩) ?_ (fun _ => rfl) rfl rfl rfl
    refine sd_rngSet (i := 0) c rfl (.inl rfl) rfl rfl rfl (ed_bin (rng_ix (i := 0) c rfl (.inl rfl) rfl rfl rfl (.inr ⟨rfl, rfl⟩)) ed_int bd_add) (.inr ⟨rfl, rfl⟩) ?_ (fun _ => rfl) rfl rfl rfl
    refine sd_ret (ed_bin (ed_bin (rng_ix (i := 0) c rfl (.inl rfl) rfl rfl rfl (.inl ⟨rfl, rfl⟩)) ed_int (bd_fdiv (by decide))) (ed_var c 1 rfl (.inl rfl) rfl rfl rfl) (bd_mod m0)) ⟨?_, ?_⟩
    · unfold nxV; rw [if_neg hb]; rfl
    · unfold nxR; rw [if_neg hb]; rfl
theorem p3_pos {a b c i : Int} (ha : 0 < a ∧ a < 1000) (hb : 0 < b ∧ b < 1000) (hc : 0 < c ∧ c < 1000) : 0 < pick3 a b c i ∧ pick3 a b c i < 1000 := pick3_in (p := fun z => 0 < z ∧ z < 1000) ha hb hc
def R_hours (r : Rg) (ds : List PyData) (r2 : Rg) (d : PyData) : Prop := ∃ n most : Int, ds = [.int n, .int most] ∧ 2 ≤ n ∧ n ≤ 100 ∧ 0 ≤ most ∧ most ≤ 100 ∧ r2 = (hours n most r).2 ∧ d = .tuple ((hours n most r).1.map eRow)
theorem ok_hours (M : Md K mg) : FnG P w K mg base "_law_hours" ["_law_h", "_law_offices", "_law_most"] 2 (spR K R_hours) := by
  have Fn := ok_next (P := P) (w := w) (base := base) M
  refine fn_sdR (N := ["_law_h", "_law_offices", "_law_most", "_law_found", "_law_k", "_law_one", "_law_begin", "_law_end"]) M.d__law_hours ⟨rfl, rfl, rfl, by decide +kernel, rfl, by decide +kernel, by decide +kernel⟩ (fun r ds r2 d ⟨_, _, e, _⟩ => by rw [e]; rfl) (by decide) (fun X c A B r ds r2 d hR => ?_)
  obtain ⟨n, most, rfl, n0, n1, m0, m1, rfl, rfl⟩ := hR
  show SD X [.rng A B r, .dat (.int n), .dat (.int most), .no, .no, .no, .no, .no] _ _
  have q0 := nxV_0 (r := r) (m := most + 1) (by omega)
  have q1 := nxV_1 (r := r) (m := most + 1) (by omega)
  refine sd_asgL c 3 rfl (.inl rfl) (.inl rfl) (Nat.le_of_ble_eq_true rfl) (el_lst ad_nil (Nat.le_of_ble_eq_true rfl)) rfl ?_
  refine sd_for c (fun i => [.rng A B (iterI (hourRow n) i (nxR r (most + 1))).2, .dat (.int n), .dat (.int most), .own ((iterI (hourRow n) i (nxR r (most + 1))).1.map eRow), .no, .no, .no, .no]) (id_range c rfl M.b_range (ed_callR c Fn (by decide) rfl 0 rfl (.inl rfl) rfl (ad_cons (ed_bin (ed_var c 2 rfl (.inl rfl) rfl rfl rfl) ed_int bd_add) ad_nil rfl) rfl ⟨_, rfl, by omega, by omega, rfl, rfl⟩ rfl rfl rfl rfl rfl) ⟨by omega, by omega⟩ rfl) (gd_name c 4 rfl (by kspl_open loc) (by kspl_open loc)) Wk.rfl' (fun i d hd => ?_) ?_ (fun _ => rfl)
  · obtain ⟨hi, rfl⟩ := rngD_inv hd
    refine ⟨_, rfl, ?_⟩
    have hl := iterI_len (hourRow n) i (nxR r (most + 1))
    show SD X [.rng A B (iterI (hourRow n) i (nxR r (most + 1))).2, .dat (.int n), .dat (.int most), .own ((iterI (hourRow n) i (nxR r (most + 1))).1.map eRow), .dat (.int i), .no, .no, .no] _ _
    refine SD.nxW (L' := [.rng A B (hourRow n i (iterI (hourRow n) i (nxR r (most + 1))).2).2, .dat (.int n), .dat (.int most), .own ((iterI (hourRow n) i (nxR r (most + 1))).1.map eRow ++ [eRow (hourRow n i (iterI (hourRow n) i (nxR r (most + 1))).2).1]), .no, .no, .no, .no]) ?_ ?_
    · show [_, _, _, SK.own (((iterI (hourRow n) i (nxR r (most + 1))).1 ++ [(hourRow n i (iterI (hourRow n) i (nxR r (most + 1))).2).1]).map eRow), _, _, _, _] = _
      rw [List.map_append]
      rfl
    generalize (iterI (hourRow n) i (nxR r (most + 1))).2 = s at *
    generalize (iterI (hourRow n) i (nxR r (most + 1))).1 = xs at *
    refine sd_asg c 5 rfl (.inl rfl) (.inl rfl) (Nat.le_of_ble_eq_true rfl) (ed_callR c Fn (by decide) rfl 0 rfl (.inl rfl) rfl (ad_cons (ed_var c 1 rfl (.inl rfl) rfl rfl rfl) ad_nil rfl) rfl ⟨_, rfl, by omega, by omega, rfl, rfl⟩ rfl rfl rfl rfl rfl) rfl ?_
    have p1 := p3_pos (a := 20) (b := 60) (c := 90) (i := nxV (nxR s n) 3) (by decide) (by decide) (by decide)
    refine sd_asg c 6 rfl (.inl rfl) (.inl rfl) (Nat.le_of_ble_eq_true rfl) (ed_callR c Fn (by decide) rfl 0 rfl (.inl rfl) rfl (ad_cons (ed_ix (ed_el (el_lst (ad_cons ed_int (ad_cons ed_int (ad_cons ed_int ad_nil rfl) rfl) rfl) (Nat.le_of_ble_eq_true rfl))) (ed_callR c Fn (by decide) rfl 0 rfl (.inl rfl) rfl (ad_cons ed_int ad_nil rfl) rfl ⟨_, rfl, by decide, by decide, rfl, rfl⟩ rfl rfl rfl rfl rfl) (ix_pick3 (nxV_0 (by decide)) (nxV_1 (by decide))) (fun _ _ => rfl)) ad_nil rfl) rfl ⟨_, rfl, p1.1, by have := p1.2; omega, rfl, rfl⟩ rfl rfl rfl rfl rfl) rfl ?_
    generalize eb : nxV (nxR (nxR s n) 3) (pick3 20 60 90 (nxV (nxR s n) 3)) = bg
    generalize e3 : nxR (nxR (nxR s n) 3) (pick3 20 60 90 (nxV (nxR s n) 3)) = s3
    have p2 := p3_pos (a := 9) (b := 9) (c := 70) (i := nxV s3 3) (by decide) (by decide) (by decide)
    refine sd_asg c 7 rfl (.inl rfl) (.inl rfl) (Nat.le_of_ble_eq_true rfl) (ed_callB c rfl M.b_min PyProof.Rows.boot_min (ad_cons ed_int (ad_cons (ed_bin (ed_bin (ed_var c 6 rfl (.inl rfl) rfl rfl rfl) ed_int bd_add) (ed_callR c Fn (by decide) rfl 0 rfl (.inl rfl) rfl (ad_cons (ed_ix (ed_el (el_lst (ad_cons ed_int (ad_cons ed_int (ad_cons ed_int ad_nil rfl) rfl) rfl) (Nat.le_of_ble_eq_true rfl))) (ed_callR c Fn (by decide) rfl 0 rfl (.inl rfl) rfl (ad_cons ed_int ad_nil rfl) rfl ⟨_, rfl, by decide, by decide, rfl, rfl⟩ rfl rfl rfl rfl rfl) (ix_pick3 (nxV_0 (by decide)) (nxV_1 (by decide))) (fun _ _ => rfl)) ad_nil rfl) rfl ⟨_, rfl, p2.1, by have := p2.2; omega, rfl, rfl⟩ rfl rfl rfl rfl rfl) bd_add) ad_nil rfl) rfl) (cl_min2 c.calm) (by decide) rfl rfl rfl) rfl ?_
    refine sd_append c 3 rfl (.inl rfl) (ed_tup (ad_cons (ed_var c 5 rfl (.inl rfl) rfl rfl rfl) (ad_cons (ed_bin (ed_bin (ed_bin (ed_var c 5 rfl (.inl rfl) rfl rfl rfl) ed_int bd_add) (ed_callR c Fn (by decide) rfl 0 rfl (.inl rfl) rfl (ad_cons (ed_bin (ed_var c 1 rfl (.inl rfl) rfl rfl rfl) ed_int bd_sub) ad_nil rfl) rfl ⟨_, rfl, by omega, by omega, rfl, rfl⟩ rfl rfl rfl rfl rfl) bd_add) (ed_var c 1 rfl (.inl rfl) rfl rfl rfl) (bd_mod (by omega))) (ad_cons (ed_var c 6 rfl (.inl rfl) rfl rfl rfl) (ad_cons (ed_var c 7 rfl (.inl rfl) rfl rfl rfl) ad_nil rfl) rfl) rfl) rfl) (Nat.le_of_ble_eq_true rfl)) rfl rfl ?hz ?_ rfl rfl rfl rfl rfl rfl
    · rw [List.length_map, hl]
      exact Nat.lt_of_lt_of_le (show i < 1000 by omega) (Nat.le_of_ble_eq_true rfl)
    · refine sd_nil ?_
      have hrow : hourRow n i s = ((nxV s n, (nxV s n + 1 + nxV (nxR (nxR s3 3) (pick3 9 9 70 (nxV s3 3))) (n - 1)) % n, bg, min 99 (bg + 1 + nxV (nxR s3 3) (pick3 9 9 70 (nxV s3 3)))), nxR (nxR (nxR s3 3) (pick3 9 9 70 (nxV s3 3))) (n - 1)) := by
        unfold hourRow
        dsimp only
        rw [eb, e3]
      rw [hrow]
      exact ⟨.inr rfl, .inr rfl, .inr rfl, .inr rfl, .inl rfl, .inl rfl, .inl rfl, .inl rfl, trivial⟩
  · rw [rngD_len]
    refine sd_freeze 3 rfl ?_
    exact sd_ret (ed_callT c rfl M.b_tuple PyProof.Rows.boot_tuple (ad_cons (ed_var c 3 rfl (.inl rfl) rfl rfl rfl) ad_nil rfl) cl_tupL (by decide) rfl rfl rfl) ⟨rfl, rfl⟩
def R_book (r : Rg) (ds : List PyData) (r2 : Rg) (d : PyData) : Prop := ∃ n b : Int, ds = [.int n, .int b] ∧ 2 ≤ n ∧ n ≤ 6 ∧ 0 ≤ b ∧ b ≤ 6 ∧ r2 = (bkB n b r).2 ∧ d = eBook (lawBook n b r)
theorem ok_book (M : Md K mg) : FnG P w K mg base "_law_book" ["_law_h", "_law_offices", "_law_birds"] 3 (spR K R_book) := by
  have Fn := ok_next (P := P) (w := w) (base := base) M
  have Fh := ok_hours (P := P) (w := w) (base := base) M
  refine fn_sdR (N := ["_law_h", "_law_offices", "_law_birds", "_law_many", "_law_flights", "_law_k", "_law_storms", "_law_carts", "_law_j"]) M.d__law_book ⟨rfl, rfl, rfl, by decide +kernel, rfl, by decide +kernel, by decide +kernel⟩ (fun r ds r2 d ⟨_, _, e, _⟩ => by rw [e]; rfl) (by decide) (fun X c A B r ds r2 d hR => ?_)
  obtain ⟨n, b, rfl, n0, n1, b0, b1, rfl, rfl⟩ := hR
  show SD X [.rng A B r, .dat (.int n), .dat (.int b), .no, .no, .no, .no, .no, .no] _ _
  have hm := bkN_in (r := r) n0
  refine sd_asg c 3 rfl (.inr rfl) (.inl rfl) (Nat.le_of_ble_eq_true rfl) (ed_bin ed_int (ed_callR c Fn (by decide) rfl 0 rfl (.inr (.inl rfl)) rfl (ad_cons (ed_bin (ed_var c 1 rfl (.inl rfl) rfl rfl rfl) ed_int bd_sub) ad_nil rfl) rfl ⟨_, rfl, by omega, by omega, rfl, rfl⟩ rfl rfl rfl rfl rfl) bd_add) rfl ?_
  refine sd_asgL c 4 rfl (.inl rfl) (.inl rfl) (Nat.le_of_ble_eq_true rfl) (el_lst ad_nil (Nat.le_of_ble_eq_true rfl)) rfl ?_
  refine sd_for c (fun i => [.rng A B (iterI (fun k => iterI (flCell k) (bkN n r).toNat) i (nxR r (n - 1))).2, .dat (.int n), .dat (.int b), .dat (.int (bkN n r)), .own ((iterI (fun k => iterI (flCell k) (bkN n r).toNat) i (nxR r (n - 1))).1.map eInts), .no, .no, .no, .no]) (id_range c rfl M.b_range (ed_var c 3 rfl (.inr (.inl rfl)) rfl rfl rfl) (n := bkN n r) ⟨by omega, by omega⟩ rfl) (gd_name c 5 rfl (by kspl_open loc) (by kspl_open loc)) Wk.rfl' (fun i d hd => ?_) ?_ (fun _ => rfl)
  · obtain ⟨hi, rfl⟩ := rngD_inv hd
    refine ⟨_, rfl, ?_⟩
    have hl := iterI_len (fun k => iterI (flCell k) (bkN n r).toNat) i (nxR r (n - 1))
    show SD X [.rng A B (iterI (fun k => iterI (flCell k) (bkN n r).toNat) i (nxR r (n - 1))).2, .dat (.int n), .dat (.int b), .dat (.int (bkN n r)), .own ((iterI (fun k => iterI (flCell k) (bkN n r).toNat) i (nxR r (n - 1))).1.map eInts), .dat (.int i), .no, .no, .no] _ _
    refine SD.nxW (L' := [.rng A B (iterI (flCell i) (bkN n r).toNat (iterI (fun k => iterI (flCell k) (bkN n r).toNat) i (nxR r (n - 1))).2).2, .dat (.int n), .dat (.int b), .dat (.int (bkN n r)), .own ((iterI (fun k => iterI (flCell k) (bkN n r).toNat) i (nxR r (n - 1))).1.map eInts ++ [eInts (iterI (flCell i) (bkN n r).toNat (iterI (fun k => iterI (flCell k) (bkN n r).toNat) i (nxR r (n - 1))).2).1]), .no, .no, .no, .no]) ?_ ?_
    · show [_, _, _, _, SK.own (((iterI (fun k => iterI (flCell k) (bkN n r).toNat) i (nxR r (n - 1))).1 ++ [(iterI (flCell i) (bkN n r).toNat (iterI (fun k => iterI (flCell k) (bkN n r).toNat) i (nxR r (n - 1))).2).1]).map eInts), _, _, _, _] = _
      rw [List.map_append]
      rfl
    generalize (iterI (fun k => iterI (flCell k) (bkN n r).toNat) i (nxR r (n - 1))).2 = s at *
    generalize (iterI (fun k => iterI (flCell k) (bkN n r).toNat) i (nxR r (n - 1))).1 = xs at *
    refine sd_append c 4 rfl (.inl rfl) (ed_callT c rfl M.b_tuple PyProof.Rows.boot_tuple (ad_cons (ed_el (el_draw (A := A) (B := B) (r := s) c [("_law_j", 8)] 0 (flCell i) PyData.int (by decide +kernel) rfl (id_range c rfl M.b_range (ed_var c 3 rfl (.inr (.inl rfl)) rfl rfl rfl) (n := bkN n r) ⟨by omega, by omega⟩ rfl) rfl (by decide) (all1 ⟨_, rfl, .inl rfl⟩) (fun X' c2 => gd_name c2 8 rfl (by kspl_open loc) (by kspl_open loc)) (Nat.lt_of_lt_of_le (show (bkN n r).toNat < 1000 by omega) (Nat.le_of_ble_eq_true rfl)) (fun j r' hj => ⟨_, _, rfl, fun X' c2 => (ed_bin (ed_bin ed_int (ed_callR c2 Fn (by decide) rfl 0 rfl (by kspl_open vis) rfl (ad_cons ed_int ad_nil rfl) rfl ⟨9, rfl, by decide, by decide, rfl, rfl⟩ rfl rfl rfl rfl rfl) bd_add) (ed_callT c2 rfl M.b_int PyProof.Rows.boot_int (ad_cons (ed_cmp (ed_var c2 8 rfl (by kspl_open vis) rfl rfl rfl) (ed_var c2 5 rfl (by kspl_open vis) rfl rfl rfl) cd_neI (nomark _)) ad_nil rfl) cl_intB (by decide) rfl rfl rfl) (bd_mul (.inr (by split <;> decide)))), ?wk⟩) (fun _ => rfl))) ad_nil rfl) cl_tupL (by decide) rfl rfl rfl) rfl rfl ?hz ?_ rfl rfl rfl rfl rfl rfl
    · exact ⟨.inr rfl, .inr rfl, .inr rfl, .inr rfl, .inr rfl, .inr rfl, .inr rfl, .inr rfl, .inl rfl, trivial⟩
    · rw [List.length_map, hl]
      exact Nat.lt_of_lt_of_le (show i < 1000 by omega) (Nat.le_of_ble_eq_true rfl)
    · exact sd_nil ⟨.inr rfl, .inr rfl, .inr rfl, .inr rfl, .inr rfl, .inl rfl, .inl rfl, .inl rfl, .inl rfl, trivial⟩
  · rw [rngD_len]
    show SD X [.rng A B (bkF n r).2, .dat (.int n), .dat (.int b), .dat (.int (bkN n r)), .own ((bkF n r).1.map eInts), .no, .no, .no, .no] _ _
    have p1 : 0 ≤ pick3 0 3 8 (nxV (bkF n r).2 3) ∧ pick3 0 3 8 (nxV (bkF n r).2 3) ≤ 100 := pick3_in (p := fun z => 0 ≤ z ∧ z ≤ 100) (by decide) (by decide) (by decide)
    refine sd_asg c 6 rfl (.inl rfl) (.inl rfl) (Nat.le_of_ble_eq_true rfl) (ed_callR c Fh (by decide) rfl 0 rfl (.inr (.inl rfl)) rfl (ad_cons (ed_var c 3 rfl (.inr (.inl rfl)) rfl rfl rfl) (ad_cons (ed_ix (ed_el (el_lst (ad_cons ed_int (ad_cons ed_int (ad_cons ed_int ad_nil rfl) rfl) rfl) (Nat.le_of_ble_eq_true rfl))) (ed_callR c Fn (by decide) rfl 0 rfl (.inr (.inl rfl)) rfl (ad_cons ed_int ad_nil rfl) rfl ⟨3, rfl, by decide, by decide, rfl, rfl⟩ rfl rfl rfl rfl rfl) (ix_pick3 (nxV_0 (by decide)) (nxV_1 (by decide))) (fun _ _ => rfl)) ad_nil rfl) rfl) rfl ⟨_, _, rfl, hm.1, by omega, p1.1, p1.2, rfl, rfl⟩ rfl rfl rfl rfl rfl) rfl ?_
    show SD X [.rng A B (bkS n r).2, .dat (.int n), .dat (.int b), .dat (.int (bkN n r)), .own ((bkF n r).1.map eInts), .no, .dat (.tuple ((bkS n r).1.map eRow)), .no, .no] _ _
    have p2 : 0 ≤ pick2 4 12 (nxV (bkS n r).2 2) ∧ pick2 4 12 (nxV (bkS n r).2 2) ≤ 100 := pick2_in (p := fun z => 0 ≤ z ∧ z ≤ 100) (by decide) (by decide)
    refine sd_asg c 7 rfl (.inl rfl) (.inl rfl) (Nat.le_of_ble_eq_true rfl) (ed_callR c Fh (by decide) rfl 0 rfl (.inr (.inl rfl)) rfl (ad_cons (ed_var c 3 rfl (.inr (.inl rfl)) rfl rfl rfl) (ad_cons (ed_ix (ed_el (el_lst (ad_cons ed_int (ad_cons ed_int ad_nil rfl) rfl) (Nat.le_of_ble_eq_true rfl))) (ed_callR c Fn (by decide) rfl 0 rfl (.inr (.inl rfl)) rfl (ad_cons ed_int ad_nil rfl) rfl ⟨2, rfl, by decide, by decide, rfl, rfl⟩ rfl rfl rfl rfl rfl) (ix_pick2 (nxV_0 (by decide)) (nxV_1 (by decide))) (fun _ _ => rfl)) ad_nil rfl) rfl) rfl ⟨_, _, rfl, hm.1, by omega, p2.1, p2.2, rfl, rfl⟩ rfl rfl rfl rfl rfl) rfl ?_
    refine sd_freeze 4 rfl ?_
    show SD X [.rng A B (bkC n r).2, .dat (.int n), .dat (.int b), .dat (.int (bkN n r)), .dat (.list ((bkF n r).1.map eInts)), .no, .dat (.tuple ((bkS n r).1.map eRow)), .dat (.tuple ((bkC n r).1.map eRow)), .no] _ _
    have q0 := nxV_0 (r := (bkC n r).2) (m := b + 1) (by omega)
    have q1 := nxV_1 (r := (bkC n r).2) (m := b + 1) (by omega)
    refine sd_ret (ed_tup (ad_cons (ed_callT c rfl M.b_tuple PyProof.Rows.boot_tuple (ad_cons (ed_var c 4 rfl (.inl rfl) rfl rfl rfl) ad_nil rfl) cl_tupL (by decide) rfl rfl rfl) (ad_cons (ed_var c 6 rfl (.inl rfl) rfl rfl rfl) (ad_cons (ed_var c 7 rfl (.inl rfl) rfl rfl rfl) (ad_cons (ed_callT c rfl M.b_tuple PyProof.Rows.boot_tuple (ad_cons (ed_el (el_draw (A := A) (B := B) (r := nxR (bkC n r).2 (b + 1)) c [("_law_k", 5)] 0 (drawM (bkN n r)) PyData.int (by decide +kernel) rfl (id_range c rfl M.b_range (ed_callR c Fn (by decide) rfl 0 rfl (.inr (.inl rfl)) rfl (ad_cons (ed_bin (ed_var c 2 rfl (.inl rfl) rfl rfl rfl) ed_int bd_add) ad_nil rfl) rfl ⟨_, rfl, by omega, by omega, rfl, rfl⟩ rfl rfl rfl rfl rfl) ⟨by omega, by omega⟩ rfl) rfl (by decide) (all1 ⟨_, rfl, .inl rfl⟩) (fun X' c2 => gd_name c2 5 rfl (by kspl_open loc) (by kspl_open loc)) (Nat.lt_of_lt_of_le (show (nxV (bkC n r).2 (b + 1)).toNat < 1000 by omega) (Nat.le_of_ble_eq_true rfl)) (fun j r' hj => ⟨_, _, rfl, fun X' c2 => (ed_callR c2 Fn (by decide) rfl 0 rfl (by kspl_open vis) rfl (ad_cons (ed_var c2 3 rfl (by kspl_open vis) rfl rfl rfl) ad_nil rfl) rfl ⟨_, rfl, by omega, by omega, rfl, rfl⟩ rfl rfl rfl rfl rfl), ⟨.inr rfl, .inr rfl, .inr rfl, .inr rfl, .inr rfl, .inl rfl, .inr rfl, .inr rfl, .inr rfl, trivial⟩⟩) (fun _ => rfl))) ad_nil rfl) cl_tupL (by decide) rfl rfl rfl) ad_nil rfl) rfl) rfl) rfl) (Nat.le_of_ble_eq_true rfl)) ⟨rfl, rfl⟩
end
end K
namespace K
open PySem L2 Z
section
variable {P : Program} {w : World} {K : PySem.W.Frag} {mg : Str → Option Value} {base : Heap} [LamC]
/-! ### postings and begins -/
def eP2 (p : Int × Int) : PyData := .tuple [.int p.1, .int p.2]
def oP : Option (Int × Int) → PyData
  | none => .none
  | some p => eP2 p
abbrev R3 := Int × Int × Int
def eR3 (r : R3) : PyData := .tuple [.int r.1, .int r.2.1, .int r.2.2]
abbrev Posting := List (Option (Int × Int))
def ePost (ps : Posting) : PyData := .tuple (ps.map oP)
def _root_.Z.Book.home (B : Book) (b : Int) : Int := B.bi.getD b.toNat 0
structure GoodPost (B : Book) (ps : Posting) : Prop where
  len : ps.length = B.bi.length
  at_ : ∀ (i : Nat) o t, ps[i]? = some (some (o, t)) → B.off o ∧ o ≠ B.home (i : Int) ∧ 0 ≤ t
def GoodBeg (B : Book) (bs : List (Int × Int)) : Prop := ∀ p ∈ bs, B.off p.1 ∧ 0 ≤ p.2
/-- the rows of a posting's first n birds -/
def posts (ps : Posting) : Nat → List R3
  | 0 => []
  | i + 1 => posts ps i ++ (match ps.getD i none with
    | none => []
    | some p => [((i : Int), p.1, p.2)])
def rowsOf (ps : Posting) : List R3 := posts ps ps.length
theorem posts_mem {ps : Posting} : ∀ {n : Nat} {r : R3}, r ∈ posts ps n ↔ ∃ (i : Nat) (o t : Int), i < n ∧ ps.getD i none = some (o, t) ∧ r = ((i : Int), o, t)
  | 0, r => by simp [posts]
  | n + 1, r => by
    unfold posts
    rw [List.mem_append, posts_mem (n := n)]
    constructor
    · rintro (⟨i, o, t, h1, h2, h3⟩ | h)
      · exact ⟨i, o, t, by omega, h2, h3⟩
      · cases e : ps.getD n none with
        | none => rw [e] at h; cases h
        | some p =>
          rw [e] at h
          exact ⟨n, p.1, p.2, by omega, e, by simpa using h⟩
    · rintro ⟨i, o, t, h1, h2, h3⟩
      by_cases q : i = n
      · subst q
        right
        rw [h2]
        simp [h3]
      · exact .inl ⟨i, o, t, by omega, h2, h3⟩
theorem posts_len {ps : Posting} : ∀ n, (posts ps n).length ≤ n
  | 0 => Nat.le_refl _
  | n + 1 => by
    unfold posts
    rw [List.length_append]
    have := posts_len (ps := ps) n
    cases ps.getD n none with
    | none => simp; omega
    | some p => simp; omega
structure GoodRows (B : Book) (rows : List R3) : Prop where
  at_ : ∀ r ∈ rows, (0 ≤ r.1 ∧ r.1 < (B.bi.length : Int)) ∧ B.off r.2.1 ∧ B.home r.1 ≠ r.2.1 ∧ 0 ≤ r.2.2
  len : rows.length ≤ 1000
theorem home_off {B : Book} (g : Good B) {b : Int} (h : 0 ≤ b ∧ b < (B.bi.length : Int)) : B.off (B.home b) := by
  refine g.bi _ ?_
  have : b.toNat < B.bi.length := by omega
  unfold Z.Book.home
  rw [List.getD_eq_getElem?_getD, List.getElem?_eq_getElem this]
  simp
theorem ix_home {B : Book} {b : Int} (h : 0 ≤ b ∧ b < (B.bi.length : Int)) : ixD (eInts B.bi) b = some (.int (B.home b)) := by
  show L2.atI _ _ = _
  rw [atI_map, atI_of h.1 h.2 0]
  rfl
theorem good_rows {B : Book} {ps : Posting} (g : Good B) (h : GoodPost B ps) : GoodRows B (rowsOf ps) := by
  refine ⟨fun r hr => ?_, ?_⟩
  · obtain ⟨i, o, t, h1, h2, rfl⟩ := posts_mem.mp hr
    have h3 : ps[i]? = some (some (o, t)) := by
      rw [List.getD_eq_getElem?_getD, List.getElem?_eq_getElem h1] at h2
      rw [List.getElem?_eq_getElem h1]
      simpa using h2
    obtain ⟨a, b, c⟩ := h.at_ i o t h3
    have := h.len
    exact ⟨⟨by show (0 : Int) ≤ (i : Int); omega, by show (i : Int) < _; omega⟩, a, fun z => b z.symm, c⟩
  · have := posts_len (ps := ps) ps.length
    have := h.len
    have := g.bil
    show (posts ps ps.length).length ≤ 1000
    omega
def R_need_posting (ds : List PyData) (d : PyData) : Prop := ∃ B ps, ds = [eBook B, ePost ps] ∧ Good B ∧ GoodPost B ps ∧ d = .none
theorem ok_need_posting (M : Md K mg) : FnG P w K mg base "need_posting" ["book", "posting"] 4 (spP K R_need_posting) := by
  have Fneed_book := ok_need_book (P := P) (w := w) (base := base) M
  have Fis_office := ok_is_office (P := P) (w := w) (base := base) M
  refine fn_sd (N := ["book", "posting", "bird", "place"]) M.d_need_posting ⟨rfl, rfl, rfl, by decide +kernel, rfl, by decide +kernel, by decide +kernel⟩ (fun ds d ⟨_, _, e, _⟩ => by rw [e]; rfl) (by decide) (fun X c ds d hR => ?_)
  obtain ⟨B, ps, rfl, g, gp, rfl⟩ := hR
  show SD X [.dat (eBook B), .dat (ePost ps), .no, .no] _ _
  refine sd_expr (ed_call c Fneed_book (by decide) rfl (ad_cons (ed_var c 0 rfl (.inl rfl) rfl rfl rfl) ad_nil rfl) ⟨B, rfl, g, rfl⟩ rfl rfl rfl) rfl ?_
  refine sd_if (td_cmp (ed_callB c rfl M.b_len PySem.boot_len (ad_cons (ed_var c 1 rfl (.inl rfl) rfl rfl rfl) ad_nil rfl) cl_lenT (by decide) rfl rfl rfl) (ed_callB c rfl M.b_len PySem.boot_len (ad_cons (ed_ix (ed_var c 0 rfl (.inl rfl) rfl rfl rfl) (ed_gint c rfl M.c_BIRDS rfl) rfl (fun _ _ => rfl)) ad_nil rfl) cl_lenT (by decide) rfl rfl rfl) cd_neI (nomark _)) (fun hb => ?_) (fun hb => ?_)
  · rw [List.length_map, List.length_map, gp.len] at hb
    simp at hb
  refine sd_nil ?_
  refine sd_for c (fun _ => [.dat (eBook B), .dat (ePost ps), .no, .no]) (id_enumT c rfl M.b_enumerate (ed_var c 1 rfl (.inl rfl) rfl rfl rfl) rfl) (gd_tup c (gs_cons c 2 rfl (by kspl_open loc) (by kspl_open loc) (gs_cons c 3 rfl (by kspl_open loc) (by kspl_open loc) gs_nil rfl) rfl) rfl rfl) Wk.rfl' (fun i d hd => ?_) (sd_nil rfl) (fun _ => rfl)
  obtain ⟨d', hd', rfl⟩ := enumD_inv hd
  obtain ⟨p, hp, rfl⟩ := map_get hd'
  refine ⟨_, rfl, ?_⟩
  have wk : ∀ d1 d2, Wk [.dat (eBook B), .dat (ePost ps), .dat d1, .dat d2] [.dat (eBook B), .dat (ePost ps), .no, .no] := fun _ _ => ⟨.inr rfl, .inr rfl, .inl rfl, .inl rfl, trivial⟩
  cases p with
  | none => exact sd_ifF (td_cmp (ed_var c 3 rfl (.inl rfl) rfl rfl rfl) ed_non cd_notN (nomark _)) (sd_nil (sd_nil (wk _ _)))
  | some ot =>
    obtain ⟨o, t⟩ := ot
    obtain ⟨ho, hn, ht⟩ := gp.at_ i o t hp
    have hi : 0 ≤ (i : Int) ∧ (i : Int) < (B.bi.length : Int) := by
      have := (List.getElem?_eq_some_iff.mp hp).1
      have := gp.len
      omega
    refine sd_ifT (td_cmp (ed_var c 3 rfl (.inl rfl) rfl rfl rfl) ed_non cd_notN (nomark _)) ?_
    refine sd_if (td_w (wd_or (td_not (td_val (ed_call c Fis_office (by decide) rfl (ad_cons (ed_var c 0 rfl (.inl rfl) rfl rfl rfl) (ad_cons (ed_ix (ed_var c 3 rfl (.inl rfl) rfl rfl rfl) ed_int rfl (fun _ _ => rfl)) ad_nil rfl) rfl) ⟨B, o, rfl, rfl⟩ rfl rfl rfl) (fun _ => rfl))) (fun _ => (wd_or (td_cmp (ed_ix (ed_var c 3 rfl (.inl rfl) rfl rfl rfl) ed_int rfl (fun _ _ => rfl)) (ed_ix (ed_ix (ed_var c 0 rfl (.inl rfl) rfl rfl rfl) (ed_gint c rfl M.c_BIRDS rfl) rfl (fun _ _ => rfl)) (ed_var c 2 rfl (.inl rfl) rfl rfl rfl) (ix_home hi) (fun _ _ => rfl)) cd_eqI (nomark _)) (fun _ => (wd_or1 (td_cmp (ed_ix (ed_var c 3 rfl (.inl rfl) rfl rfl rfl) ed_int rfl (fun _ _ => rfl)) ed_int cd_lt (nomark _)))))))) (fun hb => ?_) (fun hb => ?_)
    · rw [decT ho.1, decT ho.2, decide_eq_false hn, decide_eq_false (show ¬ t < 0 by omega)] at hb
      cases hb
    · exact sd_nil (sd_nil (sd_nil (wk _ _)))
end
end K
namespace K
open PySem L2 Z
section
variable {P : Program} {w : World} {K : PySem.W.Frag} {mg : Str → Option Value} {base : Heap} [LamC]
def R_posted (ds : List PyData) (es : List PyData) : Prop := ∃ ps : Posting, ds = [ePost ps] ∧ ps.length ≤ 1000 ∧ es = (rowsOf ps).map eR3
theorem ok_posted (M : Md K mg) : FnG P w K mg base "posted" ["posting"] 1 (spL K R_posted) := by
  refine fn_sdL (N := ["posting", "found", "bird", "place"]) M.d_posted ⟨rfl, rfl, rfl, by decide +kernel, rfl, by decide +kernel, by decide +kernel⟩ (fun ds d ⟨_, e, _⟩ => by rw [e]; rfl) (by decide) (fun X c ds d hR => ?_)
  obtain ⟨ps, rfl, hl, rfl⟩ := hR
  show SD X [.dat (ePost ps), .no, .no, .no] _ _
  refine sd_asgL c 1 rfl (.inl rfl) (.inl rfl) (Nat.le_of_ble_eq_true rfl) (el_lst ad_nil (Nat.le_of_ble_eq_true rfl)) rfl ?_
  refine sd_for c (fun i => [.dat (ePost ps), .own ((posts ps i).map eR3), .no, .no]) (id_enumT c rfl M.b_enumerate (ed_var c 0 rfl (.inl rfl) rfl rfl rfl) rfl) (gd_tup c (gs_cons c 2 rfl (by kspl_open loc) (by kspl_open loc) (gs_cons c 3 rfl (by kspl_open loc) (by kspl_open loc) gs_nil rfl) rfl) rfl rfl) Wk.rfl' (fun i d hd => ?_) ?_ (fun _ => rfl)
  · obtain ⟨d', hd', rfl⟩ := enumD_inv hd
    obtain ⟨p, hp, rfl⟩ := map_get hd'
    refine ⟨_, rfl, ?_⟩
    have hi := (List.getElem?_eq_some_iff.mp hp).1
    have hg : ps.getD i none = p := by rw [List.getD_eq_getElem?_getD, hp]; rfl
    cases p with
    | none =>
      refine SD.nxW (L' := [.dat (ePost ps), .own ((posts ps i).map eR3), .no, .no]) ?_ ?_
      · show [_, SK.own ((posts ps i ++ _).map eR3), _, _] = _
        rw [hg, List.append_nil]
      · exact sd_ifF (td_cmp (ed_var c 3 rfl (.inl rfl) rfl rfl rfl) ed_non cd_notN (nomark _)) (sd_nil (sd_nil ⟨.inr rfl, .inr rfl, .inl rfl, .inl rfl, trivial⟩))
    | some ot =>
      obtain ⟨o, t⟩ := ot
      refine SD.nxW (L' := [.dat (ePost ps), .own ((posts ps i).map eR3 ++ [eR3 ((i : Int), o, t)]), .no, .no]) ?_ ?_
      · show [_, SK.own ((posts ps i ++ _).map eR3), _, _] = _
        rw [hg, List.map_append]
        rfl
      · refine sd_ifT (td_cmp (ed_var c 3 rfl (.inl rfl) rfl rfl rfl) ed_non cd_notN (nomark _)) ?_
        refine sd_append c 1 rfl (.inl rfl) (ed_tup (ad_cons (ed_var c 2 rfl (.inl rfl) rfl rfl rfl) (ad_cons (ed_ix (ed_var c 3 rfl (.inl rfl) rfl rfl rfl) ed_int rfl (fun _ _ => rfl)) (ad_cons (ed_ix (ed_var c 3 rfl (.inl rfl) rfl rfl rfl) ed_int rfl (fun _ _ => rfl)) ad_nil rfl) rfl) rfl) (Nat.le_of_ble_eq_true rfl)) rfl rfl ?hz ?_ rfl rfl rfl rfl rfl rfl
        · rw [List.length_map]
          exact Nat.lt_of_lt_of_le (show (posts ps i).length < 10000 by have := posts_len (ps := ps) i; omega) (Nat.le_of_ble_eq_true rfl)
        · exact sd_nil (sd_nil ⟨.inr rfl, .inr rfl, .inl rfl, .inl rfl, trivial⟩)
  · rw [enumD_len, List.length_map]
    exact sd_retOwn c 1 rfl (.inl rfl) rfl rfl rfl rfl
end
end K
namespace K
open PySem L2 Z
section
variable {P : Program} {w : World} {K : PySem.W.Frag} {mg : Str → Option Value} {base : Heap} [LamC]
/-! ### spreading: plain -/
theorem goAt_ge {B : Book} {o h : Int} : ∀ (n : Nat) (t : Int), t ≤ goAt B o h n t
  | 0, t => Int.le_refl t
  | n + 1, t => by
    unfold goAt
    split
    · have := goAt_ge (B := B) (o := o) (h := h) n (t + 1); omega
    · exact Int.le_refl t
theorem letGo_ge {B : Book} {o h t : Int} : t ≤ letGo B o h t := goAt_ge _ _
theorem goAt_free {B : Book} (g : Good B) {o h : Int} : ∀ (n : Nat) (t : Int), 99 ≤ t + (n : Int) → barred B o h (goAt B o h n t) = false
  | 0, t, l => barred_late (t := t) g (by omega)
  | n + 1, t, l => by
    unfold goAt
    split
    · exact goAt_free g n (t + 1) (by omega)
    · rename_i q; simpa using q
theorem letGo_free {B : Book} (g : Good B) {o h t : Int} : barred B o h (letGo B o h t) = false := goAt_free g _ _ (by omega)
theorem goAt_bar {B : Book} {o h : Int} : ∀ (n : Nat) (t u : Int), t ≤ u → u < goAt B o h n t → barred B o h u = true
  | 0, t, u, l, l' => by
    have l' : u < t := l'
    omega
  | n + 1, t, u, l, l' => by
    unfold goAt at l'
    split at l'
    · rename_i q
      by_cases e : u = t
      · subst e; exact q
      · exact goAt_bar n (t + 1) u (by omega) l'
    · omega
theorem letGo_bar {B : Book} {o h t u : Int} (l : t ≤ u) (l' : u < letGo B o h t) : barred B o h u = true := goAt_bar _ _ _ l l'
theorem letGo_mono {B : Book} (g : Good B) {o h t t' : Int} (l : t ≤ t') : letGo B o h t ≤ letGo B o h t' := by
  rcases Int.lt_or_le (letGo B o h t') (letGo B o h t) with z | z
  · have := letGo_bar (Int.le_trans l (letGo_ge (B := B) (o := o) (h := h))) z
    rw [letGo_free g] at this
    cases this
  · exact z
theorem f_pos {B : Book} (g : Good B) {o h : Int} (ho : B.off o) (hh : B.off h) (n : h ≠ o) : 1 ≤ B.f o h ∧ B.f o h ≤ 9 := by
  have := g.vals o h ho hh
  rw [if_neg n] at this
  exact this
theorem comesAt_mono {B : Book} (g : Good B) {o h t t' : Int} (l : t ≤ t') : comesAt B o h t ≤ comesAt B o h t' := by
  unfold comesAt
  have := letGo_mono (o := o) (h := h) g l
  split <;> omega
theorem comesAt_late {B : Book} (g : Good B) {o h t : Int} (ho : B.off o) (hh : B.off h) (n : h ≠ o) : t < comesAt B o h t := by
  unfold comesAt
  rw [if_neg fun z => n z.symm]
  have := letGo_ge (B := B) (o := o) (h := h) (t := t)
  have := (f_pos g ho hh n).1
  omega
def rowE (B : Book) (r : R3) : Edge := ⟨r.2.1, B.home r.1, fun v => some (comesAt B r.2.1 (B.home r.1) (max v r.2.2))⟩
theorem rowE_ok {B : Book} (g : Good B) {rows : List R3} (gr : GoodRows B rows) : ∀ e, e ∈ rows.map (rowE B) → e.Ok := fun e he => by
  obtain ⟨r, hr, rfl⟩ := List.mem_map.mp he
  obtain ⟨hb, ho, hn, ht⟩ := gr.at_ r hr
  refine ⟨fun v v' t' l q => ?_, fun v t q => ?_⟩
  · cases q
    exact ⟨_, rfl, comesAt_mono g (by omega)⟩
  · cases q
    have := comesAt_late g (t := max v r.2.2) ho (home_off g hb) hn
    omega
noncomputable def spread (B : Book) (rows : List R3) (bs : List (Int × Int)) : Dt := Sp (fun e => e ∈ rows.map (rowE B)) (fun p => p ∈ bs)
def D0 (bs : List (Int × Int)) : Dt := bs.foldl (fun D p => low D p.1 p.2) (fun _ => none)
theorem fold_low_le : ∀ (bs : List (Int × Int)) (D : Dt), NL (bs.foldl (fun D p => low D p.1 p.2) D) D
  | [], D => NL.rfl
  | p :: bs, D => (fold_low_le bs _).trans low_le
theorem fold_low_beg : ∀ (bs : List (Int × Int)) (D : Dt) (o t : Int), (o, t) ∈ bs → ∃ u, bs.foldl (fun D p => low D p.1 p.2) D o = some u ∧ u ≤ t
  | p :: bs, D, o, t, h => by
    rcases List.mem_cons.mp h with e | e
    · subst e
      obtain ⟨u, h1, h2⟩ := low_at (D := D) (o := o) (t := t)
      obtain ⟨u', h3, h4⟩ := fold_low_le bs (low D o t) o u h1
      exact ⟨u', h3, by omega⟩
    · exact fold_low_beg bs _ o t e
theorem D0_beg {bs : List (Int × Int)} {o t : Int} (h : (o, t) ∈ bs) : ∃ u, D0 bs o = some u ∧ u ≤ t := fold_low_beg bs _ o t h
theorem fold_low_snd {E : Edge → Prop} {bp : Int × Int → Prop} (hE : ∀ e, E e → e.Ok) : ∀ (bs : List (Int × Int)) (D : Dt), (∀ p ∈ bs, bp p ∧ 0 ≤ p.2) → Sound E bp D → Sound E bp (bs.foldl (fun D p => low D p.1 p.2) D)
  | [], D, _, S => S
  | p :: bs, D, h, S => fold_low_snd hE bs _ (fun q hq => h q (List.mem_cons_of_mem _ hq)) (S.low hE (h p List.mem_cons_self).2 (.inl (h p List.mem_cons_self).1))
theorem Sound.none {E : Edge → Prop} {bp : Int × Int → Prop} : Sound E bp (fun _ => none) := ⟨fun _ _ h => (by cases h), fun _ _ h => (by cases h)⟩
section
variable {B : Book} {rows : List R3} {bs : List (Int × Int)}
theorem D0_snd (g : Good B) (gr : GoodRows B rows) (gb : GoodBeg B bs) : Sound (fun e => e ∈ rows.map (rowE B)) (fun p => p ∈ bs) (D0 bs) := fold_low_snd (rowE_ok g gr) bs _ (fun p hp => ⟨hp, (gb p hp).2⟩) Sound.none
theorem spread_spec (g : Good B) (gr : GoodRows B rows) (gb : GoodBeg B bs) : Sound (fun e => e ∈ rows.map (rowE B)) (fun p => p ∈ bs) (spread B rows bs) ∧ Stable (fun e => e ∈ rows.map (rowE B)) (fun p => p ∈ bs) (spread B rows bs) :=
  sp_spec (rowE_ok g gr) (fun o t h => (gb _ h).2)
theorem spread_is (g : Good B) (gr : GoodRows B rows) (gb : GoodBeg B bs) {D : Dt} (S : Sound (fun e => e ∈ rows.map (rowE B)) (fun p => p ∈ bs) D) (T : Stable (fun e => e ∈ rows.map (rowE B)) (fun p => p ∈ bs) D) : D = spread B rows bs :=
  sp_is (rowE_ok g gr) (fun o t h => (gb _ h).2) S T
theorem spread_its (g : Good B) (gr : GoodRows B rows) (gb : GoodBeg B bs) {k : Nat} (hk : rows.length ≤ k) : its (rows.map (rowE B)) k (D0 bs) = spread B rows bs :=
  rounds_do (rowE_ok g gr) (fun e => Iff.rfl) (spread_spec g gr gb).1 (spread_spec g gr gb).2 (D0_snd g gr gb) (fun o t h => D0_beg h) (rows.map fun r => B.home r.1) (fun e he => by
    obtain ⟨r, hr, rfl⟩ := List.mem_map.mp he
    exact List.mem_map.mpr ⟨r, hr, rfl⟩) (by rw [List.length_map]; exact hk)
theorem spread_fix (g : Good B) (gr : GoodRows B rows) (gb : GoodBeg B bs) {k : Nat} (h : rnd (rows.map (rowE B)) (its (rows.map (rowE B)) k (D0 bs)) = its (rows.map (rowE B)) k (D0 bs)) : its (rows.map (rowE B)) k (D0 bs) = spread B rows bs :=
  spread_is g gr gb (Sound.its (rowE_ok g gr) (fun e he => he) (D0_snd g gr gb) k) (stable_of_rnd (rowE_ok g gr) (fun e => Iff.rfl) (fun o t hb => by
    obtain ⟨u, h1, h2⟩ := D0_beg hb
    have : NL (its (rows.map (rowE B)) k (D0 bs)) (D0 bs) := by
      clear h
      induction k with
      | zero => exact NL.rfl
      | succ k ih => exact (rnd_le _ _).trans ih
    obtain ⟨u', h3, h4⟩ := this o u h1
    exact ⟨u', h3, by omega⟩) h)
end
theorem rel_none {D : Dt} {e : Edge} (h : D e.a = none) : rel D e = D := by unfold rel; rw [h]
theorem rel_row {B : Book} {D : Dt} {r : R3} {v : Int} (h : D r.2.1 = some v) : rel D (rowE B r) = low D (B.home r.1) (comesAt B r.2.1 (B.home r.1) (max v r.2.2)) := by
  unfold rel rowE
  dsimp only
  rw [h]
theorem fold_take {α : Type} {es : List α} {i : Nat} {e : α} {D : Dt} {F : Dt → α → Dt} (h : es[i]? = some e) : (es.take (i + 1)).foldl F D = F ((es.take i).foldl F D) e := by
  have ht : es.take (i + 1) = es.take i ++ [e] := by rw [List.take_succ, h]; rfl
  rw [ht, List.foldl_append]
  rfl
theorem fold_all {α : Type} {es : List α} {D : Dt} {F : Dt → α → Dt} : (es.take es.length).foldl F D = es.foldl F D := by rw [List.take_length]
end
end K
namespace K
open PySem L2 Z
section
variable {P : Program} {w : World} {K : PySem.W.Frag} {mg : Str → Option Value} {base : Heap} [LamC]
/-! ### spreading: the walk -/
def R_spread (ds : List PyData) (es : List PyData) : Prop := ∃ B rows bs db, ds = [eBook B, .list (List.map eR3 rows), db] ∧ seqD db = some (List.map eP2 bs) ∧ Good B ∧ GoodRows B rows ∧ GoodBeg B bs ∧ es = fl B.n (spread B rows bs)
theorem ok_spread (M : Md K mg) : FnG P w K mg base "spread" ["book", "rows", "begins"] 4 (spL K R_spread) := by
  have Fc := ok_comes (P := P) (w := w) (base := base) M
  refine fn_sdL (N := ["book", "rows", "begins", "found", "office", "hour", "moved", "bird", "place", "ready", "home", "come", "one"]) M.d_spread ⟨rfl, rfl, rfl, by decide +kernel, rfl, by decide +kernel, by decide +kernel⟩ (fun ds d ⟨_, _, _, _, e, _⟩ => by rw [e]; rfl) (by decide) (fun X c ds d hR => ?_)
  obtain ⟨B, rows, bs, db, rfl, hq, g, gr, gb, rfl⟩ := hR
  show SD X [.dat (eBook B), .dat (.list (rows.map eR3)), .dat db, .no, .no, .no, .no, .no, .no, .no, .no, .no, .no] _ _
  have hn : B.n < 10 := by have := g.n6; omega
  refine sd_asgC c 3 rfl rfl (Nat.le_of_ble_eq_true rfl) rfl rfl rfl (lc_map c [("one", 12)] (xs := B.fl) (enc := eInts) (fun _ => .none) (by decide +kernel) rfl (id_seq (ed_ix (ed_var c 0 rfl (.inl rfl) rfl rfl rfl) (ed_gint c rfl M.c_FLIGHTS rfl) rfl (fun _ _ => rfl)) rfl) (all1 ⟨_, rfl, .inl rfl⟩) (fun X' c2 => gd_name c2 12 rfl (by kspl_open loc) (by kspl_open loc)) (Nat.lt_of_lt_of_le hn (Nat.le_of_ble_eq_true rfl)) (fun x hx => ⟨_, rfl, fun X' c2 => ed_non, ⟨.inr rfl, .inr rfl, .inr rfl, .inr rfl, .inr rfl, .inr rfl, .inr rfl, .inr rfl, .inr rfl, .inr rfl, .inr rfl, .inr rfl, .inl rfl, trivial⟩⟩) (fun _ => rfl)) ?_
  refine SD.to (ls := [.dat (eBook B), .dat (.list (rows.map eR3)), .dat db, .own (fl B.n (fun _ => none)), .no, .no, .no, .no, .no, .no, .no, .no, .no]) ?_ ?_
  · show [_, _, _, SK.own (B.fl.map fun _ => .none), _, _, _, _, _, _, _, _, _] = _
    rw [fl_none, List.map_const']
  -- for office, hour in begins
  refine sd_for c (fun i => [.dat (eBook B), .dat (.list (rows.map eR3)), .dat db, .own (fl B.n ((bs.take i).foldl (fun D p => low D p.1 p.2) (fun _ => none))), .no, .no, .no, .no, .no, .no, .no, .no, .no]) (id_seq (ed_var c 2 rfl (.inl rfl) rfl rfl rfl) hq) (gd_tup c (gs_cons c 4 rfl (by kspl_open loc) (by kspl_open loc) (gs_cons c 5 rfl (by kspl_open loc) (by kspl_open loc) gs_nil rfl) rfl) rfl rfl) Wk.rfl' (fun i d hd => ?_) ?_ (fun _ => rfl)
  · obtain ⟨p, hp, rfl⟩ := map_get hd
    obtain ⟨ho, ht⟩ := gb p (List.mem_of_getElem? hp)
    obtain ⟨o, t⟩ := p
    refine ⟨_, rfl, ?_⟩
    rw [fold_take hp]
    generalize (bs.take i).foldl (fun D p => low D p.1 p.2) (fun _ => none) = D
    refine sd_if (td_low c 3 rfl (.inl rfl) rfl (ed_var c 4 rfl (.inl rfl) rfl rfl rfl) (ed_var c 4 rfl (.inl rfl) rfl rfl rfl) (ed_var c 5 rfl (.inl rfl) rfl rfl rfl) ho (fun _ _ => rfl) (fun _ _ => rfl) rfl rfl (nomark _)) (fun hb => ?_) (fun hb => ?_)
    · refine sd_setitem c 3 rfl (.inl rfl) (ed_var c 5 rfl (.inl rfl) rfl rfl rfl) (ed_var c 4 rfl (.inl rfl) rfl rfl rfl) rfl rfl (fl_ixN ho) ?_ rfl rfl (fun _ => rfl) rfl rfl rfl
      refine sd_nil (sd_nil ?_)
      rw [low_t hb, ← fl_set ho]
      exact ⟨.inr rfl, .inr rfl, .inr rfl, .inr rfl, .inl rfl, .inl rfl, .inl rfl, .inl rfl, .inl rfl, .inl rfl, .inl rfl, .inl rfl, .inl rfl, trivial⟩
    · refine sd_nil (sd_nil ?_)
      rw [low_f hb]
      exact ⟨.inr rfl, .inr rfl, .inr rfl, .inr rfl, .inl rfl, .inl rfl, .inl rfl, .inl rfl, .inl rfl, .inl rfl, .inl rfl, .inl rfl, .inl rfl, trivial⟩
  rw [List.length_map, fold_all]
  show SD X [.dat (eBook B), .dat (.list (rows.map eR3)), .dat db, .own (fl B.n (its (rows.map (rowE B)) 0 (D0 bs))), .no, .no, .no, .no, .no, .no, .no, .no, .no] _ _
  refine sd_asg c 6 rfl (.inl rfl) (.inl rfl) (Nat.le_of_ble_eq_true rfl) ed_bl rfl ?_
  -- while moved
  refine sd_while c (fun m ls => ∃ k mv, ls = [.dat (eBook B), .dat (.list (rows.map eR3)), .dat db, .own (fl B.n (its (rows.map (rowE B)) k (D0 bs))), .no, .no, .dat (.bool mv), .no, .no, .no, .no, .no, .no] ∧ (mv = true → k ≤ rows.length ∧ m = rows.length + 1 - k) ∧ (mv = false → m = 0 ∧ its (rows.map (rowE B)) k (D0 bs) = spread B rows bs)) (rows.length + 1) ⟨0, true, rfl, fun _ => ⟨Nat.zero_le _, rfl⟩, fun z => by cases z⟩ (fun m ls hF => ?_)
  obtain ⟨k, mv, rfl, ht, hf⟩ := hF
  refine ⟨_, _, (td_val (ed_var c 6 rfl (.inl rfl) rfl rfl rfl) (fun _ => rfl)), fun hb => ?_, fun hb => ?_⟩
  · subst hb
    obtain ⟨hk, rfl⟩ := ht rfl
    clear ht hf
    have gone : rows.length ≤ k → rnd (rows.map (rowE B)) (its (rows.map (rowE B)) k (D0 bs)) = its (rows.map (rowE B)) k (D0 bs) := fun l => by
      have h1 := spread_its g gr gb l
      have h2 := spread_its g gr gb (show rows.length ≤ k + 1 by omega)
      rw [h1]
      have h2 : rnd (rows.map (rowE B)) (its (rows.map (rowE B)) k (D0 bs)) = spread B rows bs := h2
      rw [h1] at h2
      exact h2
    have fix := spread_fix g gr gb (k := k)
    have step : its (rows.map (rowE B)) (k + 1) (D0 bs) = rnd (rows.map (rowE B)) (its (rows.map (rowE B)) k (D0 bs)) := rfl
    generalize eD : its (rows.map (rowE B)) k (D0 bs) = D at gone fix step
    refine sd_asg c 6 rfl (.inl rfl) (.inl rfl) (Nat.le_of_ble_eq_true rfl) ed_bl rfl ?_
    refine sd_forP c (fun i ls => ∃ mv, ls = [.dat (eBook B), .dat (.list (rows.map eR3)), .dat db, .own (fl B.n ((rows.take i).foldl (fun D r => rel D (rowE B r)) D)), .no, .no, .dat (.bool mv), .no, .no, .no, .no, .no, .no] ∧ (mv = false → (rows.take i).foldl (fun D r => rel D (rowE B r)) D = D) ∧ (mv = true → (rows.take i).foldl (fun D r => rel D (rowE B r)) D ≠ D) ∧ NL ((rows.take i).foldl (fun D r => rel D (rowE B r)) D) D) (id_seq (ed_var c 1 rfl (.inl rfl) rfl rfl rfl) rfl) (gd_tup c (gs_cons c 7 rfl (by kspl_open loc) (by kspl_open loc) (gs_cons c 8 rfl (by kspl_open loc) (by kspl_open loc) (gs_cons c 9 rfl (by kspl_open loc) (by kspl_open loc) gs_nil rfl) rfl) rfl) rfl rfl) ⟨false, rfl, fun _ => rfl, fun z => (by cases z), NL.rfl⟩ (fun i d ls hd hF => ?_) (fun ls hF => ?_) (fun _ => rfl)
    · obtain ⟨mv, rfl, f0, f1, f2⟩ := hF
      obtain ⟨r, hr, rfl⟩ := map_get hd
      obtain ⟨hbi, ho, hne, hpos⟩ := gr.at_ r (List.mem_of_getElem? hr)
      have hho := home_off g hbi
      obtain ⟨b, o, t⟩ := r
      refine ⟨_, rfl, ?_⟩
      rw [fold_take hr]
      generalize (rows.take i).foldl (fun D r => rel D (rowE B r)) D = C at f0 f1 f2
      have ho' : 0 ≤ o ∧ o < (B.n : Int) := ho
      have hh' : 0 ≤ B.home b ∧ B.home b < (B.n : Int) := hho
      have hx : L2.atI (fl B.n C) o = some (oD (C o)) := fl_at ho'
      refine sd_ifJ (fun ls => ∃ mv, ls = [.dat (eBook B), .dat (.list (rows.map eR3)), .dat db, .own (fl B.n (rel C (rowE B (b, o, t)))), .no, .no, .dat (.bool mv), .no, .no, .no, .no, .no, .no] ∧ (mv = false → rel C (rowE B (b, o, t)) = D) ∧ (mv = true → rel C (rowE B (b, o, t)) ≠ D) ∧ NL (rel C (rowE B (b, o, t))) D) (td_cmp (own_ix c 3 rfl (.inl rfl) (ed_var c 8 rfl (.inl rfl) rfl rfl rfl) rfl hx (fun _ _ => rfl) rfl rfl rfl) ed_non cd_notN (nomark _)) (fun hb => ?_) (fun hb => ?_) (fun k h => sd_nil h)
      · cases e : C o with
        | none => rw [e] at hb; cases hb
        | some v =>
          rw [e] at hx
          refine sd_asg c 10 rfl (.inl rfl) (.inl rfl) (Nat.le_of_ble_eq_true rfl) (ed_ix (ed_ix (ed_var c 0 rfl (.inl rfl) rfl rfl rfl) (ed_gint c rfl M.c_BIRDS rfl) rfl (fun _ _ => rfl)) (ed_var c 7 rfl (.inl rfl) rfl rfl rfl) (ix_home hbi) (fun _ _ => rfl)) rfl ?_
          refine sd_asg c 11 rfl (.inl rfl) (.inl rfl) (Nat.le_of_ble_eq_true rfl) (ed_call c Fc (by decide) rfl (ad_cons (ed_var c 0 rfl (.inl rfl) rfl rfl rfl) (ad_cons (ed_var c 8 rfl (.inl rfl) rfl rfl rfl) (ad_cons (ed_var c 10 rfl (.inl rfl) rfl rfl rfl) (ad_cons (ed_callB c rfl M.b_max PyProof.Rows.boot_max (ad_cons (own_ix c 3 rfl (.inl rfl) (ed_var c 8 rfl (.inl rfl) rfl rfl rfl) rfl hx (fun _ _ => rfl) rfl rfl rfl) (ad_cons (ed_var c 9 rfl (.inl rfl) rfl rfl rfl) ad_nil rfl) rfl) (cl_max2 c.calm) (by decide) rfl rfl rfl) ad_nil rfl) rfl) rfl) rfl) ⟨B, o, _, _, rfl, g, ho, hho, rfl⟩ rfl rfl rfl) rfl ?_
          have er : rel C (rowE B (b, o, t)) = low C (B.home b) (comesAt B o (B.home b) (max v t)) := rel_row e
          rw [er]
          refine sd_if (td_low c 3 rfl (.inl rfl) rfl (ed_var c 10 rfl (.inl rfl) rfl rfl rfl) (ed_var c 10 rfl (.inl rfl) rfl rfl rfl) (ed_var c 11 rfl (.inl rfl) rfl rfl rfl) hh' (fun _ _ => rfl) (fun _ _ => rfl) rfl rfl (nomark _)) (fun hbt => ?_) (fun hbt => ?_)
          · refine sd_setitem c 3 rfl (.inl rfl) (ed_var c 11 rfl (.inl rfl) rfl rfl rfl) (ed_var c 10 rfl (.inl rfl) rfl rfl rfl) rfl rfl (fl_ixN hh') ?_ rfl rfl (fun _ => rfl) rfl rfl rfl
            refine sd_asg c 6 rfl (.inl rfl) (.inl rfl) (Nat.le_of_ble_eq_true rfl) ed_bl rfl ?_
            have hfx := low_fix hbt
            have hle : NL (low C (B.home b) (comesAt B o (B.home b) (max v t))) C := low_le
            rw [low_t hbt] at hfx hle ⊢
            rw [← fl_set hh']
            refine sd_nil (sd_weak (ls := [_, _, _, _, .no, .no, _, .no, .no, .no, .no, .no, .no]) ⟨.inr rfl, .inr rfl, .inr rfl, .inr rfl, .inl rfl, .inl rfl, .inr rfl, .inl rfl, .inl rfl, .inl rfl, .inl rfl, .inl rfl, .inl rfl, trivial⟩ (sd_nil ⟨true, rfl, fun z => (by cases z), fun _ z => ?_, hle.trans f2⟩))
            have e1 : C = D := NL.anti f2 (z ▸ hle)
            exact hfx (z.trans e1.symm)
          · rw [low_f hbt]
            exact sd_nil (sd_weak (ls := [_, _, _, _, .no, .no, _, .no, .no, .no, .no, .no, .no]) ⟨.inr rfl, .inr rfl, .inr rfl, .inr rfl, .inl rfl, .inl rfl, .inr rfl, .inl rfl, .inl rfl, .inl rfl, .inl rfl, .inl rfl, .inl rfl, trivial⟩ (sd_nil ⟨mv, rfl, f0, f1, f2⟩))
      · cases e : C o with
        | some v => rw [e] at hb; cases hb
        | none =>
          have er : rel C (rowE B (b, o, t)) = C := rel_none e
          rw [er]
          exact sd_weak (ls := [_, _, _, _, .no, .no, _, .no, .no, .no, .no, .no, .no]) ⟨.inr rfl, .inr rfl, .inr rfl, .inr rfl, .inl rfl, .inl rfl, .inr rfl, .inl rfl, .inl rfl, .inl rfl, .inl rfl, .inl rfl, .inl rfl, trivial⟩ (sd_nil ⟨mv, rfl, f0, f1, f2⟩)
    · obtain ⟨mv, rfl, f0, f1, f2⟩ := hF
      rw [List.length_map, fold_all] at f0 f1
      refine sd_nil ?_
      have er : rows.foldl (fun D r => rel D (rowE B r)) D = rnd (rows.map (rowE B)) D := by unfold rnd; rw [List.foldl_map]
      rw [List.length_map, fold_all, er]
      rw [er] at f0 f1
      refine ⟨if mv = true then rows.length + 1 - (k + 1) else 0, ?_, k + 1, mv, by rw [step], fun z => ?_, fun z => ?_⟩
      · split <;> omega
      · subst z
        have : ¬ rows.length ≤ k := fun l => f1 rfl (gone l)
        exact ⟨by omega, rfl⟩
      · subst z
        refine ⟨rfl, ?_⟩
        rw [step, f0 rfl]
        exact eD ▸ fix (by rw [← eD] at f0 ⊢; exact f0 rfl)
  · subst hb
    rw [(hf rfl).2]
    exact sd_retOwn c 3 rfl (.inl rfl) rfl rfl rfl rfl
end
end K
namespace K
open PySem L2 Z
section
variable {P : Program} {w : World} {K : PySem.W.Frag} {mg : Str → Option Value} {base : Heap} [LamC]
/-! ### letters -/
def byDue (o : Option Int) (due : Int) : Bool := match o with
  | none => false
  | some t => decide (t ≤ due)
noncomputable def comesBy (B : Book) (rows : List R3) (bs : List (Int × Int)) (goal due : Int) : Bool := byDue (spread B rows bs goal) due
def eLet (db : PyData) (goal due : Int) : PyData := .tuple [db, .int goal, .int due]
theorem ed_byDue {P : Program} {w : World} {mg : Str → Option Value} {base : Heap} {T : Sta} {k : Nat} {X : Cx} {ks : List SK} {x y : Str} {jj : Nat} {p1 p2 p3 p4 p5 p6 p7 : Pos} {o : Option Int} {due : Int} {K : PySem.W.Frag} (c : Z.Ctx P w K mg base T k X) (hx : ED X ks (.Name x p1) ks (oD o)) (hx' : ED X ks (.Name x p4) ks (oD o)) (hy : ED X ks (.Name y p5) ks (.int due)) :
    ED X ks (.BoolOp .And [.Compare (.Name x p1) [.IsNot] [.Constant .none jj p2] p3, .Compare (.Name x p4) [.LtE] [.Name y p5] p6] p7) ks (.bool (byDue o due)) := by
  cases o with
  | none => exact ed_and (x := false) (y := true) (ed_cmp hx ed_non cd_notN (nomark _)) (fun z => by cases z)
  | some t => exact ed_and (x := true) (ed_cmp hx ed_non cd_notN (nomark _)) (fun _ => ed_and1 (ed_cmp hx' hy cd_le (nomark _)))
def R_comes_by (ds : List PyData) (d : PyData) : Prop := ∃ B rows bs db goal due, ds = [eBook B, .list (List.map eR3 rows), eLet db goal due] ∧ seqD db = some (List.map eP2 bs) ∧ Good B ∧ GoodRows B rows ∧ GoodBeg B bs ∧ B.off goal ∧ d = .bool (comesBy B rows bs goal due)
theorem ok_comes_by (M : Md K mg) : FnG P w K mg base "comes_by" ["book", "rows", "letter"] 5 (spP K R_comes_by) := by
  have Fs := ok_spread (P := P) (w := w) (base := base) M
  refine fn_sd (N := ["book", "rows", "letter", "begins", "goal", "due", "there"]) M.d_comes_by ⟨rfl, rfl, rfl, by decide +kernel, rfl, by decide +kernel, by decide +kernel⟩ (fun ds d ⟨_, _, _, _, _, _, e, _⟩ => by rw [e]; rfl) (by decide) (fun X c ds d hR => ?_)
  obtain ⟨B, rows, bs, db, goal, due, rfl, hq, g, gr, gb, ho, rfl⟩ := hR
  show SD X [.dat (eBook B), .dat (.list (rows.map eR3)), .dat (eLet db goal due), .no, .no, .no, .no] _ _
  refine sd_unpack c (ed_var c 2 rfl (.inl rfl) rfl rfl rfl) (gd_tup c (gs_cons c 3 rfl (by kspl_open loc) (by kspl_open loc) (gs_cons c 4 rfl (by kspl_open loc) (by kspl_open loc) (gs_cons c 5 rfl (by kspl_open loc) (by kspl_open loc) gs_nil rfl) rfl) rfl) rfl rfl) rfl rfl rfl rfl ?_
  refine sd_asg c 6 rfl (.inl rfl) (.inl rfl) (Nat.le_of_ble_eq_true rfl) (ed_ix (ed_el (el_call c Fs (by decide) rfl (ad_cons (ed_var c 0 rfl (.inl rfl) rfl rfl rfl) (ad_cons (ed_var c 1 rfl (.inl rfl) rfl rfl rfl) (ad_cons (ed_var c 3 rfl (.inl rfl) rfl rfl rfl) ad_nil rfl) rfl) rfl) ⟨B, rows, bs, db, rfl, hq, g, gr, gb, rfl⟩ rfl rfl rfl)) (ed_var c 4 rfl (.inl rfl) rfl rfl rfl) (fl_ix ho) (fun _ _ => rfl)) rfl ?_
  exact sd_ret (ed_byDue c (ed_var c 6 rfl (.inl rfl) rfl rfl rfl) (ed_var c 6 rfl (.inl rfl) rfl rfl rfl) (ed_var c 5 rfl (.inl rfl) rfl rfl rfl)) rfl
end
end K
namespace K
open PySem L2 Z
section
variable {P : Program} {w : World} {K : PySem.W.Frag} {mg : Str → Option Value} {base : Heap} [LamC]
/-! ### losses -/
def withoutF (rows : List R3) (b : Int) : List R3 := rows.filter fun r => !decide (r.1 = b)
def lossesF (rows : List R3) : List (List R3) := rows :: rows.map fun r => withoutF rows r.1
theorem withoutF_good {B : Book} {rows : List R3} (g : GoodRows B rows) (b : Int) : GoodRows B (withoutF rows b) := ⟨fun r hr => g.at_ r (List.mem_filter.mp hr).1, Nat.le_trans (List.length_filter_le _ _) g.len⟩
theorem losses_good {B : Book} {rows : List R3} (g : GoodRows B rows) : ∀ l ∈ lossesF rows, GoodRows B l := fun l hl => by
  rcases List.mem_cons.mp hl with z | z
  · rw [z]; exact g
  · obtain ⟨r, _, rfl⟩ := List.mem_map.mp z
    exact withoutF_good g _
def R_without (ds : List PyData) (es : List PyData) : Prop := ∃ rows b, ds = [.list (List.map eR3 rows), .int b] ∧ rows.length ≤ 1000 ∧ es = (withoutF rows b).map eR3
theorem ok_without (M : Md K mg) : FnG P w K mg base "without" ["rows", "bird"] 1 (spL K R_without) := by
  refine fn_sdL (N := ["rows", "bird", "row"]) M.d_without ⟨rfl, rfl, rfl, by decide +kernel, rfl, by decide +kernel, by decide +kernel⟩ (fun ds d ⟨_, _, e, _⟩ => by rw [e]; rfl) (by decide) (fun X c ds d hR => ?_)
  obtain ⟨rows, b, rfl, hl, rfl⟩ := hR
  show SD X [.dat (.list (rows.map eR3)), .dat (.int b), .no] _ _
  exact sd_retL (el_filter c [("row", 2)] (xs := rows) (enc := eR3) (fun r => !decide (r.1 = b)) eR3 (by decide +kernel) rfl (id_seq (ed_var c 0 rfl (.inl rfl) rfl rfl rfl) rfl) (all1 ⟨_, rfl, .inl rfl⟩) (fun X' c2 => gd_name c2 2 rfl (by kspl_open loc) (by kspl_open loc)) (Nat.lt_of_lt_of_le (show rows.length < 10000 by omega) (Nat.le_of_ble_eq_true rfl)) (fun r hr => ⟨_, rfl, fun X' c2 => ts_one (td_cmp (ed_ix (ed_var c2 2 rfl (by kspl_open vis) rfl rfl rfl) ed_int rfl (fun _ _ => rfl)) (ed_var c2 1 rfl (by kspl_open vis) rfl rfl rfl) cd_neI (nomark _)), ⟨.inr rfl, .inr rfl, .inl rfl, trivial⟩, fun _ X' c2 => ed_var c2 2 rfl (by kspl_open vis) rfl rfl rfl⟩) (fun _ => rfl)) rfl
def eRows (l : List R3) : PyData := .list (l.map eR3)
def R_losses (ds : List PyData) (es : List PyData) : Prop := ∃ rows, ds = [.list (List.map eR3 rows)] ∧ rows.length ≤ 1000 ∧ es = (lossesF rows).map eRows
theorem ok_losses (M : Md K mg) : FnG P w K mg base "losses" ["rows"] 2 (spL K R_losses) := by
  have Fw := ok_without (P := P) (w := w) (base := base) M
  refine fn_sdL (N := ["rows", "row"]) M.d_losses ⟨rfl, rfl, rfl, by decide +kernel, rfl, by decide +kernel, by decide +kernel⟩ (fun ds d ⟨_, e, _⟩ => by rw [e]; rfl) (by decide) (fun X c ds d hR => ?_)
  obtain ⟨rows, rfl, hl, rfl⟩ := hR
  show SD X [.dat (.list (rows.map eR3)), .no] _ _
  refine sd_retL (el_cat (ed_el (el_lst (ad_cons (ed_var c 0 rfl (.inr (.inl rfl)) rfl rfl rfl) ad_nil rfl) (Nat.le_of_ble_eq_true rfl))) (ed_el (el_map c [("row", 1)] (xs := rows) (enc := eR3) (fun r => eRows (withoutF rows r.1)) (by decide +kernel) rfl (id_seq (ed_var c 0 rfl (.inr (.inl rfl)) rfl rfl rfl) rfl) (all1 ⟨_, rfl, .inl rfl⟩) (fun X' c2 => gd_name c2 1 rfl (by kspl_open loc) (by kspl_open loc)) (Nat.lt_of_lt_of_le (show rows.length < 10000 by omega) (Nat.le_of_ble_eq_true rfl)) (fun r hr => ⟨_, rfl, fun X' c2 => ed_el (el_call c2 Fw (by decide) rfl (ad_cons (ed_var c2 0 rfl (by kspl_open vis) rfl rfl rfl) (ad_cons (ed_ix (ed_var c2 1 rfl (by kspl_open vis) rfl rfl rfl) ed_int rfl (fun _ _ => rfl)) ad_nil rfl) rfl) ⟨rows, _, rfl, hl, rfl⟩ rfl rfl rfl), ⟨.inr rfl, .inl rfl, trivial⟩⟩) (fun _ => rfl))) ?_) ?_
  · rw [List.length_map]
    exact Nat.le_trans (show 1 + rows.length ≤ 10000 by omega) (Nat.le_of_ble_eq_true rfl)
  · show _ = (lossesF rows).map eRows
    unfold lossesF
    rw [List.map_cons, List.map_map]
    rfl
end
end K
namespace K
open PySem L2 Z
section
variable {P : Program} {w : World} {K : PySem.W.Frag} {mg : Str → Option Value} {base : Heap} [LamC]
/-! ### letters kept -/
abbrev Ltr := List (Int × Int) × Int × Int
def eLtr (t : Ltr) : PyData := eLet (.tuple (t.1.map eP2)) t.2.1 t.2.2
def GoodLtr (B : Book) (t : Ltr) : Prop := GoodBeg B t.1 ∧ B.off t.2.1
noncomputable def failAt (B : Book) (ls : List Ltr) (l : List R3) : Option (List R3 × Ltr) := ls.findSome? fun t => if comesBy B l t.1 t.2.1 t.2.2 = true then none else some (l, t)
noncomputable def firstFail (B : Book) (rows : List R3) (ls : List Ltr) : Option (List R3 × Ltr) := (lossesF rows).findSome? (failAt B ls)
theorem find_at {α β : Type} {f : α → Option β} {b : β} : ∀ {xs : List α} {i : Nat} {x : α}, xs[i]? = some x → (∀ (j : Nat) (y : α), j < i → xs[j]? = some y → f y = none) → f x = some b → xs.findSome? f = some b
  | a :: xs, 0, x, h, _, hf => by
    simp at h
    subst h
    rw [List.findSome?_cons, hf]
  | a :: xs, i + 1, x, h, hp, hf => by
    rw [List.findSome?_cons, hp 0 a (Nat.succ_pos _) rfl]
    exact find_at (xs := xs) (i := i) (by simpa using h) (fun j y hj hy => hp (j + 1) y (by omega) (by simpa using hy)) hf
theorem find_none {α β : Type} {f : α → Option β} {xs : List α} (h : ∀ (j : Nat) (y : α), xs[j]? = some y → f y = none) : xs.findSome? f = none := by
  rw [List.findSome?_eq_none_iff]
  intro x hx
  obtain ⟨i, hi, e⟩ := List.mem_iff_getElem.mp hx
  exact h i x (by rw [List.getElem?_eq_getElem hi, e])
def eFail : Option (List R3 × Ltr) → PyData
  | none => .none
  | some (l, t) => .tuple [eRows l, eLtr t]
def R_need_letters (ds : List PyData) (d : PyData) : Prop := ∃ B ls, ds = [eBook B, .list (List.map eLtr ls)] ∧ (∀ t ∈ ls, GoodLtr B t) ∧ d = .none
theorem ok_need_letters (M : Md K mg) : FnG P w K mg base "need_letters" ["book", "letters"] 3 (spP K R_need_letters) := by
  have Fo := ok_need_office (P := P) (w := w) (base := base) M
  refine fn_sd (N := ["book", "letters", "begins", "goal", "due", "office", "hour"]) M.d_need_letters ⟨rfl, rfl, rfl, by decide +kernel, rfl, by decide +kernel, by decide +kernel⟩ (fun ds d ⟨_, _, e, _⟩ => by rw [e]; rfl) (by decide) (fun X c ds d hR => ?_)
  obtain ⟨B, ls, rfl, hg, rfl⟩ := hR
  show SD X [.dat (eBook B), .dat (.list (ls.map eLtr)), .no, .no, .no, .no, .no] _ _
  refine sd_for c (fun _ => [.dat (eBook B), .dat (.list (ls.map eLtr)), .no, .no, .no, .no, .no]) (id_seq (ed_var c 1 rfl (.inl rfl) rfl rfl rfl) rfl) (gd_tup c (gs_cons c 2 rfl (by kspl_open loc) (by kspl_open loc) (gs_cons c 3 rfl (by kspl_open loc) (by kspl_open loc) (gs_cons c 4 rfl (by kspl_open loc) (by kspl_open loc) gs_nil rfl) rfl) rfl) rfl rfl) Wk.rfl' (fun i d hd => ?_) (sd_nil rfl) (fun _ => rfl)
  obtain ⟨t, ht, rfl⟩ := map_get hd
  obtain ⟨gb, go⟩ := hg t (List.mem_of_getElem? ht)
  refine ⟨_, rfl, ?_⟩
  refine sd_for c (fun _ => [.dat (eBook B), .dat (.list (ls.map eLtr)), .dat (.tuple (t.1.map eP2)), .dat (.int t.2.1), .no, .no, .no]) (id_seq (ed_var c 2 rfl (.inl rfl) rfl rfl rfl) rfl) (gd_tup c (gs_cons c 5 rfl (by kspl_open loc) (by kspl_open loc) (gs_cons c 6 rfl (by kspl_open loc) (by kspl_open loc) gs_nil rfl) rfl) rfl rfl) ⟨.inr rfl, .inr rfl, .inr rfl, .inr rfl, .inl rfl, .inr rfl, .inr rfl, trivial⟩ (fun j d hd => ?_) ?_ (fun _ => rfl)
  · obtain ⟨p, hp, rfl⟩ := map_get hd
    refine ⟨_, rfl, ?_⟩
    refine sd_expr (ed_call c Fo (by decide) rfl (ad_cons (ed_var c 0 rfl (.inl rfl) rfl rfl rfl) (ad_cons (ed_var c 5 rfl (.inl rfl) rfl rfl rfl) ad_nil rfl) rfl) ⟨B, _, rfl, (gb p (List.mem_of_getElem? hp)).1, rfl⟩ rfl rfl rfl) rfl ?_
    exact sd_nil ⟨.inr rfl, .inr rfl, .inr rfl, .inr rfl, .inl rfl, .inl rfl, .inl rfl, trivial⟩
  · refine sd_expr (ed_call c Fo (by decide) rfl (ad_cons (ed_var c 0 rfl (.inl rfl) rfl rfl rfl) (ad_cons (ed_var c 3 rfl (.inl rfl) rfl rfl rfl) ad_nil rfl) rfl) ⟨B, _, rfl, go, rfl⟩ rfl rfl rfl) rfl ?_
    exact sd_nil ⟨.inr rfl, .inr rfl, .inl rfl, .inl rfl, .inl rfl, .inl rfl, .inl rfl, trivial⟩
def R_first_failing (ds : List PyData) (d : PyData) : Prop := ∃ B rows ls, ds = [eBook B, .list (List.map eR3 rows), .list (List.map eLtr ls)] ∧ Good B ∧ GoodRows B rows ∧ (∀ t ∈ ls, GoodLtr B t) ∧ d = eFail (firstFail B rows ls)
theorem ok_first_failing (M : Md K mg) : FnG P w K mg base "first_failing" ["book", "rows", "letters"] 6 (spP K R_first_failing) := by
  have Fl := ok_losses (P := P) (w := w) (base := base) M
  have Fc := ok_comes_by (P := P) (w := w) (base := base) M
  refine fn_sd (N := ["book", "rows", "letters", "left", "letter"]) M.d_first_failing ⟨rfl, rfl, rfl, by decide +kernel, rfl, by decide +kernel, by decide +kernel⟩ (fun ds d ⟨_, _, _, e, _⟩ => by rw [e]; rfl) (by decide) (fun X c ds d hR => ?_)
  obtain ⟨B, rows, ls, rfl, g, gr, hg, rfl⟩ := hR
  show SD X [.dat (eBook B), .dat (.list (rows.map eR3)), .dat (.list (ls.map eLtr)), .no, .no] _ _
  refine sd_forJ c (fun _ => [.dat (eBook B), .dat (.list (rows.map eR3)), .dat (.list (ls.map eLtr)), .no, .no]) (fun i => ∀ (j : Nat) (l : List R3), j < i → (lossesF rows)[j]? = some l → failAt B ls l = none) (id_seq (ed_el (el_call c Fl (by decide) rfl (ad_cons (ed_var c 1 rfl (.inl rfl) rfl rfl rfl) ad_nil rfl) ⟨rows, rfl, gr.len, rfl⟩ rfl rfl rfl)) rfl) (gd_name c 3 rfl (by kspl_open loc) (by kspl_open loc)) Wk.rfl' (fun _ _ z => absurd z (Nat.not_lt_zero _)) (fun i d hd hj => ?_) (fun hj => ?_) (fun _ => rfl)
  · obtain ⟨l, hl, rfl⟩ := map_get hd
    have gl := losses_good gr l (List.mem_of_getElem? hl)
    refine ⟨_, rfl, ?_⟩
    refine sd_forJ c (fun _ => [.dat (eBook B), .dat (.list (rows.map eR3)), .dat (.list (ls.map eLtr)), .dat (eRows l), .no]) (fun i => ∀ (j : Nat) (t : Ltr), j < i → ls[j]? = some t → (if comesBy B l t.1 t.2.1 t.2.2 = true then none else some (l, t)) = none) (id_seq (ed_var c 2 rfl (.inl rfl) rfl rfl rfl) rfl) (gd_name c 4 rfl (by kspl_open loc) (by kspl_open loc)) Wk.rfl' (fun _ _ z => absurd z (Nat.not_lt_zero _)) (fun k d hd hk => ?_) (fun hk => ?_) (fun _ => rfl)
    · obtain ⟨t, ht, rfl⟩ := map_get hd
      obtain ⟨gb, go⟩ := hg t (List.mem_of_getElem? ht)
      refine ⟨_, rfl, ?_⟩
      refine sd_if (td_not (td_val (ed_call c Fc (by decide) rfl (ad_cons (ed_var c 0 rfl (.inl rfl) rfl rfl rfl) (ad_cons (ed_var c 3 rfl (.inl rfl) rfl rfl rfl) (ad_cons (ed_var c 4 rfl (.inl rfl) rfl rfl rfl) ad_nil rfl) rfl) rfl) ⟨B, l, t.1, _, t.2.1, t.2.2, rfl, rfl, g, gl, gb, go, rfl⟩ rfl rfl rfl) (fun _ => rfl))) (fun hb => ?_) (fun hb => ?_)
      · have hb : comesBy B l t.1 t.2.1 t.2.2 = false := by simpa using hb
        refine sd_ret (ed_tup (ad_cons (ed_var c 3 rfl (.inl rfl) rfl rfl rfl) (ad_cons (ed_var c 4 rfl (.inl rfl) rfl rfl rfl) ad_nil rfl) rfl) (Nat.le_of_ble_eq_true rfl)) ?_
        have h1 : failAt B ls l = some (l, t) := find_at ht hk (by rw [if_neg (by rw [hb]; decide)])
        have h2 : firstFail B rows ls = some (l, t) := find_at hl hj h1
        rw [h2]
        rfl
      · have hb : comesBy B l t.1 t.2.1 t.2.2 = true := by simpa using hb
        refine sd_nil (sd_nil ⟨⟨.inr rfl, .inr rfl, .inr rfl, .inr rfl, .inl rfl, trivial⟩, prev_succ hk ht ?_⟩)
        rw [if_pos hb]
    · refine sd_nil ⟨⟨.inr rfl, .inr rfl, .inr rfl, .inl rfl, .inr rfl, trivial⟩, prev_succ hj hl (find_none fun j y hy => ?_)⟩
      rw [List.length_map] at hk
      exact hk j y (List.getElem?_eq_some_iff.mp hy).1 hy
  · refine sd_ret ed_non ?_
    rw [List.length_map] at hj
    have : firstFail B rows ls = none := find_none fun j y hy => hj j y (List.getElem?_eq_some_iff.mp hy).1 hy
    rw [this]
    rfl
end
end K
namespace K
open PySem L2 Z
section
variable {P : Program} {w : World} {K : PySem.W.Frag} {mg : Str → Option Value} {base : Heap} [LamC]
/-! ### the law's postings and begins -/
def postStep (B : Book) (i : Nat) (r : Rg) : Option (Int × Int) × Rg :=
  (if nxV (nxR (nxR (nxR r ((B.n : Int) - 1)) 3) (pick3 1 30 95 (nxV (nxR r ((B.n : Int) - 1)) 3))) 4 = 0 then none else some ((B.home (i : Int) + 1 + nxV r ((B.n : Int) - 1)) % (B.n : Int), nxV (nxR (nxR r ((B.n : Int) - 1)) 3) (pick3 1 30 95 (nxV (nxR r ((B.n : Int) - 1)) 3))),
    nxR (nxR (nxR (nxR r ((B.n : Int) - 1)) 3) (pick3 1 30 95 (nxV (nxR r ((B.n : Int) - 1)) 3))) 4)
def lawPost (B : Book) (r : Rg) : Posting × Rg := iterI (postStep B) B.bi.length r
theorem off_ne {n b v : Int} (h0 : 0 ≤ b) (h1 : b < n) (v0 : 0 ≤ v) (v1 : v < n - 1) : (0 ≤ (b + 1 + v) % n ∧ (b + 1 + v) % n < n) ∧ (b + 1 + v) % n ≠ b := by
  refine ⟨⟨Int.emod_nonneg _ (by omega), Int.emod_lt_of_pos _ (by omega)⟩, fun e => ?_⟩
  by_cases q : b + 1 + v < n
  · rw [Int.emod_eq_of_lt (by omega) q] at e
    omega
  · have : (b + 1 + v) % n = b + 1 + v - n := by
      rw [← Int.sub_emod_right, Int.emod_eq_of_lt (by omega) (by omega)]
    omega
theorem lawPost_at {B : Book} (g : Good B) {r : Rg} : ∀ (i : Nat) x, i < B.bi.length → (lawPost B r).1[i]? = some x → ∀ o t, x = some (o, t) → B.off o ∧ o ≠ B.home (i : Int) ∧ 0 ≤ t ∧ t ≤ 94 := fun i x hi e => by
  refine iterI_all (f := postStep B) (p := fun i x => i < B.bi.length → ∀ o t, x = some (o, t) → B.off o ∧ o ≠ B.home (i : Int) ∧ 0 ≤ t ∧ t ≤ 94) (fun i r hi o t ho => ?_) _ _ i x e hi
  unfold postStep at ho
  dsimp only at ho
  split at ho
  · cases ho
  · simp only [Option.some.injEq, Prod.mk.injEq] at ho
    have hh := home_off g (b := (i : Int)) ⟨by omega, by omega⟩
    have n2 := g.n2
    have := off_ne hh.1 hh.2 (nxV_0 (r := r) (m := (B.n : Int) - 1) (by omega)) (nxV_1 (by omega))
    have p := pick3_in (i := nxV (nxR r ((B.n : Int) - 1)) 3) (p := fun z => 0 < z ∧ z ≤ 95) (a := 1) (b := 30) (c := 95) (by decide) (by decide) (by decide)
    rw [← ho.1, ← ho.2]
    refine ⟨this.1, this.2, nxV_0 p.1, ?_⟩
    have := nxV_1 (r := nxR (nxR r ((B.n : Int) - 1)) 3) p.1
    omega
theorem lawPost_len {B : Book} {r : Rg} : (lawPost B r).1.length = B.bi.length := iterI_len _ _ _
theorem lawPost_good {B : Book} (g : Good B) {r : Rg} : GoodPost B (lawPost B r).1 := ⟨lawPost_len, fun i o t h => by
  have hi := (List.getElem?_eq_some_iff.mp h).1
  rw [lawPost_len] at hi
  obtain ⟨a, b, c, _⟩ := lawPost_at g i _ hi h o t rfl
  exact ⟨a, b, c⟩⟩
def R_law_posting (r : Rg) (ds : List PyData) (r2 : Rg) (d : PyData) : Prop := ∃ B, ds = [eBook B] ∧ Good B ∧ r2 = (lawPost B r).2 ∧ d = ePost (lawPost B r).1
theorem ok_law_posting (M : Md K mg) : FnG P w K mg base "_law_posting" ["_law_h", "_law_book_here"] 2 (spR K R_law_posting) := by
  have Fn := ok_next (P := P) (w := w) (base := base) M
  refine fn_sdR (N := ["_law_h", "_law_book_here", "_law_many", "_law_found", "_law_home", "_law_place"]) M.d__law_posting ⟨rfl, rfl, rfl, by decide +kernel, rfl, by decide +kernel, by decide +kernel⟩ (fun r ds r2 d ⟨_, e, _⟩ => by rw [e]; rfl) (by decide) (fun X c A A' r ds r2 d hR => ?_)
  obtain ⟨B, rfl, g, rfl, rfl⟩ := hR
  show SD X [.rng A A' r, .dat (eBook B), .no, .no, .no, .no] _ _
  have n2 := g.n2
  have n6 := g.n6
  refine sd_asg c 2 rfl (.inl rfl) (.inl rfl) (Nat.le_of_ble_eq_true rfl) (ed_to (ed_callB c rfl M.b_len PySem.boot_len (ad_cons (ed_ix (ed_var c 1 rfl (.inl rfl) rfl rfl rfl) ed_int rfl (fun _ _ => rfl)) ad_nil rfl) cl_lenT (by decide) rfl rfl rfl) (d' := .int (B.n : Int)) (by rw [List.length_map])) rfl ?_
  refine sd_asgL c 3 rfl (.inl rfl) (.inl rfl) (Nat.le_of_ble_eq_true rfl) (el_lst ad_nil (Nat.le_of_ble_eq_true rfl)) rfl ?_
  refine sd_for c (fun i => [.rng A A' (iterI (postStep B) i r).2, .dat (eBook B), .dat (.int (B.n : Int)), .own ((iterI (postStep B) i r).1.map oP), .no, .no]) (id_seq (ed_ix (ed_var c 1 rfl (.inl rfl) rfl rfl rfl) ed_int rfl (fun _ _ => rfl)) rfl) (gd_name c 4 rfl (by kspl_open loc) (by kspl_open loc)) Wk.rfl' (fun i d hd => ?_) ?_ (fun _ => rfl)
  · obtain ⟨h, hh, rfl⟩ := map_get hd
    have hi := (List.getElem?_eq_some_iff.mp hh).1
    have eh : h = B.home (i : Int) := by
      unfold Z.Book.home
      rw [Int.toNat_natCast, List.getD_eq_getElem?_getD, hh]; rfl
    subst eh
    refine ⟨_, rfl, ?_⟩
    have hl := iterI_len (postStep B) i r
    refine SD.nxW (L' := [.rng A A' (postStep B i (iterI (postStep B) i r).2).2, .dat (eBook B), .dat (.int (B.n : Int)), .own ((iterI (postStep B) i r).1.map oP ++ [oP (postStep B i (iterI (postStep B) i r).2).1]), .no, .no]) ?_ ?_
    · show [_, _, _, SK.own (((iterI (postStep B) i r).1 ++ [(postStep B i (iterI (postStep B) i r).2).1]).map oP), _, _] = _
      rw [List.map_append]
      rfl
    show SD X [.rng A A' (iterI (postStep B) i r).2, .dat (eBook B), .dat (.int (B.n : Int)), .own ((iterI (postStep B) i r).1.map oP), .dat (.int (B.home (i : Int))), .no] _ _
    generalize (iterI (postStep B) i r).2 = s at *
    generalize (iterI (postStep B) i r).1 = xs at *
    have p1 := p3_pos (a := 1) (b := 30) (c := 95) (i := nxV (nxR s ((B.n : Int) - 1)) 3) (by decide) (by decide) (by decide)
    refine sd_asg c 5 rfl (.inl rfl) (.inl rfl) (Nat.le_of_ble_eq_true rfl) (ed_tup (ad_cons (ed_bin (ed_bin (ed_bin (ed_var c 4 rfl (.inl rfl) rfl rfl rfl) ed_int bd_add) (ed_callR c Fn (by decide) rfl 0 rfl (.inl rfl) rfl (ad_cons (ed_bin (ed_var c 2 rfl (.inl rfl) rfl rfl rfl) ed_int bd_sub) ad_nil rfl) rfl ⟨_, rfl, by omega, by omega, rfl, rfl⟩ rfl rfl rfl rfl rfl) bd_add) (ed_var c 2 rfl (.inl rfl) rfl rfl rfl) (bd_mod (by omega))) (ad_cons (ed_callR c Fn (by decide) rfl 0 rfl (.inl rfl) rfl (ad_cons (ed_ix (ed_el (el_lst (ad_cons ed_int (ad_cons ed_int (ad_cons ed_int ad_nil rfl) rfl) rfl) (Nat.le_of_ble_eq_true rfl))) (ed_callR c Fn (by decide) rfl 0 rfl (.inl rfl) rfl (ad_cons ed_int ad_nil rfl) rfl ⟨3, rfl, by decide, by decide, rfl, rfl⟩ rfl rfl rfl rfl rfl) (ix_pick3 (nxV_0 (by decide)) (nxV_1 (by decide))) (fun _ _ => rfl)) ad_nil rfl) rfl ⟨_, rfl, p1.1, by have := p1.2; omega, rfl, rfl⟩ rfl rfl rfl rfl rfl) ad_nil rfl) rfl) (Nat.le_of_ble_eq_true rfl)) rfl ?_
    unfold postStep
    dsimp only
    generalize (B.home (i : Int) + 1 + nxV s ((B.n : Int) - 1)) % (B.n : Int) = o
    generalize nxV (nxR (nxR s ((B.n : Int) - 1)) 3) (pick3 1 30 95 (nxV (nxR s ((B.n : Int) - 1)) 3)) = t
    show SD X [.rng A A' (nxR (nxR (nxR s ((B.n : Int) - 1)) 3) (pick3 1 30 95 (nxV (nxR s ((B.n : Int) - 1)) 3))), .dat (eBook B), .dat (.int (B.n : Int)), .own (xs.map oP), .dat (.int (B.home (i : Int))), .dat (eP2 (o, t))] _ _
    generalize nxR (nxR (nxR s ((B.n : Int) - 1)) 3) (pick3 1 30 95 (nxV (nxR s ((B.n : Int) - 1)) 3)) = s3
    refine sd_append c 3 rfl (.inl rfl) (ed_if (d := oP (if nxV s3 4 = 0 then none else some (o, t))) (td_cmp (ed_callR c Fn (by decide) rfl 0 rfl (.inl rfl) rfl (ad_cons ed_int ad_nil rfl) rfl ⟨4, rfl, by decide, by decide, rfl, rfl⟩ rfl rfl rfl rfl rfl) ed_int cd_eqI (nomark _)) (fun hb => ed_to ed_non (by rw [if_pos (of_decide_eq_true hb)]; rfl)) (fun hb => ed_to (ed_var c 5 rfl (.inl rfl) rfl rfl rfl) (by rw [if_neg (of_decide_eq_false hb)]; rfl))) rfl rfl ?hz ?_ rfl rfl rfl rfl rfl rfl
    · rw [List.length_map, hl]
      exact Nat.lt_of_lt_of_le (show i < 1000 by have := g.bil; omega) (Nat.le_of_ble_eq_true rfl)
    · exact sd_nil ⟨.inr rfl, .inr rfl, .inr rfl, .inr rfl, .inl rfl, .inl rfl, trivial⟩
  · rw [List.length_map]
    refine sd_freeze 3 rfl ?_
    exact sd_ret (ed_callT c rfl M.b_tuple PyProof.Rows.boot_tuple (ad_cons (ed_var c 3 rfl (.inl rfl) rfl rfl rfl) ad_nil rfl) cl_tupL (by decide) rfl rfl rfl) ⟨rfl, rfl⟩
end
end K
namespace K
open PySem L2 Z
section
variable {P : Program} {w : World} {K : PySem.W.Frag} {mg : Str → Option Value} {base : Heap} [LamC]
def begStep (n : Int) (_ : Nat) (r : Rg) : (Int × Int) × Rg :=
  ((nxV r n, nxV (nxR (nxR r n) 3) (pick3 1 40 95 (nxV (nxR r n) 3))), nxR (nxR (nxR r n) 3) (pick3 1 40 95 (nxV (nxR r n) 3)))
def begN (r : Rg) : Int := 1 + nxV r 3 * (if decide (nxV (nxR r 3) 3 = 0) = true then 1 else 0)
def lawBeg (B : Book) (r : Rg) : List (Int × Int) × Rg := iterI (begStep (B.n : Int)) (begN r).toNat (nxR (nxR r 3) 3)
theorem begN_in {r : Rg} : 1 ≤ begN r ∧ begN r ≤ 3 := by
  unfold begN
  have h0 := nxV_0 (r := r) (m := 3) (by decide)
  have h1 := nxV_1 (r := r) (m := 3) (by decide)
  split <;> omega
theorem lawBeg_at {B : Book} (g : Good B) {r : Rg} : ∀ p ∈ (lawBeg B r).1, B.off p.1 ∧ 0 ≤ p.2 ∧ p.2 ≤ 94 := iterI_mem (fun i r => by
  have n2 := g.n2
  have p := pick3_in (i := nxV (nxR r (B.n : Int)) 3) (p := fun z => 0 < z ∧ z ≤ 95) (a := 1) (b := 40) (c := 95) (by decide) (by decide) (by decide)
  refine ⟨nxV_off rfl (by omega), nxV_0 p.1, ?_⟩
  have := nxV_1 (r := nxR (nxR r (B.n : Int)) 3) p.1
  show nxV _ _ ≤ 94
  omega) _ _
theorem lawBeg_good {B : Book} (g : Good B) {r : Rg} : GoodBeg B (lawBeg B r).1 := fun p hp => ⟨(lawBeg_at g p hp).1, (lawBeg_at g p hp).2.1⟩
theorem lawBeg_len {B : Book} {r : Rg} : (lawBeg B r).1.length = (begN r).toNat := iterI_len _ _ _
def R_law_begins (r : Rg) (ds : List PyData) (r2 : Rg) (d : PyData) : Prop := ∃ B, ds = [eBook B] ∧ Good B ∧ r2 = (lawBeg B r).2 ∧ d = .tuple ((lawBeg B r).1.map eP2)
theorem ok_law_begins (M : Md K mg) : FnG P w K mg base "_law_begins" ["_law_h", "_law_book_here"] 2 (spR K R_law_begins) := by
  have Fn := ok_next (P := P) (w := w) (base := base) M
  refine fn_sdR (N := ["_law_h", "_law_book_here", "_law_many", "_law_k"]) M.d__law_begins ⟨rfl, rfl, rfl, by decide +kernel, rfl, by decide +kernel, by decide +kernel⟩ (fun r ds r2 d ⟨_, e, _⟩ => by rw [e]; rfl) (by decide) (fun X c A A' r ds r2 d hR => ?_)
  obtain ⟨B, rfl, g, rfl, rfl⟩ := hR
  show SD X [.rng A A' r, .dat (eBook B), .no, .no] _ _
  have n2 := g.n2
  have n6 := g.n6
  have bn := begN_in (r := r)
  refine sd_asg c 2 rfl (.inl rfl) (.inl rfl) (Nat.le_of_ble_eq_true rfl) (ed_bin ed_int (ed_bin (ed_callR c Fn (by decide) rfl 0 rfl (.inr (.inl rfl)) rfl (ad_cons ed_int ad_nil rfl) rfl ⟨3, rfl, by decide, by decide, rfl, rfl⟩ rfl rfl rfl rfl rfl) (ed_callT c rfl M.b_int PyProof.Rows.boot_int (ad_cons (ed_cmp (ed_callR c Fn (by decide) rfl 0 rfl (.inr (.inl rfl)) rfl (ad_cons ed_int ad_nil rfl) rfl ⟨3, rfl, by decide, by decide, rfl, rfl⟩ rfl rfl rfl rfl rfl) ed_int cd_eqI (nomark _)) ad_nil rfl) cl_intB (by decide) rfl rfl rfl) (bd_mul (.inr (by split <;> decide)))) bd_add) rfl ?_
  show SD X [.rng A A' (nxR (nxR r 3) 3), .dat (eBook B), .dat (.int (begN r)), .no] _ _
  refine sd_ret (ed_callT c rfl M.b_tuple PyProof.Rows.boot_tuple (ad_cons (ed_el (el_draw (A := A) (B := A') (r := nxR (nxR r 3) 3) c [("_law_k", 3)] 0 (begStep (B.n : Int)) eP2 (by decide +kernel) rfl (id_range c rfl M.b_range (ed_var c 2 rfl (.inl rfl) rfl rfl rfl) (n := begN r) ⟨by omega, by omega⟩ rfl) rfl (by decide) (all1 ⟨_, rfl, .inl rfl⟩) (fun X' c2 => gd_name c2 3 rfl (by kspl_open loc) (by kspl_open loc)) (Nat.lt_of_lt_of_le (show (begN r).toNat < 1000 by omega) (Nat.le_of_ble_eq_true rfl)) (fun j r' hj => ?turn) (fun _ => rfl))) ad_nil rfl) cl_tupL (by decide) rfl rfl rfl) ⟨rfl, rfl⟩
  have p1 := p3_pos (a := 1) (b := 40) (c := 95) (i := nxV (nxR r' (B.n : Int)) 3) (by decide) (by decide) (by decide)
  have hn : ((B.fl.map eInts).length : Int) = (B.n : Int) := by rw [List.length_map]
  refine ⟨_, _, rfl, fun X' c2 => ed_tup (ad_cons (ed_callR c2 Fn (by decide) rfl 0 rfl (by kspl_open vis) rfl (ad_cons (ed_callB c2 rfl M.b_len PySem.boot_len (ad_cons (ed_ix (ed_var c2 1 rfl (by kspl_open vis) rfl rfl rfl) ed_int rfl (fun _ _ => rfl)) ad_nil rfl) cl_lenT (by decide) rfl rfl rfl) ad_nil rfl) rfl ⟨(B.n : Int), by rw [hn], by omega, by omega, rfl, rfl⟩ rfl rfl rfl rfl rfl) (ad_cons (ed_callR c2 Fn (by decide) rfl 0 rfl (by kspl_open vis) rfl (ad_cons (ed_ix (ed_el (el_lst (ad_cons ed_int (ad_cons ed_int (ad_cons ed_int ad_nil rfl) rfl) rfl) (Nat.le_of_ble_eq_true rfl))) (ed_callR c2 Fn (by decide) rfl 0 rfl (by kspl_open vis) rfl (ad_cons ed_int ad_nil rfl) rfl ⟨3, rfl, by decide, by decide, rfl, rfl⟩ rfl rfl rfl rfl rfl) (ix_pick3 (nxV_0 (by decide)) (nxV_1 (by decide))) (fun _ _ => rfl)) ad_nil rfl) rfl ⟨_, rfl, p1.1, by have := p1.2; omega, rfl, rfl⟩ rfl rfl rfl rfl rfl) ad_nil rfl) rfl) (Nat.le_of_ble_eq_true rfl), ⟨.inr rfl, .inr rfl, .inr rfl, .inl rfl, trivial⟩⟩
end
end K
namespace K
open PySem L2 Z
section
variable {P : Program} {w : World} {K : PySem.W.Frag} {mg : Str → Option Value} {base : Heap} [LamC]
/-! ### the law's rows -/
theorem posts_filter {ps : Posting} : ∀ n, n ≤ ps.length → (posts ps n).map eR3 = ((List.range n).filter fun i => (ps.getD i none).isSome).map fun (i : Nat) => .tuple [.int (i : Int), .int ((ps.getD i none).getD (0, 0)).1, .int ((ps.getD i none).getD (0, 0)).2]
  | 0, _ => rfl
  | n + 1, h => by
    rw [List.range_succ, List.filter_append, List.map_append, ← posts_filter n (by omega)]
    show (posts ps n ++ (match ps.getD n none with
      | none => []
      | some p => [((n : Int), p.1, p.2)])).map eR3 = _
    rw [List.map_append]
    congr 1
    cases e : ps.getD n none with
    | none => rw [List.filter_cons_of_neg (by rw [e]; decide)]; rfl
    | some p =>
      rw [List.filter_cons_of_pos (by rw [e]; rfl)]
      simp only [List.filter_nil, List.map_cons, List.map_nil, e]
      rfl
def R_law_rows (ds : List PyData) (es : List PyData) : Prop := ∃ ps : Posting, ds = [ePost ps] ∧ ps.length ≤ 1000 ∧ es = (rowsOf ps).map eR3
theorem ok_law_rows (M : Md K mg) : FnG P w K mg base "_law_rows" ["_law_posting_here"] 1 (spL K R_law_rows) := by
  refine fn_sdL (N := ["_law_posting_here", "_law_bird"]) M.d__law_rows ⟨rfl, rfl, rfl, by decide +kernel, rfl, by decide +kernel, by decide +kernel⟩ (fun ds d ⟨_, e, _⟩ => by rw [e]; rfl) (by decide) (fun X c ds d hR => ?_)
  obtain ⟨ps, rfl, hl, rfl⟩ := hR
  show SD X [.dat (ePost ps), .no] _ _
  unfold rowsOf
  rw [posts_filter ps.length (Nat.le_refl _)]
  have hn : (((ps.map oP).length : Nat) : Int).toNat = ps.length := by rw [List.length_map]; omega
  have hix : ∀ i : Nat, i < ps.length → ixD (ePost ps) (i : Int) = some (oP (ps.getD i none)) := fun i hi => by
    show L2.atI _ _ = _
    rw [atI_map, atI_of (by omega) (by omega) none]
    rfl
  refine sd_retL (el_filter (k1 := [.dat (ePost ps), .no]) c [("_law_bird", 1)] (xs := List.range ps.length) (enc := fun (i : Nat) => .int (i : Int)) (fun i => (ps.getD i none).isSome) _ (by decide +kernel) rfl ?id (all1 ⟨_, rfl, .inl rfl⟩) (fun X' c2 => gd_name c2 1 rfl (by kspl_open loc) (by kspl_open loc)) (by rw [List.length_range]; exact Nat.lt_of_lt_of_le (show ps.length < 10000 by omega) (Nat.le_of_ble_eq_true rfl)) (fun i hi => ?turn) (fun _ => rfl)) rfl
  · exact id_to (id_range c (n := ((ps.map oP).length : Int)) rfl M.b_range (ed_callB c rfl M.b_len PySem.boot_len (ad_cons (ed_var c 0 rfl (.inr (.inl rfl)) rfl rfl rfl) ad_nil rfl) cl_lenT (by decide) rfl rfl rfl) ⟨by rw [List.length_map]; omega, by omega⟩ rfl) (by rw [hn]; rfl)
  · have hi := List.mem_range.mp hi
    have hx := hix i hi
    refine ⟨_, rfl, fun X' c2 => ts_one (td_to (td_cmp (ed_ix (ed_var c2 0 rfl (by kspl_open vis) rfl rfl rfl) (ed_var c2 1 rfl (by kspl_open vis) rfl rfl rfl) hx (fun _ _ => rfl)) ed_non cd_notN (nomark _)) ?_), ⟨.inr rfl, .inl rfl, trivial⟩, fun hs X' c2 => ?_⟩
    · cases ps.getD i none <;> rfl
    · cases e : ps.getD i none with
      | none => rw [e] at hs; cases hs
      | some p =>
        rw [e] at hx
        exact ed_tup (ad_cons (ed_var c2 1 rfl (by kspl_open vis) rfl rfl rfl) (ad_cons (ed_ix (ed_ix (ed_var c2 0 rfl (by kspl_open vis) rfl rfl rfl) (ed_var c2 1 rfl (by kspl_open vis) rfl rfl rfl) hx (fun _ _ => rfl)) ed_int rfl (fun _ _ => rfl)) (ad_cons (ed_ix (ed_ix (ed_var c2 0 rfl (by kspl_open vis) rfl rfl rfl) (ed_var c2 1 rfl (by kspl_open vis) rfl rfl rfl) hx (fun _ _ => rfl)) ed_int rfl (fun _ _ => rfl)) ad_nil rfl) rfl) rfl) (Nat.le_of_ble_eq_true rfl)
end
end K
namespace K
open PySem L2 Z
section
variable {P : Program} {w : World} {K : PySem.W.Frag} {mg : Str → Option Value} {base : Heap} [LamC]
/-! ### how late at most -/
theorem goAt_le {B : Book} {o h : Int} : ∀ (n : Nat) (t : Int), goAt B o h n t ≤ t + (n : Int)
  | 0, t => by show t ≤ t + 0; omega
  | n + 1, t => by
    unfold goAt
    split
    · have := goAt_le (B := B) (o := o) (h := h) n (t + 1); omega
    · omega
theorem letGo_le {B : Book} (g : Good B) {o h t : Int} : letGo B o h t ≤ max t 99 := by
  rcases Int.lt_or_le t 99 with z | z
  · have := goAt_le (B := B) (o := o) (h := h) (99 - t).toNat t
    unfold letGo
    omega
  · rw [letGo_no (barred_late g z)]; omega
structure Small (B : Book) (rows : List R3) (bs : List (Int × Int)) : Prop where
  rl : rows.length ≤ 6
  rt : ∀ r ∈ rows, r.2.2 ≤ 110
  bt : ∀ p ∈ bs, p.2 ≤ 110
section
variable {B : Book} {rows : List R3} {bs : List (Int × Int)}
theorem comesAt_le (g : Good B) {o h t : Int} (ho : B.off o) (hh : B.off h) (n : h ≠ o) : comesAt B o h t ≤ max t 99 + 9 := by
  unfold comesAt
  rw [if_neg fun z => n z.symm]
  have := letGo_le (o := o) (h := h) (t := t) g
  have := (f_pos g ho hh n).2
  omega
structure SmallT (rows : List R3) (bs : List (Int × Int)) : Prop where
  rt : ∀ r ∈ rows, r.2.2 ≤ 110
  bt : ∀ p ∈ bs, p.2 ≤ 110
theorem Small.t (sm : Small B rows bs) : SmallT rows bs := ⟨sm.rt, sm.bt⟩
def offs (B : Book) : List Int := (List.range B.n).map fun (i : Nat) => (i : Int)
theorem offs_mem {o : Int} (h : B.off o) : o ∈ offs B := List.mem_map.mpr ⟨o.toNat, List.mem_range.mpr (by have := h.1; have := h.2; omega), by have := h.1; omega⟩
theorem spread_bound (g : Good B) (gr : GoodRows B rows) (gb : GoodBeg B bs) (sm : SmallT rows bs) : ∀ (n : Nat) o t, spread B rows bs o = some t → rank (offs B) (spread B rows bs) o < n → t ≤ 110 + 9 * (rank (offs B) (spread B rows bs) o : Int) := by
  obtain ⟨SQ, TQ⟩ := spread_spec g gr gb
  intro n
  induction n with
  | zero => intro o t _ h; exact absurd h (Nat.not_lt_zero _)
  | succ n ih =>
    intro o t ht hr
    rcases SQ.from_ o t ht with z | ⟨e, he, hb, v, u, h1, h2, h3⟩
    · have := sm.bt _ z
      have : t ≤ 110 := this
      omega
    · obtain ⟨r, hr', rfl⟩ := List.mem_map.mp he
      obtain ⟨hbi, ho, hne, hpos⟩ := gr.at_ r hr'
      have hh := home_off g hbi
      have hb : B.home r.1 = o := hb
      subst hb
      obtain ⟨u', h4, h5⟩ := TQ.ed _ he v u h1 h2
      have h4 : spread B rows bs (B.home r.1) = some u' := h4
      rw [ht] at h4
      cases h4
      have lv := (rowE_ok g gr _ he).late v u h2
      have rk := rank_lt (T := offs B) (offs_mem hh) h1 ht (show v < t by omega)
      have iv := ih _ _ h1 (by omega)
      have hc := comesAt_le (t := max v r.2.2) g ho hh hne
      have hu : comesAt B r.2.1 (B.home r.1) (max v r.2.2) = u := Option.some.inj h2
      have := sm.rt r hr'
      omega
theorem spread_leT (g : Good B) (gr : GoodRows B rows) (gb : GoodBeg B bs) (sm : SmallT rows bs) {o t : Int} (h : spread B rows bs o = some t) : t ≤ 164 := by
  have h1 := spread_bound g gr gb sm _ o t h (Nat.lt_succ_self _)
  have h2 := rank_le (T := offs B) (D := spread B rows bs) (o := o)
  have h3 : (offs B).length = B.n := by unfold offs; rw [List.length_map, List.length_range]
  have := g.n6
  omega
end
theorem posts_rt {ps : Posting} {m : Int} (h : ∀ (i : Nat) o t, ps[i]? = some (some (o, t)) → t ≤ m) : ∀ r ∈ rowsOf ps, r.2.2 ≤ m := fun r hr => by
  obtain ⟨i, o, t, h1, h2, rfl⟩ := posts_mem.mp hr
  refine h i o t ?_
  rw [List.getD_eq_getElem?_getD, List.getElem?_eq_getElem h1] at h2
  rw [List.getElem?_eq_getElem h1]
  simpa using h2
theorem lawPost_rt {B : Book} (g : Good B) {r : Rg} : ∀ x ∈ rowsOf (lawPost B r).1, x.2.2 ≤ 110 := fun x hx => by
  have := posts_rt (ps := (lawPost B r).1) (m := 94) (fun i o t h => by
    have hi := (List.getElem?_eq_some_iff.mp h).1
    rw [lawPost_len] at hi
    exact (lawPost_at g i _ hi h o t rfl).2.2.2) x hx
  omega
end
end K
namespace K
open PySem L2 Z
section
variable {P : Program} {w : World} {K : PySem.W.Frag} {mg : Str → Option Value} {base : Heap} [LamC]
/-! ### the law's own look at storms -/
theorem filter_any {α : Type} (p : α → Bool) (g : α → PyData) (xs : List α) : (!PyData.eqv (.list ((xs.filter p).map g)) (.list [])) = xs.any p := by
  induction xs with
  | nil => rfl
  | cons x xs ih =>
    cases h : p x with
    | true => rw [List.filter_cons_of_pos h, List.any_cons, h]; rfl
    | false => rw [List.filter_cons_of_neg (by rw [h]; decide), List.any_cons, h]; exact ih
theorem eqv_pair {a b o h : Int} : PyData.eqv (.tuple [.int a, .int b]) (.tuple [.int o, .int h]) = (decide (a = o) && decide (b = h)) := by
  rw [eqv_dec (p := a = o ∧ b = h) rfl rfl ⟨fun e => by simp at e; exact e, fun e => by rw [e.1, e.2]⟩]
  by_cases q : a = o <;> by_cases q' : b = h <;> simp [q, q']
def R_law_barred (ds : List PyData) (d : PyData) : Prop := ∃ B o h t, ds = [eBook B, .int o, .int h, .int t] ∧ Good B ∧ B.off o ∧ B.off h ∧ d = .bool (barred B o h t)
theorem ok_law_barred (M : Md K mg) : FnG P w K mg base "_law_barred" ["_law_book_here", "_law_office", "_law_home", "_law_hour"] 1 (spP K R_law_barred) := by
  refine fn_sd (N := ["_law_book_here", "_law_office", "_law_home", "_law_hour", "_law_come", "_law_row"]) M.d__law_barred ⟨rfl, rfl, rfl, by decide +kernel, rfl, by decide +kernel, by decide +kernel⟩ (fun ds d ⟨_, _, _, _, e, _⟩ => by rw [e]; rfl) (by decide) (fun X c ds d hR => ?_)
  obtain ⟨B, o, h, t, rfl, g, ho, hh, rfl⟩ := hR
  show SD X [.dat (eBook B), .dat (.int o), .dat (.int h), .dat (.int t), .no, .no] _ _
  refine sd_asg c 4 rfl (.inr rfl) (.inl rfl) (Nat.le_of_ble_eq_true rfl) (ed_bin (ed_var c 3 rfl (.inr (.inl rfl)) rfl rfl rfl) (ed_ix (ed_ix (ed_ix (ed_var c 0 rfl (.inl rfl) rfl rfl rfl) ed_int (by kspl_open ix) (fun _ _ => rfl)) (ed_var c 1 rfl (.inr (.inl rfl)) rfl rfl rfl) (by kspl_open ix) (fun _ _ => rfl)) (ed_var c 2 rfl (.inr (.inl rfl)) rfl rfl rfl) (by kspl_open ix) (fun _ _ => rfl)) bd_add) rfl ?_
  have hz : B.st.length < sizeLine := Nat.lt_of_lt_of_le (show B.st.length < 1000 by have := g.stl; omega) (Nat.le_of_ble_eq_true rfl)
  have hsh : SeqAt.shaped (.list ((B.st.filter (stormIn B o h t)).map fun _ => .int 1)) = true := Shp.ok (n := 1) (.list (allM fun a _ => .int _)) (by decide)
  refine sd_ret (ed_cmp (ed_el (el_filter c [("_law_row", 5)] (xs := B.st) (enc := eRow) (stormIn B o h t) (fun _ => .int 1) (by decide +kernel) rfl (id_seq (ed_ix (ed_var c 0 rfl (.inl rfl) rfl rfl rfl) ed_int (by kspl_open ix) (fun _ _ => rfl)) rfl) (all1 ⟨_, rfl, .inl rfl⟩) (fun X' c2 => gd_name c2 5 rfl (by kspl_open loc) (by kspl_open loc)) hz (fun r hr => ⟨_, rfl, fun X' c2 => ts_one (td_to (td_w (wd_and (td_cmp (ed_slT (ed_var c2 5 rfl (by kspl_open vis) rfl rfl rfl) po_no (po_yes ed_int)) (ed_tup (ad_cons (ed_var c2 1 rfl (by kspl_open vis) rfl rfl rfl) (ad_cons (ed_var c2 2 rfl (by kspl_open vis) rfl rfl rfl) ad_nil rfl) rfl) (Nat.le_of_ble_eq_true rfl)) (cd_eqD c2 (Shp.ok (n := 1) (.tuple (allC (.int r.1) (allC (.int r.2.1) allN))) (by decide)) (Shp.ok (n := 1) (.tuple (allC (.int _) (allC (.int _) allN))) (by decide))) (nomark _)) (fun _ => (wd_and (td_cmp (ed_ix (ed_var c2 5 rfl (by kspl_open vis) rfl rfl rfl) ed_int rfl (fun _ _ => rfl)) (ed_var c2 4 rfl (by kspl_open vis) rfl rfl rfl) cd_lt (nomark _)) (fun _ => (wd_and1 (td_cmp (ed_var c2 3 rfl (by kspl_open vis) rfl rfl rfl) (ed_ix (ed_var c2 5 rfl (by kspl_open vis) rfl rfl rfl) ed_int rfl (fun _ _ => rfl)) cd_lt (nomark _)))))))) ?tt), ?wk, fun _ X' c2 => ed_int⟩) (fun _ => rfl))) (ed_el (el_lst ad_nil (Nat.le_of_ble_eq_true rfl))) (cd_neD c hsh rfl) (nomark _)) ?_
  · show (PyData.eqv (.tuple [.int r.1, .int r.2.1]) (.tuple [.int o, .int h]) && (decide (r.2.2.1 < t + B.f o h) && decide (t < r.2.2.2))) = stormIn B o h t r
    rw [eqv_pair, stormIn]
    cases decide (r.1 = o) <;> rfl
  · exact ⟨.inr rfl, .inr rfl, .inr rfl, .inr rfl, .inr rfl, .inl rfl, trivial⟩
  · show PyData.bool (!PyData.eqv (.list ((B.st.filter (stormIn B o h t)).map fun _ => .int 1)) (.list [])) = .bool (barred B o h t)
    rw [filter_any]
    rfl
end
end K
namespace K
open PySem L2 Z
section
variable {P : Program} {w : World} {K : PySem.W.Frag} {mg : Str → Option Value} {base : Heap} [LamC]
/-! ### the law's own spreading -/
def e9 : Option Int → Int
  | none => 999
  | some t => t
def tot (D : Dt) : Dt := fun o => some (e9 (D o))
def cutE (B : Book) (r : R3) : Edge := ⟨r.2.1, B.home r.1, fun v => if comesAt B r.2.1 (B.home r.1) (max v r.2.2) < 999 then some (comesAt B r.2.1 (B.home r.1) (max v r.2.2)) else none⟩
def V9 (D : Dt) : Prop := ∀ o t, D o = some t → t < 999
theorem cutE_ok {B : Book} (g : Good B) {rows : List R3} (gr : GoodRows B rows) : ∀ e, e ∈ rows.map (cutE B) → e.Ok := fun e he => by
  obtain ⟨r, hr, rfl⟩ := List.mem_map.mp he
  obtain ⟨hb, ho, hn, ht⟩ := gr.at_ r hr
  refine ⟨fun v v' t' l q => ?_, fun v t q => ?_⟩
  · have m : comesAt B r.2.1 (B.home r.1) (max v r.2.2) ≤ comesAt B r.2.1 (B.home r.1) (max v' r.2.2) := comesAt_mono g (by omega)
    unfold cutE at q ⊢
    dsimp only at q ⊢
    split at q
    · cases q
      rw [if_pos (by omega)]
      exact ⟨_, rfl, m⟩
    · cases q
  · unfold cutE at q
    dsimp only at q
    split at q
    · cases q
      have := comesAt_late g (t := max v r.2.2) ho (home_off g hb) hn
      omega
    · cases q
theorem V9.low {D : Dt} (h : V9 D) {o t : Int} (ht : t < 999) : V9 (low D o t) := fun x s e => by
  rcases low_inv e with ⟨_, rfl⟩ | z
  · exact ht
  · exact h x s z
theorem V9.rel {D : Dt} (h : V9 D) {B : Book} {r : R3} : V9 (rel D (cutE B r)) := by
  unfold Z.rel
  cases e : D (cutE B r).a with
  | none => exact h
  | some v =>
    dsimp only
    cases e' : (cutE B r).go v with
    | none => exact h
    | some t =>
      refine h.low ?_
      unfold cutE at e'
      dsimp only at e'
      split at e'
      · cases e'; assumption
      · cases e'
theorem e9_low {D : Dt} {o t x : Int} (ht : t < 999) : e9 (low D o t x) = if x = o then min (e9 (D o)) t else e9 (D x) := by
  by_cases q : x = o
  · subst q
    rw [if_pos rfl]
    unfold low
    cases e : D x with
    | none =>
      rw [if_pos (show better none t = true from rfl), upD_at]
      show t = min 999 t
      omega
    | some u =>
      by_cases z : t < u
      · rw [if_pos (show better (some u) t = true from decide_eq_true z), upD_at]
        show t = min u t
        omega
      · rw [if_neg (show ¬ better (some u) t = true from fun y => z (of_decide_eq_true y)), e]
        show u = min u t
        omega
  · rw [if_neg q, low_out q]
theorem tot_rel {D : Dt} (h : V9 D) {B : Book} {r : R3} {v : Int} (e : D r.2.1 = some v) : tot (rel D (cutE B r)) = upD (tot D) (B.home r.1) (some (min (e9 (D (B.home r.1))) (comesAt B r.2.1 (B.home r.1) (max v r.2.2)))) := by
  have hr : rel D (cutE B r) = if comesAt B r.2.1 (B.home r.1) (max v r.2.2) < 999 then low D (B.home r.1) (comesAt B r.2.1 (B.home r.1) (max v r.2.2)) else D := by
    unfold Z.rel cutE
    dsimp only
    rw [e]
    dsimp only
    by_cases hc : comesAt B r.2.1 (B.home r.1) (max v r.2.2) < 999
    · rw [if_pos hc, if_pos hc]
    · rw [if_neg hc, if_neg hc]
  rw [hr]
  generalize comesAt B r.2.1 (B.home r.1) (max v r.2.2) = c
  funext x
  unfold tot
  by_cases hc : c < 999
  · rw [if_pos hc, e9_low hc]
    by_cases q : x = B.home r.1
    · rw [if_pos q, q, upD_at]
    · rw [if_neg q, upD_ne q]
  · rw [if_neg hc]
    by_cases q : x = B.home r.1
    · rw [q, upD_at]
      cases e' : D (B.home r.1) with
      | none =>
        show some 999 = some (min 999 c)
        congr 1; omega
      | some u =>
        have := h _ u e'
        show some u = some (min u c)
        congr 1; omega
    · rw [upD_ne q]
theorem cut_is {B : Book} {rows : List R3} {bs : List (Int × Int)} (g : Good B) (gr : GoodRows B rows) (gb : GoodBeg B bs) (sm : SmallT rows bs) :
    its (rows.map (cutE B)) rows.length (D0 bs) = spread B rows bs := by
  obtain ⟨SQ, TQ⟩ := spread_spec g gr gb
  have S' : Sound (fun e => e ∈ rows.map (cutE B)) (fun p => p ∈ bs) (spread B rows bs) := by
    refine ⟨SQ.pos, fun o t h => ?_⟩
    rcases SQ.from_ o t h with z | ⟨e, he, hb, v, u, h1, h2, h3⟩
    · exact .inl z
    · obtain ⟨r, hr, rfl⟩ := List.mem_map.mp he
      refine .inr ⟨cutE B r, List.mem_map.mpr ⟨r, hr, rfl⟩, hb, v, u, h1, ?_, h3⟩
      have := spread_leT g gr gb sm h
      have hu : comesAt B r.2.1 (B.home r.1) (max v r.2.2) = u := Option.some.inj h2
      show (if _ < 999 then _ else _) = some u
      rw [hu, if_pos (by omega)]
  have T' : Stable (fun e => e ∈ rows.map (cutE B)) (fun p => p ∈ bs) (spread B rows bs) := by
    refine ⟨TQ.beg, fun e he v t hv ht => ?_⟩
    obtain ⟨r, hr, rfl⟩ := List.mem_map.mp he
    refine TQ.ed (rowE B r) (List.mem_map.mpr ⟨r, hr, rfl⟩) v t hv ?_
    have ht : (if comesAt B r.2.1 (B.home r.1) (max v r.2.2) < 999 then some (comesAt B r.2.1 (B.home r.1) (max v r.2.2)) else none) = some t := ht
    split at ht
    · exact ht
    · cases ht
  exact rounds_do (cutE_ok g gr) (fun e => Iff.rfl) S' T' (fold_low_snd (cutE_ok g gr) bs _ (fun p hp => ⟨hp, (gb p hp).2⟩) Sound.none) (fun o t h => D0_beg h) (rows.map fun r => B.home r.1) (fun e he => by
    obtain ⟨r, hr, rfl⟩ := List.mem_map.mp he
    exact List.mem_map.mpr ⟨r, hr, rfl⟩) (by rw [List.length_map]; exact Nat.le_refl _)
theorem min_D0 : ∀ (bs : List (Int × Int)) (D : Dt) (o : Int), (∀ p ∈ bs, p.2 < 999) → V9 D → ∀ m, m = e9 (bs.foldl (fun D p => low D p.1 p.2) D o) → (m ∈ ((bs.filter fun p => decide (p.1 = o)).map fun p => p.2) ++ [e9 (D o)]) ∧ ∀ y ∈ ((bs.filter fun p => decide (p.1 = o)).map fun p => p.2) ++ [e9 (D o)], m ≤ y
  | [], D, o, _, _, m, e => by subst e; simp
  | p :: bs, D, o, h, hv, m, e => by
    have hp := h p List.mem_cons_self
    obtain ⟨h1, h2⟩ := min_D0 bs (low D p.1 p.2) o (fun q hq => h q (List.mem_cons_of_mem _ hq)) (hv.low hp) m e
    have el := e9_low (D := D) (o := p.1) (t := p.2) (x := o) hp
    by_cases q : p.1 = o
    · rw [if_pos q.symm] at el
      rw [List.filter_cons_of_pos (by simpa using q)]
      subst q
      refine ⟨?_, fun y hy => ?_⟩
      · rcases List.mem_append.mp h1 with z | z
        · simp [z]
        · have z : m = e9 (low D p.1 p.2 p.1) := by simpa using z
          rw [z, el]
          rcases Int.le_total (e9 (D p.1)) p.2 with w | w
          · rw [show min (e9 (D p.1)) p.2 = e9 (D p.1) by omega]; simp
          · rw [show min (e9 (D p.1)) p.2 = p.2 by omega]; simp
      · have hm := h2 (e9 (low D p.1 p.2 p.1)) (by simp)
        rw [el] at hm
        rcases List.mem_append.mp hy with z | z
        · rw [List.map_cons] at z
          rcases List.mem_cons.mp z with z | z
          · rw [z]; omega
          · exact h2 y (List.mem_append_left _ z)
        · have z : y = e9 (D p.1) := by simpa using z
          rw [z]; omega
    · rw [if_neg (fun z => q z.symm)] at el
      rw [List.filter_cons_of_neg (by simpa using q)]
      rw [el] at h1 h2
      exact ⟨h1, h2⟩
theorem V9_D0 : ∀ (bs : List (Int × Int)) (D : Dt), (∀ p ∈ bs, p.2 < 999) → V9 D → V9 (bs.foldl (fun D p => low D p.1 p.2) D)
  | [], D, _, h => h
  | p :: bs, D, h, hv => V9_D0 bs _ (fun q hq => h q (List.mem_cons_of_mem _ hq)) (hv.low (h p List.mem_cons_self))
theorem V9_its {B : Book} {rows : List R3} : ∀ (k : Nat) {D : Dt}, V9 D → V9 (its (rows.map (cutE B)) k D)
  | 0, _, h => h
  | k + 1, D, h => by
    have ih := V9_its (rows := rows) (B := B) k h
    show V9 (rnd (rows.map (cutE B)) (its (rows.map (cutE B)) k D))
    generalize its (rows.map (cutE B)) k D = C at ih
    clear h
    unfold rnd
    induction rows generalizing C with
    | nil => exact ih
    | cons r rows ih2 => exact ih2 _ ih.rel
theorem V9_take {B : Book} {D : Dt} (h : V9 D) : ∀ (rows : List R3), V9 (rows.foldl (fun D r => rel D (cutE B r)) D)
  | [] => h
  | r :: rows => V9_take h.rel rows
def R_law_spread (ds : List PyData) (es : List PyData) : Prop := ∃ B rows bs db, ds = [eBook B, .list (List.map eR3 rows), db] ∧ seqD db = some (List.map eP2 bs) ∧ Good B ∧ GoodRows B rows ∧ GoodBeg B bs ∧ SmallT rows bs ∧ bs.length ≤ 1000 ∧ es = fl B.n (spread B rows bs)
theorem ok_law_spread (M : Md K mg) : FnG P w K mg base "_law_spread" ["_law_book_here", "_law_rows_here", "_law_begins_here"] 2 (spL K R_law_spread) := by
  have Fl := ok_law_barred (P := P) (w := w) (base := base) M
  refine fn_sdL (N := ["_law_book_here", "_law_rows_here", "_law_begins_here", "_law_there", "_law_turn", "_law_bird", "_law_office", "_law_ready", "_law_home", "_law_hour", "_law_place"]) M.d__law_spread ⟨rfl, rfl, rfl, by decide +kernel, rfl, by decide +kernel, by decide +kernel⟩ (fun ds d ⟨_, _, _, _, e, _⟩ => by rw [e]; rfl) (by decide) (fun X c ds d hR => ?_)
  obtain ⟨B, rows, bs, db, rfl, hq, g, gr, gb, sm, hbl, rfl⟩ := hR
  show SD X [.dat (eBook B), .dat (.list (rows.map eR3)), .dat db, .no, .no, .no, .no, .no, .no, .no, .no] _ _
  have n6 := g.n6
  have hn : B.n < 10 := by omega
  have hn' : B.fl.length < 10 := hn
  have b9 : ∀ p ∈ bs, p.2 < 999 := fun p hp => by have := sm.bt p hp; omega
  have v0 : V9 (D0 bs) := V9_D0 bs _ b9 (fun _ _ h => by cases h)
  have hnn : (((B.fl.map eInts).length : Nat) : Int).toNat = B.n := by rw [List.length_map]; exact Int.toNat_natCast _
  refine sd_asgC c 3 rfl rfl (Nat.le_of_ble_eq_true rfl) rfl rfl rfl (lc_map (k1 := [.dat (eBook B), .dat (.list (rows.map eR3)), .dat db, .no, .no, .no, .no, .no, .no, .no, .no]) c [("_law_office", 6)] (xs := List.range B.n) (enc := fun (i : Nat) => .int (i : Int)) (fun i => .int (e9 (D0 bs (i : Int)))) (by decide +kernel) rfl ?id (all1 ⟨_, rfl, .inl rfl⟩) (fun X' c2 => gd_name c2 6 rfl (by kspl_open loc) (by kspl_open loc)) (by rw [List.length_range]; exact Nat.lt_of_lt_of_le hn (Nat.le_of_ble_eq_true rfl)) (fun i hi => ?turn) (fun _ => rfl)) ?_
  · exact id_to (id_range c (n := ((B.fl.map eInts).length : Int)) rfl M.b_range (ed_callB c rfl M.b_len PySem.boot_len (ad_cons (ed_ix (ed_var c 0 rfl (.inl rfl) rfl rfl rfl) ed_int rfl (fun _ _ => rfl)) ad_nil rfl) cl_lenT (by decide) rfl rfl rfl) ⟨by rw [List.length_map]; omega, by rw [List.length_map]; omega⟩ rfl) (by rw [hnn]; rfl)
  · obtain ⟨m1, m2⟩ := min_D0 bs (fun _ => none) (i : Int) b9 (fun _ _ h => by cases h) _ rfl
    refine ⟨_, rfl, fun X' c2 => (ed_callB c2 rfl M.b_min PyProof.Rows.boot_min (ad_cons (ed_to (ed_cat (ed_el (el_filter c2 [("_law_hour", 9), ("_law_place", 10)] (xs := bs) (enc := eP2) (fun p => decide (p.1 = (i : Int))) (fun p => .int p.2) (by decide +kernel) rfl (id_seq (ed_var c2 2 rfl (by kspl_open vis) rfl rfl rfl) hq) (allC ⟨_, rfl, .inl rfl⟩ (all1 ⟨_, rfl, .inl rfl⟩)) (fun X'' c3 => gd_tup c3 (gs_cons c3 10 rfl (by kspl_open loc) (by kspl_open loc) (gs_cons c3 9 rfl (by kspl_open loc) (by kspl_open loc) gs_nil rfl) rfl) rfl rfl) (Nat.lt_of_lt_of_le (show bs.length < 10000 by omega) (Nat.le_of_ble_eq_true rfl)) (fun p hp => ⟨_, rfl, fun X'' c3 => ts_one (td_cmp (ed_var c3 10 rfl (by kspl_open vis) rfl rfl rfl) (ed_var c3 6 rfl (by kspl_open vis) rfl rfl rfl) cd_eqI (nomark _)), ?wk, fun _ X'' c3 => ed_var c3 9 rfl (by kspl_open vis) rfl rfl rfl⟩) (fun _ => rfl))) (ed_el (el_lst (ad_cons ed_int ad_nil rfl) (Nat.le_of_ble_eq_true rfl))) ?hz) (d' := .list ((((bs.filter fun (p : Int × Int) => decide (p.1 = (i : Int))).map fun (p : Int × Int) => p.2) ++ [999]).map .int)) ?eq) ad_nil rfl) (cl_minL c2.calm m1 m2) (by decide) rfl rfl rfl), ?_⟩
    · exact ⟨.inr rfl, .inr rfl, .inr rfl, .inr rfl, .inr rfl, .inr rfl, .inr rfl, .inr rfl, .inr rfl, .inl rfl, .inl rfl, trivial⟩
    · rw [List.length_map]
      have := List.length_filter_le (fun p : Int × Int => decide (p.1 = (i : Int))) bs
      exact Nat.le_trans (show (bs.filter fun p => decide (p.1 = (i : Int))).length + 1 ≤ 10000 by omega) (Nat.le_of_ble_eq_true rfl)
    · rw [List.map_append, List.map_map]
      rfl
    · exact ⟨.inr rfl, .inr rfl, .inr rfl, .inr rfl, .inr rfl, .inr rfl, .inl rfl, .inr rfl, .inr rfl, .inr rfl, .inr rfl, trivial⟩
  show SD X [.dat (eBook B), .dat (.list (rows.map eR3)), .dat db, .own (fl B.n (tot (its (rows.map (cutE B)) 0 (D0 bs)))), .no, .no, .no, .no, .no, .no, .no] _ _
  have hrl : (((rows.map eR3).length : Nat) : Int).toNat = rows.length := by rw [List.length_map]; exact Int.toNat_natCast _
  have rl := gr.len
  refine sd_for c (fun k => [.dat (eBook B), .dat (.list (rows.map eR3)), .dat db, .own (fl B.n (tot (its (rows.map (cutE B)) k (D0 bs)))), .no, .no, .no, .no, .no, .no, .no]) (id_range c rfl M.b_range (ed_callB c rfl M.b_len PySem.boot_len (ad_cons (ed_var c 1 rfl (.inl rfl) rfl rfl rfl) ad_nil rfl) cl_lenL (by decide) rfl rfl rfl) ⟨by rw [List.length_map]; omega, by rw [List.length_map]; omega⟩ rfl) (gd_name c 4 rfl (by kspl_open loc) (by kspl_open loc)) Wk.rfl' (fun k d hd => ?_) ?_ (fun _ => rfl)
  · obtain ⟨_, rfl⟩ := rngD_inv hd
    refine ⟨_, rfl, ?_⟩
    have vk := V9_its (rows := rows) (B := B) k v0
    have step : its (rows.map (cutE B)) (k + 1) (D0 bs) = rows.foldl (fun D r => rel D (cutE B r)) (its (rows.map (cutE B)) k (D0 bs)) := by
      show rnd _ _ = _
      unfold rnd
      rw [List.foldl_map]
    refine SD.nxW (L' := [.dat (eBook B), .dat (.list (rows.map eR3)), .dat db, .own (fl B.n (tot (rows.foldl (fun D r => rel D (cutE B r)) (its (rows.map (cutE B)) k (D0 bs))))), .no, .no, .no, .no, .no, .no, .no]) (by show [_, _, _, SK.own (fl B.n (tot (its (rows.map (cutE B)) (k + 1) (D0 bs)))), _, _, _, _, _, _, _] = _; rw [step]) ?_
    show SD X [.dat (eBook B), .dat (.list (rows.map eR3)), .dat db, .own (fl B.n (tot (its (rows.map (cutE B)) k (D0 bs)))), .dat (.int (k : Int)), .no, .no, .no, .no, .no, .no] _ _
    generalize its (rows.map (cutE B)) k (D0 bs) = D at vk
    refine sd_for c (fun i => [.dat (eBook B), .dat (.list (rows.map eR3)), .dat db, .own (fl B.n (tot ((rows.take i).foldl (fun D r => rel D (cutE B r)) D))), .no, .no, .no, .no, .no, .no, .no]) (id_seq (ed_var c 1 rfl (.inl rfl) rfl rfl rfl) rfl) (gd_tup c (gs_cons c 5 rfl (by kspl_open loc) (by kspl_open loc) (gs_cons c 6 rfl (by kspl_open loc) (by kspl_open loc) (gs_cons c 7 rfl (by kspl_open loc) (by kspl_open loc) gs_nil rfl) rfl) rfl) rfl rfl) ⟨.inr rfl, .inr rfl, .inr rfl, .inr rfl, .inl rfl, .inr rfl, .inr rfl, .inr rfl, .inr rfl, .inr rfl, .inr rfl, trivial⟩ (fun i d hd => ?_) ?_ (fun _ => rfl)
    · obtain ⟨r, hr, rfl⟩ := map_get hd
      obtain ⟨hbi, ho, hne, hpos⟩ := gr.at_ r (List.mem_of_getElem? hr)
      have hho := home_off g hbi
      have vc := V9_take vk (B := B) (rows.take i)
      obtain ⟨b, o, t⟩ := r
      refine ⟨_, rfl, ?_⟩
      rw [fold_take hr]
      generalize (rows.take i).foldl (fun D r => rel D (cutE B r)) D = C at vc
      have ho' : 0 ≤ o ∧ o < (B.n : Int) := ho
      have hh' : 0 ≤ B.home b ∧ B.home b < (B.n : Int) := hho
      have hx : L2.atI (fl B.n (tot C)) o = some (.int (e9 (C o))) := fl_at ho'
      have hxh : L2.atI (fl B.n (tot C)) (B.home b) = some (.int (e9 (C (B.home b)))) := fl_at hh'
      refine sd_asg c 8 rfl (.inl rfl) (.inl rfl) (Nat.le_of_ble_eq_true rfl) (ed_ix (ed_ix (ed_var c 0 rfl (.inl rfl) rfl rfl rfl) ed_int rfl (fun _ _ => rfl)) (ed_var c 5 rfl (.inl rfl) rfl rfl rfl) (ix_home hbi) (fun _ _ => rfl)) rfl ?_
      refine sd_asg c 9 rfl (by kspl_open loc) (.inl rfl) (Nat.le_of_ble_eq_true rfl) (ed_callB c rfl M.b_max PyProof.Rows.boot_max (ad_cons (own_ix c 3 rfl (by kspl_open vis) (ed_var c 6 rfl (by kspl_open vis) rfl rfl rfl) rfl hx (fun _ _ => rfl) rfl rfl rfl) (ad_cons (ed_var c 7 rfl (.inl rfl) rfl rfl rfl) ad_nil rfl) rfl) (cl_max2 c.calm) (by decide) rfl rfl rfl) rfl ?_
      cases e : C o with
      | none =>
        rw [e] at hx
        have er : rel C (cutE B (b, o, t)) = C := rel_none e
        rw [er]
        refine sd_while c (fun m ls => ls = [.dat (eBook B), .dat (.list (rows.map eR3)), .dat db, .own (fl B.n (tot C)), .no, .dat (.int b), .dat (.int o), .dat (.int t), .dat (.int (B.home b)), .dat (.int (max 999 t)), .no]) 0 rfl (fun m ls hF => ?_)
        subst hF
        refine ⟨_, _, (td_w (wd_andF (td_cmp (own_ix c 3 rfl (by kspl_open vis) (ed_var c 6 rfl (by kspl_open vis) rfl rfl rfl) rfl hx (fun _ _ => rfl) rfl rfl rfl) ed_int (cd_lt (i := 999) (j := 999)) (nomark _)))), (fun hb => by cases hb), fun _ => ?_⟩
        refine sd_ifF (td_cmp (own_ix c 3 rfl (by kspl_open vis) (ed_var c 6 rfl (by kspl_open vis) rfl rfl rfl) rfl hx (fun _ _ => rfl) rfl rfl rfl) ed_int (cd_lt (i := 999) (j := 999)) (nomark _)) (sd_nil (sd_nil ?_))
        exact ⟨.inr rfl, .inr rfl, .inr rfl, .inr rfl, .inl rfl, .inl rfl, .inl rfl, .inl rfl, .inl rfl, .inl rfl, .inl rfl, trivial⟩
      | some v =>
        have hv := vc o v e
        rw [e] at hx
        have hx : L2.atI (fl B.n (tot C)) o = some (.int v) := hx
        have hlt : decide (v < 999) = true := decT hv
        refine sd_while c (fun m ls => ∃ u : Int, ls = [.dat (eBook B), .dat (.list (rows.map eR3)), .dat db, .own (fl B.n (tot C)), .no, .dat (.int b), .dat (.int o), .dat (.int t), .dat (.int (B.home b)), .dat (.int u), .no] ∧ letGo B o (B.home b) u = letGo B o (B.home b) (max v t) ∧ m = (99 - u).toNat) _ ⟨max v t, rfl, rfl, rfl⟩ (fun m ls ⟨u, e1, e2, e3⟩ => ?_)
        subst e1
        refine ⟨_, _, (td_w (wd_andT (td_to (td_cmp (own_ix c 3 rfl (by kspl_open vis) (ed_var c 6 rfl (by kspl_open vis) rfl rfl rfl) rfl hx (fun _ _ => rfl) rfl rfl rfl) ed_int cd_lt (nomark _)) hlt) (wd_and1 (td_val (ed_call c Fl (by decide) rfl (ad_cons (ed_var c 0 rfl (.inl rfl) rfl rfl rfl) (ad_cons (ed_var c 6 rfl (by kspl_open vis) rfl rfl rfl) (ad_cons (ed_var c 8 rfl (.inl rfl) rfl rfl rfl) (ad_cons (ed_var c 9 rfl (by kspl_open vis) rfl rfl rfl) ad_nil rfl) rfl) rfl) rfl) ⟨B, o, _, u, rfl, g, ho, hho, rfl⟩ rfl rfl rfl) (fun _ => rfl))))), fun hb => ?_, fun hb => ?_⟩
        · refine sd_asg c 9 rfl (by kspl_open loc) (.inl rfl) (Nat.le_of_ble_eq_true rfl) (ed_bin (ed_var c 9 rfl (by kspl_open vis) rfl rfl rfl) ed_int bd_add) rfl ?_
          have hu : u < 99 := by
            rcases Int.lt_or_le u 99 with z | z
            · exact z
            · rw [barred_late g z] at hb; cases hb
          exact sd_nil ⟨_, by omega, u + 1, rfl, by rw [← letGo_yes g hb]; exact e2, rfl⟩
        · refine sd_ifT (td_to (td_cmp (own_ix c 3 rfl (by kspl_open vis) (ed_var c 6 rfl (by kspl_open vis) rfl rfl rfl) rfl hx (fun _ _ => rfl) rfl rfl rfl) ed_int cd_lt (nomark _)) hlt) ?_
          refine sd_setitem c 3 rfl (by kspl_open vis) (ed_callB c rfl M.b_min PyProof.Rows.boot_min (ad_cons (own_ix c 3 rfl (by kspl_open vis) (ed_var c 8 rfl (.inl rfl) rfl rfl rfl) rfl hxh (fun _ _ => rfl) rfl rfl rfl) (ad_cons (ed_bin (ed_var c 9 rfl (by kspl_open vis) rfl rfl rfl) (ed_ix (ed_ix (ed_ix (ed_var c 0 rfl (.inl rfl) rfl rfl rfl) ed_int rfl (fun _ _ => rfl)) (ed_var c 6 rfl (by kspl_open vis) rfl rfl rfl) (ix_fl ho) (fun _ _ => rfl)) (ed_var c 8 rfl (.inl rfl) rfl rfl rfl) (ix_row g ho hho) (fun _ _ => rfl)) bd_add) ad_nil rfl) rfl) (cl_min2 c.calm) (by decide) rfl rfl rfl) (ed_var c 8 rfl (.inl rfl) rfl rfl rfl) rfl rfl (fl_ixN hh') ?_ rfl rfl (fun _ => rfl) rfl rfl rfl
          refine sd_nil (sd_nil ?_)
          have er := tot_rel (B := B) (r := (b, o, t)) vc e
          have ec : comesAt B o (B.home b) (max v t) = u + B.f o (B.home b) := by
            unfold comesAt
            rw [if_neg (fun z => hne z.symm), ← e2, letGo_no hb]
          have er : tot (rel C (cutE B (b, o, t))) = upD (tot C) (B.home b) (some (min (e9 (C (B.home b))) (u + B.f o (B.home b)))) := by rw [← ec]; exact er
          rw [er, ← fl_set hh']
          exact ⟨.inr rfl, .inr rfl, .inr rfl, .inr rfl, .inl rfl, .inl rfl, .inl rfl, .inl rfl, .inl rfl, .inl rfl, .inl rfl, trivial⟩
    · rw [List.length_map, fold_all]
      exact sd_nil Wk.rfl'
  · rw [rngD_len, hrl, cut_is g gr gb sm]
    have vs : ∀ o t, spread B rows bs o = some t → t < 999 := fun o t h => by have := spread_leT g gr gb sm h; omega
    generalize spread B rows bs = D at vs
    refine sd_freeze 3 rfl ?_
    refine sd_retL (el_map c [("_law_hour", 9)] (xs := List.range B.n) (enc := fun (i : Nat) => oD (tot D (i : Int))) (fun (i : Nat) => oD (D (i : Int))) (by decide +kernel) rfl (id_seq (ed_var c 3 rfl (by kspl_open vis) rfl rfl rfl) rfl) (all1 ⟨_, rfl, .inl rfl⟩) (fun X' c2 => gd_name c2 9 rfl (by kspl_open loc) (by kspl_open loc)) (by rw [List.length_range]; exact Nat.lt_of_lt_of_le hn (Nat.le_of_ble_eq_true rfl)) (fun i hi => ⟨_, rfl, fun X' c2 => ed_if (td_cmp (ed_var c2 9 rfl (by kspl_open vis) rfl rfl rfl) ed_int cd_eqI (nomark _)) (fun hb => ed_to ed_non ?_) (fun hb => ed_to (ed_var c2 9 rfl (by kspl_open vis) rfl rfl rfl) ?_), ⟨.inr rfl, .inr rfl, .inr rfl, .inr rfl, .inr rfl, .inr rfl, .inr rfl, .inr rfl, .inr rfl, .inl rfl, .inr rfl, trivial⟩⟩) (fun _ => rfl)) rfl
    · have hb : e9 (D (i : Int)) = 999 := of_decide_eq_true hb
      cases e : D (i : Int) with
      | none => rfl
      | some u =>
        rw [e] at hb
        have hb : u = 999 := hb
        have := vs _ u e
        omega
    · have hb : ¬ e9 (D (i : Int)) = 999 := of_decide_eq_false hb
      cases e : D (i : Int) with
      | none => rw [e] at hb; exact absurd rfl hb
      | some u => show oD (tot D (i : Int)) = _; unfold tot; rw [e]; rfl
end
end K
namespace K
open PySem L2 Z
section
variable {P : Program} {w : World} {K : PySem.W.Frag} {mg : Str → Option Value} {base : Heap} [LamC]
def R_law_comes (ds : List PyData) (d : PyData) : Prop := ∃ B rows bs db goal due, ds = [eBook B, .list (List.map eR3 rows), eLet db goal due] ∧ seqD db = some (List.map eP2 bs) ∧ Good B ∧ GoodRows B rows ∧ GoodBeg B bs ∧ SmallT rows bs ∧ bs.length ≤ 1000 ∧ B.off goal ∧ d = .bool (comesBy B rows bs goal due)
theorem ok_law_comes (M : Md K mg) : FnG P w K mg base "_law_comes" ["_law_book_here", "_law_rows_here", "_law_letter"] 3 (spP K R_law_comes) := by
  have Fs := ok_law_spread (P := P) (w := w) (base := base) M
  refine fn_sd (N := ["_law_book_here", "_law_rows_here", "_law_letter", "_law_begins_here", "_law_goal", "_law_due", "_law_hour"]) M.d__law_comes ⟨rfl, rfl, rfl, by decide +kernel, rfl, by decide +kernel, by decide +kernel⟩ (fun ds d ⟨_, _, _, _, _, _, e, _⟩ => by rw [e]; rfl) (by decide) (fun X c ds d hR => ?_)
  obtain ⟨B, rows, bs, db, goal, due, rfl, hq, g, gr, gb, sm, bl, ho, rfl⟩ := hR
  show SD X [.dat (eBook B), .dat (.list (rows.map eR3)), .dat (eLet db goal due), .no, .no, .no, .no] _ _
  refine sd_unpack c (ed_var c 2 rfl (.inl rfl) rfl rfl rfl) (gd_tup c (gs_cons c 3 rfl (by kspl_open loc) (by kspl_open loc) (gs_cons c 4 rfl (by kspl_open loc) (by kspl_open loc) (gs_cons c 5 rfl (by kspl_open loc) (by kspl_open loc) gs_nil rfl) rfl) rfl) rfl rfl) rfl rfl rfl rfl ?_
  refine sd_asg c 6 rfl (.inl rfl) (.inl rfl) (Nat.le_of_ble_eq_true rfl) (ed_ix (ed_el (el_call c Fs (by decide) rfl (ad_cons (ed_var c 0 rfl (.inl rfl) rfl rfl rfl) (ad_cons (ed_var c 1 rfl (.inl rfl) rfl rfl rfl) (ad_cons (ed_var c 3 rfl (.inl rfl) rfl rfl rfl) ad_nil rfl) rfl) rfl) ⟨B, rows, bs, db, rfl, hq, g, gr, gb, sm, bl, rfl⟩ rfl rfl rfl)) (ed_var c 4 rfl (.inl rfl) rfl rfl rfl) (fl_ix ho) (fun _ _ => rfl)) rfl ?_
  exact sd_ret (ed_byDue c (ed_var c 6 rfl (.inl rfl) rfl rfl rfl) (ed_var c 6 rfl (.inl rfl) rfl rfl rfl) (ed_var c 5 rfl (.inl rfl) rfl rfl rfl)) rfl
end
end K
namespace K
open PySem L2 Z
section
variable {P : Program} {w : World} {K : PySem.W.Frag} {mg : Str → Option Value} {base : Heap} [LamC]
/-! ### hours by carts: plain -/
def cartE (c : Row) : Edge := ⟨c.1, c.2.1, fun v => if v ≤ c.2.2.1 then some c.2.2.2 else none⟩
theorem cartE_ok {c : Row} (h : c.2.2.1 < c.2.2.2) : (cartE c).Ok := by
  refine ⟨fun v v' t' l q => ?_, fun v t q => ?_⟩
  · have q : (if v' ≤ c.2.2.1 then some c.2.2.2 else none) = some t' := q
    by_cases z : v' ≤ c.2.2.1
    · rw [if_pos z] at q
      cases q
      exact ⟨_, if_pos (by omega), Int.le_refl _⟩
    · rw [if_neg z] at q; cases q
  · have q : (if v ≤ c.2.2.1 then some c.2.2.2 else none) = some t := q
    by_cases z : v ≤ c.2.2.1
    · rw [if_pos z] at q
      cases q
      omega
    · rw [if_neg z] at q; cases q
theorem cartE_go {c : Row} {v t : Int} (h : (cartE c).go v = some t) : v ≤ c.2.2.1 ∧ t = c.2.2.2 := by
  have q : (if v ≤ c.2.2.1 then some c.2.2.2 else none) = some t := h
  by_cases z : v ≤ c.2.2.1
  · rw [if_pos z] at q; cases q; exact ⟨z, rfl⟩
  · rw [if_neg z] at q; cases q
abbrev atP (o now : Int) : Int × Int → Prop := fun p => p = (o, now)
/-- the hours by carts -/
noncomputable def carr (B : Book) (o now : Int) : Dt := Sp (fun e => e ∈ B.ca.map cartE) (atP o now)
def A0 (o now : Int) : Dt := upD (fun _ => none) o (some now)
section
variable {B : Book} {o now : Int}
theorem cartEs_ok (g : Good B) : ∀ e, e ∈ B.ca.map cartE → e.Ok := fun e he => by
  obtain ⟨c, hc, rfl⟩ := List.mem_map.mp he
  exact cartE_ok (g.ca c hc).h1
theorem carr_spec (g : Good B) (h0 : 0 ≤ now) : Sound (fun e => e ∈ B.ca.map cartE) (atP o now) (carr B o now) ∧ Stable (fun e => e ∈ B.ca.map cartE) (atP o now) (carr B o now) :=
  sp_spec (cartEs_ok g) (fun _ _ h => by cases h; exact h0)
theorem A0_snd {E : Edge → Prop} (h0 : 0 ≤ now) : Sound E (atP o now) (A0 o now) := by
  refine ⟨fun x t h => ?_, fun x t h => ?_⟩
  · by_cases q : x = o
    · subst q; rw [A0, upD_at] at h; cases h; exact h0
    · rw [A0, upD_ne q] at h; cases h
  · by_cases q : x = o
    · subst q; rw [A0, upD_at] at h; cases h; exact .inl rfl
    · rw [A0, upD_ne q] at h; cases h
theorem A0_beg {x t : Int} (h : atP o now (x, t)) : ∃ u, A0 o now x = some u ∧ u ≤ t := by
  cases h
  exact ⟨now, upD_at, Int.le_refl _⟩
theorem carr_its (g : Good B) (h0 : 0 ≤ now) : its (B.ca.map cartE) B.n (A0 o now) = carr B o now :=
  rounds_do (cartEs_ok g) (fun _ => Iff.rfl) (carr_spec g h0).1 (carr_spec g h0).2 (A0_snd h0) (fun _ _ h => A0_beg h) ((List.range B.n).map fun (i : Nat) => (i : Int)) (fun e he => by
    obtain ⟨c, hc, rfl⟩ := List.mem_map.mp he
    obtain ⟨h1, h2⟩ := (g.ca c hc).b
    exact List.mem_map.mpr ⟨c.2.1.toNat, List.mem_range.mpr (by omega), by show ((c.2.1.toNat : Nat) : Int) = c.2.1; omega⟩) (by rw [List.length_map, List.length_range]; exact Nat.le_refl _)
/-- carts that come later than b change nothing of what is there by b -/
theorem rnd_late {b : Int} : ∀ {cs : List Row} {D : Dt} {x v : Int}, (∀ c ∈ cs, b < c.2.2.2) → rnd (cs.map cartE) D x = some v → v ≤ b → D x = some v
  | [], _, _, _, _, h, _ => h
  | c :: cs, D, x, v, hb, h, l => by
    have ih := rnd_late (cs := cs) (D := rel D (cartE c)) (fun c hc => hb c (List.mem_cons_of_mem _ hc)) h l
    have hc := hb c List.mem_cons_self
    unfold rel at ih
    cases e : D (cartE c).a with
    | none => rw [e] at ih; exact ih
    | some w =>
      rw [e] at ih
      dsimp only at ih
      cases e2 : (cartE c).go w with
      | none => rw [e2] at ih; exact ih
      | some t =>
        rw [e2] at ih
        obtain ⟨_, rfl⟩ := cartE_go e2
        rcases low_inv ih with ⟨_, z⟩ | z
        · omega
        · exact z
theorem rnd_sorted : ∀ {cs : List Row} {D : Dt}, cs.Pairwise (fun a b => a.2.2.1 ≤ b.2.2.1) → (∀ c ∈ cs, c.2.2.1 < c.2.2.2) → ∀ c ∈ cs, ∀ v, rnd (cs.map cartE) D c.1 = some v → v ≤ c.2.2.1 → ∃ t, rnd (cs.map cartE) D c.2.1 = some t ∧ t ≤ c.2.2.2
  | c0 :: cs, D, pw, hl, c, hc, v, hv, hle => by
    obtain ⟨p1, p2⟩ := List.pairwise_cons.mp pw
    by_cases q : c = c0
    · subst q
      have hd := rnd_late (b := c.2.2.1) (cs := c :: cs) (D := D) (fun x hx => by
        rcases List.mem_cons.mp hx with e | e
        · rw [e]; exact hl c List.mem_cons_self
        · have := p1 x e
          have := hl x (List.mem_cons_of_mem _ e)
          omega) hv hle
      exact rnd_gone (E := fun e => e ∈ (c :: cs).map cartE) (fun e he => by
        obtain ⟨y, hy, rfl⟩ := List.mem_map.mp he
        exact cartE_ok (hl y hy)) (fun e he => he) (e := cartE c) (List.mem_map.mpr ⟨c, List.mem_cons_self, rfl⟩) v c.2.2.2 hd (if_pos hle)
    · have hc' := (List.mem_cons.mp hc).resolve_left q
      exact rnd_sorted (cs := cs) (D := rel D (cartE c0)) p2 (fun x hx => hl x (List.mem_cons_of_mem _ hx)) c hc' v hv hle
theorem carr_sorted (g : Good B) (h0 : 0 ≤ now) {cs : List Row} (p : cs.Perm B.ca) (pw : cs.Pairwise (fun a b => a.2.2.1 ≤ b.2.2.1)) : rnd (cs.map cartE) (A0 o now) = carr B o now := by
  have hm : ∀ e, e ∈ cs.map cartE ↔ e ∈ B.ca.map cartE := fun e => (p.map cartE).mem_iff
  have hl : ∀ c ∈ cs, c.2.2.1 < c.2.2.2 := fun c hc => (g.ca c (p.mem_iff.mp hc)).h1
  refine sp_is (cartEs_ok g) (fun _ _ h => by cases h; exact h0) (Sound.rnd (cartEs_ok g) (fun e he => (hm e).mp he) (A0_snd h0)) ⟨fun x t h => ?_, fun e he v t hv ht => ?_⟩
  · obtain ⟨u, h1, h2⟩ := A0_beg h
    obtain ⟨u', h3, h4⟩ := rnd_le (cs.map cartE) _ _ _ h1
    exact ⟨u', h3, by omega⟩
  · obtain ⟨c, hc, rfl⟩ := List.mem_map.mp ((hm e).mpr he)
    obtain ⟨h1, rfl⟩ := cartE_go ht
    exact rnd_sorted pw hl c hc v hv h1
/-- the cart by which one comes -/
theorem carr_from (g : Good B) (h0 : 0 ≤ now) {x t : Int} (h : carr B o now x = some t) : (x = o ∧ t = now) ∨ ∃ c ∈ B.ca, c.2.1 = x ∧ c.2.2.2 = t ∧ ∃ v, carr B o now c.1 = some v ∧ v ≤ c.2.2.1 := by
  obtain ⟨S, T⟩ := carr_spec (B := B) (o := o) g h0
  rcases S.from_ x t h with e | ⟨e, he, hb, v, w, h3, h4, h5⟩
  · cases e; exact .inl ⟨rfl, rfl⟩
  · obtain ⟨c, hc, rfl⟩ := List.mem_map.mp he
    obtain ⟨h6, rfl⟩ := cartE_go h4
    obtain ⟨u, h7, h8⟩ := T.ed _ he v _ h3 h4
    have hb : c.2.1 = x := hb
    have h7 : carr B o now c.2.1 = some u := h7
    rw [hb, h] at h7
    cases h7
    exact .inr ⟨c, hc, hb, by omega, v, h3, h6⟩
theorem carr_in (g : Good B) (h0 : 0 ≤ now) {x t : Int} (h : carr B o now x = some t) : 0 ≤ t ∧ t ≤ max now 99 := by
  refine ⟨(carr_spec g h0).1.pos _ _ h, ?_⟩
  rcases carr_from g h0 h with ⟨_, rfl⟩ | ⟨c, hc, _, rfl, _⟩
  · omega
  · have := (g.ca c hc).h2
    omega
end
/-! the last cart into each office -/
def caS (s : Dt × Dt) (i : Int) (c : Row) : Dt × Dt := match s.1 c.1 with
  | none => s
  | some v => if v ≤ c.2.2.1 ∧ better (s.1 c.2.1) c.2.2.2 = true then (upD s.1 c.2.1 (some c.2.2.2), upD s.2 c.2.1 (some i)) else s
def caR (cs : List Row) (s : Dt × Dt) (m : Nat) : Dt × Dt := (List.range m).foldl (fun s (i : Nat) => caS s (i : Int) (cs.getD i (0, 0, 0, 0))) s
theorem caR_succ {cs : List Row} {s : Dt × Dt} {m : Nat} {c : Row} (h : cs[m]? = some c) : caR cs s (m + 1) = caS (caR cs s m) (m : Int) c := by
  unfold caR
  rw [List.range_succ, List.foldl_append]
  show caS _ _ (cs.getD m (0, 0, 0, 0)) = _
  rw [List.getD_eq_getElem?_getD, h]
  rfl
theorem caS_fst {s : Dt × Dt} {i : Int} {c : Row} : (caS s i c).1 = rel s.1 (cartE c) := by
  unfold caS rel
  show (match s.1 c.1 with | none => s | some v => _).1 = match s.1 c.1 with | none => s.1 | some v => _
  cases s.1 c.1 with
  | none => rfl
  | some v =>
    dsimp only
    show _ = match (if v ≤ c.2.2.1 then some c.2.2.2 else none) with | none => s.1 | some t => low s.1 c.2.1 t
    by_cases q : v ≤ c.2.2.1
    · rw [if_pos q]
      dsimp only
      unfold low
      by_cases z : better (s.1 c.2.1) c.2.2.2 = true
      · rw [if_pos ⟨q, z⟩, if_pos z]
      · rw [if_neg (fun h => z h.2), if_neg z]
    · rw [if_neg q, if_neg (fun h => q h.1)]
theorem caR_fst {cs : List Row} {s : Dt × Dt} : ∀ {m : Nat}, m ≤ cs.length → (caR cs s m).1 = rnd ((cs.take m).map cartE) s.1
  | 0, _ => rfl
  | m + 1, h => by
    have e : cs[m]? = some cs[m] := List.getElem?_eq_getElem (by omega)
    rw [caR_succ e, caS_fst, caR_fst (by omega), List.take_add_one, e, List.map_append]
    unfold rnd
    rw [List.foldl_append]
    rfl
def caIts (cs : List Row) (s : Dt × Dt) : Nat → Dt × Dt
  | 0 => s
  | k + 1 => caR cs (caIts cs s k) cs.length
theorem caIts_fst {cs : List Row} {s : Dt × Dt} : ∀ k, (caIts cs s k).1 = its (cs.map cartE) k s.1
  | 0 => rfl
  | k + 1 => by
    show (caR cs (caIts cs s k) cs.length).1 = rnd _ _
    rw [caR_fst (Nat.le_refl _), List.take_length, caIts_fst k]
def lastD (B : Book) (o now : Int) : Dt := (caIts B.ca (A0 o now, fun _ => none) B.n).2
end
end K
namespace K
open PySem L2 Z
section
variable {P : Program} {w : World} {K : PySem.W.Frag} {mg : Str → Option Value} {base : Heap} [LamC]
/-! ### arrivals: the walk -/
theorem caS_n {s : Dt × Dt} {i : Int} {c : Row} (e : s.1 c.1 = none) : caS s i c = s := by unfold caS; rw [e]
theorem caS_t {s : Dt × Dt} {i v : Int} {c : Row} (e : s.1 c.1 = some v) (q : v ≤ c.2.2.1) (z : better (s.1 c.2.1) c.2.2.2 = true) : caS s i c = (upD s.1 c.2.1 (some c.2.2.2), upD s.2 c.2.1 (some i)) := by
  unfold caS; rw [e]; exact if_pos ⟨q, z⟩
theorem caS_f {s : Dt × Dt} {i v : Int} {c : Row} (e : s.1 c.1 = some v) (q : ¬ (v ≤ c.2.2.1 ∧ better (s.1 c.2.1) c.2.2.2 = true)) : caS s i c = s := by
  unfold caS; rw [e]; exact if_neg q
def R_arrivals (ds el dl : List PyData) : Prop := ∃ B o now, ds = [eBook B, .int o, .int now] ∧ Good B ∧ B.off o ∧ 0 ≤ now ∧ el = fl B.n (carr B o now) ∧ dl = [.list (fl B.n (lastD B o now))]
theorem ok_arrivals (M : Md K mg) : FnG P w K mg base "arrivals" ["book", "office", "now"] 2 (spF K R_arrivals) := by
  refine fn_sdF (N := ["book", "office", "now", "found", "last", "turn", "number", "cart", "one", "other", "leave", "come"]) M.d_arrivals ⟨rfl, rfl, rfl, by decide +kernel, rfl, by decide +kernel, by decide +kernel⟩ (fun ds el dl ⟨_, _, _, e, _⟩ => by rw [e]; rfl) (by decide) (fun X c ds el dl hR => ?_)
  obtain ⟨B, o, now, rfl, g, ho, h0, rfl, rfl⟩ := hR
  show SD X [.dat (eBook B), .dat (.int o), .dat (.int now), .no, .no, .no, .no, .no, .no, .no, .no, .no] _ _
  have hn : B.n < 10 := by have := g.n6; omega
  have ho' : 0 ≤ o ∧ o < (B.n : Int) := ho
  refine sd_asgC c 3 rfl rfl (Nat.le_of_ble_eq_true rfl) rfl rfl rfl (lc_map c [("one", 8)] (xs := B.fl) (enc := eInts) (fun _ => .none) (by decide +kernel) rfl (id_seq (ed_ix (ed_var c 0 rfl (.inl rfl) rfl rfl rfl) (ed_gint c rfl M.c_FLIGHTS rfl) rfl (fun _ _ => rfl)) rfl) (all1 ⟨_, rfl, .inl rfl⟩) (fun X' c2 => gd_name c2 8 rfl (by kspl_open loc) (by kspl_open loc)) (Nat.lt_of_lt_of_le hn (Nat.le_of_ble_eq_true rfl)) (fun x hx => ⟨_, rfl, fun X' c2 => ed_non, ⟨.inr rfl, .inr rfl, .inr rfl, .inr rfl, .inr rfl, .inr rfl, .inr rfl, .inr rfl, .inl rfl, .inr rfl, .inr rfl, .inr rfl, trivial⟩⟩) (fun _ => rfl)) ?_
  have e0 : (B.fl.map fun _ => PyData.none) = fl B.n (fun _ => none) := by rw [fl_none, List.map_const']
  refine SD.to (ls := [.dat (eBook B), .dat (.int o), .dat (.int now), .own (fl B.n (fun _ => none)), .no, .no, .no, .no, .no, .no, .no, .no]) ?_ ?_
  · show [_, _, _, SK.own (B.fl.map fun _ => .none), _, _, _, _, _, _, _, _] = _
    rw [e0]
  refine sd_setitem c 3 rfl (.inl rfl) (ed_var c 2 rfl (.inl rfl) rfl rfl rfl) (ed_var c 1 rfl (.inl rfl) rfl rfl rfl) rfl rfl (fl_ixN ho') ?_ rfl rfl (fun _ => rfl) rfl rfl rfl
  rw [show (fl B.n (fun _ => none)).set o.toNat (.int now) = fl B.n (A0 o now) from fl_set (x := some now) ho']
  refine sd_asgC c 4 rfl rfl (Nat.le_of_ble_eq_true rfl) rfl rfl rfl (lc_map c [("one", 8)] (xs := B.fl) (enc := eInts) (fun _ => .none) (by decide +kernel) rfl (id_seq (ed_ix (ed_var c 0 rfl (.inl rfl) rfl rfl rfl) (ed_gint c rfl M.c_FLIGHTS rfl) rfl (fun _ _ => rfl)) rfl) (all1 ⟨_, rfl, .inl rfl⟩) (fun X' c2 => gd_name c2 8 rfl (by kspl_open loc) (by kspl_open loc)) (Nat.lt_of_lt_of_le hn (Nat.le_of_ble_eq_true rfl)) (fun x hx => ⟨_, rfl, fun X' c2 => ed_non, ⟨.inr rfl, .inr rfl, .inr rfl, .inr rfl, .inr rfl, .inr rfl, .inr rfl, .inr rfl, .inl rfl, .inr rfl, .inr rfl, .inr rfl, trivial⟩⟩) (fun _ => rfl)) ?_
  refine SD.to (ls := [.dat (eBook B), .dat (.int o), .dat (.int now), .own (fl B.n (A0 o now)), .own (fl B.n (fun _ => none)), .no, .no, .no, .no, .no, .no, .no]) ?_ ?_
  · show [_, _, _, _, SK.own (B.fl.map fun _ => .none), _, _, _, _, _, _, _] = _
    rw [e0]
  refine sd_for c (fun k => [.dat (eBook B), .dat (.int o), .dat (.int now), .own (fl B.n (caIts B.ca (A0 o now, fun _ => none) k).1), .own (fl B.n (caIts B.ca (A0 o now, fun _ => none) k).2), .no, .no, .no, .no, .no, .no, .no]) (id_seq (ed_ix (ed_var c 0 rfl (.inl rfl) rfl rfl rfl) (ed_gint c rfl M.c_FLIGHTS rfl) rfl (fun _ _ => rfl)) rfl) (gd_name c 5 rfl (by kspl_open loc) (by kspl_open loc)) Wk.rfl' (fun k d hd => ?_) ?_ (fun _ => rfl)
  · refine ⟨_, rfl, ?_⟩
    show SD X [.dat (eBook B), .dat (.int o), .dat (.int now), .own (fl B.n (caIts B.ca (A0 o now, fun _ => none) k).1), .own (fl B.n (caIts B.ca (A0 o now, fun _ => none) k).2), .dat d, .no, .no, .no, .no, .no, .no] _ _
    have estep : caIts B.ca (A0 o now, fun _ => none) (k + 1) = caR B.ca (caIts B.ca (A0 o now, fun _ => none) k) B.ca.length := rfl
    rw [estep]
    generalize caIts B.ca (A0 o now, fun _ => none) k = s0
    refine sd_for c (fun m => [.dat (eBook B), .dat (.int o), .dat (.int now), .own (fl B.n (caR B.ca s0 m).1), .own (fl B.n (caR B.ca s0 m).2), .no, .no, .no, .no, .no, .no, .no]) (id_enumT c rfl M.b_enumerate (ed_ix (ed_var c 0 rfl (.inl rfl) rfl rfl rfl) (ed_gint c rfl M.c_CARTS rfl) rfl (fun _ _ => rfl)) rfl) (gd_tup c (gs_cons c 6 rfl (by kspl_open loc) (by kspl_open loc) (gs_cons c 7 rfl (by kspl_open loc) (by kspl_open loc) gs_nil rfl) rfl) rfl rfl) ⟨.inr rfl, .inr rfl, .inr rfl, .inr rfl, .inr rfl, .inl rfl, .inl rfl, .inl rfl, .inl rfl, .inl rfl, .inl rfl, .inl rfl, trivial⟩ (fun m d hd => ?_) ?_ (fun _ => rfl)
    · obtain ⟨d', hd', rfl⟩ := enumD_inv hd
      obtain ⟨r, hr, rfl⟩ := map_get hd'
      have gr := g.ca r (List.mem_of_getElem? hr)
      refine ⟨_, rfl, ?_⟩
      rw [caR_succ hr]
      show SD X [.dat (eBook B), .dat (.int o), .dat (.int now), .own (fl B.n (caR B.ca s0 m).1), .own (fl B.n (caR B.ca s0 m).2), .no, .dat (.int (m : Int)), .dat (eRow r), .no, .no, .no, .no] _ _
      generalize caR B.ca s0 m = s
      refine sd_unpack c (ed_var c 7 rfl (.inl rfl) rfl rfl rfl) (gd_tup c (gs_cons c 8 rfl (by kspl_open loc) (by kspl_open loc) (gs_cons c 9 rfl (by kspl_open loc) (by kspl_open loc) (gs_cons c 10 rfl (by kspl_open loc) (by kspl_open loc) (gs_cons c 11 rfl (by kspl_open loc) (by kspl_open loc) gs_nil rfl) rfl) rfl) rfl) rfl rfl) rfl rfl rfl rfl ?_
      have o1 : 0 ≤ r.1 ∧ r.1 < (B.n : Int) := gr.a
      have o2 : 0 ≤ r.2.1 ∧ r.2.1 < (B.n : Int) := gr.b
      have hx : L2.atI (fl B.n s.1) r.1 = some (oD (s.1 r.1)) := fl_at o1
      show SD X [.dat (eBook B), .dat (.int o), .dat (.int now), .own (fl B.n s.1), .own (fl B.n s.2), .no, .dat (.int (m : Int)), .dat (eRow r), .dat (.int r.1), .dat (.int r.2.1), .dat (.int r.2.2.1), .dat (.int r.2.2.2)] _ _
      cases e : s.1 r.1 with
      | none =>
        rw [e] at hx
        rw [caS_n e]
        exact sd_ifF (td_w (wd_andF (td_cmp (own_ix c 3 rfl (.inl rfl) (ed_var c 8 rfl (.inl rfl) rfl rfl rfl) rfl hx (fun _ _ => rfl) rfl rfl rfl) ed_non cd_notN (nomark _)))) (sd_nil (sd_nil ⟨.inr rfl, .inr rfl, .inr rfl, .inr rfl, .inr rfl, .inl rfl, .inl rfl, .inl rfl, .inl rfl, .inl rfl, .inl rfl, .inl rfl, trivial⟩))
      | some v =>
        rw [e] at hx
        refine sd_if (td_w (wd_and (td_cmp (own_ix c 3 rfl (.inl rfl) (ed_var c 8 rfl (.inl rfl) rfl rfl rfl) rfl hx (fun _ _ => rfl) rfl rfl rfl) ed_non cd_notN (nomark _)) (fun _ => (wd_and1 (td_cmp (own_ix c 3 rfl (.inl rfl) (ed_var c 8 rfl (.inl rfl) rfl rfl rfl) rfl hx (fun _ _ => rfl) rfl rfl rfl) (ed_var c 10 rfl (.inl rfl) rfl rfl rfl) cd_le (nomark _)))))) (fun hb => ?_) (fun hb => ?_)
        · have hb : decide (v ≤ r.2.2.1) = true := hb
          have hle := of_decide_eq_true hb
          refine sd_if (td_low c 3 rfl (.inl rfl) rfl (ed_var c 9 rfl (.inl rfl) rfl rfl rfl) (ed_var c 9 rfl (.inl rfl) rfl rfl rfl) (ed_var c 11 rfl (.inl rfl) rfl rfl rfl) o2 (fun _ _ => rfl) (fun _ _ => rfl) rfl rfl (nomark _)) (fun hbt => ?_) (fun hbt => ?_)
          · rw [caS_t e hle hbt]
            refine sd_setitem c 3 rfl (.inl rfl) (ed_var c 11 rfl (.inl rfl) rfl rfl rfl) (ed_var c 9 rfl (.inl rfl) rfl rfl rfl) rfl rfl (fl_ixN o2) ?_ rfl rfl (fun _ => rfl) rfl rfl rfl
            refine sd_setitem c 4 rfl (.inl rfl) (ed_var c 6 rfl (.inl rfl) rfl rfl rfl) (ed_var c 9 rfl (.inl rfl) rfl rfl rfl) rfl rfl (fl_ixN o2) ?_ rfl rfl (fun _ => rfl) rfl rfl rfl
            rw [← fl_set o2, ← fl_set o2]
            exact sd_nil (sd_nil (sd_nil ⟨.inr rfl, .inr rfl, .inr rfl, .inr rfl, .inr rfl, .inl rfl, .inl rfl, .inl rfl, .inl rfl, .inl rfl, .inl rfl, .inl rfl, trivial⟩))
          · rw [caS_f e (fun z => by rw [hbt] at z; exact Bool.noConfusion z.2)]
            exact sd_nil (sd_nil (sd_nil ⟨.inr rfl, .inr rfl, .inr rfl, .inr rfl, .inr rfl, .inl rfl, .inl rfl, .inl rfl, .inl rfl, .inl rfl, .inl rfl, .inl rfl, trivial⟩))
        · have hb : decide (v ≤ r.2.2.1) = false := hb
          rw [caS_f e (fun z => of_decide_eq_false hb z.1)]
          exact sd_nil (sd_nil ⟨.inr rfl, .inr rfl, .inr rfl, .inr rfl, .inr rfl, .inl rfl, .inl rfl, .inl rfl, .inl rfl, .inl rfl, .inl rfl, .inl rfl, trivial⟩)
    · rw [enumD_len, List.length_map]
      exact sd_nil Wk.rfl'
  · rw [List.length_map]
    have e1 : (caIts B.ca (A0 o now, fun _ => none) B.n).1 = carr B o now := by rw [caIts_fst, carr_its g h0]
    have e2 : (caIts B.ca (A0 o now, fun _ => none) B.n).2 = lastD B o now := rfl
    show SD X [.dat (eBook B), .dat (.int o), .dat (.int now), .own (fl B.n (caIts B.ca (A0 o now, fun _ => none) B.n).1), .own (fl B.n (caIts B.ca (A0 o now, fun _ => none) B.n).2), .no, .no, .no, .no, .no, .no, .no] _ _
    rw [e1, e2]
    refine sd_freeze 4 rfl ?_
    exact sd_retF c 3 4 rfl (.inl rfl) rfl rfl (.inl rfl) rfl rfl rfl rfl rfl rfl rfl ⟨rfl, rfl, rfl⟩
end
end K
namespace K
open PySem L2 Z
section
variable {P : Program} {w : World} {K : PySem.W.Frag} {mg : Str → Option Value} {base : Heap} [LamC]
/-! ### the law's hours by carts -/
def cle (a b : Row) : Bool := decide (a.2.2.1 < b.2.2.1 ∨ (a.2.2.1 = b.2.2.1 ∧ a.2.2.2 ≤ b.2.2.2))
theorem cle_trans (a b c : Row) (h1 : cle a b = true) (h2 : cle b c = true) : cle a c = true := by
  unfold cle at *
  have h1 := of_decide_eq_true h1
  have h2 := of_decide_eq_true h2
  exact decide_eq_true (by omega)
theorem cle_total (a b : Row) : (cle a b || cle b a) = true := by
  unfold cle
  by_cases h : a.2.2.1 < b.2.2.1 ∨ (a.2.2.1 = b.2.2.1 ∧ a.2.2.2 ≤ b.2.2.2)
  · rw [decide_eq_true h]; rfl
  · rw [decide_eq_false h, decide_eq_true (show b.2.2.1 < a.2.2.1 ∨ (b.2.2.1 = a.2.2.1 ∧ b.2.2.2 ≤ a.2.2.2) by omega)]; rfl
theorem sort_ca {l : List Row} : (l.mergeSort cle).Pairwise fun a b => a.2.2.1 ≤ b.2.2.1 := (List.pairwise_mergeSort cle_trans cle_total l).imp fun h => by
  have h := of_decide_eq_true h
  omega
theorem relC_n {D : Dt} {c : Row} (e : D c.1 = none) : rel D (cartE c) = D := by
  unfold rel
  show (match D c.1 with | none => D | some v => _) = D
  rw [e]
theorem relC_t {D : Dt} {c : Row} {v : Int} (e : D c.1 = some v) (q : v ≤ c.2.2.1) : rel D (cartE c) = low D c.2.1 c.2.2.2 := by
  unfold rel
  show (match D c.1 with | none => D | some v => match (if v ≤ c.2.2.1 then some c.2.2.2 else none) with | none => D | some t => low D c.2.1 t) = _
  rw [e]
  dsimp only
  rw [if_pos q]
theorem relC_f {D : Dt} {c : Row} {v : Int} (e : D c.1 = some v) (q : ¬ v ≤ c.2.2.1) : rel D (cartE c) = D := by
  unfold rel
  show (match D c.1 with | none => D | some v => match (if v ≤ c.2.2.1 then some c.2.2.2 else none) with | none => D | some t => low D c.2.1 t) = _
  rw [e]
  dsimp only
  rw [if_neg q]
theorem rnd_take {cs : List Row} {D : Dt} {m : Nat} {c : Row} (h : cs[m]? = some c) : rnd ((cs.take (m + 1)).map cartE) D = rel (rnd ((cs.take m).map cartE) D) (cartE c) := by
  rw [List.take_add_one, h, List.map_append]
  unfold rnd
  rw [List.foldl_append]
  rfl
theorem rep_none {n : Nat} : (List.replicate n [PyData.none]).flatten = fl n (fun _ => none) := by
  rw [fl_none]
  induction n with
  | zero => rfl
  | succ n ih => rw [List.replicate_succ, List.flatten_cons, ih, List.replicate_succ]; rfl
def R_law_carried (ds es : List PyData) : Prop := ∃ B o now, ds = [eBook B, .int o, .int now] ∧ Good B ∧ B.off o ∧ 0 ≤ now ∧ es = fl B.n (carr B o now)
theorem ok_law_carried (M : Md K mg) (TB : LamX.TabB base mg LamC.cc LamC.tt) : FnG P w K mg base "_law_carried" ["_law_book_here", "_law_office", "_law_now"] 3 (spL K R_law_carried) := by
  refine fn_sdLC (N := ["_law_book_here", "_law_office", "_law_now", "_law_found", "_law_cart", "_law_one", "_law_other", "_law_leave", "_law_come"]) M.e__law_carried TB rfl (List.mem_singleton.mpr rfl) (fun p hp _ => by rw [List.mem_singleton.mp (show p ∈ [_] from hp)]; rfl) ⟨rfl, rfl, rfl, by decide +kernel, rfl, by decide +kernel, by decide +kernel⟩ (fun ds d ⟨_, _, _, e, _⟩ => by rw [e]; rfl) (by decide) (fun X c L ds d hR => ?_)
  obtain ⟨B, o, now, rfl, g, ho, h0, rfl⟩ := hR
  show SD X [.dat (eBook B), .dat (.int o), .dat (.int now), .no, .no, .no, .no, .no, .no] _ _
  have hn : B.n < 10 := by have := g.n6; omega
  have ho' : 0 ≤ o ∧ o < (B.n : Int) := ho
  have hnn : (((B.fl.map eInts).length : Nat) : Int).toNat = B.n := by rw [List.length_map]; exact Int.toNat_natCast _
  have hn' : B.fl.length ≤ 6 := g.n6
  refine sd_asgL c 3 rfl (.inl rfl) (.inl rfl) (Nat.le_of_ble_eq_true rfl) (el_rep (el_lst (ad_cons ed_non ad_nil rfl) (Nat.le_of_ble_eq_true rfl)) (ed_callB c rfl M.b_len PySem.boot_len (ad_cons (ed_ix (ed_var c 0 rfl (.inl rfl) rfl rfl rfl) ed_int rfl (fun _ _ => rfl)) ad_nil rfl) cl_lenT (by decide) rfl rfl rfl) (by omega) (by rw [List.length_map]; omega) (by rw [hnn]; simp only [List.length_cons, List.length_nil]; exact Nat.le_trans (show 1 * B.n ≤ 1000 by omega) (Nat.le_of_ble_eq_true rfl))) rfl ?_
  rw [hnn, rep_none]
  refine sd_setitem c 3 rfl (.inl rfl) (ed_var c 2 rfl (.inl rfl) rfl rfl rfl) (ed_var c 1 rfl (.inl rfl) rfl rfl rfl) rfl rfl (fl_ixN ho') ?_ rfl rfl (fun _ => rfl) rfl rfl rfl
  rw [show (fl B.n (fun _ => none)).set o.toNat (.int now) = fl B.n (A0 o now) from fl_set (x := some now) ho']
  have hp : (B.ca.mergeSort cle).Perm B.ca := List.mergeSort_perm _ _
  refine sd_for c (fun m => [.dat (eBook B), .dat (.int o), .dat (.int now), .own (fl B.n (rnd (((B.ca.mergeSort cle).take m).map cartE) (A0 o now))), .no, .no, .no, .no, .no]) (id_seq (ed_el (el_sortedKey c L rfl M.b_sorted (bs := B.ca) (enc := fun x => [x.1, x.2.1, x.2.2.1, x.2.2.2]) (fi := fun x => x.2.2.1) (fj := fun x => x.2.2.2) (ed_ix (ed_var c 0 rfl (.inl rfl) rfl rfl rfl) ed_int rfl (fun _ _ => rfl)) (.inr rfl) (fun _ _ => rfl) (fun _ _ => rfl) (fun _ _ => (by decide : 4 < 1000)) rfl (by decide +kernel) (fun _ _ _ _ _ => rfl) rfl rfl rfl (by decide +kernel) rfl rfl rfl)) rfl) (gd_name c 4 rfl (by kspl_open loc) (by kspl_open loc)) Wk.rfl' (fun m d hd => ?_) ?_ (fun _ => rfl)
  · obtain ⟨r, hr, rfl⟩ := map_get hd
    have hr : (B.ca.mergeSort cle)[m]? = some r := hr
    have gr := g.ca r (hp.mem_iff.mp (List.mem_of_getElem? hr))
    refine ⟨_, rfl, ?_⟩
    rw [rnd_take hr]
    show SD X [.dat (eBook B), .dat (.int o), .dat (.int now), .own (fl B.n (rnd (((B.ca.mergeSort cle).take m).map cartE) (A0 o now))), .dat (eRow r), .no, .no, .no, .no] _ _
    generalize rnd (((B.ca.mergeSort cle).take m).map cartE) (A0 o now) = D
    refine sd_unpack c (ed_var c 4 rfl (.inl rfl) rfl rfl rfl) (gd_tup c (gs_cons c 5 rfl (by kspl_open loc) (by kspl_open loc) (gs_cons c 6 rfl (by kspl_open loc) (by kspl_open loc) (gs_cons c 7 rfl (by kspl_open loc) (by kspl_open loc) (gs_cons c 8 rfl (by kspl_open loc) (by kspl_open loc) gs_nil rfl) rfl) rfl) rfl) rfl rfl) rfl rfl rfl rfl ?_
    have o1 : 0 ≤ r.1 ∧ r.1 < (B.n : Int) := gr.a
    have o2 : 0 ≤ r.2.1 ∧ r.2.1 < (B.n : Int) := gr.b
    have hx : L2.atI (fl B.n D) r.1 = some (oD (D r.1)) := fl_at o1
    show SD X [.dat (eBook B), .dat (.int o), .dat (.int now), .own (fl B.n D), .dat (eRow r), .dat (.int r.1), .dat (.int r.2.1), .dat (.int r.2.2.1), .dat (.int r.2.2.2)] _ _
    cases e : D r.1 with
    | none =>
      rw [e] at hx
      rw [relC_n e]
      exact sd_ifF (td_w (wd_andF (td_cmp (own_ix c 3 rfl (.inl rfl) (ed_var c 5 rfl (.inl rfl) rfl rfl rfl) rfl hx (fun _ _ => rfl) rfl rfl rfl) ed_non cd_notN (nomark _)))) (sd_nil (sd_nil ⟨.inr rfl, .inr rfl, .inr rfl, .inr rfl, .inl rfl, .inl rfl, .inl rfl, .inl rfl, .inl rfl, trivial⟩))
    | some v =>
      rw [e] at hx
      refine sd_if (td_w (wd_and (td_cmp (own_ix c 3 rfl (.inl rfl) (ed_var c 5 rfl (.inl rfl) rfl rfl rfl) rfl hx (fun _ _ => rfl) rfl rfl rfl) ed_non cd_notN (nomark _)) (fun _ => (wd_and (td_cmp (own_ix c 3 rfl (.inl rfl) (ed_var c 5 rfl (.inl rfl) rfl rfl rfl) rfl hx (fun _ _ => rfl) rfl rfl rfl) (ed_var c 7 rfl (.inl rfl) rfl rfl rfl) cd_le (nomark _)) (fun _ => (wd_and1 (td_low c 3 rfl (.inl rfl) rfl (ed_var c 6 rfl (.inl rfl) rfl rfl rfl) (ed_var c 6 rfl (.inl rfl) rfl rfl rfl) (ed_var c 8 rfl (.inl rfl) rfl rfl rfl) o2 (fun _ _ => rfl) (fun _ _ => rfl) rfl rfl (nomark _)))))))) (fun hb => ?_) (fun hb => ?_)
      · have hb : (decide (v ≤ r.2.2.1) && better (D r.2.1) r.2.2.2) = true := hb
        rw [Bool.and_eq_true] at hb
        rw [relC_t e (of_decide_eq_true hb.1), low_t hb.2]
        refine sd_setitem c 3 rfl (.inl rfl) (ed_var c 8 rfl (.inl rfl) rfl rfl rfl) (ed_var c 6 rfl (.inl rfl) rfl rfl rfl) rfl rfl (fl_ixN o2) ?_ rfl rfl (fun _ => rfl) rfl rfl rfl
        rw [← fl_set o2]
        exact sd_nil (sd_nil ⟨.inr rfl, .inr rfl, .inr rfl, .inr rfl, .inl rfl, .inl rfl, .inl rfl, .inl rfl, .inl rfl, trivial⟩)
      · have hb : (decide (v ≤ r.2.2.1) && better (D r.2.1) r.2.2.2) = false := hb
        have e2 : rel D (cartE r) = D := by
          by_cases q : v ≤ r.2.2.1
          · rw [decide_eq_true q] at hb
            rw [relC_t e q]
            exact low_f hb
          · exact relC_f e q
        rw [e2]
        exact sd_nil (sd_nil ⟨.inr rfl, .inr rfl, .inr rfl, .inr rfl, .inl rfl, .inl rfl, .inl rfl, .inl rfl, .inl rfl, trivial⟩)
  · rw [List.length_map]
    show SD X [.dat (eBook B), .dat (.int o), .dat (.int now), .own (fl B.n (rnd (((B.ca.mergeSort cle).take (B.ca.mergeSort cle).length).map cartE) (A0 o now))), .no, .no, .no, .no, .no] _ _
    rw [List.take_length, carr_sorted g h0 hp sort_ca]
    exact sd_retOwn c 3 rfl (.inl rfl) rfl rfl rfl rfl
end
end K
namespace K
open PySem L2 Z
section
variable {P : Program} {w : World} {K : PySem.W.Frag} {mg : Str → Option Value} {base : Heap} [LamC]
/-! ### choices: plain -/
abbrev goneB (start : Posting) (gone : List Int) (i : Nat) : Bool := (start.getD i none).isNone && !decide ((i : Int) ∈ gone)
noncomputable def chO (B : Book) (now : Int) (i : Nat) (o : Nat) : Option R3 := if (o : Int) = B.home (i : Int) then none else (carr B (B.home (i : Int)) now (o : Int)).map fun t => ((i : Int), (o : Int), t)
noncomputable def chOs (B : Book) (now : Int) (i : Nat) (m : Nat) : List R3 := (List.range m).filterMap (chO B now i)
noncomputable def chB (B : Book) (start : Posting) (gone : List Int) (now : Int) (i : Nat) : List R3 := if goneB start gone i then chOs B now i B.n else []
noncomputable def chs (B : Book) (start : Posting) (gone : List Int) (now : Int) : Nat → List R3
  | 0 => []
  | i + 1 => chs B start gone now i ++ chB B start gone now i
theorem chOs_succ {B : Book} {now : Int} {i m : Nat} : chOs B now i (m + 1) = chOs B now i m ++ (chO B now i m).toList := by
  unfold chOs
  rw [List.range_succ, List.filterMap_append]
  cases e : chO B now i m with
  | none => rw [List.filterMap_cons_none e]; rfl
  | some x => rw [List.filterMap_cons_some e]; rfl
theorem chO_in {B : Book} {now : Int} (g : Good B) (h0 : 0 ≤ now) (h1 : now ≤ 900) {i o : Nat} {x : R3} (h : chO B now i o = some x) : x.1 = (i : Int) ∧ x.2.1 = (o : Int) ∧ 0 ≤ x.2.2 ∧ x.2.2 ≤ 900 := by
  unfold chO at h
  by_cases q : (o : Int) = B.home (i : Int)
  · rw [if_pos q] at h; cases h
  · rw [if_neg q] at h
    cases e : carr B (B.home (i : Int)) now (o : Int) with
    | none => rw [e] at h; cases h
    | some t =>
      rw [e] at h
      cases h
      have := carr_in g h0 e
      exact ⟨rfl, rfl, this.1, by show t ≤ 900; omega⟩
theorem chOs_in {B : Book} {now : Int} (g : Good B) (h0 : 0 ≤ now) (h1 : now ≤ 900) {i m : Nat} {x : R3} (h : x ∈ chOs B now i m) : x.1 = (i : Int) ∧ (0 ≤ x.2.1 ∧ x.2.1 < (m : Int)) ∧ 0 ≤ x.2.2 ∧ x.2.2 ≤ 900 := by
  obtain ⟨o, ho, e⟩ := List.mem_filterMap.mp h
  have ho := List.mem_range.mp ho
  obtain ⟨h2, h3, h4, h5⟩ := chO_in g h0 h1 e
  exact ⟨h2, ⟨by omega, by omega⟩, h4, h5⟩
theorem chB_in {B : Book} {start : Posting} {gone : List Int} {now : Int} (g : Good B) (h0 : 0 ≤ now) (h1 : now ≤ 900) {i : Nat} {x : R3} (h : x ∈ chB B start gone now i) : x.1 = (i : Int) ∧ (0 ≤ x.2.1 ∧ x.2.1 < (B.n : Int)) ∧ 0 ≤ x.2.2 ∧ x.2.2 ≤ 900 := by
  unfold chB at h
  split at h
  · exact chOs_in g h0 h1 h
  · cases h
theorem chs_in {B : Book} {start : Posting} {gone : List Int} {now : Int} (g : Good B) (h0 : 0 ≤ now) (h1 : now ≤ 900) : ∀ {n : Nat} {x : R3}, x ∈ chs B start gone now n → (0 ≤ x.1 ∧ x.1 < (n : Int)) ∧ (0 ≤ x.2.1 ∧ x.2.1 < (B.n : Int)) ∧ 0 ≤ x.2.2 ∧ x.2.2 ≤ 900
  | n + 1, x, h => by
    rcases List.mem_append.mp (show x ∈ chs B start gone now n ++ chB B start gone now n from h) with z | z
    · obtain ⟨a, b⟩ := chs_in g h0 h1 z
      exact ⟨⟨a.1, by omega⟩, b⟩
    · obtain ⟨a, b⟩ := chB_in g h0 h1 z
      exact ⟨⟨by omega, by omega⟩, b⟩
theorem chOs_len {B : Book} {now : Int} {i m : Nat} : (chOs B now i m).length ≤ m := by
  unfold chOs
  exact Nat.le_trans (List.length_filterMap_le _ _) (by rw [List.length_range]; exact Nat.le_refl _)
theorem chB_len {B : Book} {start : Posting} {gone : List Int} {now : Int} {i : Nat} : (chB B start gone now i).length ≤ B.n := by
  unfold chB
  split
  · exact chOs_len
  · exact Nat.zero_le _
theorem chs_len {B : Book} {start : Posting} {gone : List Int} {now : Int} : ∀ n, (chs B start gone now n).length ≤ n * B.n
  | 0 => Nat.zero_le _
  | n + 1 => by
    show (chs B start gone now n ++ chB B start gone now n).length ≤ _
    rw [List.length_append, Nat.add_mul, Nat.one_mul]
    have := chs_len (B := B) (start := start) (gone := gone) (now := now) n
    have := chB_len (B := B) (start := start) (gone := gone) (now := now) (i := n)
    omega
theorem post_ix {ps : Posting} {i : Nat} (hi : i < ps.length) : ixD (ePost ps) (i : Int) = some (oP (ps.getD i none)) := by
  show L2.atI _ _ = _
  rw [atI_map, atI_of (by omega) (by omega) none]
  rfl
theorem any_Ig {ns : List Int} {b : Int} : ((ns.map PyData.int).any fun z => PyData.eqv z (.int b)) = decide (b ∈ ns) := by
  induction ns with
  | nil => rfl
  | cons n ns ih =>
    rw [List.map_cons, List.any_cons, ih]
    have e : PyData.eqv (.int n) (.int b) = decide (n = b) := eqv_dec rfl rfl ⟨fun h => by cases h; rfl, fun h => by rw [h]⟩
    rw [e]
    by_cases h : n = b
    · subst h; simp
    · rw [decide_eq_false h]
      simp only [Bool.false_or, List.mem_cons]
      by_cases h2 : b ∈ ns
      · rw [decide_eq_true h2, decide_eq_true (.inr h2)]
      · rw [decide_eq_false h2, decide_eq_false (fun z => z.elim (fun y => h y.symm) h2)]
/-! ### choices: the walks -/
def R_choices (ds es : List PyData) : Prop := ∃ B start gone now, ds = [eBook B, ePost start, .list (List.map .int gone), .int now] ∧ Good B ∧ GoodPost B start ∧ 0 ≤ now ∧ es = (chs B start gone now B.bi.length).map eR3
theorem ok_all_choices (M : Md K mg) : FnG P w K mg base "all_choices" ["book", "start", "gone", "now"] 3 (spL K R_choices) := by
  have Fa : FnG P w K mg base "arrivals" ["book", "office", "now"] 2 (spP K fun ds d => ∃ el dl, d = .tuple (.list el :: dl) ∧ R_arrivals ds el dl) := spP_of_F (ok_arrivals (P := P) (w := w) (base := base) M) fun ds d h => h
  refine fn_sdL (N := ["book", "start", "gone", "now", "found", "bird", "home", "office", "hour"]) M.d_all_choices ⟨rfl, rfl, rfl, by decide +kernel, rfl, by decide +kernel, by decide +kernel⟩ (fun ds d ⟨_, _, _, _, e, _⟩ => by rw [e]; rfl) (by decide) (fun X c ds d hR => ?_)
  obtain ⟨B, start, gone, now, rfl, g, gp, h0, rfl⟩ := hR
  show SD X [.dat (eBook B), .dat (ePost start), .dat (.list (gone.map .int)), .dat (.int now), .no, .no, .no, .no, .no] _ _
  have n6 : B.fl.length ≤ 6 := g.n6
  have bil := g.bil
  have pl := gp.len
  refine sd_asgL c 4 rfl (.inl rfl) (.inl rfl) (Nat.le_of_ble_eq_true rfl) (el_lst ad_nil (Nat.le_of_ble_eq_true rfl)) rfl ?_
  refine sd_for c (fun i => [.dat (eBook B), .dat (ePost start), .dat (.list (gone.map .int)), .dat (.int now), .own ((chs B start gone now i).map eR3), .no, .no, .no, .no]) (id_enumT c rfl M.b_enumerate (ds := B.bi.map .int) (ed_ix (ed_var c 0 rfl (.inl rfl) rfl rfl rfl) (ed_gint c rfl M.c_BIRDS rfl) rfl (fun _ _ => rfl)) rfl) (gd_tup c (gs_cons c 5 rfl (by kspl_open loc) (by kspl_open loc) (gs_cons c 6 rfl (by kspl_open loc) (by kspl_open loc) gs_nil rfl) rfl) rfl rfl) Wk.rfl' (fun i d hd => ?_) ?_ (fun _ => rfl)
  · obtain ⟨d', hd', rfl⟩ := enumD_inv hd
    obtain ⟨h, hh, rfl⟩ := map_get hd'
    have hil := (List.getElem?_eq_some_iff.mp hh).1
    have hoff := g.bi h (List.mem_of_getElem? hh)
    have hhome : B.home (i : Int) = h := by
      show B.bi.getD ((i : Int)).toNat 0 = h
      rw [Int.toNat_natCast, List.getD_eq_getElem?_getD, hh]; rfl
    refine ⟨_, rfl, ?_⟩
    have hlen := chs_len (B := B) (start := start) (gone := gone) (now := now) i
    have hbd : (chs B start gone now i).length + B.n ≤ 100 := by
      have : i * B.n ≤ 6 * 6 := Nat.mul_le_mul (by omega) n6
      have : B.n ≤ 6 := n6
      omega
    show SD X [.dat (eBook B), .dat (ePost start), .dat (.list (gone.map .int)), .dat (.int now), .own ((chs B start gone now i).map eR3), .dat (.int (i : Int)), .dat (.int h), .no, .no] _ _
    have hpx := post_ix (ps := start) (i := i) (by omega)
    have hstep : chs B start gone now (i + 1) = chs B start gone now i ++ chB B start gone now i := rfl
    refine sd_if (c := goneB start gone i) (td_to (td_w (wd_and (td_cmp (ed_ix (ed_var c 1 rfl (.inl rfl) rfl rfl rfl) (ed_var c 5 rfl (.inl rfl) rfl rfl rfl) hpx (fun _ _ => rfl)) ed_non cd_isN (nomark _)) (fun _ => (wd_and1 (td_cmp (ed_var c 5 rfl (.inl rfl) rfl rfl rfl) (ed_var c 2 rfl (.inl rfl) rfl rfl rfl) (cd_niL c rfl (shaped_ints gone)) (by with_unfolding_all rfl)))))) (by
      rw [any_Ig]
      unfold goneB
      cases start.getD i none <;> rfl)) (fun hb => ?_) (fun hb => ?_)
    · have hB : chB B start gone now i = chOs B now i B.n := if_pos hb
      rw [hstep, hB]
      generalize chs B start gone now i = L0 at hbd ⊢
      refine sd_for c (fun m => [.dat (eBook B), .dat (ePost start), .dat (.list (gone.map .int)), .dat (.int now), .own ((L0 ++ chOs B now i m).map eR3), .dat (.int (i : Int)), .dat (.int h), .no, .no]) (id_enumL c rfl M.b_enumerate (ds := fl B.n (carr B h now)) (ed_ix (ed_call c Fa (by decide) rfl (ad_cons (ed_var c 0 rfl (.inl rfl) rfl rfl rfl) (ad_cons (ed_var c 6 rfl (.inl rfl) rfl rfl rfl) (ad_cons (ed_var c 3 rfl (.inl rfl) rfl rfl rfl) ad_nil rfl) rfl) rfl) ⟨_, _, rfl, B, h, now, rfl, g, hoff, h0, rfl, rfl⟩ rfl rfl rfl) ed_int rfl (fun _ _ => rfl)) rfl) (gd_tup c (gs_cons c 7 rfl (by kspl_open loc) (by kspl_open loc) (gs_cons c 8 rfl (by kspl_open loc) (by kspl_open loc) gs_nil rfl) rfl) rfl rfl) ⟨.inr rfl, .inr rfl, .inr rfl, .inr rfl, .inr (by show _ = SK.own ((L0 ++ []).map eR3); rw [List.append_nil]), .inr rfl, .inr rfl, .inr rfl, .inr rfl, trivial⟩ (fun m d hd => ?_) ?_ (fun _ => rfl)
      · obtain ⟨d', hd', rfl⟩ := enumD_inv hd
        have hm : m < B.n := by
          have := (List.getElem?_eq_some_iff.mp hd').1
          rw [fl_len] at this; exact this
        rw [fl_get hm] at hd'
        have hd' := Option.some.inj hd'
        subst hd'
        refine ⟨_, rfl, ?_⟩
        have hol := chOs_len (B := B) (now := now) (i := i) (m := m)
        have hsz : ((L0 ++ chOs B now i m).map eR3).length < sizeLine := by
          rw [List.length_map, List.length_append]
          exact Nat.lt_of_lt_of_le (show L0.length + (chOs B now i m).length < 1000 by omega) (Nat.le_of_ble_eq_true rfl)
        show SD X [.dat (eBook B), .dat (ePost start), .dat (.list (gone.map .int)), .dat (.int now), .own ((L0 ++ chOs B now i m).map eR3), .dat (.int (i : Int)), .dat (.int h), .dat (.int (m : Int)), .dat (oD (carr B h now (m : Int)))] _ _
        rw [chOs_succ]
        cases e : carr B h now (m : Int) with
        | none =>
          have eN : chO B now i m = none := by
            unfold chO
            rw [hhome, e]
            split <;> rfl
          rw [eN]
          refine sd_ifF (td_to (td_w (wd_and (td_cmp (ed_var c 7 rfl (.inl rfl) rfl rfl rfl) (ed_var c 6 rfl (.inl rfl) rfl rfl rfl) cd_neI (nomark _)) (fun _ => (wd_and1 (td_cmp (ed_var c 8 rfl (.inl rfl) rfl rfl rfl) ed_non cd_notN (nomark _)))))) (Bool.and_false _)) (sd_nil (sd_nil ⟨.inr rfl, .inr rfl, .inr rfl, .inr rfl, .inr (by rw [Option.toList_none, List.append_nil]), .inr rfl, .inr rfl, .inl rfl, .inl rfl, trivial⟩))
        | some t =>
          by_cases q : (m : Int) = h
          · have eN : chO B now i m = none := by
              unfold chO
              rw [hhome, if_pos q]
            rw [eN]
            refine sd_ifF (td_w (wd_andF (td_to (td_cmp (ed_var c 7 rfl (.inl rfl) rfl rfl rfl) (ed_var c 6 rfl (.inl rfl) rfl rfl rfl) cd_neI (nomark _)) (by rw [decide_eq_true q]; rfl)))) (sd_nil (sd_nil ⟨.inr rfl, .inr rfl, .inr rfl, .inr rfl, .inr (by rw [Option.toList_none, List.append_nil]), .inr rfl, .inr rfl, .inl rfl, .inl rfl, trivial⟩))
          · have eS : chO B now i m = some ((i : Int), (m : Int), t) := by
              unfold chO
              rw [hhome, if_neg q, e]
              rfl
            rw [eS]
            refine sd_ifT (td_to (td_w (wd_and (td_cmp (ed_var c 7 rfl (.inl rfl) rfl rfl rfl) (ed_var c 6 rfl (.inl rfl) rfl rfl rfl) cd_neI (nomark _)) (fun _ => (wd_and1 (td_cmp (ed_var c 8 rfl (.inl rfl) rfl rfl rfl) ed_non cd_notN (nomark _)))))) (by rw [decide_eq_false q]; rfl)) ?_
            refine sd_append c 4 rfl (.inl rfl) (ed_tup (ad_cons (ed_var c 5 rfl (.inl rfl) rfl rfl rfl) (ad_cons (ed_var c 7 rfl (.inl rfl) rfl rfl rfl) (ad_cons (ed_var c 8 rfl (.inl rfl) rfl rfl rfl) ad_nil rfl) rfl) rfl) (Nat.le_of_ble_eq_true rfl)) rfl rfl hsz ?_ rfl rfl rfl rfl rfl rfl
            exact sd_nil (sd_nil ⟨.inr rfl, .inr rfl, .inr rfl, .inr rfl, .inr (by rw [← List.append_assoc, List.map_append (l₁ := L0 ++ chOs B now i m)]; rfl), .inr rfl, .inr rfl, .inl rfl, .inl rfl, trivial⟩)
      · rw [enumD_len, fl_len]
        exact sd_nil (sd_nil ⟨.inr rfl, .inr rfl, .inr rfl, .inr rfl, .inr rfl, .inl rfl, .inl rfl, .inr rfl, .inr rfl, trivial⟩)
    · have hB : chB B start gone now i = [] := if_neg (by rw [hb]; decide)
      rw [hstep, hB, List.append_nil]
      exact sd_nil (sd_nil ⟨.inr rfl, .inr rfl, .inr rfl, .inr rfl, .inr rfl, .inl rfl, .inl rfl, .inr rfl, .inr rfl, trivial⟩)
  · rw [enumD_len, List.length_map]
    exact sd_retOwn c 4 rfl (.inl rfl) rfl rfl rfl rfl
end
end K
namespace K
open PySem L2 Z
section
variable {P : Program} {w : World} {K : PySem.W.Frag} {mg : Str → Option Value} {base : Heap} [LamC]
/-! ### the law's choices -/
theorem ok_law_choices (M : Md K mg) (TB : LamX.TabB base mg LamC.cc LamC.tt) : FnG P w K mg base "_law_choices" ["_law_book_here", "_law_start", "_law_gone", "_law_now"] 4 (spL K R_choices) := by
  have Fl := ok_law_carried (P := P) (w := w) M TB
  refine fn_sdL (N := ["_law_book_here", "_law_start", "_law_gone", "_law_now", "_law_found", "_law_bird", "_law_hours_here", "_law_office"]) M.d__law_choices ⟨rfl, rfl, rfl, by decide +kernel, rfl, by decide +kernel, by decide +kernel⟩ (fun ds d ⟨_, _, _, _, e, _⟩ => by rw [e]; rfl) (by decide) (fun X c ds d hR => ?_)
  obtain ⟨B, start, gone, now, rfl, g, gp, h0, rfl⟩ := hR
  show SD X [.dat (eBook B), .dat (ePost start), .dat (.list (gone.map .int)), .dat (.int now), .no, .no, .no, .no] _ _
  have n6 : B.fl.length ≤ 6 := g.n6
  have nI : (B.n : Int) ≤ 6 := by show (B.fl.length : Int) ≤ 6; omega
  have bil := g.bil
  have pl := gp.len
  have hbn : ((B.bi.map PyData.int).length : Int) = (B.bi.length : Int) := by rw [List.length_map]
  refine sd_asgL c 4 rfl (.inl rfl) (.inl rfl) (Nat.le_of_ble_eq_true rfl) (el_lst ad_nil (Nat.le_of_ble_eq_true rfl)) rfl ?_
  refine sd_for c (fun i => [.dat (eBook B), .dat (ePost start), .dat (.list (gone.map .int)), .dat (.int now), .own ((chs B start gone now i).map eR3), .no, .no, .no]) (id_range c (n := (B.bi.length : Int)) rfl M.b_range (ed_to (ed_callB c rfl M.b_len PySem.boot_len (ad_cons (ed_ix (ed_var c 0 rfl (.inl rfl) rfl rfl rfl) ed_int rfl (fun _ _ => rfl)) ad_nil rfl) cl_lenT (by decide) rfl rfl rfl) (by rw [hbn])) ⟨by omega, by omega⟩ rfl) (gd_name c 5 rfl (by kspl_open loc) (by kspl_open loc)) Wk.rfl' (fun i d hd => ?_) ?_ (fun _ => rfl)
  · obtain ⟨hi, rfl⟩ := rngD_inv hd
    have hi : i < B.bi.length := by omega
    have hbi : 0 ≤ (i : Int) ∧ (i : Int) < (B.bi.length : Int) := ⟨by omega, by omega⟩
    have hoff := home_off g hbi
    refine ⟨_, rfl, ?_⟩
    have hlen := chs_len (B := B) (start := start) (gone := gone) (now := now) i
    have hbd : (chs B start gone now i).length + B.n ≤ 100 := by
      have : i * B.n ≤ 6 * 6 := Nat.mul_le_mul (by omega) n6
      have : B.n ≤ 6 := n6
      omega
    show SD X [.dat (eBook B), .dat (ePost start), .dat (.list (gone.map .int)), .dat (.int now), .own ((chs B start gone now i).map eR3), .dat (.int (i : Int)), .no, .no] _ _
    have hpx := post_ix (ps := start) (i := i) (by omega)
    have hstep : chs B start gone now (i + 1) = chs B start gone now i ++ chB B start gone now i := rfl
    refine sd_if (c := goneB start gone i) (td_to (td_w (wd_and (td_cmp (ed_ix (ed_var c 1 rfl (.inl rfl) rfl rfl rfl) (ed_var c 5 rfl (.inl rfl) rfl rfl rfl) hpx (fun _ _ => rfl)) ed_non cd_isN (nomark _)) (fun _ => (wd_and1 (td_cmp (ed_var c 5 rfl (.inl rfl) rfl rfl rfl) (ed_var c 2 rfl (.inl rfl) rfl rfl rfl) (cd_niL c rfl (shaped_ints gone)) (by with_unfolding_all rfl)))))) (by
      rw [any_Ig]
      unfold goneB
      cases start.getD i none <;> rfl)) (fun hb => ?_) (fun hb => ?_)
    · have hB : chB B start gone now i = chOs B now i B.n := if_pos hb
      rw [hstep, hB]
      generalize chs B start gone now i = L0 at hbd ⊢
      refine sd_asg c 6 rfl (.inl rfl) (.inl rfl) (Nat.le_of_ble_eq_true rfl) (ed_el (el_call c Fl (by decide) rfl (ad_cons (ed_var c 0 rfl (.inl rfl) rfl rfl rfl) (ad_cons (ed_ix (ed_ix (ed_var c 0 rfl (.inl rfl) rfl rfl rfl) ed_int rfl (fun _ _ => rfl)) (ed_var c 5 rfl (.inl rfl) rfl rfl rfl) (ix_home hbi) (fun _ _ => rfl)) (ad_cons (ed_var c 3 rfl (.inl rfl) rfl rfl rfl) ad_nil rfl) rfl) rfl) ⟨B, B.home (i : Int), now, rfl, g, hoff, h0, rfl⟩ rfl rfl rfl)) rfl ?_
      refine sd_for c (fun m => [.dat (eBook B), .dat (ePost start), .dat (.list (gone.map .int)), .dat (.int now), .own ((L0 ++ chOs B now i m).map eR3), .dat (.int (i : Int)), .dat (.list (fl B.n (carr B (B.home (i : Int)) now))), .no]) (id_range c (n := (B.n : Int)) rfl M.b_range (ed_to (ed_callB c rfl M.b_len PySem.boot_len (ad_cons (ed_var c 6 rfl (.inl rfl) rfl rfl rfl) ad_nil rfl) cl_lenL (by decide) rfl rfl rfl) (by rw [fl_len])) ⟨by omega, by omega⟩ rfl) (gd_name c 7 rfl (by kspl_open loc) (by kspl_open loc)) ⟨.inr rfl, .inr rfl, .inr rfl, .inr rfl, .inr (by show _ = SK.own ((L0 ++ []).map eR3); rw [List.append_nil]), .inr rfl, .inr rfl, .inr rfl, trivial⟩ (fun m d hd => ?_) ?_ (fun _ => rfl)
      · obtain ⟨hm0, rfl⟩ := rngD_inv hd
        have hm : m < B.n := by omega
        have hmo : 0 ≤ (m : Int) ∧ (m : Int) < (B.n : Int) := ⟨by omega, by omega⟩
        refine ⟨_, rfl, ?_⟩
        have hol := chOs_len (B := B) (now := now) (i := i) (m := m)
        have hsz : ((L0 ++ chOs B now i m).map eR3).length < sizeLine := by
          rw [List.length_map, List.length_append]
          exact Nat.lt_of_lt_of_le (show L0.length + (chOs B now i m).length < 1000 by omega) (Nat.le_of_ble_eq_true rfl)
        have hx : ixD (.list (fl B.n (carr B (B.home (i : Int)) now))) (m : Int) = some (oD (carr B (B.home (i : Int)) now (m : Int))) := fl_ix hmo
        show SD X [.dat (eBook B), .dat (ePost start), .dat (.list (gone.map .int)), .dat (.int now), .own ((L0 ++ chOs B now i m).map eR3), .dat (.int (i : Int)), .dat (.list (fl B.n (carr B (B.home (i : Int)) now))), .dat (.int (m : Int))] _ _
        rw [chOs_succ]
        cases e : carr B (B.home (i : Int)) now (m : Int) with
        | none =>
          have eN : chO B now i m = none := by
            unfold chO
            rw [e]
            split <;> rfl
          rw [eN]
          rw [e] at hx
          refine sd_ifF (td_to (td_w (wd_and (td_cmp (ed_var c 7 rfl (.inl rfl) rfl rfl rfl) (ed_ix (ed_ix (ed_var c 0 rfl (.inl rfl) rfl rfl rfl) ed_int rfl (fun _ _ => rfl)) (ed_var c 5 rfl (.inl rfl) rfl rfl rfl) (ix_home hbi) (fun _ _ => rfl)) cd_neI (nomark _)) (fun _ => (wd_and1 (td_cmp (ed_ix (ed_var c 6 rfl (.inl rfl) rfl rfl rfl) (ed_var c 7 rfl (.inl rfl) rfl rfl rfl) hx (fun _ _ => rfl)) ed_non cd_notN (nomark _)))))) (Bool.and_false _)) (sd_nil (sd_nil ⟨.inr rfl, .inr rfl, .inr rfl, .inr rfl, .inr (by rw [Option.toList_none, List.append_nil]), .inr rfl, .inr rfl, .inl rfl, trivial⟩))
        | some t =>
          rw [e] at hx
          by_cases q : (m : Int) = B.home (i : Int)
          · have eN : chO B now i m = none := by
              unfold chO
              rw [if_pos q]
            rw [eN]
            refine sd_ifF (td_w (wd_andF (td_to (td_cmp (ed_var c 7 rfl (.inl rfl) rfl rfl rfl) (ed_ix (ed_ix (ed_var c 0 rfl (.inl rfl) rfl rfl rfl) ed_int rfl (fun _ _ => rfl)) (ed_var c 5 rfl (.inl rfl) rfl rfl rfl) (ix_home hbi) (fun _ _ => rfl)) cd_neI (nomark _)) (by rw [decide_eq_true q]; rfl)))) (sd_nil (sd_nil ⟨.inr rfl, .inr rfl, .inr rfl, .inr rfl, .inr (by rw [Option.toList_none, List.append_nil]), .inr rfl, .inr rfl, .inl rfl, trivial⟩))
          · have eS : chO B now i m = some ((i : Int), (m : Int), t) := by
              unfold chO
              rw [if_neg q, e]
              rfl
            rw [eS]
            refine sd_ifT (td_to (td_w (wd_and (td_cmp (ed_var c 7 rfl (.inl rfl) rfl rfl rfl) (ed_ix (ed_ix (ed_var c 0 rfl (.inl rfl) rfl rfl rfl) ed_int rfl (fun _ _ => rfl)) (ed_var c 5 rfl (.inl rfl) rfl rfl rfl) (ix_home hbi) (fun _ _ => rfl)) cd_neI (nomark _)) (fun _ => (wd_and1 (td_cmp (ed_ix (ed_var c 6 rfl (.inl rfl) rfl rfl rfl) (ed_var c 7 rfl (.inl rfl) rfl rfl rfl) hx (fun _ _ => rfl)) ed_non cd_notN (nomark _)))))) (by rw [decide_eq_false q]; rfl)) ?_
            refine sd_append c 4 rfl (.inl rfl) (ed_tup (ad_cons (ed_var c 5 rfl (.inl rfl) rfl rfl rfl) (ad_cons (ed_var c 7 rfl (.inl rfl) rfl rfl rfl) (ad_cons (ed_ix (ed_var c 6 rfl (.inl rfl) rfl rfl rfl) (ed_var c 7 rfl (.inl rfl) rfl rfl rfl) hx (fun _ _ => rfl)) ad_nil rfl) rfl) rfl) (Nat.le_of_ble_eq_true rfl)) rfl rfl hsz ?_ rfl rfl rfl rfl rfl rfl
            exact sd_nil (sd_nil ⟨.inr rfl, .inr rfl, .inr rfl, .inr rfl, .inr (by rw [← List.append_assoc, List.map_append (l₁ := L0 ++ chOs B now i m)]; rfl), .inr rfl, .inr rfl, .inl rfl, trivial⟩)
      · rw [rngD_len, Int.toNat_natCast]
        exact sd_nil (sd_nil ⟨.inr rfl, .inr rfl, .inr rfl, .inr rfl, .inr rfl, .inl rfl, .inl rfl, .inr rfl, trivial⟩)
    · have hB : chB B start gone now i = [] := if_neg (by rw [hb]; decide)
      rw [hstep, hB, List.append_nil]
      exact sd_nil (sd_nil ⟨.inr rfl, .inr rfl, .inr rfl, .inr rfl, .inr rfl, .inl rfl, .inr rfl, .inr rfl, trivial⟩)
  · rw [rngD_len, Int.toNat_natCast]
    exact sd_retOwn c 4 rfl (.inl rfl) rfl rfl rfl rfl
end
end K
namespace K
open PySem L2 Z
section
variable {P : Program} {w : World} {K : PySem.W.Frag} {mg : Str → Option Value} {base : Heap} [LamC]
/-! ### Ground: its fields, its simple methods -/
abbrev P2 := Int × Int
def gF (B : Book) (ls : List Ltr) (st fr : List R3) : List (Str × PyData) := [("book", eBook B), ("letters", .list (ls.map eLtr)), ("stands", .list (st.map eR3)), ("free", .list (fr.map eR3))]
def R_g_rows (fs : List (Str × PyData)) (ds : List PyData) (d : PyData) : Prop := ∃ B ls st fr, fs = gF B ls st fr ∧ ds = [] ∧ st.length + fr.length ≤ 1000 ∧ d = .list (List.map eR3 (st ++ fr))
theorem ok_g_rows {C : Addr} (g : Ground_at K mg C) : MethG P w K mg base C "rows" ["self"] 1 (spI K C R_g_rows) := by
  refine fn_sdI (N := ["self"]) g.m_rows ⟨rfl, rfl, rfl, by decide +kernel, rfl, by decide +kernel, by decide +kernel⟩ (fun fs ds d ⟨_, _, _, _, _, e, _⟩ => by rw [e]; rfl) (by decide) (fun X c fs ds d hR => ?_)
  obtain ⟨B, ls, st, fr, rfl, rfl, hl, rfl⟩ := hR
  have hK := c.hK
  subst hK
  show SD X [.ins C (gF B ls st fr)] _ _
  refine sd_retL (el_cat (ed_fld g.cl g.na_stands (ei_var c 0 rfl (.inl rfl) rfl rfl rfl) rfl rfl) (ed_fld g.cl g.na_free (ei_var c 0 rfl (.inl rfl) rfl rfl rfl) rfl rfl) (by
    rw [List.length_map, List.length_map]
    exact Nat.le_trans hl (Nat.le_of_ble_eq_true rfl))) ?_
  show PyData.list (List.map eR3 (st ++ fr)) = .list (st.map eR3 ++ fr.map eR3)
  rw [List.map_append]
end
end K
namespace K
open PySem L2 Z
section
variable {P : Program} {w : World} {K : PySem.W.Frag} {mg : Str → Option Value} {base : Heap} [LamC]
/-! ### pairs -/
def pairOf (r : R3) : P2 := (r.1, r.2.1)
theorem any_P2g {bs : List P2} {p : P2} : ((bs.map eP2).any fun z => PyData.eqv z (eP2 p)) = decide (p ∈ bs) := by
  induction bs with
  | nil => rfl
  | cons q bs ih =>
    rw [List.map_cons, List.any_cons, ih]
    have e : PyData.eqv (eP2 q) (eP2 p) = decide (q = p) := eqv_dec rfl rfl ⟨fun h => by
      obtain ⟨a, b⟩ := q
      obtain ⟨a', b'⟩ := p
      simp only [eP2, PyData.tuple.injEq, List.cons.injEq, PyData.int.injEq] at h
      rw [h.1, h.2.1], fun h => by rw [h]⟩
    rw [e]
    by_cases h : q = p
    · subst h; simp
    · rw [decide_eq_false h]
      simp only [Bool.false_or, List.mem_cons]
      by_cases h2 : p ∈ bs
      · rw [decide_eq_true h2, decide_eq_true (.inr h2)]
      · rw [decide_eq_false h2, decide_eq_false (fun z => z.elim (fun y => h y.symm) h2)]
theorem shp_P2g (r : P2) : Shp 1 (eP2 r) := .tuple (allC (.int _) (allC (.int _) allN))
theorem shp_P2s (l : List P2) : SeqAt.shaped (.list (l.map eP2)) = true := Shp.ok (n := 2) (.list (allM fun a _ => shp_P2g a)) (by decide)
def inCut (cut : List P2) (r : R3) : Bool := decide (pairOf r ∈ cut)
def two (rows : List R3) (cut : List P2) : Bool := decide (1 < (rows.filter (inCut cut)).length)
def R_has_two (fs : List (Str × PyData)) (ds : List PyData) (d : PyData) : Prop := ∃ B ls st fr rows cut, fs = gF B ls st fr ∧ ds = [.list (List.map eR3 rows), .list (List.map eP2 cut)] ∧ rows.length ≤ 1000 ∧ d = .bool (two rows cut)
theorem ok_has_two {C : Addr} (M : Md K mg) (g : Ground_at K mg C) : MethG P w K mg base C "has_two" ["self", "rows", "cut"] 1 (spI K C R_has_two) := by
  refine fn_sdI (N := ["self", "rows", "cut", "row"]) g.m_has_two ⟨rfl, rfl, rfl, by decide +kernel, rfl, by decide +kernel, by decide +kernel⟩ (fun fs ds d ⟨_, _, _, _, _, _, _, e, _⟩ => by rw [e]; rfl) (by decide) (fun X c fs ds d hR => ?_)
  obtain ⟨B, ls, st, fr, rows, cut, rfl, rfl, hl, rfl⟩ := hR
  show SD X [.ins C (gF B ls st fr), .dat (.list (rows.map eR3)), .dat (.list (cut.map eP2)), .no] _ _
  refine sd_ret (ed_to (ed_cmp (ed_callB c rfl M.b_len PySem.boot_len (ad_cons (ed_el (el_filter c [("row", 3)] (xs := rows) (enc := eR3) (inCut cut) eR3 (by decide +kernel) rfl (id_seq (ed_var c 1 rfl (.inl rfl) rfl rfl rfl) rfl) (all1 ⟨_, rfl, .inl rfl⟩) (fun X' c2 => gd_name c2 3 rfl (by kspl_open loc) (by kspl_open loc)) (Nat.lt_of_lt_of_le (show rows.length < 10000 by omega) (Nat.le_of_ble_eq_true rfl)) (fun r hr => ⟨_, rfl, fun X' c2 => ts_one (td_to (td_cmp (ed_slT (ed_var c2 3 rfl (by kspl_open vis) rfl rfl rfl) po_no (po_yes ed_int)) (ed_var c2 2 rfl (by kspl_open vis) rfl rfl rfl) (cd_inL c2 (da := eP2 (pairOf r)) ((shp_P2g _).ok (by decide)) (shp_P2s cut)) (by with_unfolding_all rfl)) (by rw [any_P2g]; rfl)), ⟨.inr rfl, .inr rfl, .inr rfl, .inl rfl, trivial⟩, fun _ X' c2 => ed_var c2 3 rfl (by kspl_open vis) rfl rfl rfl⟩) (fun _ => rfl))) ad_nil rfl) cl_lenL (by decide) rfl rfl rfl) ed_int cd_gt (nomark _)) (by
    rw [List.length_map]
    unfold two
    congr 1
    exact decide_eq_decide.mpr ⟨fun h => by omega, fun h => by omega⟩)) rfl
end
end K
namespace K
open PySem L2 Z
section
variable {P : Program} {w : World} {K : PySem.W.Frag} {mg : Str → Option Value} {base : Heap} [LamC]
/-! ### what is left without a cut -/
def leftC (rows : List R3) (cut : List P2) : List R3 := rows.filter fun r => !inCut cut r
def R_left (fs : List (Str × PyData)) (ds : List PyData) (d : PyData) : Prop := ∃ B ls st fr cut, fs = gF B ls st fr ∧ ds = [.list (List.map eP2 cut)] ∧ st.length + fr.length ≤ 1000 ∧ d = .list (List.map eR3 (leftC (st ++ fr) cut))
theorem ok_left {C : Addr} (g : Ground_at K mg C) : MethG P w K mg base C "left" ["self", "cut"] 2 (spI K C R_left) := by
  have Fr := ok_g_rows (P := P) (w := w) (base := base) g
  refine fn_sdI (N := ["self", "cut", "row"]) g.m_left ⟨rfl, rfl, rfl, by decide +kernel, rfl, by decide +kernel, by decide +kernel⟩ (fun fs ds d ⟨_, _, _, _, _, _, e, _⟩ => by rw [e]; rfl) (by decide) (fun X c fs ds d hR => ?_)
  obtain ⟨B, ls, st, fr, cut, rfl, rfl, hl, rfl⟩ := hR
  have hK := c.hK
  subst hK
  show SD X [.ins C (gF B ls st fr), .dat (.list (cut.map eP2)), .no] _ _
  exact sd_retL (el_filter c [("row", 2)] (xs := st ++ fr) (enc := eR3) (fun r => !inCut cut r) eR3 (by decide +kernel) rfl (id_seq (ed_meth0 c g.cl Fr (by decide) (ei_var c 0 rfl (.inl rfl) rfl rfl rfl) rfl ⟨B, ls, st, fr, rfl, rfl, hl, rfl⟩ rfl) rfl) (all1 ⟨_, rfl, .inl rfl⟩) (fun X' c2 => gd_name c2 2 rfl (by kspl_open loc) (by kspl_open loc)) (Nat.lt_of_lt_of_le (show (st ++ fr).length < 10000 by rw [List.length_append]; omega) (Nat.le_of_ble_eq_true rfl)) (fun r hr => ⟨_, rfl, fun X' c2 => ts_one (td_to (td_cmp (ed_slT (ed_var c2 2 rfl (by kspl_open vis) rfl rfl rfl) po_no (po_yes ed_int)) (ed_var c2 1 rfl (by kspl_open vis) rfl rfl rfl) (cd_niL c2 (da := eP2 (pairOf r)) ((shp_P2g _).ok (by decide)) (shp_P2s cut)) (by with_unfolding_all rfl)) (by rw [any_P2g]; rfl)), ⟨.inr rfl, .inr rfl, .inl rfl, trivial⟩, fun _ X' c2 => ed_var c2 2 rfl (by kspl_open vis) rfl rfl rfl⟩) (fun _ => rfl)) rfl
end
end K
namespace K
open PySem L2 Z
section
variable {P : Program} {w : World} {K : PySem.W.Frag} {mg : Str → Option Value} {base : Heap} [LamC]
/-! ### is_cut -/
theorem sw_cell2 {elt : Expr} {gs : List Comprehension} {scope : Scope} {q1 q2 : Pos} {y : Str} {l : Nat} {env : Env} (h : env.scope.names.lookup y = some .cell) : swapsWith (.ListComp elt gs scope q1) (some (.Name y q2)) l env = pure false := by
  have ky : env.kindOf y = some .cell := h
  have e : ((some NameKind.cell : Option NameKind) == some .local) = false := rfl
  unfold swapsWith
  simp only [ky, e, Bool.and_false, Bool.false_and]
noncomputable def fails (B : Book) (rows : List R3) (t : Ltr) : Bool := !comesBy B rows t.1 t.2.1 t.2.2
noncomputable def isCut (B : Book) (ls : List Ltr) (rows : List R3) (cut : List P2) : Bool := !(cut.any fun p => !decide (p ∈ rows.map pairOf)) && ls.any (fails B (leftC rows cut))
def R_g_is_cut (fs : List (Str × PyData)) (ds : List PyData) (d : PyData) : Prop := ∃ B ls st fr cut, fs = gF B ls st fr ∧ ds = [.list (List.map eP2 cut)] ∧ Good B ∧ GoodRows B (st ++ fr) ∧ (∀ t ∈ ls, GoodLtr B t) ∧ ls.length ≤ 1000 ∧ cut.length ≤ 1000 ∧ d = .bool (isCut B ls (st ++ fr) cut)
theorem left_good {B : Book} {rows : List R3} (g : GoodRows B rows) (cut : List P2) : GoodRows B (leftC rows cut) := ⟨fun r hr => g.at_ r (List.mem_filter.mp hr).1, Nat.le_trans (List.length_filter_le _ _) g.len⟩
theorem shp_Ltrg (t : Ltr) : Shp 3 (eLtr t) := .tuple (allC (.tuple (n := 1) (allM fun p _ => (.tuple (allC (.int _) (allC (.int _) allN)) : Shp 1 (eP2 p)))) (allC (.int _) (allC (.int _) allN)))
theorem ok_g_is_cut {C : Addr} (M : Md K mg) (g : Ground_at K mg C) : MethG P w K mg base C "is_cut" ["self", "cut"] 6 (spI K C R_g_is_cut) := by
  have Fr := ok_g_rows (P := P) (w := w) (base := base) g
  have Fl := ok_left (P := P) (w := w) (base := base) g
  have Fc := ok_comes_by (P := P) (w := w) (base := base) M
  refine fn_sdI (N := ["self", "cut", "known", "rows", "row", "pair", "letter"]) g.m_is_cut ⟨rfl, rfl, rfl, by decide +kernel, rfl, by decide +kernel, by decide +kernel⟩ (fun fs ds d ⟨_, _, _, _, _, _, e, _⟩ => by rw [e]; rfl) (by decide) (fun X c fs ds d hR => ?_)
  obtain ⟨B, ls, st, fr, cut, rfl, rfl, gB, gr, gl, hll, hcl, rfl⟩ := hR
  have hK := c.hK
  subst hK
  have hrl : st.length + fr.length ≤ 1000 := by have := gr.len; rw [List.length_append] at this; exact this
  show SD X [.ins C (gF B ls st fr), .dat (.list (cut.map eP2)), .no, .no, .no, .no, .no] _ _
  refine sd_asgL c 2 rfl (.inr rfl) (.inl rfl) (Nat.le_of_ble_eq_true rfl) (el_map c [("row", 4)] (xs := st ++ fr) (enc := eR3) (fun r => eP2 (pairOf r)) (by decide +kernel) rfl (id_seq (ed_meth0 c g.cl Fr (by decide) (ei_var c 0 rfl (.inr (.inl rfl)) rfl rfl rfl) rfl ⟨B, ls, st, fr, rfl, rfl, hrl, rfl⟩ rfl) rfl) (all1 ⟨_, rfl, .inl rfl⟩) (fun X' c2 => (gd_name c2 4 rfl (by kspl_open loc) (by kspl_open loc))) (Nat.lt_of_lt_of_le (show (st ++ fr).length < 10000 by rw [List.length_append]; omega) (Nat.le_of_ble_eq_true rfl)) (fun r hr => ⟨_, rfl, fun X' c2 => ed_to (d := .tuple (cutD [.int r.1, .int r.2.1, .int r.2.2] none (some 2))) (ed_slT (ed_var c2 4 rfl (by kspl_open vis) rfl rfl rfl) po_no (po_yes ed_int)) rfl, ⟨.inr rfl, .inr rfl, .inr rfl, .inr rfl, .inl rfl, .inr rfl, .inr rfl, trivial⟩⟩) (fun _ => rfl)) (sw_cell2 (by rw [c.hs]; decide +kernel)) ?_
  refine sd_freeze 2 rfl ?_
  refine SD.to (ls := [.ins C (gF B ls st fr), .dat (.list (cut.map eP2)), .dat (.list (((st ++ fr).map pairOf).map eP2)), .no, .no, .no, .no]) (by rw [List.map_map]; rfl) ?_
  refine sd_if (td_to (td_cmp (ed_el (el_filter c [("pair", 5)] (xs := cut) (enc := eP2) (fun p => !decide (p ∈ (st ++ fr).map pairOf)) eP2 (by decide +kernel) rfl (id_seq (ed_var c 1 rfl (by kspl_open vis) rfl rfl rfl) rfl) (all1 ⟨_, rfl, .inl rfl⟩) (fun X' c2 => (gd_name c2 5 rfl (by kspl_open loc) (by kspl_open loc))) (Nat.lt_of_lt_of_le (show cut.length < 10000 by omega) (Nat.le_of_ble_eq_true rfl)) (fun p hp => ⟨_, rfl, fun X' c2 => ts_one (td_to (td_cmp (ed_var c2 5 rfl (by kspl_open vis) rfl rfl rfl) (ed_var c2 2 rfl (by kspl_open vis) rfl rfl rfl) (cd_niL c2 (da := eP2 p) ((shp_P2g _).ok (by decide)) (shp_P2s _)) (by with_unfolding_all rfl)) (by rw [any_P2g])), ⟨.inr rfl, .inr rfl, .inr rfl, .inr rfl, .inr rfl, .inl rfl, .inr rfl, trivial⟩, fun _ X' c2 => (ed_var c2 5 rfl (by kspl_open vis) rfl rfl rfl)⟩) (fun _ => rfl))) (ed_el (el_lst ad_nil (Nat.le_of_ble_eq_true rfl))) (cd_neD c (shp_P2s _) (Shp.ok (n := 1) (.list allN) (by decide))) (nomark _)) (filter_any _ _ _)) (fun hb => ?_) (fun hb => ?_)
  · refine sd_ret ed_bl ?_
    unfold isCut
    rw [hb]
    rfl
  · refine sd_nil ?_
    refine sd_asg c 3 rfl (.inr rfl) (.inl rfl) (Nat.le_of_ble_eq_true rfl) (ed_meth c g.cl Fl (by decide) (ei_var c 0 rfl (.inr (.inl rfl)) rfl rfl rfl) rfl (ad_cons (ed_var c 1 rfl (by kspl_open vis) rfl rfl rfl) ad_nil rfl) ⟨B, ls, st, fr, cut, rfl, rfl, hrl, rfl⟩ rfl rfl rfl) rfl ?_
    have gl' := left_good gr cut
    refine sd_ret (ed_to (ed_cmp (ed_el (el_filter c [("letter", 6)] (xs := ls) (enc := eLtr) (fails B (leftC (st ++ fr) cut)) eLtr (by decide +kernel) rfl (id_seq (ed_fld g.cl g.na_letters (ei_var c 0 rfl (.inr (.inl rfl)) rfl rfl rfl) rfl rfl) rfl) (all1 ⟨_, rfl, .inl rfl⟩) (fun X' c2 => (gd_name c2 6 rfl (by kspl_open loc) (by kspl_open loc))) (Nat.lt_of_lt_of_le (show ls.length < 10000 by omega) (Nat.le_of_ble_eq_true rfl)) (fun t ht => ⟨_, rfl, fun X' c2 => ts_one (td_not (td_val (ed_call c2 Fc (by decide) rfl (ad_cons (ed_fld (by rw [c2.hK]; exact g.cl) (by rw [c2.hK]; exact g.na_book) (ei_var c2 0 rfl (by kspl_open vis) rfl rfl rfl) rfl rfl) (ad_cons (ed_var c2 3 rfl (by kspl_open vis) rfl rfl rfl) (ad_cons (ed_var c2 6 rfl (by kspl_open vis) rfl rfl rfl) ad_nil rfl) rfl) rfl) ⟨B, leftC (st ++ fr) cut, t.1, _, t.2.1, t.2.2, rfl, rfl, gB, gl', (gl t ht).1, (gl t ht).2, rfl⟩ rfl rfl rfl) (fun _ => rfl))), ⟨.inr rfl, .inr rfl, .inr rfl, .inr rfl, .inr rfl, .inr rfl, .inl rfl, trivial⟩, fun _ X' c2 => (ed_var c2 6 rfl (by kspl_open vis) rfl rfl rfl)⟩) (fun _ => rfl))) (ed_el (el_lst ad_nil (Nat.le_of_ble_eq_true rfl))) (cd_neD c (Shp.ok (n := 4) (.list (allM fun t _ => shp_Ltrg t)) (by decide)) (Shp.ok (n := 1) (.list allN) (by decide))) (nomark _)) (by rw [filter_any])) ?_
    show PyData.bool _ = .bool _
    unfold isCut
    rw [hb]
    rfl
end
end K
namespace K
open PySem L2 Z
section
variable {P : Program} {w : World} {K : PySem.W.Frag} {mg : Str → Option Value} {base : Heap} [LamC]
/-! ### choosing -/
def eCut (c : List P2) : PyData := .list (c.map eP2)
def allTwo (cuts : List (List P2)) (rows : List R3) : Bool := !cuts.any fun c => !two rows c
/-- nb birds, of which so many are left to be gone through -/
def choose (nb : Nat) (fr : List R3) (cuts : List (List P2)) : Nat → Int → List R3 → Option (List R3)
  | 0, _, rows => if allTwo cuts rows = true then some rows else none
  | n + 1, many, rows => match choose nb fr cuts n many rows with
    | some r => some r
    | none => if many = 0 then none else fr.findSome? fun row => if row.1 = (nb : Int) - (n + 1 : Nat) then choose nb fr cuts n (many - 1) (rows ++ [row]) else none
def eO : Option (List R3) → PyData
  | none => .none
  | some l => .list (l.map eR3)
theorem eO_non {o : Option (List R3)} : isNoneD (eO o) = o.isNone := by cases o <;> rfl
def R_choosing (n : Nat) (fs : List (Str × PyData)) (ds cs : List PyData) (d : PyData) : Prop := ∃ B ls st fr many rows cuts, fs = gF B ls st fr ∧ ds = [.int many, .int ((B.bi.length : Int) - (n : Nat)), .list (List.map eR3 rows)] ∧ cs = List.map eCut cuts ∧
  n ≤ B.bi.length ∧ 0 ≤ many ∧ rows.length + n ≤ 1000 ∧ fr.length ≤ 1000 ∧ cuts.length ≤ 1000000 ∧ d = eO (choose B.bi.length fr cuts n many rows)
theorem shp_Cut (c : List P2) : Shp 2 (eCut c) := .list (allM fun a _ => shp_P2g a)
theorem filter_non {α : Type} (p : α → Bool) (g : α → PyData) (xs : List α) : PyData.eqv (.list ((xs.filter p).map g)) (.list []) = !xs.any p := by
  rw [← filter_any p g xs, Bool.not_not]
theorem ok_choosing {C : Addr} (M : Md K mg) (g : Ground_at K mg C) : ∀ n : Nat, MethG P w K mg base C "choosing" ["self", "many", "bird", "rows", "cuts"] (2 + n) (spIB K C (R_choosing n))
  | 0 => by
    have F2 := ok_has_two (P := P) (w := w) (base := base) M g
    refine fn_sdIB (k := 1) (N := ["self", "many", "bird", "rows", "cuts", "good", "found", "row", "cut"]) g.m_choosing ⟨rfl, rfl, rfl, by decide +kernel, rfl, by decide +kernel, by decide +kernel⟩ (fun fs ds cs d ⟨_, _, _, _, _, _, _, _, e, _⟩ => by rw [e]; rfl) (by decide) (fun X c fs ds cs d a hR => ?_)
    obtain ⟨B, ls, st, fr, many, rows, cuts, rfl, rfl, rfl, hn, h0, hr, hf, hc, rfl⟩ := hR
    have hK := c.hK
    subst hK
    show SD X [.ins C (gF B ls st fr), .dat (.int many), .dat (.int ((B.bi.length : Int) - (0 : Nat))), .dat (.list (rows.map eR3)), .cus (borC a (cuts.map eCut)), .no, .no, .no, .no] _ _
    refine sd_ifT (td_to (td_cmp (ed_var c 2 rfl (by kspl_open vis) rfl rfl rfl) (ed_callB c rfl M.b_len PySem.boot_len (ad_cons (ed_ix (ed_fld g.cl g.na_book (ei_var c 0 rfl (by kspl_open vis) rfl rfl rfl) rfl rfl) (ed_gint c rfl M.c_BIRDS rfl) rfl (fun _ _ => rfl)) ad_nil rfl) (by kspl_open cl) (by decide) rfl rfl rfl) (by kspl_open cd) (nomark _)) (decT (by rw [List.length_map]; omega))) ?_
    refine sd_asg c 5 rfl (by kspl_open loc) (.inl rfl) (Nat.le_of_ble_eq_true rfl) (ed_thawL 4 rfl (.inr ⟨a, rfl⟩) rfl (show ED X [.ins C (gF B ls st fr), .dat (.int many), .dat (.int ((B.bi.length : Int) - (0 : Nat))), .dat (.list (rows.map eR3)), .dat (.list (cuts.map eCut)), .no, .no, .no, .no] _ [.ins C (gF B ls st fr), .dat (.int many), .dat (.int ((B.bi.length : Int) - (0 : Nat))), .dat (.list (rows.map eR3)), .dat (.list (cuts.map eCut)), .no, .no, .no, .no] (.bool (allTwo cuts rows)) from ed_to (ed_cmp (ed_el (el_filter c [("cut", 8)] (xs := cuts) (enc := eCut) (fun z => !two rows z) eCut (by decide +kernel) rfl (id_seq (ed_var c 4 rfl (by kspl_open vis) rfl rfl rfl) rfl) (all1 ⟨_, rfl, .inl rfl⟩) (fun X' c2 => (gd_name c2 8 rfl (by kspl_open loc) (by kspl_open loc))) (Nat.lt_of_lt_of_le (show cuts.length < 2000000 by omega) (Nat.le_of_ble_eq_true rfl)) (fun z hz => ⟨_, rfl, fun X' c2 => ts_one (td_not (td_val (ed_meth c2 (by rw [c2.hK]; exact g.cl) F2 (by decide) (ei_var c2 0 rfl (by kspl_open vis) rfl rfl rfl) rfl (ad_cons (ed_var c2 3 rfl (by kspl_open vis) rfl rfl rfl) (ad_cons (ed_var c2 8 rfl (by kspl_open vis) rfl rfl rfl) ad_nil rfl) rfl) ⟨B, ls, st, fr, rows, z, rfl, rfl, by omega, rfl⟩ rfl rfl rfl) (fun _ => rfl))), ⟨.inr rfl, .inr rfl, .inr rfl, .inr rfl, .inr rfl, .inr rfl, .inr rfl, .inr rfl, .inl rfl, trivial⟩, fun _ X' c2 => (ed_var c2 8 rfl (by kspl_open vis) rfl rfl rfl)⟩) (fun _ => rfl))) (ed_el (el_lst ad_nil (Nat.le_of_ble_eq_true rfl))) (cd_eqD c (Shp.ok (n := 3) (.list (allM fun a _ => shp_Cut a)) (by decide)) (Shp.ok (n := 1) (.list allN) (by decide))) (nomark _)) (congrArg PyData.bool (filter_non _ _ _)))) rfl ?_
    show SD X [.ins C (gF B ls st fr), .dat (.int many), .dat (.int ((B.bi.length : Int) - (0 : Nat))), .dat (.list (rows.map eR3)), .cus (borC a (cuts.map eCut)), .dat (.bool (allTwo cuts rows)), .no, .no, .no] _ _
    have e : choose B.bi.length fr cuts 0 many rows = if allTwo cuts rows = true then some rows else none := by unfold choose; rfl
    rw [e]
    generalize allTwo cuts rows = q
    cases q with
    | true => exact sd_ret (ed_if (x := true) (td_val (ed_var c 5 rfl (by kspl_open vis) rfl rfl rfl) (fun _ => rfl)) (fun _ => (ed_var c 3 rfl (by kspl_open vis) rfl rfl rfl)) (fun z => by cases z)) ⟨rfl, rfl⟩
    | false => exact sd_ret (ed_if (x := false) (td_val (ed_var c 5 rfl (by kspl_open vis) rfl rfl rfl) (fun _ => rfl)) (fun z => by cases z) (fun _ => ed_non)) ⟨rfl, rfl⟩
  | n + 1 => by
    have Fc := ok_choosing M g n
    refine fn_sdIB (k := 2 + n) (N := ["self", "many", "bird", "rows", "cuts", "good", "found", "row", "cut"]) g.m_choosing ⟨rfl, rfl, rfl, by decide +kernel, rfl, by decide +kernel, by decide +kernel⟩ (fun fs ds cs d ⟨_, _, _, _, _, _, _, _, e, _⟩ => by rw [e]; rfl) (by decide) (fun X c fs ds cs d a hR => ?_)
    obtain ⟨B, ls, st, fr, many, rows, cuts, rfl, rfl, rfl, hn, h0, hr, hf, hc, rfl⟩ := hR
    have hK := c.hK
    subst hK
    show SD X [.ins C (gF B ls st fr), .dat (.int many), .dat (.int ((B.bi.length : Int) - (n + 1 : Nat))), .dat (.list (rows.map eR3)), .cus (borC a (cuts.map eCut)), .no, .no, .no, .no] _ _
    have hb : (B.bi.length : Int) - (n + 1 : Nat) + 1 = (B.bi.length : Int) - (n : Nat) := by omega
    refine sd_ifF (td_to (td_cmp (ed_var c 2 rfl (by kspl_open vis) rfl rfl rfl) (ed_callB c rfl M.b_len PySem.boot_len (ad_cons (ed_ix (ed_fld g.cl g.na_book (ei_var c 0 rfl (by kspl_open vis) rfl rfl rfl) rfl rfl) (ed_gint c rfl M.c_BIRDS rfl) rfl (fun _ _ => rfl)) ad_nil rfl) (by kspl_open cl) (by decide) rfl rfl rfl) (by kspl_open cd) (nomark _)) (decide_eq_false (by rw [List.length_map]; omega))) (sd_nil ?_)
    refine sd_asg c 6 rfl (by kspl_open loc) (.inl rfl) (Nat.le_of_ble_eq_true rfl) (ed_methB c g.cl Fc (Nat.le_refl _) (ei_var c 0 rfl (by kspl_open vis) rfl rfl rfl) rfl (ab_cons (ed_var c 1 rfl (by kspl_open vis) rfl rfl rfl) (ab_cons (ed_to (ed_bin (ed_var c 2 rfl (by kspl_open vis) rfl rfl rfl) ed_int (by kspl_open bd)) (congrArg PyData.int hb)) (ab_cons (ed_var c 3 rfl (by kspl_open vis) rfl rfl rfl) (ab_one c 4 rfl (by kspl_open vis) rfl (.inr ⟨a, rfl⟩) rfl rfl rfl) rfl) rfl) rfl) rfl (.inr ⟨a, rfl⟩) ⟨B, ls, st, fr, many, rows, cuts, rfl, rfl, rfl, by omega, h0, by omega, hf, hc, rfl⟩ rfl rfl rfl) rfl ?_
    show SD X [.ins C (gF B ls st fr), .dat (.int many), .dat (.int ((B.bi.length : Int) - (n + 1 : Nat))), .dat (.list (rows.map eR3)), .cus (borC a (cuts.map eCut)), .no, .dat (eO (choose B.bi.length fr cuts n many rows)), .no, .no] _ _
    have e : choose B.bi.length fr cuts (n + 1) many rows = match choose B.bi.length fr cuts n many rows with
      | some r => some r
      | none => if many = 0 then none else fr.findSome? fun row => if row.1 = (B.bi.length : Int) - (n + 1 : Nat) then choose B.bi.length fr cuts n (many - 1) (rows ++ [row]) else none := rfl
    rw [e]
    cases e1 : choose B.bi.length fr cuts n many rows with
    | some r =>
      refine sd_ifT (td_w (wd_or (x := true) (y := true) (td_cmp (ed_var c 6 rfl (by kspl_open vis) rfl rfl rfl) ed_non cd_notN (nomark _)) (fun z => by cases z))) ?_
      exact sd_ret (ed_var c 6 rfl (by kspl_open vis) rfl rfl rfl) ⟨rfl, rfl⟩
    | none =>
      by_cases hm : many = 0
      · refine sd_ifT (td_w (wd_or (x := false) (td_cmp (ed_var c 6 rfl (by kspl_open vis) rfl rfl rfl) ed_non cd_notN (nomark _)) (fun _ => wd_or1 (td_to (td_cmp (ed_var c 1 rfl (by kspl_open vis) rfl rfl rfl) ed_int (by kspl_open cd) (nomark _)) (decT hm))))) ?_
        refine sd_ret (ed_var c 6 rfl (by kspl_open vis) rfl rfl rfl) ⟨?_, rfl⟩
        show PyData.none = _
        simp only [hm, if_true]
        rfl
      · refine sd_ifF (td_w (wd_or (x := false) (td_cmp (ed_var c 6 rfl (by kspl_open vis) rfl rfl rfl) ed_non cd_notN (nomark _)) (fun _ => wd_or1 (td_to (td_cmp (ed_var c 1 rfl (by kspl_open vis) rfl rfl rfl) ed_int (by kspl_open cd) (nomark _)) (decide_eq_false hm))))) (sd_nil ?_)
        simp only [hm, if_false]
        refine sd_forJ c (fun _ => [.ins C (gF B ls st fr), .dat (.int many), .dat (.int ((B.bi.length : Int) - (n + 1 : Nat))), .dat (.list (rows.map eR3)), .cus (borC a (cuts.map eCut)), .no, .no, .no, .no]) (fun i => ∀ (j : Nat) (row : R3), j < i → fr[j]? = some row → (if row.1 = (B.bi.length : Int) - (n + 1 : Nat) then choose B.bi.length fr cuts n (many - 1) (rows ++ [row]) else none) = none)
          (id_seq (ed_fld g.cl g.na_free (ei_var c 0 rfl (by kspl_open vis) rfl rfl rfl) rfl rfl) rfl) (gd_name c 7 rfl (by kspl_open loc) (by kspl_open loc)) ⟨.inr rfl, .inr rfl, .inr rfl, .inr rfl, .inr rfl, .inr rfl, .inl rfl, .inr rfl, .inr rfl, trivial⟩ (fun _ _ z => absurd z (Nat.not_lt_zero _)) (fun i d hd hj => ?_) (fun hj => ?_) (fun _ => rfl)
        · obtain ⟨row, hrow, rfl⟩ := map_get hd
          refine ⟨_, rfl, ?_⟩
          show SD X [.ins C (gF B ls st fr), .dat (.int many), .dat (.int ((B.bi.length : Int) - (n + 1 : Nat))), .dat (.list (rows.map eR3)), .cus (borC a (cuts.map eCut)), .no, .no, .dat (eR3 row), .no] _ _
          refine sd_if (td_cmp (ed_ix (ed_var c 7 rfl (by kspl_open vis) rfl rfl rfl) ed_int rfl (fun _ _ => rfl)) (ed_var c 2 rfl (by kspl_open vis) rfl rfl rfl) cd_eqI (nomark _)) (fun hq => ?_) (fun hq => ?_)
          · have hq : row.1 = (B.bi.length : Int) - (n + 1 : Nat) := by simpa using hq
            refine sd_asg c 6 rfl (by kspl_open loc) (.inl rfl) (Nat.le_of_ble_eq_true rfl) (ed_methB c g.cl Fc (Nat.le_refl _) (ei_var c 0 rfl (by kspl_open vis) rfl rfl rfl) rfl (ab_cons (ed_to (ed_bin (ed_var c 1 rfl (by kspl_open vis) rfl rfl rfl) ed_int (by kspl_open bd)) rfl) (ab_cons (ed_to (ed_bin (ed_var c 2 rfl (by kspl_open vis) rfl rfl rfl) ed_int (by kspl_open bd)) (congrArg PyData.int hb)) (ab_cons (ed_to (d := .list (rows.map eR3 ++ [eR3 row])) (ed_cat (ed_var c 3 rfl (by kspl_open vis) rfl rfl rfl) (ed_el (el_lst (ad_cons (ed_var c 7 rfl (by kspl_open vis) rfl rfl rfl) ad_nil rfl) (Nat.le_of_ble_eq_true rfl))) (by rw [List.length_map]; exact Nat.le_trans (show rows.length + 1 ≤ 10000 by omega) (Nat.le_of_ble_eq_true rfl))) (by rw [← List.map_singleton (f := eR3), ← List.map_append])) (ab_one c 4 rfl (by kspl_open vis) rfl (.inr ⟨a, rfl⟩) rfl rfl rfl) rfl) rfl) rfl) rfl (.inr ⟨a, rfl⟩) ⟨B, ls, st, fr, many - 1, rows ++ [row], cuts, rfl, rfl, rfl, by omega, by omega, by rw [List.length_append]; simp; omega, hf, hc, rfl⟩ rfl rfl rfl) rfl ?_
            cases e2 : choose B.bi.length fr cuts n (many - 1) (rows ++ [row]) with
            | some r =>
              refine sd_ifT (td_to (td_cmp (ed_var c 6 rfl (by kspl_open vis) rfl rfl rfl) ed_non cd_notN (nomark _)) rfl) ?_
              refine sd_ret (ed_var c 6 rfl (by kspl_open vis) rfl rfl rfl) ⟨?_, rfl⟩
              have := find_at (f := fun row => if row.1 = (B.bi.length : Int) - (n + 1 : Nat) then choose B.bi.length fr cuts n (many - 1) (rows ++ [row]) else none) hrow hj (b := r) (by rw [if_pos hq, e2])
              rw [this]
            | none =>
              refine sd_ifF (td_to (td_cmp (ed_var c 6 rfl (by kspl_open vis) rfl rfl rfl) ed_non cd_notN (nomark _)) rfl) (sd_nil (sd_nil (sd_nil ⟨⟨.inr rfl, .inr rfl, .inr rfl, .inr rfl, .inr rfl, .inr rfl, .inl rfl, .inl rfl, .inr rfl, trivial⟩, prev_succ hj hrow (by rw [if_pos hq, e2])⟩)))
          · have hq : ¬ row.1 = (B.bi.length : Int) - (n + 1 : Nat) := by simpa using hq
            exact sd_nil (sd_nil ⟨⟨.inr rfl, .inr rfl, .inr rfl, .inr rfl, .inr rfl, .inr rfl, .inr rfl, .inl rfl, .inr rfl, trivial⟩, prev_succ hj hrow (by rw [if_neg hq])⟩)
        · refine sd_ret ed_non ⟨?_, rfl⟩
          rw [List.length_map] at hj
          have : (fr.findSome? fun row => if row.1 = (B.bi.length : Int) - (n + 1 : Nat) then choose B.bi.length fr cuts n (many - 1) (rows ++ [row]) else none) = none := find_none fun j y hy => hj j y (List.getElem?_eq_some_iff.mp hy).1 hy
          rw [this]
          rfl
def R_first_with (fs : List (Str × PyData)) (ds cs : List PyData) (d : PyData) : Prop := ∃ B ls st fr many cuts, fs = gF B ls st fr ∧ ds = [.int many] ∧ cs = List.map eCut cuts ∧ Good B ∧ 0 ≤ many ∧ st.length ≤ 900 ∧ fr.length ≤ 1000 ∧ cuts.length ≤ 1000000 ∧ d = eO (choose B.bi.length fr cuts B.bi.length many st)
theorem ok_first_with {C : Addr} (M : Md K mg) (g : Ground_at K mg C) : MethG P w K mg base C "first_with" ["self", "many", "cuts"] 9 (spIB K C R_first_with) := by
  refine fn_sdIB (N := ["self", "many", "cuts"]) g.m_first_with ⟨rfl, rfl, rfl, by decide +kernel, rfl, by decide +kernel, by decide +kernel⟩ (fun fs ds cs d ⟨_, _, _, _, _, _, _, e, _⟩ => by rw [e]; rfl) (by decide) (fun X c fs ds cs d a hR => ?_)
  obtain ⟨B, ls, st, fr, many, cuts, rfl, rfl, rfl, gB, h0, hs, hf, hc, rfl⟩ := hR
  have hK := c.hK
  subst hK
  have bl := gB.bil
  have Fc := ok_choosing (P := P) (w := w) (base := base) M g B.bi.length
  show SD X [.ins C (gF B ls st fr), .dat (.int many), .cus (borC a (cuts.map eCut))] _ _
  exact sd_ret (ed_methB c g.cl Fc (by omega) (ei_var c 0 rfl (by kspl_open vis) rfl rfl rfl) rfl (ab_cons (ed_var c 1 rfl (by kspl_open vis) rfl rfl rfl) (ab_cons ed_int (ab_cons (ed_fld g.cl g.na_stands (ei_var c 0 rfl (by kspl_open vis) rfl rfl rfl) rfl rfl) (ab_one c 2 rfl (by kspl_open vis) rfl (.inr ⟨a, rfl⟩) rfl rfl rfl) rfl) rfl) rfl) rfl (.inr ⟨a, rfl⟩) ⟨B, ls, st, fr, many, st, cuts, rfl, by rw [show (B.bi.length : Int) - (B.bi.length : Nat) = 0 by omega], rfl, Nat.le_refl _, h0, by omega, hf, hc, rfl⟩ rfl rfl rfl) ⟨rfl, rfl⟩
end
end K
namespace K
open PySem L2 Z
section
variable {P : Program} {w : World} {K : PySem.W.Frag} {mg : Str → Option Value} {base : Heap} [LamC]
/-! ### choosing, the cuts as data -/
def R_choosingD (n : Nat) (fs : List (Str × PyData)) (ds : List PyData) (d : PyData) : Prop := ∃ B ls st fr many rows cuts, fs = gF B ls st fr ∧ ds = [.int many, .int ((B.bi.length : Int) - (n : Nat)), .list (List.map eR3 rows), .list (List.map eCut cuts)] ∧
  n ≤ B.bi.length ∧ 0 ≤ many ∧ rows.length + n ≤ 1000 ∧ fr.length ≤ 1000 ∧ cuts.length ≤ 1000000 ∧ d = eO (choose B.bi.length fr cuts n many rows)
theorem ok_choosingD {C : Addr} (M : Md K mg) (g : Ground_at K mg C) : ∀ n : Nat, MethG P w K mg base C "choosing" ["self", "many", "bird", "rows", "cuts"] (2 + n) (spI K C (R_choosingD n))
  | 0 => by
    have F2 := ok_has_two (P := P) (w := w) (base := base) M g
    refine fn_sdI (k := 1) (N := ["self", "many", "bird", "rows", "cuts", "good", "found", "row", "cut"]) g.m_choosing ⟨rfl, rfl, rfl, by decide +kernel, rfl, by decide +kernel, by decide +kernel⟩ (fun fs ds d ⟨_, _, _, _, _, _, _, _, e, _⟩ => by rw [e]; rfl) (by decide) (fun X c fs ds d hR => ?_)
    obtain ⟨B, ls, st, fr, many, rows, cuts, rfl, rfl, hn, h0, hr, hf, hc, rfl⟩ := hR
    have hK := c.hK
    subst hK
    show SD X [.ins C (gF B ls st fr), .dat (.int many), .dat (.int ((B.bi.length : Int) - (0 : Nat))), .dat (.list (rows.map eR3)), .dat (.list (cuts.map eCut)), .no, .no, .no, .no] _ _
    refine sd_ifT (td_to (td_cmp (ed_var c 2 rfl (by kspl_open vis) rfl rfl rfl) (ed_callB c rfl M.b_len PySem.boot_len (ad_cons (ed_ix (ed_fld g.cl g.na_book (ei_var c 0 rfl (by kspl_open vis) rfl rfl rfl) rfl rfl) (ed_gint c rfl M.c_BIRDS rfl) rfl (fun _ _ => rfl)) ad_nil rfl) (by kspl_open cl) (by decide) rfl rfl rfl) (by kspl_open cd) (nomark _)) (decT (by rw [List.length_map]; omega))) ?_
    refine sd_asg c 5 rfl (by kspl_open loc) (.inl rfl) (Nat.le_of_ble_eq_true rfl) (ed_to (ed_cmp (ed_el (el_filter c [("cut", 8)] (xs := cuts) (enc := eCut) (fun z => !two rows z) eCut (by decide +kernel) rfl (id_seq (ed_var c 4 rfl (by kspl_open vis) rfl rfl rfl) rfl) (all1 ⟨_, rfl, .inl rfl⟩) (fun X' c2 => (gd_name c2 8 rfl (by kspl_open loc) (by kspl_open loc))) (Nat.lt_of_lt_of_le (show cuts.length < 2000000 by omega) (Nat.le_of_ble_eq_true rfl)) (fun z hz => ⟨_, rfl, fun X' c2 => ts_one (td_not (td_val (ed_meth c2 (by rw [c2.hK]; exact g.cl) F2 (by decide) (ei_var c2 0 rfl (by kspl_open vis) rfl rfl rfl) rfl (ad_cons (ed_var c2 3 rfl (by kspl_open vis) rfl rfl rfl) (ad_cons (ed_var c2 8 rfl (by kspl_open vis) rfl rfl rfl) ad_nil rfl) rfl) ⟨B, ls, st, fr, rows, z, rfl, rfl, by omega, rfl⟩ rfl rfl rfl) (fun _ => rfl))), ⟨.inr rfl, .inr rfl, .inr rfl, .inr rfl, .inr rfl, .inr rfl, .inr rfl, .inr rfl, .inl rfl, trivial⟩, fun _ X' c2 => (ed_var c2 8 rfl (by kspl_open vis) rfl rfl rfl)⟩) (fun _ => rfl))) (ed_el (el_lst ad_nil (Nat.le_of_ble_eq_true rfl))) (cd_eqD c (Shp.ok (n := 3) (.list (allM fun a _ => shp_Cut a)) (by decide)) (Shp.ok (n := 1) (.list allN) (by decide))) (nomark _)) (congrArg PyData.bool (filter_non _ _ _))) rfl ?_
    show SD X [.ins C (gF B ls st fr), .dat (.int many), .dat (.int ((B.bi.length : Int) - (0 : Nat))), .dat (.list (rows.map eR3)), .dat (.list (cuts.map eCut)), .dat (.bool (allTwo cuts rows)), .no, .no, .no] _ _
    have e : choose B.bi.length fr cuts 0 many rows = if allTwo cuts rows = true then some rows else none := by unfold choose; rfl
    rw [e]
    generalize allTwo cuts rows = q
    cases q with
    | true => exact sd_ret (ed_if (x := true) (td_val (ed_var c 5 rfl (by kspl_open vis) rfl rfl rfl) (fun _ => rfl)) (fun _ => (ed_var c 3 rfl (by kspl_open vis) rfl rfl rfl)) (fun z => by cases z)) rfl
    | false => exact sd_ret (ed_if (x := false) (td_val (ed_var c 5 rfl (by kspl_open vis) rfl rfl rfl) (fun _ => rfl)) (fun z => by cases z) (fun _ => ed_non)) rfl
  | n + 1 => by
    have Fc := ok_choosingD M g n
    refine fn_sdI (k := 2 + n) (N := ["self", "many", "bird", "rows", "cuts", "good", "found", "row", "cut"]) g.m_choosing ⟨rfl, rfl, rfl, by decide +kernel, rfl, by decide +kernel, by decide +kernel⟩ (fun fs ds d ⟨_, _, _, _, _, _, _, _, e, _⟩ => by rw [e]; rfl) (by decide) (fun X c fs ds d hR => ?_)
    obtain ⟨B, ls, st, fr, many, rows, cuts, rfl, rfl, hn, h0, hr, hf, hc, rfl⟩ := hR
    have hK := c.hK
    subst hK
    show SD X [.ins C (gF B ls st fr), .dat (.int many), .dat (.int ((B.bi.length : Int) - (n + 1 : Nat))), .dat (.list (rows.map eR3)), .dat (.list (cuts.map eCut)), .no, .no, .no, .no] _ _
    have hb : (B.bi.length : Int) - (n + 1 : Nat) + 1 = (B.bi.length : Int) - (n : Nat) := by omega
    refine sd_ifF (td_to (td_cmp (ed_var c 2 rfl (by kspl_open vis) rfl rfl rfl) (ed_callB c rfl M.b_len PySem.boot_len (ad_cons (ed_ix (ed_fld g.cl g.na_book (ei_var c 0 rfl (by kspl_open vis) rfl rfl rfl) rfl rfl) (ed_gint c rfl M.c_BIRDS rfl) rfl (fun _ _ => rfl)) ad_nil rfl) (by kspl_open cl) (by decide) rfl rfl rfl) (by kspl_open cd) (nomark _)) (decide_eq_false (by rw [List.length_map]; omega))) (sd_nil ?_)
    refine sd_asg c 6 rfl (by kspl_open loc) (.inl rfl) (Nat.le_of_ble_eq_true rfl) (ed_meth c g.cl Fc (Nat.le_refl _) (ei_var c 0 rfl (by kspl_open vis) rfl rfl rfl) rfl (ad_cons (ed_var c 1 rfl (by kspl_open vis) rfl rfl rfl) (ad_cons (ed_to (ed_bin (ed_var c 2 rfl (by kspl_open vis) rfl rfl rfl) ed_int (by kspl_open bd)) (congrArg PyData.int hb)) (ad_cons (ed_var c 3 rfl (by kspl_open vis) rfl rfl rfl) (ad_cons (ed_var c 4 rfl (by kspl_open vis) rfl rfl rfl) ad_nil rfl) rfl) rfl) rfl) ⟨B, ls, st, fr, many, rows, cuts, rfl, rfl, by omega, h0, by omega, hf, hc, rfl⟩ rfl rfl rfl) rfl ?_
    show SD X [.ins C (gF B ls st fr), .dat (.int many), .dat (.int ((B.bi.length : Int) - (n + 1 : Nat))), .dat (.list (rows.map eR3)), .dat (.list (cuts.map eCut)), .no, .dat (eO (choose B.bi.length fr cuts n many rows)), .no, .no] _ _
    have e : choose B.bi.length fr cuts (n + 1) many rows = match choose B.bi.length fr cuts n many rows with
      | some r => some r
      | none => if many = 0 then none else fr.findSome? fun row => if row.1 = (B.bi.length : Int) - (n + 1 : Nat) then choose B.bi.length fr cuts n (many - 1) (rows ++ [row]) else none := rfl
    rw [e]
    cases e1 : choose B.bi.length fr cuts n many rows with
    | some r =>
      refine sd_ifT (td_w (wd_or (x := true) (y := true) (td_cmp (ed_var c 6 rfl (by kspl_open vis) rfl rfl rfl) ed_non cd_notN (nomark _)) (fun z => by cases z))) ?_
      exact sd_ret (ed_var c 6 rfl (by kspl_open vis) rfl rfl rfl) rfl
    | none =>
      by_cases hm : many = 0
      · refine sd_ifT (td_w (wd_or (x := false) (td_cmp (ed_var c 6 rfl (by kspl_open vis) rfl rfl rfl) ed_non cd_notN (nomark _)) (fun _ => wd_or1 (td_to (td_cmp (ed_var c 1 rfl (by kspl_open vis) rfl rfl rfl) ed_int (by kspl_open cd) (nomark _)) (decT hm))))) ?_
        refine sd_ret (ed_var c 6 rfl (by kspl_open vis) rfl rfl rfl) ?_
        show PyData.none = _
        simp only [hm, if_true]
        rfl
      · refine sd_ifF (td_w (wd_or (x := false) (td_cmp (ed_var c 6 rfl (by kspl_open vis) rfl rfl rfl) ed_non cd_notN (nomark _)) (fun _ => wd_or1 (td_to (td_cmp (ed_var c 1 rfl (by kspl_open vis) rfl rfl rfl) ed_int (by kspl_open cd) (nomark _)) (decide_eq_false hm))))) (sd_nil ?_)
        simp only [hm, if_false]
        refine sd_forJ c (fun _ => [.ins C (gF B ls st fr), .dat (.int many), .dat (.int ((B.bi.length : Int) - (n + 1 : Nat))), .dat (.list (rows.map eR3)), .dat (.list (cuts.map eCut)), .no, .no, .no, .no]) (fun i => ∀ (j : Nat) (row : R3), j < i → fr[j]? = some row → (if row.1 = (B.bi.length : Int) - (n + 1 : Nat) then choose B.bi.length fr cuts n (many - 1) (rows ++ [row]) else none) = none)
          (id_seq (ed_fld g.cl g.na_free (ei_var c 0 rfl (by kspl_open vis) rfl rfl rfl) rfl rfl) rfl) (gd_name c 7 rfl (by kspl_open loc) (by kspl_open loc)) ⟨.inr rfl, .inr rfl, .inr rfl, .inr rfl, .inr rfl, .inr rfl, .inl rfl, .inr rfl, .inr rfl, trivial⟩ (fun _ _ z => absurd z (Nat.not_lt_zero _)) (fun i d hd hj => ?_) (fun hj => ?_) (fun _ => rfl)
        · obtain ⟨row, hrow, rfl⟩ := map_get hd
          refine ⟨_, rfl, ?_⟩
          show SD X [.ins C (gF B ls st fr), .dat (.int many), .dat (.int ((B.bi.length : Int) - (n + 1 : Nat))), .dat (.list (rows.map eR3)), .dat (.list (cuts.map eCut)), .no, .no, .dat (eR3 row), .no] _ _
          refine sd_if (td_cmp (ed_ix (ed_var c 7 rfl (by kspl_open vis) rfl rfl rfl) ed_int rfl (fun _ _ => rfl)) (ed_var c 2 rfl (by kspl_open vis) rfl rfl rfl) cd_eqI (nomark _)) (fun hq => ?_) (fun hq => ?_)
          · have hq : row.1 = (B.bi.length : Int) - (n + 1 : Nat) := by simpa using hq
            refine sd_asg c 6 rfl (by kspl_open loc) (.inl rfl) (Nat.le_of_ble_eq_true rfl) (ed_meth c g.cl Fc (Nat.le_refl _) (ei_var c 0 rfl (by kspl_open vis) rfl rfl rfl) rfl (ad_cons (ed_to (ed_bin (ed_var c 1 rfl (by kspl_open vis) rfl rfl rfl) ed_int (by kspl_open bd)) rfl) (ad_cons (ed_to (ed_bin (ed_var c 2 rfl (by kspl_open vis) rfl rfl rfl) ed_int (by kspl_open bd)) (congrArg PyData.int hb)) (ad_cons (ed_to (d := .list (rows.map eR3 ++ [eR3 row])) (ed_cat (ed_var c 3 rfl (by kspl_open vis) rfl rfl rfl) (ed_el (el_lst (ad_cons (ed_var c 7 rfl (by kspl_open vis) rfl rfl rfl) ad_nil rfl) (Nat.le_of_ble_eq_true rfl))) (by rw [List.length_map]; exact Nat.le_trans (show rows.length + 1 ≤ 10000 by omega) (Nat.le_of_ble_eq_true rfl))) (by rw [← List.map_singleton (f := eR3), ← List.map_append])) (ad_cons (ed_var c 4 rfl (by kspl_open vis) rfl rfl rfl) ad_nil rfl) rfl) rfl) rfl) ⟨B, ls, st, fr, many - 1, rows ++ [row], cuts, rfl, rfl, by omega, by omega, by rw [List.length_append]; simp; omega, hf, hc, rfl⟩ rfl rfl rfl) rfl ?_
            cases e2 : choose B.bi.length fr cuts n (many - 1) (rows ++ [row]) with
            | some r =>
              refine sd_ifT (td_to (td_cmp (ed_var c 6 rfl (by kspl_open vis) rfl rfl rfl) ed_non cd_notN (nomark _)) rfl) ?_
              refine sd_ret (ed_var c 6 rfl (by kspl_open vis) rfl rfl rfl) ?_
              have := find_at (f := fun row => if row.1 = (B.bi.length : Int) - (n + 1 : Nat) then choose B.bi.length fr cuts n (many - 1) (rows ++ [row]) else none) hrow hj (b := r) (by rw [if_pos hq, e2])
              rw [this]
            | none =>
              refine sd_ifF (td_to (td_cmp (ed_var c 6 rfl (by kspl_open vis) rfl rfl rfl) ed_non cd_notN (nomark _)) rfl) (sd_nil (sd_nil (sd_nil ⟨⟨.inr rfl, .inr rfl, .inr rfl, .inr rfl, .inr rfl, .inr rfl, .inl rfl, .inl rfl, .inr rfl, trivial⟩, prev_succ hj hrow (by rw [if_pos hq, e2])⟩)))
          · have hq : ¬ row.1 = (B.bi.length : Int) - (n + 1 : Nat) := by simpa using hq
            exact sd_nil (sd_nil ⟨⟨.inr rfl, .inr rfl, .inr rfl, .inr rfl, .inr rfl, .inr rfl, .inr rfl, .inl rfl, .inr rfl, trivial⟩, prev_succ hj hrow (by rw [if_neg hq])⟩)
        · refine sd_ret ed_non ?_
          rw [List.length_map] at hj
          have : (fr.findSome? fun row => if row.1 = (B.bi.length : Int) - (n + 1 : Nat) then choose B.bi.length fr cuts n (many - 1) (rows ++ [row]) else none) = none := find_none fun j y hy => hj j y (List.getElem?_eq_some_iff.mp hy).1 hy
          rw [this]
          rfl
def R_first_withD (fs : List (Str × PyData)) (ds : List PyData) (d : PyData) : Prop := ∃ B ls st fr many cuts, fs = gF B ls st fr ∧ ds = [.int many, .list (List.map eCut cuts)] ∧ Good B ∧ 0 ≤ many ∧ st.length ≤ 900 ∧ fr.length ≤ 1000 ∧ cuts.length ≤ 1000000 ∧ d = eO (choose B.bi.length fr cuts B.bi.length many st)
theorem ok_first_withD {C : Addr} (M : Md K mg) (g : Ground_at K mg C) : MethG P w K mg base C "first_with" ["self", "many", "cuts"] 9 (spI K C R_first_withD) := by
  refine fn_sdI (N := ["self", "many", "cuts"]) g.m_first_with ⟨rfl, rfl, rfl, by decide +kernel, rfl, by decide +kernel, by decide +kernel⟩ (fun fs ds d ⟨_, _, _, _, _, _, _, e, _⟩ => by rw [e]; rfl) (by decide) (fun X c fs ds d hR => ?_)
  obtain ⟨B, ls, st, fr, many, cuts, rfl, rfl, gB, h0, hs, hf, hc, rfl⟩ := hR
  have hK := c.hK
  subst hK
  have bl := gB.bil
  have Fc := ok_choosingD (P := P) (w := w) (base := base) M g B.bi.length
  show SD X [.ins C (gF B ls st fr), .dat (.int many), .dat (.list (cuts.map eCut))] _ _
  exact sd_ret (ed_meth c g.cl Fc (by omega) (ei_var c 0 rfl (by kspl_open vis) rfl rfl rfl) rfl (ad_cons (ed_var c 1 rfl (by kspl_open vis) rfl rfl rfl) (ad_cons ed_int (ad_cons (ed_fld g.cl g.na_stands (ei_var c 0 rfl (by kspl_open vis) rfl rfl rfl) rfl rfl) (ad_cons (ed_var c 2 rfl (by kspl_open vis) rfl rfl rfl) ad_nil rfl) rfl) rfl) rfl) ⟨B, ls, st, fr, many, st, cuts, rfl, by rw [show (B.bi.length : Int) - (B.bi.length : Nat) = 0 by omega], Nat.le_refl _, h0, by omega, hf, hc, rfl⟩ rfl rfl rfl) rfl
end
end K
namespace K
open PySem L2 Z
section
variable {P : Program} {w : World} {K : PySem.W.Frag} {mg : Str → Option Value} {base : Heap} [LamC]
/-! ### Ground made -/
def R_mk_ground (ds : List PyData) (fs : List (Str × PyData)) : Prop := ∃ B ls start gone now, ds = [eBook B, .list (List.map eLtr ls), ePost start, .list (List.map .int gone), .int now] ∧ Good B ∧ (∀ t ∈ ls, GoodLtr B t) ∧ GoodPost B start ∧ 0 ≤ now ∧ fs = gF B ls (rowsOf start) (chs B start gone now B.bi.length)
theorem ok_mk_ground {C : Addr} (M : Md K mg) (g : Ground_at K mg C) : MkG P w K mg base "Ground" C ["self", "book", "letters", "start", "gone", "now"] 5 (spN K C R_mk_ground) := by
  have Fp := ok_need_posting (P := P) (w := w) (base := base) M
  have Fl := ok_need_letters (P := P) (w := w) (base := base) M
  have Fr := ok_posted (P := P) (w := w) (base := base) M
  have Fc := ok_all_choices (P := P) (w := w) (base := base) M
  refine fn_sdN (N := ["self", "book", "letters", "start", "gone", "now"]) g.mkd ⟨rfl, rfl, rfl, by decide +kernel, rfl, by decide +kernel, by decide +kernel⟩ (fun ds fs ⟨_, _, _, _, _, e, _⟩ => by rw [e]; rfl) (by decide) (fun X c a dx ds fs hR => ?_)
  obtain ⟨B, ls, start, gone, now, rfl, gB, gl, gp, h0, rfl⟩ := hR
  have hK := c.hK
  subst hK
  have pl := gp.len
  have bl := gB.bil
  show SD X [.oin a dx C [], .dat (eBook B), .dat (.list (ls.map eLtr)), .dat (ePost start), .dat (.list (gone.map .int)), .dat (.int now)] _ _
  refine sd_expr (ed_call c Fp (by decide) rfl (ad_cons (ed_var c 1 rfl (by kspl_open vis) rfl rfl rfl) (ad_cons (ed_var c 3 rfl (by kspl_open vis) rfl rfl rfl) ad_nil rfl) rfl) ⟨B, start, rfl, gB, gp, rfl⟩ rfl rfl rfl) rfl ?_
  refine sd_expr (ed_call c Fl (by decide) rfl (ad_cons (ed_var c 1 rfl (by kspl_open vis) rfl rfl rfl) (ad_cons (ed_var c 2 rfl (by kspl_open vis) rfl rfl rfl) ad_nil rfl) rfl) ⟨B, ls, rfl, gl, rfl⟩ rfl rfl rfl) rfl ?_
  refine sd_setfld c 0 g.cl g.na_book rfl (by kspl_open vis) (ed_var c 1 rfl (by kspl_open vis) rfl rfl rfl) rfl (by decide : 0 < 1000) ?_ rfl rfl rfl
  refine sd_setfld c 0 g.cl g.na_letters rfl (by kspl_open vis) (ed_var c 2 rfl (by kspl_open vis) rfl rfl rfl) rfl (by decide : 1 < 1000) ?_ rfl rfl rfl
  refine sd_setfld c 0 g.cl g.na_stands rfl (by kspl_open vis) (ed_el (el_call c Fr (by decide) rfl (ad_cons (ed_var c 3 rfl (by kspl_open vis) rfl rfl rfl) ad_nil rfl) ⟨start, rfl, by omega, rfl⟩ rfl rfl rfl)) rfl (by decide : 2 < 1000) ?_ rfl rfl rfl
  refine sd_setfld c 0 g.cl g.na_free rfl (by kspl_open vis) (ed_el (el_call c Fc (by decide) rfl (ad_cons (ed_var c 1 rfl (by kspl_open vis) rfl rfl rfl) (ad_cons (ed_var c 3 rfl (by kspl_open vis) rfl rfl rfl) (ad_cons (ed_var c 4 rfl (by kspl_open vis) rfl rfl rfl) (ad_cons (ed_var c 5 rfl (by kspl_open vis) rfl rfl rfl) ad_nil rfl) rfl) rfl) rfl) ⟨B, start, gone, now, rfl, gB, gp, h0, rfl⟩ rfl rfl rfl)) rfl (by decide : 3 < 1000) ?_ rfl rfl rfl
  exact sd_nil rfl
end
end K
namespace K
open PySem L2 Z
section
variable {P : Program} {w : World} {K : PySem.W.Frag} {mg : Str → Option Value} {base : Heap} [LamC]
/-! ### a cut made narrow; a posting by its rows -/
theorem fold_takeA {α β : Type} {es : List α} {i : Nat} {e : α} {D : β} {F : β → α → β} (h : es[i]? = some e) : (es.take (i + 1)).foldl F D = F ((es.take i).foldl F D) e := by
  rw [List.take_succ, h, List.foldl_append]
  rfl
theorem ixN_of {n : Nat} {o : Int} (h0 : 0 ≤ o) (h1 : o < (n : Int)) : L2.ixN n o = some o.toNat := by
  obtain ⟨i, rfl⟩ : ∃ i : Nat, o = (i : Int) := ⟨o.toNat, by omega⟩
  unfold L2.ixN
  rw [if_pos (by omega), if_pos (by omega)]
def cut0 (R left : List R3) : List P2 := (R.filter fun r => !decide (r ∈ left)).map pairOf
def lessC (cut : List P2) (p : P2) : List P2 := cut.filter fun q => !decide (q = p)
noncomputable def narrowS (B : Book) (ls : List Ltr) (R : List R3) (cut : List P2) (p : P2) : List P2 := if isCut B ls R (lessC cut p) = true then lessC cut p else cut
noncomputable def narrow (B : Book) (ls : List Ltr) (R left : List R3) : List P2 := (cut0 R left).foldl (narrowS B ls R) (cut0 R left)
theorem narrowS_len {B : Book} {ls : List Ltr} {R : List R3} {cut : List P2} {p : P2} : (narrowS B ls R cut p).length ≤ cut.length := by
  unfold narrowS
  split
  · exact List.length_filter_le _ _
  · exact Nat.le_refl _
theorem narrow_len {B : Book} {ls : List Ltr} {R : List R3} : ∀ (ps : List P2) (cut : List P2), (ps.foldl (narrowS B ls R) cut).length ≤ cut.length
  | [], cut => Nat.le_refl _
  | p :: ps, cut => Nat.le_trans (narrow_len ps _) narrowS_len
theorem any_R3g {bs : List R3} {p : R3} : ((bs.map eR3).any fun z => PyData.eqv z (eR3 p)) = decide (p ∈ bs) := by
  induction bs with
  | nil => rfl
  | cons q bs ih =>
    rw [List.map_cons, List.any_cons, ih]
    have e : PyData.eqv (eR3 q) (eR3 p) = decide (q = p) := eqv_dec rfl rfl ⟨fun h => by
      obtain ⟨a, b, c⟩ := q
      obtain ⟨a', b', c'⟩ := p
      simp only [eR3, PyData.tuple.injEq, List.cons.injEq, PyData.int.injEq] at h
      rw [h.1, h.2.1, h.2.2.1], fun h => by rw [h]⟩
    rw [e]
    by_cases h : q = p
    · subst h; simp
    · rw [decide_eq_false h]
      simp only [Bool.false_or, List.mem_cons]
      by_cases h2 : p ∈ bs
      · rw [decide_eq_true h2, decide_eq_true (.inr h2)]
      · rw [decide_eq_false h2, decide_eq_false (fun z => z.elim (fun y => h y.symm) h2)]
theorem shp_R3g (r : R3) : Shp 1 (eR3 r) := .tuple (allC (.int _) (allC (.int _) (allC (.int _) allN)))
theorem eqv_P2g {q p : P2} : PyData.eqv (eP2 q) (eP2 p) = decide (q = p) := eqv_dec rfl rfl ⟨fun h => by
  obtain ⟨a, b⟩ := q
  obtain ⟨a', b'⟩ := p
  simp only [eP2, PyData.tuple.injEq, List.cons.injEq, PyData.int.injEq] at h
  rw [h.1, h.2.1], fun h => by rw [h]⟩
def R_narrowed (fs : List (Str × PyData)) (ds : List PyData) (d : PyData) : Prop := ∃ B ls st fr left, fs = gF B ls st fr ∧ ds = [.list (List.map eR3 left)] ∧ Good B ∧ GoodRows B (st ++ fr) ∧ (∀ t ∈ ls, GoodLtr B t) ∧ ls.length ≤ 1000 ∧ d = eCut (narrow B ls (st ++ fr) left)
theorem ok_narrowed {C : Addr} (M : Md K mg) (g : Ground_at K mg C) : FnG P w K mg base "narrowed" ["ground", "rows"] 8 (spI K C R_narrowed) := by
  have Fr := ok_g_rows (P := P) (w := w) (base := base) g
  have Fc := ok_g_is_cut (P := P) (w := w) (base := base) M g
  refine fn_sdID (N := ["ground", "rows", "cut", "pair", "less", "row", "other"]) M.d_narrowed ⟨rfl, rfl, rfl, by decide +kernel, rfl, by decide +kernel, by decide +kernel⟩ (fun fs ds d ⟨_, _, _, _, _, _, e, _⟩ => by rw [e]; rfl) (by decide) (fun X c fs ds d hR => ?_)
  obtain ⟨B, ls, st, fr, left, rfl, rfl, gB, gr, gl, hll, rfl⟩ := hR
  have hK := c.hK
  subst hK
  have hrl : st.length + fr.length ≤ 1000 := by have := gr.len; rw [List.length_append] at this; exact this
  show SD X [.ins C (gF B ls st fr), .dat (.list (left.map eR3)), .no, .no, .no, .no, .no] _ _
  refine sd_asgC c 2 rfl rfl (Nat.le_of_ble_eq_true rfl) rfl rfl (by decide +kernel) (lc_filter c [("row", 5)] (xs := st ++ fr) (enc := eR3) (fun r => !decide (r ∈ left)) (fun r => eP2 (pairOf r)) (by decide +kernel) rfl (id_seq (ed_meth0 c g.cl Fr (by decide) (ei_var c 0 rfl (by kspl_open vis) rfl rfl rfl) rfl ⟨B, ls, st, fr, rfl, rfl, hrl, rfl⟩ rfl) rfl) (all1 ⟨_, rfl, .inl rfl⟩) (fun X' c2 => (gd_name c2 5 rfl (by kspl_open loc) (by kspl_open loc))) (Nat.lt_of_lt_of_le (show (st ++ fr).length < 10000 by rw [List.length_append]; omega) (Nat.le_of_ble_eq_true rfl)) (fun r hr => ⟨_, rfl, fun X' c2 => ts_one (td_to (td_cmp (ed_var c2 5 rfl (by kspl_open vis) rfl rfl rfl) (ed_var c2 1 rfl (by kspl_open vis) rfl rfl rfl) (cd_niL c2 ((shp_R3g _).ok (by decide)) (Shp.ok (n := 2) (.list (allM fun a _ => shp_R3g a)) (by decide))) (by with_unfolding_all rfl)) (by rw [any_R3g])), ⟨.inr rfl, .inr rfl, .inr rfl, .inr rfl, .inr rfl, .inl rfl, .inr rfl, trivial⟩, fun _ X' c2 => ed_to (d := .tuple (cutD [.int r.1, .int r.2.1, .int r.2.2] none (some 2))) (ed_slT (ed_var c2 5 rfl (by kspl_open vis) rfl rfl rfl) po_no (po_yes ed_int)) rfl⟩) (fun _ => rfl)) ?_
  refine sd_freeze 2 rfl ?_
  refine SD.to (ls := [.ins C (gF B ls st fr), .dat (.list (left.map eR3)), .dat (eCut (cut0 (st ++ fr) left)), .no, .no, .no, .no]) (by unfold eCut cut0; rw [List.map_map]; rfl) ?_
  have hc0 : (cut0 (st ++ fr) left).length ≤ 1000 := by
    unfold cut0
    rw [List.length_map]
    exact Nat.le_trans (List.length_filter_le _ _) gr.len
  unfold narrow
  generalize cut0 (st ++ fr) left = c0 at hc0 ⊢
  refine sd_for c (fun i => [.ins C (gF B ls st fr), .dat (.list (left.map eR3)), .dat (eCut ((c0.take i).foldl (narrowS B ls (st ++ fr)) c0)), .no, .no, .no, .no]) (id_seq (ed_el (el_callT c rfl M.b_list PyProof.Rows.boot_list (ad_cons (ed_var c 2 rfl (by kspl_open vis) rfl rfl rfl) ad_nil rfl) cl_lstL (by decide) rfl rfl rfl)) rfl) (gd_name c 3 rfl (by kspl_open loc) (by kspl_open loc)) Wk.rfl' (fun i d hd => ?_) ?_ (fun _ => rfl)
  · obtain ⟨p, hp, rfl⟩ := map_get hd
    refine ⟨_, rfl, ?_⟩
    have hlen : ((c0.take i).foldl (narrowS B ls (st ++ fr)) c0).length ≤ 1000 := Nat.le_trans (narrow_len _ _) hc0
    refine SD.nxW (L' := [.ins C (gF B ls st fr), .dat (.list (left.map eR3)), .dat (eCut (narrowS B ls (st ++ fr) ((c0.take i).foldl (narrowS B ls (st ++ fr)) c0) p)), .no, .no, .no, .no]) (by rw [fold_takeA hp]) ?_
    show SD X [.ins C (gF B ls st fr), .dat (.list (left.map eR3)), .dat (eCut ((c0.take i).foldl (narrowS B ls (st ++ fr)) c0)), .dat (eP2 p), .no, .no, .no] _ _
    generalize (c0.take i).foldl (narrowS B ls (st ++ fr)) c0 = cu at hlen ⊢
    refine sd_asgC c 4 rfl rfl (Nat.le_of_ble_eq_true rfl) rfl rfl (by decide +kernel) (lc_filter c [("other", 6)] (xs := cu) (enc := eP2) (fun q => !decide (q = p)) eP2 (by decide +kernel) rfl (id_seq (ed_var c 2 rfl (by kspl_open vis) rfl rfl rfl) rfl) (all1 ⟨_, rfl, .inl rfl⟩) (fun X' c2 => (gd_name c2 6 rfl (by kspl_open loc) (by kspl_open loc))) (Nat.lt_of_lt_of_le (show cu.length < 10000 by omega) (Nat.le_of_ble_eq_true rfl)) (fun q hq => ⟨_, rfl, fun X' c2 => ts_one (td_to (td_cmp (ed_var c2 6 rfl (by kspl_open vis) rfl rfl rfl) (ed_var c2 3 rfl (by kspl_open vis) rfl rfl rfl) (cd_neD c2 ((shp_P2g _).ok (by decide)) ((shp_P2g _).ok (by decide))) (nomark _)) (by rw [eqv_P2g])), ⟨.inr rfl, .inr rfl, .inr rfl, .inr rfl, .inr rfl, .inr rfl, .inl rfl, trivial⟩, fun _ X' c2 => (ed_var c2 6 rfl (by kspl_open vis) rfl rfl rfl)⟩) (fun _ => rfl)) ?_
    refine sd_freeze 4 rfl ?_
    show SD X [.ins C (gF B ls st fr), .dat (.list (left.map eR3)), .dat (eCut cu), .dat (eP2 p), .dat (eCut (lessC cu p)), .no, .no] _ _
    have hl2 : (lessC cu p).length ≤ 1000 := Nat.le_trans (List.length_filter_le _ _) hlen
    unfold narrowS
    refine sd_if (td_val (ed_meth c g.cl Fc (by decide) (ei_var c 0 rfl (by kspl_open vis) rfl rfl rfl) rfl (ad_cons (ed_var c 4 rfl (by kspl_open vis) rfl rfl rfl) ad_nil rfl) ⟨B, ls, st, fr, lessC cu p, rfl, rfl, gB, gr, gl, hll, hl2, rfl⟩ rfl rfl rfl) (fun _ => rfl)) (fun hb => ?_) (fun hb => ?_)
    · refine sd_asg c 2 rfl (by kspl_open loc) (.inl rfl) (Nat.le_of_ble_eq_true rfl) (ed_var c 4 rfl (by kspl_open vis) rfl rfl rfl) rfl ?_
      rw [if_pos hb]
      exact sd_nil (sd_nil ⟨.inr rfl, .inr rfl, .inr rfl, .inl rfl, .inl rfl, .inr rfl, .inr rfl, trivial⟩)
    · rw [if_neg (by rw [hb]; decide)]
      exact sd_nil (sd_nil ⟨.inr rfl, .inr rfl, .inr rfl, .inl rfl, .inl rfl, .inr rfl, .inr rfl, trivial⟩)
  · rw [List.length_map, List.take_length]
    exact sd_ret (ed_var c 2 rfl (by kspl_open vis) rfl rfl rfl) rfl
/-- nb places, each set by the last row of its bird -/
def setP (ps : Posting) (r : R3) : Posting := ps.set r.1.toNat (some (r.2.1, r.2.2))
def postOf (nb : Nat) (rows : List R3) : Posting := rows.foldl setP (List.replicate nb none)
theorem setP_len {ps : Posting} {r : R3} : (setP ps r).length = ps.length := by unfold setP; rw [List.length_set]
theorem setPs_len : ∀ (rows : List R3) (ps : Posting), (rows.foldl setP ps).length = ps.length
  | [], _ => rfl
  | r :: rows, ps => (setPs_len rows _).trans setP_len
def R_posting_of (ds : List PyData) (d : PyData) : Prop := ∃ B rows, ds = [eBook B, .list (List.map eR3 rows)] ∧ Good B ∧ (∀ r ∈ rows, 0 ≤ r.1 ∧ r.1 < (B.bi.length : Int)) ∧ d = ePost (postOf B.bi.length rows)
theorem ok_posting_of (M : Md K mg) : FnG P w K mg base "posting_of" ["book", "rows"] 1 (spP K R_posting_of) := by
  refine fn_sd (N := ["book", "rows", "found", "bird", "office", "hour", "home"]) M.d_posting_of ⟨rfl, rfl, rfl, by decide +kernel, rfl, by decide +kernel, by decide +kernel⟩ (fun ds d ⟨_, _, e, _⟩ => by rw [e]; rfl) (by decide) (fun X c ds d hR => ?_)
  obtain ⟨B, rows, rfl, gB, hr, rfl⟩ := hR
  have bl := gB.bil
  show SD X [.dat (eBook B), .dat (.list (rows.map eR3)), .no, .no, .no, .no, .no] _ _
  refine sd_asgC c 2 rfl rfl (Nat.le_of_ble_eq_true rfl) rfl rfl (by decide +kernel) (lc_map c [("home", 6)] (xs := B.bi) (enc := PyData.int) (fun _ => PyData.none) (by decide +kernel) rfl (id_seq (ed_ix (ed_var c 0 rfl (by kspl_open vis) rfl rfl rfl) (ed_gint c rfl M.c_BIRDS rfl) rfl (fun _ _ => rfl)) rfl) (all1 ⟨_, rfl, .inl rfl⟩) (fun X' c2 => (gd_name c2 6 rfl (by kspl_open loc) (by kspl_open loc))) (Nat.lt_of_lt_of_le (show B.bi.length < 10000 by omega) (Nat.le_of_ble_eq_true rfl)) (fun r hr => ⟨_, rfl, fun X' c2 => ed_non, ⟨.inr rfl, .inr rfl, .inr rfl, .inr rfl, .inr rfl, .inr rfl, .inl rfl, trivial⟩⟩) (fun _ => rfl)) ?_
  refine SD.to (ls := [.dat (eBook B), .dat (.list (rows.map eR3)), .own (((rows.take 0).foldl setP (List.replicate B.bi.length none)).map oP), .no, .no, .no, .no]) (by rw [List.take_zero, List.foldl_nil, List.map_replicate, List.map_const']; rfl) ?_
  unfold postOf
  refine sd_for c (fun i => [.dat (eBook B), .dat (.list (rows.map eR3)), .own (((rows.take i).foldl setP (List.replicate B.bi.length none)).map oP), .no, .no, .no, .no]) (id_seq (ed_var c 1 rfl (by kspl_open vis) rfl rfl rfl) rfl) (gd_tup c (gs_cons c 3 rfl (by kspl_open loc) (by kspl_open loc) (gs_cons c 4 rfl (by kspl_open loc) (by kspl_open loc) (gs_cons c 5 rfl (by kspl_open loc) (by kspl_open loc) gs_nil rfl) rfl) rfl) rfl rfl) Wk.rfl' (fun i d hd => ?_) ?_ (fun _ => rfl)
  · obtain ⟨r, hrow, rfl⟩ := map_get hd
    refine ⟨_, rfl, ?_⟩
    obtain ⟨r0, r1⟩ := hr r (List.mem_of_getElem? hrow)
    refine SD.nxW (L' := [.dat (eBook B), .dat (.list (rows.map eR3)), .own ((setP ((rows.take i).foldl setP (List.replicate B.bi.length none)) r).map oP), .no, .no, .no, .no]) (by rw [fold_takeA hrow]) ?_
    have hlen : ((rows.take i).foldl setP (List.replicate B.bi.length none)).length = B.bi.length := by rw [setPs_len, List.length_replicate]
    show SD X [.dat (eBook B), .dat (.list (rows.map eR3)), .own (((rows.take i).foldl setP (List.replicate B.bi.length none)).map oP), .dat (.int r.1), .dat (.int r.2.1), .dat (.int r.2.2), .no] _ _
    generalize (rows.take i).foldl setP (List.replicate B.bi.length none) = ps at hlen ⊢
    refine sd_setitem c 2 rfl (by kspl_open vis) (ed_tup (ad_cons (ed_var c 4 rfl (by kspl_open vis) rfl rfl rfl) (ad_cons (ed_var c 5 rfl (by kspl_open vis) rfl rfl rfl) ad_nil rfl) rfl) (Nat.le_of_ble_eq_true rfl)) (ed_var c 3 rfl (by kspl_open vis) rfl rfl rfl) rfl rfl (j := r.1.toNat) ?_ ?_ rfl rfl (fun _ => rfl) rfl rfl rfl
    · rw [List.length_map, hlen]
      exact ixN_of r0 r1
    · unfold setP
      exact sd_nil ⟨.inr rfl, .inr rfl, .inr (by rw [List.map_set]; rfl), .inl rfl, .inl rfl, .inl rfl, .inl rfl, trivial⟩
  · rw [List.length_map, List.take_length]
    refine sd_freeze 2 rfl ?_
    exact sd_ret (ed_callT c rfl M.b_tuple PyProof.Rows.boot_tuple (ad_cons (ed_var c 2 rfl (by kspl_open vis) rfl rfl rfl) ad_nil rfl) (by kspl_open cl) (by decide) rfl rfl rfl) rfl
end
end K
namespace K
open PySem L2 Z
section
variable {P : Program} {w : World} {K : PySem.W.Frag} {mg : Str → Option Value} {base : Heap} [LamC]
/-! ### the fewest: plain -/
def GoOn (fr : List R3) (lo hi : Int) (ext : List R3) : Prop := ext.Pairwise (fun a b => a.1 < b.1) ∧ ∀ r ∈ ext, r ∈ fr ∧ lo ≤ r.1 ∧ r.1 < hi
theorem GoOn.mono {fr : List R3} {lo hi lo' hi' : Int} {ext : List R3} (h : GoOn fr lo hi ext) (l : lo' ≤ lo) (u : hi ≤ hi') : GoOn fr lo' hi' ext := ⟨h.1, fun r hr => by
  obtain ⟨a, b, c⟩ := h.2 r hr
  exact ⟨a, by omega, by omega⟩⟩
theorem goOn_nil {fr : List R3} {lo hi : Int} : GoOn fr lo hi [] := ⟨.nil, fun _ h => by cases h⟩
theorem choose_some {nb : Nat} {fr : List R3} {cuts : List (List P2)} : ∀ (n : Nat) (many : Int) (rows r : List R3), 0 ≤ many → choose nb fr cuts n many rows = some r → ∃ ext, r = rows ++ ext ∧ GoOn fr ((nb : Int) - n) nb ext ∧ (ext.length : Int) ≤ many ∧ allTwo cuts r = true
  | 0, many, rows, r, h0, h => by
    unfold choose at h
    by_cases q : allTwo cuts rows = true
    · rw [if_pos q] at h
      cases h
      exact ⟨[], by simp, goOn_nil, by simpa using h0, q⟩
    · rw [if_neg q] at h; cases h
  | n + 1, many, rows, r, h0, h => by
    unfold choose at h
    cases e : choose nb fr cuts n many rows with
    | some r' =>
      rw [e] at h
      cases h
      obtain ⟨ext, a, b, c, d⟩ := choose_some n many rows r h0 e
      exact ⟨ext, a, b.mono (by omega) (Int.le_refl _), c, d⟩
    | none =>
      rw [e] at h
      by_cases hm : many = 0
      · simp only [hm, if_true] at h; cases h
      · simp only [hm, if_false] at h
        obtain ⟨row, hr, hf⟩ := List.exists_of_findSome?_eq_some h
        by_cases q : row.1 = (nb : Int) - (n + 1 : Nat)
        · rw [if_pos q] at hf
          obtain ⟨ext, a, b, c, d⟩ := choose_some n (many - 1) (rows ++ [row]) r (by omega) hf
          refine ⟨row :: ext, by rw [a, List.append_assoc]; rfl, ⟨.cons (fun x hx => ?_) b.1, fun x hx => ?_⟩, by rw [List.length_cons]; omega, d⟩
          · have := (b.2 x hx).2.1
            omega
          · rcases List.mem_cons.mp hx with z | z
            · subst z; exact ⟨hr, by omega, by omega⟩
            · obtain ⟨u1, u2, u3⟩ := b.2 x z
              exact ⟨u1, by omega, u3⟩
        · rw [if_neg q] at hf; cases hf
theorem choose_none {nb : Nat} {fr : List R3} {cuts : List (List P2)} : ∀ (n : Nat) (many : Int) (rows : List R3), choose nb fr cuts n many rows = none → ∀ ext, GoOn fr ((nb : Int) - n) nb ext → (ext.length : Int) ≤ many → allTwo cuts (rows ++ ext) = false
  | 0, many, rows, h, ext, he, hl => by
    have : ext = [] := by
      cases ext with
      | nil => rfl
      | cons a r =>
        have := (he.2 a (by simp)).2
        omega
    subst this
    unfold choose at h
    rw [List.append_nil]
    by_cases q : allTwo cuts rows = true
    · rw [if_pos q] at h; cases h
    · simpa using q
  | n + 1, many, rows, h, ext, he, hl => by
    unfold choose at h
    cases e : choose nb fr cuts n many rows with
    | some r' => rw [e] at h; cases h
    | none =>
      rw [e] at h
      cases ext with
      | nil => exact choose_none n many rows e [] goOn_nil hl
      | cons a r =>
        by_cases q : a.1 = (nb : Int) - (n + 1 : Nat)
        · have hm : many ≠ 0 := fun z => by rw [z, List.length_cons] at hl; omega
          simp only [hm, if_false] at h
          have ha := (he.2 a (by simp)).1
          have := List.findSome?_eq_none_iff.mp h a ha
          rw [if_pos q] at this
          have hp := List.pairwise_cons.mp he.1
          have := choose_none n (many - 1) (rows ++ [a]) this r ⟨hp.2, fun x hx => by
            have h1 := hp.1 x hx
            obtain ⟨u1, u2, u3⟩ := he.2 x (by simp [hx])
            exact ⟨u1, by omega, u3⟩⟩ (by rw [List.length_cons] at hl; omega)
          rw [List.append_assoc] at this
          exact this
        · refine choose_none n many rows e (a :: r) ⟨he.1, fun x hx => ?_⟩ hl
          obtain ⟨u1, u2, u3⟩ := he.2 x hx
          obtain ⟨v1, v2, v3⟩ := he.2 a (by simp)
          refine ⟨u1, ?_, u3⟩
          rcases List.mem_cons.mp hx with z | z
          · subst z; omega
          · have := (List.pairwise_cons.mp he.1).1 x z
            omega
theorem allTwo_more {cuts : List (List P2)} {c : List P2} {rows : List R3} : allTwo (cuts ++ [c]) rows = (allTwo cuts rows && two rows c) := by
  unfold allTwo
  rw [List.any_append]
  cases cuts.any fun c => !two rows c <;> cases h : two rows c <;> simp [h]
/-- all rows that go on, bird by bird -/
def allF (st fr : List R3) : Nat → List (List R3)
  | 0 => [st]
  | k + 1 => allF st fr k ++ (allF st fr k).flatMap fun rows => (fr.filter fun r => decide (r.1 = (k : Int))).map fun r => rows ++ [r]
theorem allF_mem {st fr : List R3} : ∀ {k : Nat} {rows : List R3}, rows ∈ allF st fr k ↔ ∃ ext, rows = st ++ ext ∧ GoOn fr 0 k ext
  | 0, rows => by
    unfold allF
    rw [List.mem_singleton]
    constructor
    · intro h; exact ⟨[], by rw [h, List.append_nil], goOn_nil⟩
    · rintro ⟨ext, h1, h2⟩
      cases ext with
      | nil => rw [h1, List.append_nil]
      | cons a r =>
        have := (h2.2 a (by simp)).2
        omega
  | k + 1, rows => by
    unfold allF
    rw [List.mem_append, List.mem_flatMap]
    constructor
    · rintro (h | ⟨rows', h, h'⟩)
      · obtain ⟨ext, h1, h2⟩ := allF_mem.mp h
        exact ⟨ext, h1, h2.mono (Int.le_refl _) (by omega)⟩
      · obtain ⟨r, hr, e⟩ := List.mem_map.mp h'
        rw [List.mem_filter] at hr
        have hk : r.1 = (k : Int) := by simpa using hr.2
        obtain ⟨ext, h1, h2⟩ := allF_mem.mp h
        refine ⟨ext ++ [r], by rw [← e, h1, List.append_assoc], List.pairwise_append.mpr ⟨h2.1, List.pairwise_singleton _ _, fun x hx y hy => ?_⟩, fun x hx => ?_⟩
        · rw [List.mem_singleton] at hy
          subst hy
          have := (h2.2 x hx).2.2
          omega
        · rcases List.mem_append.mp hx with z | z
          · obtain ⟨u1, u2, u3⟩ := h2.2 x z
            exact ⟨u1, u2, by omega⟩
          · rw [List.mem_singleton] at z
            subst z
            exact ⟨hr.1, by omega, by omega⟩
    · rintro ⟨ext, h1, h2⟩
      rcases List.eq_nil_or_concat ext with z | ⟨L, b, z⟩
      · subst z
        exact .inl (allF_mem.mpr ⟨[], h1, goOn_nil⟩)
      · rw [List.concat_eq_append] at z
        subst z
        obtain ⟨p1, p2, p3⟩ := List.pairwise_append.mp h2.1
        obtain ⟨b1, b2, b3⟩ := h2.2 b (by simp)
        by_cases q : b.1 = (k : Int)
        · refine .inr ⟨st ++ L, allF_mem.mpr ⟨L, rfl, p1, fun x hx => ?_⟩, List.mem_map.mpr ⟨b, List.mem_filter.mpr ⟨b1, by simpa using q⟩, by rw [h1, List.append_assoc]⟩⟩
          obtain ⟨u1, u2, u3⟩ := h2.2 x (by simp [hx])
          have := p3 x hx b (by simp)
          exact ⟨u1, u2, by omega⟩
        · refine .inl (allF_mem.mpr ⟨L ++ [b], h1, h2.1, fun x hx => ?_⟩)
          obtain ⟨u1, u2, u3⟩ := h2.2 x hx
          refine ⟨u1, u2, ?_⟩
          rcases List.mem_append.mp hx with z | z
          · have := p3 x z b (by simp)
            omega
          · rw [List.mem_singleton] at z
            subst z
            omega
theorem allF_len {st fr : List R3} (h : ∀ k : Nat, (fr.filter fun r => decide (r.1 = (k : Int))).length ≤ 6) : ∀ k : Nat, (allF st fr k).length ≤ 7 ^ k
  | 0 => Nat.le_refl _
  | k + 1 => by
    have ih := allF_len (st := st) h k
    have hb : ∀ l : List (List R3), (l.flatMap fun rows => (fr.filter fun r => decide (r.1 = (k : Int))).map fun r => rows ++ [r]).length ≤ 6 * l.length := by
      intro l
      induction l with
      | nil => simp
      | cons a l ihl =>
        rw [List.flatMap_cons, List.length_append, List.length_map, List.length_cons]
        have := h k
        omega
    unfold allF
    rw [List.length_append]
    have := hb (allF st fr k)
    rw [Nat.pow_succ]
    omega
/-! ### letters by more rows come no later -/
section
variable {B : Book} {ls : List Ltr} {st fr : List R3}
theorem spread_sub (g : Good B) {rows rows' : List R3} {bs : List (Int × Int)} (gr : GoodRows B rows) (gr' : GoodRows B rows') (gb : GoodBeg B bs) (h : ∀ r ∈ rows, r ∈ rows') : NL (spread B rows' bs) (spread B rows bs) := by
  obtain ⟨S, _⟩ := spread_spec g gr gb
  obtain ⟨_, T'⟩ := spread_spec g gr' gb
  refine snd_le (rowE_ok g gr) S (T'.less (fun e he => ?_) (fun _ z => z))
  obtain ⟨r, hr, e⟩ := List.mem_map.mp he
  exact List.mem_map.mpr ⟨r, h r hr, e⟩
theorem comesBy_sub (g : Good B) {rows rows' : List R3} {t : Ltr} (gr : GoodRows B rows) (gr' : GoodRows B rows') (gt : GoodLtr B t) (h : ∀ r ∈ rows, r ∈ rows') (c : comesBy B rows t.1 t.2.1 t.2.2 = true) : comesBy B rows' t.1 t.2.1 t.2.2 = true := by
  unfold comesBy at c ⊢
  cases e : spread B rows t.1 t.2.1 with
  | none => rw [e] at c; cases c
  | some u =>
    rw [e] at c
    obtain ⟨v, h1, h2⟩ := spread_sub g gr gr' gt.1 h _ _ e
    rw [h1]
    have c : decide (u ≤ t.2.2) = true := c
    show decide (v ≤ t.2.2) = true
    simp only [decide_eq_true_eq] at c ⊢
    omega
theorem firstFail_none {rows : List R3} : firstFail B rows ls = none ↔ ∀ l ∈ lossesF rows, ∀ t ∈ ls, comesBy B l t.1 t.2.1 t.2.2 = true := by
  unfold firstFail failAt
  rw [List.findSome?_eq_none_iff]
  constructor
  · intro h l hl t ht
    have := List.findSome?_eq_none_iff.mp (h l hl) t ht
    by_cases q : comesBy B l t.1 t.2.1 t.2.2 = true
    · exact q
    · rw [if_neg q] at this; cases this
  · intro h l hl
    rw [List.findSome?_eq_none_iff]
    intro t ht
    rw [if_pos (h l hl t ht)]
theorem firstFail_some {rows l : List R3} {t : Ltr} (h : firstFail B rows ls = some (l, t)) : l ∈ lossesF rows ∧ t ∈ ls ∧ comesBy B l t.1 t.2.1 t.2.2 = false := by
  unfold firstFail at h
  obtain ⟨l', hl, h⟩ := List.exists_of_findSome?_eq_some h
  unfold failAt at h
  obtain ⟨t', ht, h⟩ := List.exists_of_findSome?_eq_some h
  by_cases q : comesBy B l' t'.1 t'.2.1 t'.2.2 = true
  · rw [if_pos q] at h; cases h
  · rw [if_neg q] at h
    cases h
    exact ⟨hl, ht, by simpa using q⟩
/-- what a ground is like -/
structure FewC (B : Book) (ls : List Ltr) (st fr : List R3) : Prop where
  g : Good B
  gr : GoodRows B (st ++ fr)
  gl : ∀ t ∈ ls, GoodLtr B t
  nd : (st.map (·.1)).Nodup
  dis : ∀ a ∈ st, ∀ b ∈ fr, a.1 ≠ b.1
  un : ∀ a ∈ st ++ fr, ∀ b ∈ st ++ fr, pairOf a = pairOf b → a = b
  cnt : (allF st fr B.bi.length).length ≤ 900000
theorem sub_good {rows rows' : List R3} (g : GoodRows B rows') (h : ∀ r ∈ rows, r ∈ rows') (l : rows.length ≤ 1000) : GoodRows B rows := ⟨fun r hr => g.at_ r (h r hr), l⟩
theorem isCut_iff {R : List R3} {c : List P2} : isCut B ls R c = true ↔ (∀ p ∈ c, p ∈ R.map pairOf) ∧ ∃ t ∈ ls, comesBy B (leftC R c) t.1 t.2.1 t.2.2 = false := by
  unfold isCut fails
  rw [Bool.and_eq_true, Bool.not_eq_true', List.any_eq_false, List.any_eq_true]
  simp only [Bool.not_eq_true', decide_eq_false_iff_not, Decidable.not_not, Bool.not_eq_true]
theorem cut0_mem {R left : List R3} {p : P2} : p ∈ cut0 R left ↔ ∃ r ∈ R, r ∉ left ∧ pairOf r = p := by
  unfold cut0
  simp only [List.mem_map, List.mem_filter, Bool.not_eq_true', decide_eq_false_iff_not, and_assoc]
theorem leftC_mem {R : List R3} {c : List P2} {r : R3} : r ∈ leftC R c ↔ r ∈ R ∧ pairOf r ∉ c := by
  unfold leftC inCut
  simp only [List.mem_filter, Bool.not_eq_true', decide_eq_false_iff_not]
theorem cut0_cut (g : Good B) {R left : List R3} (gR : GoodRows B R) (gL : GoodRows B left) (gl : ∀ t ∈ ls, GoodLtr B t) {t : Ltr} (ht : t ∈ ls) (hf : comesBy B left t.1 t.2.1 t.2.2 = false) : isCut B ls R (cut0 R left) = true := by
  refine isCut_iff.mpr ⟨fun p hp => ?_, t, ht, ?_⟩
  · obtain ⟨r, h1, _, h3⟩ := cut0_mem.mp hp
    exact List.mem_map.mpr ⟨r, h1, h3⟩
  · cases q : comesBy B (leftC R (cut0 R left)) t.1 t.2.1 t.2.2 with
    | false => rfl
    | true =>
      have := comesBy_sub g (left_good gR _) gL (gl t ht) (fun r hr => by
        obtain ⟨h1, h2⟩ := leftC_mem.mp hr
        by_cases z : r ∈ left
        · exact z
        · exact absurd (cut0_mem.mpr ⟨r, h1, z, rfl⟩) h2) q
      rw [hf] at this; cases this
theorem narrowS_in {R : List R3} {c : List P2} {p q : P2} (h : q ∈ narrowS B ls R c p) : q ∈ c := by
  unfold narrowS at h
  split at h
  · exact (List.mem_filter.mp h).1
  · exact h
theorem narrow_in {R : List R3} : ∀ (ps : List P2) {c : List P2} {q : P2}, q ∈ ps.foldl (narrowS B ls R) c → q ∈ c
  | [], _, _, h => h
  | p :: ps, _, _, h => narrowS_in (narrow_in ps h)
theorem narrow_cut {R : List R3} : ∀ (ps : List P2) {c : List P2}, isCut B ls R c = true → isCut B ls R (ps.foldl (narrowS B ls R) c) = true
  | [], _, h => h
  | p :: ps, c, h => by
    refine narrow_cut ps ?_
    unfold narrowS
    split
    · rename_i z; exact z
    · exact h
theorem same_len {b : Int} : ∀ {l : List R3}, (l.map (·.1)).Nodup → (∀ x ∈ l, x.1 = b) → l.length ≤ 1
  | [], _, _ => Nat.zero_le _
  | [_], _, _ => Nat.le_refl _
  | x :: y :: l, h, hb => by
    have h1 := hb x (by simp)
    have h2 := hb y (by simp)
    have := (List.nodup_cons.mp h).1
    exact absurd (show x.1 ∈ (y :: l).map (·.1) by rw [h1, ← h2]; simp) this
theorem goOn_nd {fr : List R3} {lo hi : Int} {ext : List R3} (h : GoOn fr lo hi ext) : (ext.map (·.1)).Nodup := by
  rw [List.nodup_iff_pairwise_ne, List.pairwise_map]
  exact h.1.imp fun {a b} z q => by
    have z : a.1 < b.1 := z
    have q : a.1 = b.1 := q
    omega
theorem rows_nd (F : FewC B ls st fr) {lo hi : Int} {ext : List R3} (h : GoOn fr lo hi ext) : ((st ++ ext).map (·.1)).Nodup := by
  rw [List.map_append]
  refine List.nodup_append.mpr ⟨F.nd, goOn_nd h, fun x hx y hy z => ?_⟩
  obtain ⟨a, ha, rfl⟩ := List.mem_map.mp hx
  obtain ⟨b, hb, rfl⟩ := List.mem_map.mp hy
  exact F.dis a ha b (h.2 b hb).1 z
theorem rows_in {lo hi : Int} {ext : List R3} (h : GoOn fr lo hi ext) : ∀ r ∈ st ++ ext, r ∈ st ++ fr := fun r hr => by
  rcases List.mem_append.mp hr with z | z
  · exact List.mem_append.mpr (.inl z)
  · exact List.mem_append.mpr (.inr (h.2 r z).1)
theorem goOn_len {lo hi : Int} {n : Nat} (hn : hi - lo ≤ (n : Int)) : ∀ {ext : List R3}, GoOn fr lo hi ext → ext.length ≤ n := fun {ext} h => by
  have key : ∀ (l : List R3) (lo : Int), l.Pairwise (fun a b => a.1 < b.1) → (∀ r ∈ l, lo ≤ r.1 ∧ r.1 < hi) → (l.length : Int) ≤ max 0 (hi - lo) := by
    intro l
    induction l with
    | nil => intro lo _ _; simp; omega
    | cons a l ih =>
      intro lo hp hb
      obtain ⟨p1, p2⟩ := List.pairwise_cons.mp hp
      have ha := hb a (by simp)
      have := ih (a.1 + 1) p2 (fun r hr => ⟨by have := p1 r hr; omega, (hb r (by simp [hr])).2⟩)
      rw [List.length_cons]
      omega
  have := key ext lo h.1 (fun r hr => (h.2 r hr).2)
  omega
theorem nd_len : ∀ {n : Nat} {l : List Int}, l.Nodup → (∀ x ∈ l, 0 ≤ x ∧ x < (n : Int)) → l.length ≤ n := by
    have key : ∀ (n : Nat) (l : List Int), l.Nodup → (∀ x ∈ l, 0 ≤ x ∧ x < (n : Int)) → l.length ≤ n := by
      intro n
      induction n with
      | zero =>
        intro l _ h
        cases l with
        | nil => exact Nat.le_refl _
        | cons a l => have := h a (by simp); omega
      | succ n ih =>
        intro l hl hx
        have h1 := ih (l.filter fun x => !decide (x = (n : Int))) (hl.sublist List.filter_sublist) (fun x hx' => by
          rw [List.mem_filter] at hx'
          have := hx x hx'.1
          have q : ¬ x = (n : Int) := by simpa using hx'.2
          omega)
        have h2 : l.length ≤ (l.filter fun x => !decide (x = (n : Int))).length + 1 := by
          clear ih h1 hx
          induction l with
          | nil => simp
          | cons a l ih =>
            obtain ⟨a1, a2⟩ := List.nodup_cons.mp hl
            have := ih a2
            by_cases q : a = (n : Int)
            · have e : (l.filter fun x => !decide (x = (n : Int))) = l := List.filter_eq_self.mpr fun x hx => by
                have : x ≠ (n : Int) := fun z => a1 (by rw [q, ← z]; exact hx)
                simpa using this
              rw [List.filter_cons_of_neg (by simp [q]), e]
              simp
            · rw [List.filter_cons_of_pos (by simp [q]), List.length_cons, List.length_cons]
              omega
        omega
    exact fun {n l} => key n l
theorem rows_good (F : FewC B ls st fr) {ext : List R3} (h : GoOn fr 0 B.bi.length ext) : GoodRows B (st ++ ext) := by
  refine sub_good F.gr (rows_in h) ?_
  have hn := rows_nd F h
  have hb := F.g.bil
  have : ((st ++ ext).map (·.1)).length ≤ B.bi.length := by
    refine nd_len hn fun x hx => ?_
    obtain ⟨r, hr, rfl⟩ := List.mem_map.mp hx
    exact (F.gr.at_ r (rows_in h r hr)).1
  rw [List.length_map] at this
  omega
/-- the cut made of a loss has at most one of the rows -/
theorem cut_new (F : FewC B ls st fr) {ext l : List R3} {c : List P2} (h : GoOn fr 0 B.bi.length ext) (hl : l ∈ lossesF (st ++ ext)) (hc : ∀ p ∈ c, p ∈ cut0 (st ++ fr) l) : two (st ++ ext) c = false := by
  have key : ∀ x ∈ (st ++ ext).filter (inCut c), x ∉ l := fun x hx => by
    rw [List.mem_filter] at hx
    have hp : pairOf x ∈ c := by simpa [inCut] using hx.2
    obtain ⟨y, h1, h2, h3⟩ := cut0_mem.mp (hc _ hp)
    have := F.un y h1 x (rows_in h x hx.1) h3
    rw [← this]; exact h2
  have hlen : ((st ++ ext).filter (inCut c)).length ≤ 1 := by
    unfold lossesF at hl
    rcases List.mem_cons.mp hl with z | z
    · subst z
      have : (st ++ ext).filter (inCut c) = [] := by
        rw [List.eq_nil_iff_forall_not_mem]
        intro x hx
        exact key x hx (List.mem_filter.mp hx).1
      rw [this]; exact Nat.zero_le _
    · obtain ⟨r, hr, z⟩ := List.mem_map.mp z
      refine same_len (b := r.1) ((rows_nd F h).sublist (List.filter_sublist.map _)) fun x hx => ?_
      have h1 := key x hx
      have h2 := (List.mem_filter.mp hx).1
      by_cases q : x.1 = r.1
      · exact q
      · exact absurd (by rw [← z]; exact List.mem_filter.mpr ⟨h2, by simpa using q⟩) h1
  unfold two
  exact decide_eq_false (by omega)
/-- rows by which the letters are kept have two of each cut -/
theorem kept_two (F : FewC B ls st fr) {ext : List R3} {c : List P2} (h : GoOn fr 0 B.bi.length ext) (hk : firstFail B (st ++ ext) ls = none) (hc : isCut B ls (st ++ fr) c = true) : two (st ++ ext) c = true := by
  obtain ⟨_, t, ht, hf⟩ := isCut_iff.mp hc
  cases q : two (st ++ ext) c with
  | true => rfl
  | false =>
    exfalso
    have gR := rows_good F h
    have hlen : ((st ++ ext).filter (inCut c)).length ≤ 1 := by
      unfold two at q
      have := of_decide_eq_false q
      omega
    have hl : ∃ l ∈ lossesF (st ++ ext), ∀ r ∈ l, r ∈ leftC (st ++ fr) c := by
      cases e : (st ++ ext).filter (inCut c) with
      | nil =>
        refine ⟨st ++ ext, by unfold lossesF; simp, fun r hr => leftC_mem.mpr ⟨rows_in h r hr, fun z => ?_⟩⟩
        have : r ∈ (st ++ ext).filter (inCut c) := List.mem_filter.mpr ⟨hr, by simpa [inCut] using z⟩
        rw [e] at this; cases this
      | cons a m =>
        have hm : m = [] := by
          rw [e] at hlen
          cases m with
          | nil => rfl
          | cons _ _ => simp at hlen
        subst hm
        have ha : a ∈ st ++ ext := by
          have : a ∈ (st ++ ext).filter (inCut c) := by rw [e]; simp
          exact (List.mem_filter.mp this).1
        refine ⟨withoutF (st ++ ext) a.1, List.mem_cons_of_mem _ (List.mem_map.mpr ⟨a, ha, rfl⟩), fun r hr => ?_⟩
        unfold withoutF at hr
        rw [List.mem_filter] at hr
        have hn : ¬ r.1 = a.1 := by simpa using hr.2
        refine leftC_mem.mpr ⟨rows_in h r hr.1, fun z => ?_⟩
        have : r ∈ (st ++ ext).filter (inCut c) := List.mem_filter.mpr ⟨hr.1, by simpa [inCut] using z⟩
        rw [e, List.mem_singleton] at this
        exact hn (by rw [this])
    obtain ⟨l, h1, h2⟩ := hl
    have := comesBy_sub F.g (losses_good gR l h1) (left_good F.gr c) (F.gl t ht) h2 (firstFail_none.mp hk l h1 t ht)
    rw [hf] at this; cases this
/-! ### the loop -/
inductive Few (B : Book) (ls : List Ltr) (st fr : List R3) : Nat → Int → List (List P2) → Option (List R3) → Int → List (List P2) → Prop
  | stop {many : Int} {cuts : List (List P2)} : (B.bi.length : Int) < many → Few B ls st fr 0 many cuts none many cuts
  | good {many : Int} {cuts : List (List P2)} {rows : List R3} : many ≤ (B.bi.length : Int) → choose B.bi.length fr cuts B.bi.length many st = some rows → firstFail B rows ls = none → Few B ls st fr 0 many cuts (some rows) many cuts
  | more {m : Nat} {many mm : Int} {cuts cc : List (List P2)} {o : Option (List R3)} : many ≤ (B.bi.length : Int) → choose B.bi.length fr cuts B.bi.length many st = none → Few B ls st fr m (many + 1) cuts o mm cc → Few B ls st fr (m + 1) many cuts o mm cc
  | cut {m : Nat} {many mm : Int} {cuts cc : List (List P2)} {o : Option (List R3)} {rows l : List R3} {t : Ltr} : many ≤ (B.bi.length : Int) → choose B.bi.length fr cuts B.bi.length many st = some rows → firstFail B rows ls = some (l, t) → cuts.length < 950000 →
      Few B ls st fr m many (cuts ++ [narrow B ls (st ++ fr) l]) o mm cc → Few B ls st fr (m + 1) many cuts o mm cc
structure FewI (B : Book) (ls : List Ltr) (st fr : List R3) (many : Int) (cuts : List (List P2)) : Prop where
  h0 : 0 ≤ many
  cs : ∀ c ∈ cuts, isCut B ls (st ++ fr) c = true
  ln : ∀ c ∈ cuts, c.length ≤ 1000
  no : ∀ ext, GoOn fr 0 B.bi.length ext → (ext.length : Int) < many → allTwo cuts (st ++ ext) = false
def FewE (B : Book) (ls : List Ltr) (st fr : List R3) (o : Option (List R3)) (mm : Int) : Prop := match o with
  | none => (B.bi.length : Int) < mm
  | some rows => ∃ ext, rows = st ++ ext ∧ GoOn fr 0 B.bi.length ext ∧ (ext.length : Int) ≤ mm ∧ firstFail B rows ls = none
theorem FewI.cut (F : FewC B ls st fr) {many : Int} {cuts : List (List P2)} (I : FewI B ls st fr many cuts) {ext l : List R3} {t : Ltr} (h : GoOn fr 0 B.bi.length ext) (hf : firstFail B (st ++ ext) ls = some (l, t)) : FewI B ls st fr many (cuts ++ [narrow B ls (st ++ fr) l]) := by
  obtain ⟨h1, h2, h3⟩ := firstFail_some hf
  refine ⟨I.h0, fun c hc => ?_, fun c hc => ?_, fun e he hl => ?_⟩
  · rcases List.mem_append.mp hc with z | z
    · exact I.cs c z
    · rw [List.mem_singleton] at z
      subst z
      exact narrow_cut _ (cut0_cut F.g F.gr (losses_good (rows_good F h) l h1) F.gl h2 h3)
  · rcases List.mem_append.mp hc with z | z
    · exact I.ln c z
    · rw [List.mem_singleton] at z
      subst z
      refine Nat.le_trans (narrow_len _ _) ?_
      unfold cut0
      rw [List.length_map]
      exact Nat.le_trans (List.length_filter_le _ _) F.gr.len
  · rw [allTwo_more, I.no e he hl]; rfl
theorem few_end (F : FewC B ls st fr) {m : Nat} {many mm : Int} {cuts cc : List (List P2)} {o : Option (List R3)} (h : Few B ls st fr m many cuts o mm cc) : FewI B ls st fr many cuts → FewI B ls st fr mm cc ∧ FewE B ls st fr o mm := by
  induction h with
  | stop h => exact fun I => ⟨I, h⟩
  | good h1 h2 h3 =>
    intro I
    obtain ⟨ext, a, b, c, d⟩ := choose_some _ _ _ _ I.h0 h2
    refine ⟨I, ext, a, ?_, c, h3⟩
    rw [show (B.bi.length : Int) - (B.bi.length : Nat) = 0 by omega] at b
    exact b
  | more h1 h2 _ ih =>
    intro I
    refine ih ⟨by have := I.h0; omega, I.cs, I.ln, fun ext he hl => ?_⟩
    exact choose_none _ _ _ h2 ext (by rw [show (B.bi.length : Int) - (B.bi.length : Nat) = 0 by omega]; exact he) (by omega)
  | cut h1 h2 h3 h4 _ ih =>
    intro I
    obtain ⟨ext, a, b, c, d⟩ := choose_some _ _ _ _ I.h0 h2
    rw [show (B.bi.length : Int) - (B.bi.length : Nat) = 0 by omega] at b
    subst a
    exact ih (I.cut F b h3)
theorem few_ex (F : FewC B ls st fr) : ∀ (n : Nat) (many : Int) (cuts : List (List P2)), FewI B ls st fr many cuts → (allF st fr B.bi.length).countP (allTwo cuts) + ((B.bi.length : Int) + 1 - many).toNat ≤ n → cuts.length + (allF st fr B.bi.length).countP (allTwo cuts) ≤ 900000 → ∃ m o mm cc, Few B ls st fr m many cuts o mm cc
  | n, many, cuts, I, hn, hc => by
    by_cases h1 : many ≤ (B.bi.length : Int)
    · have h0 := I.h0
      cases e : choose B.bi.length fr cuts B.bi.length many st with
      | none =>
        cases n with
        | zero => omega
        | succ n =>
          obtain ⟨m, o, mm, cc, h⟩ := few_ex F n (many + 1) cuts ⟨by omega, I.cs, I.ln, fun ext he hl => choose_none _ _ _ e ext (by rw [show (B.bi.length : Int) - (B.bi.length : Nat) = 0 by omega]; exact he) (by omega)⟩ (by omega) hc
          exact ⟨_, _, _, _, .more h1 e h⟩
      | some rows =>
        obtain ⟨ext, a, b, c, d⟩ := choose_some _ _ _ _ h0 e
        rw [show (B.bi.length : Int) - (B.bi.length : Nat) = 0 by omega] at b
        subst a
        cases e2 : firstFail B (st ++ ext) ls with
        | none => exact ⟨_, _, _, _, .good h1 e e2⟩
        | some lt =>
          obtain ⟨l, t⟩ := lt
          obtain ⟨f1, f2, f3⟩ := firstFail_some e2
          have hnew : two (st ++ ext) (narrow B ls (st ++ fr) l) = false := cut_new F b f1 fun p hp => narrow_in _ hp
          have hlt : (allF st fr B.bi.length).countP (allTwo (cuts ++ [narrow B ls (st ++ fr) l])) < (allF st fr B.bi.length).countP (allTwo cuts) := by
            refine countP_lt (fun x hx => ?_) ⟨st ++ ext, allF_mem.mpr ⟨ext, rfl, b⟩, d, ?_⟩
            · rw [allTwo_more, Bool.and_eq_true] at hx
              exact hx.1
            · rw [allTwo_more, hnew, Bool.and_false]
          cases n with
          | zero => omega
          | succ n =>
            obtain ⟨m, o, mm, cc, h⟩ := few_ex F n many (cuts ++ [narrow B ls (st ++ fr) l]) (I.cut F b e2) (by omega) (by rw [List.length_append, List.length_singleton]; omega)
            exact ⟨_, _, _, _, .cut h1 e e2 (by omega) h⟩
    · exact ⟨_, _, _, _, .stop (by omega)⟩
theorem few_0 (F : FewC B ls st fr) : ∃ m o mm cc, Few B ls st fr m 0 [] o mm cc ∧ FewI B ls st fr mm cc ∧ FewE B ls st fr o mm := by
  have I : FewI B ls st fr 0 [] := ⟨Int.le_refl _, fun _ h => (by cases h), fun _ h => (by cases h), fun ext _ h => by omega⟩
  have hc : (allF st fr B.bi.length).countP (allTwo []) ≤ 900000 := Nat.le_trans List.countP_le_length F.cnt
  obtain ⟨m, o, mm, cc, h⟩ := few_ex F _ 0 [] I (Nat.le_refl _) (by simpa using hc)
  exact ⟨m, o, mm, cc, h, few_end F h I⟩
end
end
end K
namespace K
open PySem L2 Z
section
variable {P : Program} {w : World} {K : PySem.W.Frag} {mg : Str → Option Value} {base : Heap} [LamC]
/-! ### fewest -/
section
variable {aPostError aBadBook aNoOffice aBadPosting aNoPosting : Addr}
theorem exc_NoPosting (E : Exs K mg aPostError aBadBook aNoOffice aBadPosting aNoPosting) : Exc1 P w K mg base "NoPosting" "cuts" aNoPosting 1 :=
  exc1_of E.x_NoPosting ⟨rfl, rfl, rfl, by decide +kernel, rfl, by decide +kernel, by decide +kernel⟩ rfl rfl rfl rfl rfl rfl rfl (fun env _ => rfl)
abbrev stO (start : Posting) : List R3 := rowsOf start
noncomputable abbrev frO (B : Book) (start : Posting) (gone : List Int) (now : Int) : List R3 := chs B start gone now B.bi.length
structure FewIn (ds : List PyData) (B : Book) (ls : List Ltr) (start : Posting) (gone : List Int) (now : Int) : Prop where
  e : ds = [eBook B, .list (List.map eLtr ls), ePost start, .list (List.map .int gone), .int now]
  gp : GoodPost B start
  h0 : 0 ≤ now
  hl : ls.length ≤ 1000
  F : FewC B ls (stO start) (frO B start gone now)
def R_fewest (ds : List PyData) (d : PyData) : Prop := ∃ B ls start gone now m rows mm cc, FewIn ds B ls start gone now ∧ Few B ls (stO start) (frO B start gone now) m 0 [] (some rows) mm cc ∧ d = .tuple [.int mm, ePost (postOf B.bi.length rows), .list (List.map eCut cc)]
def Rx_fewest (a : Addr) (ds : List PyData) (cls : Value) (fs : List (Str × PyData)) : Prop := ∃ B ls start gone now m mm cc, FewIn ds B ls start gone now ∧ Few B ls (stO start) (frO B start gone now) m 0 [] none mm cc ∧ cls = .ref a ∧ fs = [(("cuts" : Str), PyData.list (List.map eCut cc))]
theorem few_body (M : Md K mg) (E : Exs K mg aPostError aBadBook aNoOffice aBadPosting aNoPosting) {X : Cx} (c : Ctx P w K mg base ⟨["book", "letters", "start", "gone", "now", "ground", "cuts", "many", "rows", "failing"], defScope s_fewest, fun _ => true⟩ 9 X) {B : Book} {ls : List Ltr} {start : Posting} {gone : List Int} {now : Int} {ds : List PyData} (I : FewIn ds B ls start gone now)
    {m : Nat} {o : Option (List R3)} {mm : Int} {cc : List (List P2)} (hF : Few B ls (stO start) (frO B start gone now) m 0 [] o mm cc) {Φ : Po} (hs : ∀ rows, o = some rows → ∀ ks, Φ.rt ks (.tuple [.int mm, ePost (postOf B.bi.length rows), .list (List.map eCut cc)])) (hn : o = none → ∀ ks, Φ.ex ks (.ref aNoPosting) [("cuts", .list (List.map eCut cc))]) :
    SD X (ds.map SK.dat ++ List.replicate (10 - ds.length) .no) (defBody s_fewest) Φ := by
  obtain ⟨C, g⟩ := M.g_Ground
  have Fm := ok_mk_ground (P := P) (w := w) (base := base) M g
  have Ff := ok_first_with (P := P) (w := w) (base := base) M g
  have Fl := ok_first_failing (P := P) (w := w) (base := base) M
  have Fn := ok_narrowed (P := P) (w := w) (base := base) M g
  have Fp := ok_posting_of (P := P) (w := w) (base := base) M
  have Ex := exc_NoPosting (P := P) (w := w) (base := base) E
  obtain ⟨rfl, gp, h0, hl, F⟩ := I
  have gB := F.g
  have bl := gB.bil
  have hK := c.hK
  subst hK
  show SD X [.dat (eBook B), .dat (.list (ls.map eLtr)), .dat (ePost start), .dat (.list (gone.map .int)), .dat (.int now), .no, .no, .no, .no, .no] _ _
  refine sd_asgI c 5 rfl (.inl rfl) (.inl rfl) (Nat.le_of_ble_eq_true rfl) (ei_make c Fm (by decide) rfl (ad_cons (ed_var c 0 rfl (by kspl_open vis) rfl rfl rfl) (ad_cons (ed_var c 1 rfl (by kspl_open vis) rfl rfl rfl) (ad_cons (ed_var c 2 rfl (by kspl_open vis) rfl rfl rfl) (ad_cons (ed_var c 3 rfl (by kspl_open vis) rfl rfl rfl) (ad_cons (ed_var c 4 rfl (by kspl_open vis) rfl rfl rfl) ad_nil rfl) rfl) rfl) rfl) rfl) ⟨B, ls, start, gone, now, rfl, gB, F.gl, gp, h0, rfl⟩ rfl rfl rfl) rfl ?_
  refine sd_asgL c 6 rfl (.inl rfl) (.inl rfl) (Nat.le_of_ble_eq_true rfl) (el_lst ad_nil (Nat.le_of_ble_eq_true rfl)) rfl ?_
  refine sd_asg c 7 rfl (by kspl_open loc) (.inl rfl) (Nat.le_of_ble_eq_true rfl) ed_int rfl ?_
  show SD X [.dat (eBook B), .dat (.list (ls.map eLtr)), .dat (ePost start), .dat (.list (gone.map .int)), .dat (.int now), .ins C (gF B ls (stO start) (frO B start gone now)), .own ([].map eCut), .dat (.int 0), .no, .no] _ _
  have I0 : FewI B ls (stO start) (frO B start gone now) 0 [] := ⟨Int.le_refl _, fun _ h => (by cases h), fun _ h => (by cases h), fun ext _ h => by omega⟩
  generalize stO start = st at hF F I0 ⊢
  generalize frO B start gone now = fr at hF F I0 ⊢
  have hsl : st.length + fr.length ≤ 1000 := by have := F.gr.len; rw [List.length_append] at this; exact this
  have hst : st.length ≤ 900 := by
    have := (rows_good F (goOn_nil (fr := fr) (lo := 0) (hi := B.bi.length))).len
    have h2 := goOn_nil (fr := fr) (lo := 0) (hi := (B.bi.length : Int))
    have : (st.map (·.1)).Nodup := F.nd
    have key : ∀ r ∈ st, 0 ≤ r.1 ∧ r.1 < (B.bi.length : Int) := fun r hr => (F.gr.at_ r (List.mem_append.mpr (.inl hr))).1
    have := nd_len (n := B.bi.length) this (fun x hx => by
      obtain ⟨r, hr, rfl⟩ := List.mem_map.mp hx
      exact key r hr)
    rw [List.length_map] at this
    omega
  refine sd_while c (fun m L => ∃ many cuts, L = [.dat (eBook B), .dat (.list (ls.map eLtr)), .dat (ePost start), .dat (.list (gone.map .int)), .dat (.int now), .ins C (gF B ls st fr), .own (List.map eCut cuts), .dat (.int many), .no, .no] ∧ FewI B ls st fr many cuts ∧ cuts.length ≤ 950000 ∧ Few B ls st fr m many cuts o mm cc) m ⟨0, [], rfl, I0, by simp, hF⟩ (fun m L hL => ?_)
  obtain ⟨many, cuts, rfl, I, hcl, hf⟩ := hL
  have hm0 := I.h0
  refine ⟨_, _, td_to (td_cmp (ed_var c 7 rfl (by kspl_open vis) rfl rfl rfl) (ed_callB c rfl M.b_len PySem.boot_len (ad_cons (ed_ix (ed_var c 0 rfl (by kspl_open vis) rfl rfl rfl) (ed_gint c rfl M.c_BIRDS rfl) rfl (fun _ _ => rfl)) ad_nil rfl) (by kspl_open cl) (by decide) rfl rfl rfl) (by kspl_open cd) (nomark _)) (b' := decide (many ≤ (B.bi.length : Int))) (by rw [List.length_map]), fun hb => ?_, fun hb => ?_⟩
  · have hb : many ≤ (B.bi.length : Int) := of_decide_eq_true hb
    refine sd_asg c 8 rfl (by kspl_open loc) (.inl rfl) (Nat.le_of_ble_eq_true rfl) (ed_methB c g.cl Ff (Nat.le_refl _) (ei_var c 5 rfl (by kspl_open vis) rfl rfl rfl) rfl (ab_cons (ed_var c 7 rfl (by kspl_open vis) rfl rfl rfl) (ab_one c 6 rfl (by kspl_open vis) rfl (.inl rfl) rfl rfl rfl) rfl) rfl (.inl rfl) ⟨B, ls, st, fr, many, cuts, rfl, rfl, rfl, gB, hm0, hst, by omega, by omega, rfl⟩ rfl rfl rfl) rfl ?_
    show SD X [.dat (eBook B), .dat (.list (ls.map eLtr)), .dat (ePost start), .dat (.list (gone.map .int)), .dat (.int now), .ins C (gF B ls st fr), .own (List.map eCut cuts), .dat (.int many), .dat (eO (choose B.bi.length fr cuts B.bi.length many st)), .no] _ _
    cases hf with
    | stop h => omega
    | more h1 h2 h3 =>
      rename_i m'
      rw [h2]
      refine sd_ifT (td_cmp (ed_var c 8 rfl (by kspl_open vis) rfl rfl rfl) ed_non cd_isN (nomark _)) ?_
      refine sd_asg c 7 rfl (by kspl_open loc) (.inl rfl) (Nat.le_of_ble_eq_true rfl) (ed_bin (ed_var c 7 rfl (by kspl_open vis) rfl rfl rfl) ed_int (by kspl_open bd)) rfl ?_
      refine sd_nil (sd_weak (ls := [_, _, _, _, _, _, _, _, .no, .no]) ⟨.inr rfl, .inr rfl, .inr rfl, .inr rfl, .inr rfl, .inr rfl, .inr rfl, .inr rfl, .inl rfl, .inl rfl, trivial⟩ (sd_nil ⟨m', Nat.lt_succ_self _, many + 1, cuts, rfl, ⟨by omega, I.cs, I.ln, fun ext he hle => ?_⟩, hcl, h3⟩))
      exact choose_none _ _ _ h2 ext (by rw [show (B.bi.length : Int) - (B.bi.length : Nat) = 0 by omega]; exact he) (by omega)
    | good h1 h2 h3 =>
      rename_i rows _
      obtain ⟨ext, e1, e2, e3, e4⟩ := choose_some _ _ _ _ hm0 h2
      rw [show (B.bi.length : Int) - (B.bi.length : Nat) = 0 by omega] at e2
      have gr : GoodRows B rows := by rw [e1]; exact rows_good F e2
      rw [h2]
      refine sd_ifF (td_cmp (ed_var c 8 rfl (by kspl_open vis) rfl rfl rfl) ed_non cd_isN (nomark _)) ?_
      refine sd_asg c 9 rfl (by kspl_open loc) (.inl rfl) (Nat.le_of_ble_eq_true rfl) (ed_call c Fl (by decide) rfl (ad_cons (ed_var c 0 rfl (by kspl_open vis) rfl rfl rfl) (ad_cons (ed_var c 8 rfl (by kspl_open vis) rfl rfl rfl) (ad_cons (ed_var c 1 rfl (by kspl_open vis) rfl rfl rfl) ad_nil rfl) rfl) rfl) ⟨B, rows, ls, rfl, gB, gr, F.gl, rfl⟩ rfl rfl rfl) rfl ?_
      rw [h3]
      refine sd_ifT (td_cmp (ed_var c 9 rfl (by kspl_open vis) rfl rfl rfl) ed_non cd_isN (nomark _)) ?_
      refine sd_ret (ed_et (et_tup2 c 6 rfl (by kspl_open vis) (ed_var c 7 rfl (by kspl_open vis) rfl rfl rfl) (ed_call c Fp (by decide) rfl (ad_cons (ed_var c 0 rfl (by kspl_open vis) rfl rfl rfl) (ad_cons (ed_var c 8 rfl (by kspl_open vis) rfl rfl rfl) ad_nil rfl) rfl) ⟨B, rows, rfl, gB, fun r hr => (gr.at_ r hr).1, rfl⟩ rfl rfl rfl) rfl rfl rfl rfl rfl)) ?_
      exact hs rows rfl _
    | cut h1 h2 h3 h4 h5 =>
      rename_i m' rows l t
      obtain ⟨ext, e1, e2, e3, e4⟩ := choose_some _ _ _ _ hm0 h2
      rw [show (B.bi.length : Int) - (B.bi.length : Nat) = 0 by omega] at e2
      have gr : GoodRows B rows := by rw [e1]; exact rows_good F e2
      have I2 := I.cut F e2 (by rw [← e1]; exact h3)
      rw [h2]
      refine sd_ifF (td_cmp (ed_var c 8 rfl (by kspl_open vis) rfl rfl rfl) ed_non cd_isN (nomark _)) ?_
      refine sd_asg c 9 rfl (by kspl_open loc) (.inl rfl) (Nat.le_of_ble_eq_true rfl) (ed_call c Fl (by decide) rfl (ad_cons (ed_var c 0 rfl (by kspl_open vis) rfl rfl rfl) (ad_cons (ed_var c 8 rfl (by kspl_open vis) rfl rfl rfl) (ad_cons (ed_var c 1 rfl (by kspl_open vis) rfl rfl rfl) ad_nil rfl) rfl) rfl) ⟨B, rows, ls, rfl, gB, gr, F.gl, rfl⟩ rfl rfl rfl) rfl ?_
      rw [h3]
      refine sd_ifF (td_cmp (ed_var c 9 rfl (by kspl_open vis) rfl rfl rfl) ed_non cd_isN (nomark _)) (sd_nil ?_)
      refine sd_append c 6 rfl (by kspl_open vis) (ed_callI c Fn (by decide) rfl (ei_var c 5 rfl (by kspl_open vis) rfl rfl rfl) (ad_cons (ed_ix (ed_var c 9 rfl (by kspl_open vis) rfl rfl rfl) ed_int rfl (fun _ _ => rfl)) ad_nil rfl) ⟨B, ls, st, fr, l, rfl, rfl, gB, F.gr, F.gl, hl, rfl⟩ rfl rfl rfl) rfl rfl (by rw [List.length_map]; exact Nat.lt_of_lt_of_le (show cuts.length < 1000000 by omega) (Nat.le_of_ble_eq_true rfl)) ?_ rfl rfl rfl rfl rfl rfl
      refine sd_nil (sd_weak (ls := [_, _, _, _, _, _, _, _, .no, .no]) ⟨.inr rfl, .inr rfl, .inr rfl, .inr rfl, .inr rfl, .inr rfl, .inr rfl, .inr rfl, .inl rfl, .inl rfl, trivial⟩ (sd_nil ⟨m', Nat.lt_succ_self _, many, cuts ++ [narrow B ls (st ++ fr) l], by rw [List.map_append]; rfl, I2, by rw [List.length_append, List.length_singleton]; omega, h5⟩))
  · have hb : (B.bi.length : Int) < many := by have := of_decide_eq_false hb; omega
    cases hf with
    | more h1 => omega
    | good h1 => omega
    | cut h1 => omega
    | stop h =>
      refine sd_freeze 6 rfl ?_
      exact sd_raise1 c Ex (by decide) rfl (ed_var c 6 rfl (by kspl_open vis) rfl rfl rfl) rfl rfl (hn rfl _)
theorem ok_fewest (M : Md K mg) (E : Exs K mg aPostError aBadBook aNoOffice aBadPosting aNoPosting) : FnX P w K mg base "fewest" ["book", "letters", "start", "gone", "now"] 10 (spPX K R_fewest (Rx_fewest aNoPosting)) := by
  refine fn_sdX (N := ["book", "letters", "start", "gone", "now", "ground", "cuts", "many", "rows", "failing"]) M.d_fewest ⟨rfl, rfl, rfl, by decide +kernel, rfl, by decide +kernel, by decide +kernel⟩ (fun ds d ⟨_, _, _, _, _, _, _, _, _, I, _⟩ => by rw [I.e]; rfl) (fun ds cls fs ⟨_, _, _, _, _, _, _, _, I, _⟩ => by rw [I.e]; rfl) (by decide) (fun X c _ ds d hR => ?_) (fun X c _ ds cls fs hR => ?_)
  · obtain ⟨B, ls, start, gone, now, m, rows, mm, cc, I, hF, rfl⟩ := hR
    exact few_body M E c I hF (fun r e ks => by cases e; rfl) (fun e => by cases e)
  · obtain ⟨B, ls, start, gone, now, m, mm, cc, I, hF, rfl, rfl⟩ := hR
    exact few_body M E c I hF (fun r e ks => by cases e) (fun e ks => ⟨rfl, rfl⟩)
end
end
end K
namespace K
open PySem L2 Z
section
variable {P : Program} {w : World} {K : PySem.W.Frag} {mg : Str → Option Value} {base : Heap} [LamC]
/-! ### the law's own look at cuts and at what is kept -/
structure LtrS (B : Book) (rows : List R3) (ls : List Ltr) : Prop where
  at_ : ∀ t ∈ ls, GoodLtr B t ∧ SmallT rows t.1 ∧ t.1.length ≤ 1000
  len : ls.length ≤ 1000
theorem LtrS.sub {B : Book} {rows rows' : List R3} {ls : List Ltr} (h : LtrS B rows ls) (s : ∀ r ∈ rows', r ∈ rows) : LtrS B rows' ls := ⟨fun t ht => by
  obtain ⟨a, b, c⟩ := h.at_ t ht
  exact ⟨a, ⟨fun r hr => b.rt r (s r hr), b.bt⟩, c⟩, h.len⟩
def lostL (rows : List R3) : List Int := -1 :: rows.map (·.1)
noncomputable def keptB (B : Book) (rows : List R3) (ls : List Ltr) : Bool := !(lostL rows).any fun b => ls.any (fails B (withoutF rows b))
def R_law_kept (ds : List PyData) (d : PyData) : Prop := ∃ B rows ls, ds = [eBook B, .list (List.map eR3 rows), .list (List.map eLtr ls)] ∧ Good B ∧ GoodRows B rows ∧ LtrS B rows ls ∧ d = .bool (keptB B rows ls)
theorem any_at {α : Type} {p : α → Bool} {xs : List α} {i : Nat} {x : α} (h : xs[i]? = some x) (hp : p x = true) : xs.any p = true := List.any_eq_true.mpr ⟨x, List.mem_of_getElem? h, hp⟩
theorem ok_law_kept (M : Md K mg) : FnG P w K mg base "_law_kept" ["_law_book_here", "_law_rows_here", "_law_letters_here"] 4 (spP K R_law_kept) := by
  have Fc := ok_law_comes (P := P) (w := w) (base := base) M
  refine fn_sd (N := ["_law_book_here", "_law_rows_here", "_law_letters_here", "_law_lost", "_law_left", "_law_row", "_law_letter"]) M.d__law_kept ⟨rfl, rfl, rfl, by decide +kernel, rfl, by decide +kernel, by decide +kernel⟩ (fun ds d ⟨_, _, _, e, _⟩ => by rw [e]; rfl) (by decide) (fun X c ds d hR => ?_)
  obtain ⟨B, rows, ls, rfl, g, gr, hl, rfl⟩ := hR
  have rl := gr.len
  have lll := hl.len
  show SD X [.dat (eBook B), .dat (.list (rows.map eR3)), .dat (.list (ls.map eLtr)), .no, .no, .no, .no] _ _
  refine sd_forJ c (ds := (lostL rows).map PyData.int) (fun _ => [.dat (eBook B), .dat (.list (rows.map eR3)), .dat (.list (ls.map eLtr)), .no, .no, .no, .no]) (fun i => ∀ (j : Nat) (b : Int), j < i → (lostL rows)[j]? = some b → ls.any (fails B (withoutF rows b)) = false)
    (id_to (id_seq (ed_cat (ed_el (el_lst (ad_cons (un_minus ed_int) ad_nil rfl) (Nat.le_of_ble_eq_true rfl))) (ed_el (el_map c [("_law_row", 5)] (xs := rows) (enc := eR3) (fun r => PyData.int r.1) (by decide +kernel) rfl (id_seq (ed_var c 1 rfl (by kspl_open vis) rfl rfl rfl) rfl) (all1 ⟨_, rfl, .inl rfl⟩) (fun X' c2 => (gd_name c2 5 rfl (by kspl_open loc) (by kspl_open loc))) (Nat.lt_of_lt_of_le (show rows.length < 10000 by omega) (Nat.le_of_ble_eq_true rfl)) (fun r hr => ⟨_, rfl, fun X' c2 => (ed_ix (ed_var c2 5 rfl (by kspl_open vis) rfl rfl rfl) ed_int rfl (fun _ _ => rfl)), ⟨.inr rfl, .inr rfl, .inr rfl, .inr rfl, .inr rfl, .inl rfl, .inr rfl, trivial⟩⟩) (fun _ => rfl))) (by rw [List.length_map]; exact Nat.le_trans (show 1 + rows.length ≤ 10000 by omega) (Nat.le_of_ble_eq_true rfl))) rfl) (by unfold lostL; rw [List.map_cons, List.map_map]; rfl)) (gd_name c 3 rfl (by kspl_open loc) (by kspl_open loc)) ⟨.inr rfl, .inr rfl, .inr rfl, .inr rfl, .inr rfl, .inr rfl, .inr rfl, trivial⟩ (fun _ _ z => absurd z (Nat.not_lt_zero _)) (fun i d hd hj => ?_) (fun hj => ?_) (fun _ => rfl)
  · obtain ⟨b, hb, rfl⟩ := map_get hd
    refine ⟨_, rfl, ?_⟩
    show SD X [.dat (eBook B), .dat (.list (rows.map eR3)), .dat (.list (ls.map eLtr)), .dat (.int b), .no, .no, .no] _ _
    refine sd_asgL c 4 rfl (.inr rfl) (.inl rfl) (Nat.le_of_ble_eq_true rfl) (el_filter c [("_law_row", 5)] (xs := rows) (enc := eR3) (fun r => !decide (r.1 = b)) eR3 (by decide +kernel) rfl (id_seq (ed_var c 1 rfl (by kspl_open vis) rfl rfl rfl) rfl) (all1 ⟨_, rfl, .inl rfl⟩) (fun X' c2 => (gd_name c2 5 rfl (by kspl_open loc) (by kspl_open loc))) (Nat.lt_of_lt_of_le (show rows.length < 10000 by omega) (Nat.le_of_ble_eq_true rfl)) (fun r hr => ⟨_, rfl, fun X' c2 => ts_one (td_cmp (ed_ix (ed_var c2 5 rfl (by kspl_open vis) rfl rfl rfl) ed_int rfl (fun _ _ => rfl)) (ed_var c2 3 rfl (by kspl_open vis) rfl rfl rfl) cd_neI (nomark _)), ⟨.inr rfl, .inr rfl, .inr rfl, .inr rfl, .inr rfl, .inl rfl, .inr rfl, trivial⟩, fun _ X' c2 => (ed_var c2 5 rfl (by kspl_open vis) rfl rfl rfl)⟩) (fun _ => rfl)) (sw_cell2 (by rw [c.hs]; decide +kernel)) ?_
    refine sd_freeze 4 rfl ?_
    show SD X [.dat (eBook B), .dat (.list (rows.map eR3)), .dat (.list (ls.map eLtr)), .dat (.int b), .dat (.list ((withoutF rows b).map eR3)), .no, .no] _ _
    have gw := withoutF_good gr b
    have hw := hl.sub (rows' := withoutF rows b) fun r hr => (List.mem_filter.mp hr).1
    refine sd_if (td_to (td_cmp (ed_el (el_filter c [("_law_letter", 6)] (xs := ls) (enc := eLtr) (fails B (withoutF rows b)) eLtr (by decide +kernel) rfl (id_seq (ed_var c 2 rfl (by kspl_open vis) rfl rfl rfl) rfl) (all1 ⟨_, rfl, .inl rfl⟩) (fun X' c2 => (gd_name c2 6 rfl (by kspl_open loc) (by kspl_open loc))) (Nat.lt_of_lt_of_le (show ls.length < 10000 by omega) (Nat.le_of_ble_eq_true rfl)) (fun t ht => ⟨_, rfl, fun X' c2 => ts_one (td_not (td_val (ed_call c2 Fc (by decide) rfl (ad_cons (ed_var c2 0 rfl (by kspl_open vis) rfl rfl rfl) (ad_cons (ed_var c2 4 rfl (by kspl_open vis) rfl rfl rfl) (ad_cons (ed_var c2 6 rfl (by kspl_open vis) rfl rfl rfl) ad_nil rfl) rfl) rfl) ⟨B, withoutF rows b, t.1, _, t.2.1, t.2.2, rfl, rfl, g, gw, (hw.at_ t ht).1.1, (hw.at_ t ht).2.1, (hw.at_ t ht).2.2, (hw.at_ t ht).1.2, rfl⟩ rfl rfl rfl) (fun _ => rfl))), ⟨.inr rfl, .inr rfl, .inr rfl, .inr rfl, .inr rfl, .inr rfl, .inl rfl, trivial⟩, fun _ X' c2 => (ed_var c2 6 rfl (by kspl_open vis) rfl rfl rfl)⟩) (fun _ => rfl))) (ed_el (el_lst ad_nil (Nat.le_of_ble_eq_true rfl))) (cd_neD c (Shp.ok (n := 4) (.list (allM fun t _ => shp_Ltrg t)) (by decide)) (Shp.ok (n := 1) (.list allN) (by decide))) (nomark _)) (filter_any _ _ _)) (fun hb' => ?_) (fun hb' => ?_)
    · refine sd_ret ed_bl ?_
      unfold keptB
      rw [any_at (p := fun b => ls.any (fails B (withoutF rows b))) hb hb']
      rfl
    · exact sd_nil (sd_nil ⟨⟨.inr rfl, .inr rfl, .inr rfl, .inl rfl, .inl rfl, .inl rfl, .inl rfl, trivial⟩, prev_succ hj hb hb'⟩)
  · refine sd_ret ed_bl ?_
    rw [List.length_map] at hj
    have : (lostL rows).any (fun b => ls.any (fails B (withoutF rows b))) = false := any_false fun j b hb => hj j b (List.getElem?_eq_some_iff.mp hb).1 hb
    unfold keptB
    rw [this]
    rfl
theorem keptB_iff {B : Book} {rows : List R3} {ls : List Ltr} (gr : GoodRows B rows) : keptB B rows ls = (firstFail B rows ls).isNone := by
  have h0 : withoutF rows (-1) = rows := by
    unfold withoutF
    exact List.filter_eq_self.mpr fun r hr => by
      have := (gr.at_ r hr).1
      have : ¬ r.1 = -1 := by omega
      simpa using this
  have e : keptB B rows ls = true ↔ firstFail B rows ls = none := by
    have e1 : keptB B rows ls = true ↔ ∀ b ∈ lostL rows, ∀ t ∈ ls, comesBy B (withoutF rows b) t.1 t.2.1 t.2.2 = true := by
      unfold keptB
      rw [Bool.not_eq_true', List.any_eq_false]
      constructor
      · intro h b hb t ht
        have h1 := h b hb
        rw [Bool.not_eq_true, List.any_eq_false] at h1
        have h2 := h1 t ht
        unfold fails at h2
        simpa using h2
      · intro h b hb
        rw [Bool.not_eq_true, List.any_eq_false]
        intro t ht
        unfold fails
        rw [h b hb t ht]
        simp
    rw [e1, firstFail_none]
    constructor
    · intro h l hl t ht
      rcases List.mem_cons.mp hl with z | z
      · have := h (-1) (by unfold lostL; simp) t ht
        rw [h0] at this
        rw [z]; exact this
      · obtain ⟨r, hr, z⟩ := List.mem_map.mp z
        rw [← z]
        exact h r.1 (List.mem_cons_of_mem _ (List.mem_map.mpr ⟨r, hr, rfl⟩)) t ht
    · intro h b hb t ht
      rcases List.mem_cons.mp hb with z | z
      · rw [z, h0]
        exact h rows (by unfold lossesF; simp) t ht
      · obtain ⟨r, hr, z⟩ := List.mem_map.mp z
        rw [← z]
        exact h _ (List.mem_cons_of_mem _ (List.mem_map.mpr ⟨r, hr, rfl⟩)) t ht
  cases q : firstFail B rows ls with
  | none => rw [e.mpr q]; rfl
  | some _ =>
    cases q2 : keptB B rows ls with
    | true => rw [e.mp q2] at q; cases q
    | false => rfl
def R_law_has_two (ds : List PyData) (d : PyData) : Prop := ∃ rows cut, ds = [.list (List.map eR3 rows), .list (List.map eP2 cut)] ∧ rows.length ≤ 1000 ∧ d = .bool (two rows cut)
theorem ok_law_has_two (M : Md K mg) : FnG P w K mg base "_law_has_two" ["_law_rows_here", "_law_cut"] 1 (spP K R_law_has_two) := by
  refine fn_sd (N := ["_law_rows_here", "_law_cut", "_law_row"]) M.d__law_has_two ⟨rfl, rfl, rfl, by decide +kernel, rfl, by decide +kernel, by decide +kernel⟩ (fun ds d ⟨_, _, e, _⟩ => by rw [e]; rfl) (by decide) (fun X c ds d hR => ?_)
  obtain ⟨rows, cut, rfl, hl, rfl⟩ := hR
  show SD X [.dat (.list (rows.map eR3)), .dat (.list (cut.map eP2)), .no] _ _
  refine sd_ret (ed_to (ed_cmp (ed_callB c rfl M.b_len PySem.boot_len (ad_cons (ed_el (el_filter c [("_law_row", 2)] (xs := rows) (enc := eR3) (inCut cut) eR3 (by decide +kernel) rfl (id_seq (ed_var c 0 rfl (by kspl_open vis) rfl rfl rfl) rfl) (all1 ⟨_, rfl, .inl rfl⟩) (fun X' c2 => (gd_name c2 2 rfl (by kspl_open loc) (by kspl_open loc))) (Nat.lt_of_lt_of_le (show rows.length < 10000 by omega) (Nat.le_of_ble_eq_true rfl)) (fun r hr => ⟨_, rfl, fun X' c2 => ts_one (td_to (td_cmp (ed_slT (ed_var c2 2 rfl (by kspl_open vis) rfl rfl rfl) po_no (po_yes ed_int)) (ed_var c2 1 rfl (by kspl_open vis) rfl rfl rfl) (cd_inL c2 (da := eP2 (pairOf r)) ((shp_P2g _).ok (by decide)) (shp_P2s cut)) (by with_unfolding_all rfl)) (by rw [any_P2g]; rfl)), ⟨.inr rfl, .inr rfl, .inl rfl, trivial⟩, fun _ X' c2 => (ed_var c2 2 rfl (by kspl_open vis) rfl rfl rfl)⟩) (fun _ => rfl))) ad_nil rfl) cl_lenL (by decide) rfl rfl rfl) ed_int cd_gt (nomark _)) (by
    rw [List.length_map]
    unfold two
    congr 1
    exact decide_eq_decide.mpr ⟨fun h => by omega, fun h => by omega⟩)) rfl
def R_law_is_cut (ds : List PyData) (d : PyData) : Prop := ∃ B ls rows cut, ds = [eBook B, .list (List.map eLtr ls), .list (List.map eR3 rows), .list (List.map eP2 cut)] ∧ Good B ∧ GoodRows B rows ∧ LtrS B rows ls ∧ cut.length ≤ 1000 ∧ d = .bool (isCut B ls rows cut)
theorem ok_law_is_cut (M : Md K mg) : FnG P w K mg base "_law_is_cut" ["_law_book_here", "_law_letters_here", "_law_rows_here", "_law_cut"] 4 (spP K R_law_is_cut) := by
  have Fc := ok_law_comes (P := P) (w := w) (base := base) M
  refine fn_sd (N := ["_law_book_here", "_law_letters_here", "_law_rows_here", "_law_cut", "_law_left", "_law_pair", "_law_row", "_law_letter"]) M.d__law_is_cut ⟨rfl, rfl, rfl, by decide +kernel, rfl, by decide +kernel, by decide +kernel⟩ (fun ds d ⟨_, _, _, _, e, _⟩ => by rw [e]; rfl) (by decide) (fun X c ds d hR => ?_)
  obtain ⟨B, ls, rows, cut, rfl, g, gr, hl, hcl, rfl⟩ := hR
  have rl := gr.len
  have lll := hl.len
  show SD X [.dat (eBook B), .dat (.list (ls.map eLtr)), .dat (.list (rows.map eR3)), .dat (.list (cut.map eP2)), .no, .no, .no, .no] _ _
  have hk : ((rows.map fun r => eP2 (pairOf r))) = (rows.map pairOf).map eP2 := by rw [List.map_map]; rfl
  refine sd_if (td_to (td_cmp (ed_el (el_filter c [("_law_pair", 5)] (xs := cut) (enc := eP2) (fun p => !decide (p ∈ rows.map pairOf)) eP2 (by decide +kernel) rfl (id_seq (ed_var c 3 rfl (by kspl_open vis) rfl rfl rfl) rfl) (all1 ⟨_, rfl, .inl rfl⟩) (fun X' c2 => (gd_name c2 5 rfl (by kspl_open loc) (by kspl_open loc))) (Nat.lt_of_lt_of_le (show cut.length < 10000 by omega) (Nat.le_of_ble_eq_true rfl)) (fun p hp => ⟨_, rfl, fun X' c2 => ts_one (td_to (td_cmp (ed_var c2 5 rfl (by kspl_open vis) rfl rfl rfl) (ed_to (ed_el (el_map c2 [("_law_row", 6)] (xs := rows) (enc := eR3) (fun r => eP2 (pairOf r)) (by decide +kernel) rfl (id_seq (ed_var c2 2 rfl (by kspl_open vis) rfl rfl rfl) rfl) (all1 ⟨_, rfl, .inl rfl⟩) (fun X' c3 => (gd_name c3 6 rfl (by kspl_open loc) (by kspl_open loc))) (Nat.lt_of_lt_of_le (show rows.length < 10000 by omega) (Nat.le_of_ble_eq_true rfl)) (fun r hr => ⟨_, rfl, fun X' c3 => ed_to (d := .tuple (cutD [.int r.1, .int r.2.1, .int r.2.2] none (some 2))) (ed_slT (ed_var c3 6 rfl (by kspl_open vis) rfl rfl rfl) po_no (po_yes ed_int)) rfl, ⟨.inr rfl, .inr rfl, .inr rfl, .inr rfl, .inr rfl, .inr rfl, .inl rfl, .inr rfl, trivial⟩⟩) (fun _ => rfl))) (congrArg PyData.list hk)) (cd_niL c2 (da := eP2 p) ((shp_P2g _).ok (by decide)) (shp_P2s _)) (by with_unfolding_all rfl)) (by rw [any_P2g])), ⟨.inr rfl, .inr rfl, .inr rfl, .inr rfl, .inr rfl, .inl rfl, .inr rfl, .inr rfl, trivial⟩, fun _ X' c2 => (ed_var c2 5 rfl (by kspl_open vis) rfl rfl rfl)⟩) (fun _ => rfl))) (ed_el (el_lst ad_nil (Nat.le_of_ble_eq_true rfl))) (cd_neD c (shp_P2s _) (Shp.ok (n := 1) (.list allN) (by decide))) (nomark _)) (filter_any _ _ _)) (fun hb => ?_) (fun hb => ?_)
  · refine sd_ret ed_bl ?_
    unfold isCut
    rw [hb]
    rfl
  · refine sd_nil ?_
    refine sd_asgL c 4 rfl (.inr rfl) (.inl rfl) (Nat.le_of_ble_eq_true rfl) (el_filter c [("_law_row", 6)] (xs := rows) (enc := eR3) (fun r => !inCut cut r) eR3 (by decide +kernel) rfl (id_seq (ed_var c 2 rfl (by kspl_open vis) rfl rfl rfl) rfl) (all1 ⟨_, rfl, .inl rfl⟩) (fun X' c2 => (gd_name c2 6 rfl (by kspl_open loc) (by kspl_open loc))) (Nat.lt_of_lt_of_le (show rows.length < 10000 by omega) (Nat.le_of_ble_eq_true rfl)) (fun r hr => ⟨_, rfl, fun X' c2 => ts_one (td_to (td_cmp (ed_slT (ed_var c2 6 rfl (by kspl_open vis) rfl rfl rfl) po_no (po_yes ed_int)) (ed_var c2 3 rfl (by kspl_open vis) rfl rfl rfl) (cd_niL c2 (da := eP2 (pairOf r)) ((shp_P2g _).ok (by decide)) (shp_P2s cut)) (by with_unfolding_all rfl)) (by rw [any_P2g]; rfl)), ⟨.inr rfl, .inr rfl, .inr rfl, .inr rfl, .inr rfl, .inr rfl, .inl rfl, .inr rfl, trivial⟩, fun _ X' c2 => (ed_var c2 6 rfl (by kspl_open vis) rfl rfl rfl)⟩) (fun _ => rfl)) (sw_cell2 (by rw [c.hs]; decide +kernel)) ?_
    refine sd_freeze 4 rfl ?_
    show SD X [.dat (eBook B), .dat (.list (ls.map eLtr)), .dat (.list (rows.map eR3)), .dat (.list (cut.map eP2)), .dat (.list ((leftC rows cut).map eR3)), .no, .no, .no] _ _
    have gl' := left_good gr cut
    have hw := hl.sub (rows' := leftC rows cut) fun r hr => (List.mem_filter.mp hr).1
    refine sd_ret (ed_to (ed_cmp (ed_el (el_filter c [("_law_letter", 7)] (xs := ls) (enc := eLtr) (fails B (leftC rows cut)) eLtr (by decide +kernel) rfl (id_seq (ed_var c 1 rfl (by kspl_open vis) rfl rfl rfl) rfl) (all1 ⟨_, rfl, .inl rfl⟩) (fun X' c2 => (gd_name c2 7 rfl (by kspl_open loc) (by kspl_open loc))) (Nat.lt_of_lt_of_le (show ls.length < 10000 by omega) (Nat.le_of_ble_eq_true rfl)) (fun t ht => ⟨_, rfl, fun X' c2 => ts_one (td_not (td_val (ed_call c2 Fc (by decide) rfl (ad_cons (ed_var c2 0 rfl (by kspl_open vis) rfl rfl rfl) (ad_cons (ed_var c2 4 rfl (by kspl_open vis) rfl rfl rfl) (ad_cons (ed_var c2 7 rfl (by kspl_open vis) rfl rfl rfl) ad_nil rfl) rfl) rfl) ⟨B, leftC rows cut, t.1, _, t.2.1, t.2.2, rfl, rfl, g, gl', (hw.at_ t ht).1.1, (hw.at_ t ht).2.1, (hw.at_ t ht).2.2, (hw.at_ t ht).1.2, rfl⟩ rfl rfl rfl) (fun _ => rfl))), ⟨.inr rfl, .inr rfl, .inr rfl, .inr rfl, .inr rfl, .inr rfl, .inr rfl, .inl rfl, trivial⟩, fun _ X' c2 => (ed_var c2 7 rfl (by kspl_open vis) rfl rfl rfl)⟩) (fun _ => rfl))) (ed_el (el_lst ad_nil (Nat.le_of_ble_eq_true rfl))) (cd_neD c (Shp.ok (n := 4) (.list (allM fun t _ => shp_Ltrg t)) (by decide)) (Shp.ok (n := 1) (.list allN) (by decide))) (nomark _)) (by rw [filter_any])) ?_
    show PyData.bool _ = .bool _
    unfold isCut
    rw [hb]
    rfl
end
end K
namespace K
open PySem L2 Z
section
variable {P : Program} {w : World} {K : PySem.W.Frag} {mg : Str → Option Value} {base : Heap} [LamC]
-- use Y8
/-! ### the law's letters, all rows, what is told -/
def lawLtr (B : Book) (_ : Nat) (r : Rg) : Ltr × Rg :=
  let r2 := nxR (lawBeg B r).2 (B.n : Int)
  let r3 := nxR r2 2
  (((lawBeg B r).1, nxV (lawBeg B r).2 (B.n : Int), ((lawBeg B r).1.getD 0 (0, 0)).2 + nxV r3 (pick2 20 90 (nxV r2 2))), nxR r3 (pick2 20 90 (nxV r2 2)))
def lawLtrs (B : Book) (r : Rg) : List Ltr × Rg := iterI (lawLtr B) (nxV r 3).toNat (nxR r 3)
theorem lawLtrs_at {B : Book} (g : Good B) {r : Rg} : ∀ t ∈ (lawLtrs B r).1, GoodLtr B t ∧ (∀ p ∈ t.1, p.2 ≤ 110) ∧ t.1.length ≤ 1000 := iterI_mem (fun i r => by
  have n2 := g.n2
  refine ⟨⟨lawBeg_good g, nxV_off rfl (by omega)⟩, fun p hp => ?_, ?_⟩
  · have := (lawBeg_at g p hp).2.2
    omega
  · show (lawBeg B r).1.length ≤ 1000
    rw [lawBeg_len]
    have := begN_in (r := r)
    omega) _ _
theorem lawLtrs_len {B : Book} {r : Rg} : (lawLtrs B r).1.length ≤ 2 := by
  have h0 := nxV_0 (r := r) (m := 3) (by decide)
  have h1 := nxV_1 (r := r) (m := 3) (by decide)
  unfold lawLtrs
  rw [iterI_len]
  omega
def R_law_letters (r : Rg) (ds : List PyData) (r2 : Rg) (d : PyData) : Prop := ∃ B, ds = [eBook B] ∧ Good B ∧ r2 = (lawLtrs B r).2 ∧ d = .list ((lawLtrs B r).1.map eLtr)
theorem ok_law_letters (M : Md K mg) : FnG P w K mg base "_law_letters" ["_law_h", "_law_book_here"] 3 (spR K R_law_letters) := by
  have Fn := ok_next (P := P) (w := w) (base := base) M
  have Fb := ok_law_begins (P := P) (w := w) (base := base) M
  refine fn_sdR (N := ["_law_h", "_law_book_here", "_law_found", "_law_k", "_law_begins_here", "_law_goal"]) M.d__law_letters ⟨rfl, rfl, rfl, by decide +kernel, rfl, by decide +kernel, by decide +kernel⟩ (fun r ds r2 d ⟨_, e, _⟩ => by rw [e]; rfl) (by decide) (fun X c A A' r ds r2 d hR => ?_)
  obtain ⟨B, rfl, g, rfl, rfl⟩ := hR
  have n2 := g.n2
  have n6 := g.n6
  have q0 := nxV_0 (r := r) (m := 3) (by decide)
  have q1 := nxV_1 (r := r) (m := 3) (by decide)
  show SD X [.rng A A' r, .dat (eBook B), .no, .no, .no, .no] _ _
  refine sd_asgL c 2 rfl (.inl rfl) (.inl rfl) (Nat.le_of_ble_eq_true rfl) (el_lst ad_nil (Nat.le_of_ble_eq_true rfl)) rfl ?_
  refine sd_for c (fun i => [.rng A A' (iterI (lawLtr B) i (nxR r 3)).2, .dat (eBook B), .own ((iterI (lawLtr B) i (nxR r 3)).1.map eLtr), .no, .no, .no]) (id_range c rfl M.b_range (ed_callR c Fn (by decide) rfl 0 rfl (by kspl_open vis) rfl (ad_cons ed_int ad_nil rfl) rfl ⟨3, rfl, by decide, by decide, rfl, rfl⟩ rfl rfl rfl rfl rfl) ⟨by omega, by omega⟩ rfl) (gd_name c 3 rfl (by kspl_open loc) (by kspl_open loc)) Wk.rfl' (fun i d hd => ?_) ?_ (fun _ => rfl)
  · obtain ⟨hi, rfl⟩ := rngD_inv hd
    refine ⟨_, rfl, ?_⟩
    have hl := iterI_len (lawLtr B) i (nxR r 3)
    show SD X [.rng A A' (iterI (lawLtr B) i (nxR r 3)).2, .dat (eBook B), .own ((iterI (lawLtr B) i (nxR r 3)).1.map eLtr), .dat (.int i), .no, .no] _ _
    refine SD.nxW (L' := [.rng A A' (lawLtr B i (iterI (lawLtr B) i (nxR r 3)).2).2, .dat (eBook B), .own ((iterI (lawLtr B) i (nxR r 3)).1.map eLtr ++ [eLtr (lawLtr B i (iterI (lawLtr B) i (nxR r 3)).2).1]), .no, .no, .no]) ?_ ?_
    · show [_, _, SK.own (((iterI (lawLtr B) i (nxR r 3)).1 ++ [(lawLtr B i (iterI (lawLtr B) i (nxR r 3)).2).1]).map eLtr), _, _, _] = _
      rw [List.map_append]
      rfl
    generalize (iterI (lawLtr B) i (nxR r 3)).2 = s at *
    generalize (iterI (lawLtr B) i (nxR r 3)).1 = xs at *
    refine sd_asg c 4 rfl (by kspl_open loc) (.inl rfl) (Nat.le_of_ble_eq_true rfl) (ed_callR c Fb (by decide) rfl 0 rfl (by kspl_open vis) rfl (ad_cons (ed_var c 1 rfl (by kspl_open vis) rfl rfl rfl) ad_nil rfl) rfl ⟨B, rfl, g, rfl, rfl⟩ rfl rfl rfl rfl rfl) rfl ?_
    have hn : ((B.fl.map eInts).length : Int) = (B.n : Int) := by rw [List.length_map]
    refine sd_asg c 5 rfl (by kspl_open loc) (.inl rfl) (Nat.le_of_ble_eq_true rfl) (ed_callR c Fn (by decide) rfl 0 rfl (by kspl_open vis) rfl (ad_cons (ed_callB c rfl M.b_len PySem.boot_len (ad_cons (ed_ix (ed_var c 1 rfl (by kspl_open vis) rfl rfl rfl) ed_int rfl (fun _ _ => rfl)) ad_nil rfl) (by kspl_open cl) (by decide) rfl rfl rfl) ad_nil rfl) rfl ⟨(B.n : Int), by rw [hn], by omega, by omega, rfl, rfl⟩ rfl rfl rfl rfl rfl) rfl ?_
    show SD X [.rng A A' (nxR (lawBeg B s).2 (B.n : Int)), .dat (eBook B), .own (xs.map eLtr), .dat (.int i), .dat (.tuple ((lawBeg B s).1.map eP2)), .dat (.int (nxV (lawBeg B s).2 (B.n : Int)))] _ _
    have hbl : 0 < (lawBeg B s).1.length := by
      rw [lawBeg_len]
      have := begN_in (r := s)
      omega
    have h1 : lawLtr B i s = (((lawBeg B s).1, nxV (lawBeg B s).2 (B.n : Int), ((lawBeg B s).1.getD 0 (0, 0)).2 + nxV (nxR (nxR (lawBeg B s).2 (B.n : Int)) 2) (pick2 20 90 (nxV (nxR (lawBeg B s).2 (B.n : Int)) 2))), nxR (nxR (nxR (lawBeg B s).2 (B.n : Int)) 2) (pick2 20 90 (nxV (nxR (lawBeg B s).2 (B.n : Int)) 2))) := rfl
    rw [h1]
    generalize nxR (lawBeg B s).2 (B.n : Int) = s2
    generalize nxV (lawBeg B s).2 (B.n : Int) = goal
    generalize (lawBeg B s).1 = bs at hbl ⊢
    have hp : 0 < pick2 20 90 (nxV s2 2) ∧ pick2 20 90 (nxV s2 2) < 1000 := pick2_in (p := fun z => 0 < z ∧ z < 1000) (by decide) (by decide)
    have hb0 : ixD (.tuple (bs.map eP2)) 0 = some (eP2 (bs.getD 0 (0, 0))) := by
      show atI (bs.map eP2) 0 = _
      rw [atI_map, atI_of (Int.le_refl _) (by omega) (0, 0)]
      rfl
    refine sd_append c 2 rfl (by kspl_open vis) (ed_tup (ad_cons (ed_var c 4 rfl (by kspl_open vis) rfl rfl rfl) (ad_cons (ed_var c 5 rfl (by kspl_open vis) rfl rfl rfl) (ad_cons (ed_bin (ed_ix (ed_ix (ed_var c 4 rfl (by kspl_open vis) rfl rfl rfl) ed_int hb0 (fun _ _ => rfl)) ed_int rfl (fun _ _ => rfl)) (ed_callR c Fn (by decide) rfl 0 rfl (by kspl_open vis) rfl (ad_cons (ed_ix (ed_el (el_lst (ad_cons ed_int (ad_cons ed_int ad_nil rfl) rfl) (Nat.le_of_ble_eq_true rfl))) (ed_callR c Fn (by decide) rfl 0 rfl (by kspl_open vis) rfl (ad_cons ed_int ad_nil rfl) rfl ⟨2, rfl, by decide, by decide, rfl, rfl⟩ rfl rfl rfl rfl rfl) (ix_pick2 (nxV_0 (by decide)) (nxV_1 (by decide))) (fun _ _ => rfl)) ad_nil rfl) rfl ⟨_, rfl, hp.1, by omega, rfl, rfl⟩ rfl rfl rfl rfl rfl) (by kspl_open bd)) ad_nil rfl) rfl) rfl) (Nat.le_of_ble_eq_true rfl)) rfl rfl (by rw [List.length_map, hl]; exact Nat.lt_of_lt_of_le (show i < 1000 by omega) (Nat.le_of_ble_eq_true rfl)) ?_ rfl rfl rfl rfl rfl rfl
    exact sd_nil ⟨.inr rfl, .inr rfl, .inr rfl, .inl rfl, .inl rfl, .inl rfl, trivial⟩
  · rw [rngD_len]
    exact sd_retOwn c 2 rfl (.inl rfl) rfl rfl rfl ⟨rfl, rfl⟩
theorem allF_le {st fr : List R3} {k : Nat} : ∀ {n : Nat}, k ≤ n → (allF st fr k).length ≤ (allF st fr n).length
  | 0, h => by rw [Nat.le_zero.mp h]; exact Nat.le_refl _
  | n + 1, h => by
    rcases Nat.lt_or_ge n k with z | z
    · rw [show k = n + 1 by omega]; exact Nat.le_refl _
    · refine Nat.le_trans (allF_le z) ?_
      show _ ≤ (allF st fr n ++ _).length
      rw [List.length_append]
      exact Nat.le_add_right _ _
def moreF (fr : List R3) (k : Nat) (found : List (List R3)) : List (List R3) := found.flatMap fun rows => (fr.filter fun r => decide (r.1 = (k : Int))).map fun r => rows ++ [r]
theorem moreF_take {fr : List R3} {k i : Nat} {found : List (List R3)} {rows : List R3} (h : found[i]? = some rows) : moreF fr k (found.take (i + 1)) = moreF fr k (found.take i) ++ (fr.filter fun r => decide (r.1 = (k : Int))).map fun r => rows ++ [r] := by
  unfold moreF
  rw [List.take_succ, h, List.flatMap_append]
  show _ ++ List.flatMap _ [rows] = _
  rw [List.flatMap_singleton]
theorem moreF_sub {fr : List R3} {k i : Nat} {found : List (List R3)} : (moreF fr k (found.take i)).length ≤ (moreF fr k found).length := by
  have : moreF fr k found = moreF fr k (found.take i) ++ moreF fr k (found.drop i) := by
    unfold moreF
    rw [← List.flatMap_append, List.take_append_drop]
  rw [this, List.length_append]
  exact Nat.le_add_right _ _
def R_law_all (ds : List PyData) (d : PyData) : Prop := ∃ st fr, ∃ n : Nat, ds = [.list (List.map eR3 st), .list (List.map eR3 fr), .int n, .int 9] ∧ n ≤ 6 ∧ st.length ≤ 900 ∧ fr.length ≤ 1000 ∧ (allF st fr n).length ≤ 900000 ∧ d = .list ((allF st fr n).map eRows)
theorem ok_law_all (M : Md K mg) : FnG P w K mg base "_law_all" ["_law_start_rows", "_law_free", "_law_many", "_law_most"] 1 (spP K R_law_all) := by
  refine fn_sd (N := ["_law_start_rows", "_law_free", "_law_many", "_law_most", "_law_found", "_law_bird", "_law_more", "_law_rows_here", "_law_row"]) M.d__law_all ⟨rfl, rfl, rfl, by decide +kernel, rfl, by decide +kernel, by decide +kernel⟩ (fun ds d ⟨_, _, _, e, _⟩ => by rw [e]; rfl) (by decide) (fun X c ds d hR => ?_)
  obtain ⟨st, fr, n, rfl, hn, hsl, hfl, hal, rfl⟩ := hR
  show SD X [.dat (.list (st.map eR3)), .dat (.list (fr.map eR3)), .dat (.int n), .dat (.int 9), .no, .no, .no, .no, .no] _ _
  refine sd_asg c 4 rfl (by kspl_open loc) (.inl rfl) (Nat.le_of_ble_eq_true rfl) (ed_el (el_lst (ad_cons (ed_var c 0 rfl (by kspl_open vis) rfl rfl rfl) ad_nil rfl) (Nat.le_of_ble_eq_true rfl))) rfl ?_
  refine sd_for c (fun i => [.dat (.list (st.map eR3)), .dat (.list (fr.map eR3)), .dat (.int n), .dat (.int 9), .dat (.list ((allF st fr i).map eRows)), .no, .no, .no, .no]) (id_range c rfl M.b_range (ed_var c 2 rfl (by kspl_open vis) rfl rfl rfl) ⟨by omega, by omega⟩ rfl) (gd_name c 5 rfl (by kspl_open loc) (by kspl_open loc)) ⟨.inr rfl, .inr rfl, .inr rfl, .inr rfl, .inr rfl, .inr rfl, .inr rfl, .inr rfl, .inr rfl, trivial⟩ (fun i d hd => ?_) ?_ (fun _ => rfl)
  · obtain ⟨hi, rfl⟩ := rngD_inv hd
    refine ⟨_, rfl, ?_⟩
    have hal2 : (allF st fr (i + 1)).length ≤ 900000 := Nat.le_trans (allF_le (by omega)) hal
    have e1 : allF st fr (i + 1) = allF st fr i ++ moreF fr i (allF st fr i) := rfl
    have hlen : ∀ rows ∈ allF st fr i, rows.length ≤ st.length + i := fun rows hr => by
      obtain ⟨ext, h1, h2⟩ := allF_mem.mp hr
      have := goOn_len (n := i) (by omega) h2
      rw [h1, List.length_append]
      omega
    rw [e1, List.length_append] at hal2
    rw [e1]
    show SD X [.dat (.list (st.map eR3)), .dat (.list (fr.map eR3)), .dat (.int n), .dat (.int 9), .dat (.list ((allF st fr i).map eRows)), .dat (.int i), .no, .no, .no] _ _
    generalize allF st fr i = fd at hlen hal2 ⊢
    refine sd_asg c 6 rfl (by kspl_open loc) (.inl rfl) (Nat.le_of_ble_eq_true rfl) (ed_el (el_lst ad_nil (Nat.le_of_ble_eq_true rfl))) rfl ?_
    refine sd_for c (fun j => [.dat (.list (st.map eR3)), .dat (.list (fr.map eR3)), .dat (.int n), .dat (.int 9), .dat (.list (fd.map eRows)), .dat (.int i), .dat (.list ((moreF fr i (fd.take j)).map eRows)), .no, .no]) (id_seq (ed_var c 4 rfl (by kspl_open vis) rfl rfl rfl) rfl) (gd_name c 7 rfl (by kspl_open loc) (by kspl_open loc)) ⟨.inr rfl, .inr rfl, .inr rfl, .inr rfl, .inr rfl, .inr rfl, .inr rfl, .inr rfl, .inr rfl, trivial⟩ (fun j d hd => ?_) ?_ (fun _ => rfl)
    · obtain ⟨rows, hr, rfl⟩ := map_get hd
      refine ⟨_, rfl, ?_⟩
      have hrl := hlen rows (List.mem_of_getElem? hr)
      have hml := moreF_sub (fr := fr) (k := i) (i := j) (found := fd)
      show SD X [.dat (.list (st.map eR3)), .dat (.list (fr.map eR3)), .dat (.int n), .dat (.int 9), .dat (.list (fd.map eRows)), .dat (.int i), .dat (.list ((moreF fr i (fd.take j)).map eRows)), .dat (eRows rows), .no] _ _
      refine SD.nxW (L' := [.dat (.list (st.map eR3)), .dat (.list (fr.map eR3)), .dat (.int n), .dat (.int 9), .dat (.list (fd.map eRows)), .dat (.int i), .dat (.list ((moreF fr i (fd.take j)).map eRows ++ ((fr.filter fun r => decide (r.1 = (i : Int))).map fun r => eRows (rows ++ [r])))), .no, .no]) (by rw [moreF_take hr, List.map_append, List.map_map]; rfl) ?_
      refine sd_ifT (td_to (td_cmp (ed_bin (ed_callB c rfl M.b_len PySem.boot_len (ad_cons (ed_var c 7 rfl (by kspl_open vis) rfl rfl rfl) ad_nil rfl) cl_lenL (by decide) rfl rfl rfl) (ed_callB c rfl M.b_len PySem.boot_len (ad_cons (ed_var c 0 rfl (by kspl_open vis) rfl rfl rfl) ad_nil rfl) (by kspl_open cl) (by decide) rfl rfl rfl) (by kspl_open bd)) (ed_var c 3 rfl (by kspl_open vis) rfl rfl rfl) (by kspl_open cd) (nomark _)) (decT (by rw [List.length_map, List.length_map]; omega))) ?_
      have hfl' : (fr.filter fun r => decide (r.1 = (i : Int))).length ≤ 1000 := Nat.le_trans (List.length_filter_le _ _) hfl
      refine sd_asg c 6 rfl (by kspl_open loc) (.inl rfl) (Nat.le_of_ble_eq_true rfl) (ed_cat (ed_var c 6 rfl (by kspl_open vis) rfl rfl rfl) (ed_el (el_filter c [("_law_row", 8)] (xs := fr) (enc := eR3) (fun r => decide (r.1 = (i : Int))) (fun r => eRows (rows ++ [r])) (by decide +kernel) rfl (id_seq (ed_var c 1 rfl (by kspl_open vis) rfl rfl rfl) rfl) (all1 ⟨_, rfl, .inl rfl⟩) (fun X' c2 => (gd_name c2 8 rfl (by kspl_open loc) (by kspl_open loc))) (Nat.lt_of_lt_of_le (show fr.length < 10000 by omega) (Nat.le_of_ble_eq_true rfl)) (fun r hr' => ⟨_, rfl, fun X' c2 => ts_one (td_cmp (ed_ix (ed_var c2 8 rfl (by kspl_open vis) rfl rfl rfl) ed_int rfl (fun _ _ => rfl)) (ed_var c2 5 rfl (by kspl_open vis) rfl rfl rfl) cd_eqI (nomark _)), ⟨.inr rfl, .inr rfl, .inr rfl, .inr rfl, .inr rfl, .inr rfl, .inr rfl, .inr rfl, .inl rfl, trivial⟩, fun _ X' c2 => ed_to (d := .list (rows.map eR3 ++ [eR3 r])) (ed_cat (ed_var c2 7 rfl (by kspl_open vis) rfl rfl rfl) (ed_el (el_lst (ad_cons (ed_var c2 8 rfl (by kspl_open vis) rfl rfl rfl) ad_nil rfl) (Nat.le_of_ble_eq_true rfl))) (by rw [List.length_map]; exact Nat.le_trans (show rows.length + 1 ≤ 10000 by omega) (Nat.le_of_ble_eq_true rfl))) (by unfold eRows; rw [← List.map_singleton (f := eR3), ← List.map_append])⟩) (fun _ => rfl))) (by rw [List.length_map, List.length_map]; exact Nat.le_trans (show _ ≤ 2000000 by omega) (Nat.le_of_ble_eq_true rfl))) rfl ?_
      exact sd_nil (sd_nil ⟨.inr rfl, .inr rfl, .inr rfl, .inr rfl, .inr rfl, .inr rfl, .inr rfl, .inl rfl, .inl rfl, trivial⟩)
    · rw [List.length_map, List.take_length]
      refine sd_asg c 4 rfl (by kspl_open loc) (.inl rfl) (Nat.le_of_ble_eq_true rfl) (ed_to (ed_cat (ed_var c 4 rfl (by kspl_open vis) rfl rfl rfl) (ed_var c 6 rfl (by kspl_open vis) rfl rfl rfl) (by rw [List.length_map, List.length_map]; exact Nat.le_trans (show _ ≤ 2000000 by omega) (Nat.le_of_ble_eq_true rfl))) (by rw [← List.map_append])) rfl ?_
      exact sd_nil ⟨.inr rfl, .inr rfl, .inr rfl, .inr rfl, .inr rfl, .inl rfl, .inl rfl, .inl rfl, .inl rfl, trivial⟩
  · rw [rngD_len, Int.toNat_natCast]
    exact sd_ret (ed_var c 4 rfl (by kspl_open vis) rfl rfl rfl) rfl
end
end K
namespace K
open PySem L2 Z
section
variable {P : Program} {w : World} {K : PySem.W.Frag} {mg : Str → Option Value} {base : Heap} [LamC]
-- use Y8
/-! ### the law's case -/
structure CaseOk (B : Book) (start : Posting) (gone : List Int) (now : Int) (ls : List Ltr) : Prop where
  g : Good B
  gp : GoodPost B start
  pt : ∀ r ∈ rowsOf start, r.2.2 ≤ 110
  gl : gone.length ≤ 1000
  n0 : 0 ≤ now
  n1 : now ≤ 50
  lt : ∀ t ∈ ls, GoodLtr B t ∧ (∀ p ∈ t.1, p.2 ≤ 110) ∧ t.1.length ≤ 1000
  ll : ls.length ≤ 1000
theorem ca_less {B : Book} (g : Good B) {ca : List Row} (h : ∀ x ∈ ca, x ∈ B.ca) (hl : ca.length ≤ 12) : Good ⟨B.fl, B.st, ca, B.bi⟩ :=
  ⟨g.n2, g.n6, g.rows, g.vals, fun r hr => let q := g.st r hr; ⟨q.a, q.b, q.ne, q.h0, q.h1, q.h2⟩, g.stl, fun r hr => let q := g.ca r (h r hr); ⟨q.a, q.b, q.ne, q.h0, q.h1, q.h2⟩, hl, g.bi, g.bil⟩
theorem post_none {B : Book} {n : Nat} (h : n = B.bi.length) : GoodPost B (List.replicate n none) := ⟨by rw [List.length_replicate, h], fun i o t e => by
  have := List.mem_of_getElem? e
  rw [List.mem_replicate] at this
  cases this.2⟩
theorem rows_none {n : Nat} : ∀ r ∈ rowsOf (List.replicate n none), r.2.2 ≤ 110 := fun r hr => by
  obtain ⟨i, o, t, h1, h2, _⟩ := posts_mem.mp hr
  rw [List.length_replicate] at h1
  rw [List.getD_eq_getElem?_getD, List.getElem?_replicate, if_pos h1] at h2
  cases h2
end
end K
namespace K
open PySem L2 Z
section
variable {P : Program} {w : World} {K : PySem.W.Frag} {mg : Str → Option Value} {base : Heap} [LamC]
-- use Y8
/-! ### a case is a ground -/
theorem posts_ndL {ps : Posting} : ∀ n, ((posts ps n).map (·.1)).Nodup
  | 0 => List.Pairwise.nil
  | n + 1 => by
    unfold posts
    rw [List.map_append]
    refine List.nodup_append.mpr ⟨posts_ndL n, ?_, fun x hx y hy z => ?_⟩
    · cases ps.getD n none with
      | none => exact List.Pairwise.nil
      | some p => exact List.pairwise_singleton _ _
    · obtain ⟨r, hr, rfl⟩ := List.mem_map.mp hx
      obtain ⟨i, o, t, h1, h2, rfl⟩ := posts_mem.mp hr
      cases e : ps.getD n none with
      | none => rw [e] at hy; cases hy
      | some p =>
        rw [e] at hy
        have hy : y = (n : Int) := by simpa using hy
        have z : (i : Int) = y := z
        omega
theorem chO_ne {B : Book} {now : Int} {i o : Nat} {x : R3} (h : chO B now i o = some x) : x.2.1 ≠ B.home x.1 ∧ ∃ t, carr B (B.home (i : Int)) now (o : Int) = some t ∧ x = ((i : Int), (o : Int), t) := by
  unfold chO at h
  split at h
  · cases h
  · rename_i q
    obtain ⟨t, h1, h2⟩ := Option.map_eq_some_iff.mp h
    subst h2
    exact ⟨q, t, h1, rfl⟩
theorem chs_mem {B : Book} {start : Posting} {gone : List Int} {now : Int} {x : R3} : ∀ {n : Nat}, x ∈ chs B start gone now n → ∃ i o : Nat, i < n ∧ goneB start gone i = true ∧ o < B.n ∧ chO B now i o = some x
  | 0, h => by cases h
  | n + 1, h => by
    have h : x ∈ chs B start gone now n ++ chB B start gone now n := h
    rcases List.mem_append.mp h with z | z
    · obtain ⟨i, o, h1, h2, h3, h4⟩ := chs_mem z
      exact ⟨i, o, by omega, h2, h3, h4⟩
    · unfold chB at z
      split at z
      · rename_i q
        unfold chOs at z
        obtain ⟨o, h1, h2⟩ := List.mem_filterMap.mp z
        exact ⟨n, o, by omega, q, List.mem_range.mp h1, h2⟩
      · cases z
theorem chs_cnt {B : Book} {start : Posting} {gone : List Int} {now : Int} (k : Nat) : ∀ n, ((chs B start gone now n).filter fun r => decide (r.1 = (k : Int))).length ≤ if k < n then B.n else 0
  | 0 => Nat.le_refl _
  | n + 1 => by
    have ih := chs_cnt (B := B) (start := start) (gone := gone) (now := now) k n
    show ((chs B start gone now n ++ chB B start gone now n).filter _).length ≤ _
    rw [List.filter_append, List.length_append]
    have hB : ∀ x ∈ chB B start gone now n, x.1 = (n : Int) := fun x hx => by
      unfold chB at hx
      split at hx
      · unfold chOs at hx
        obtain ⟨o, h1, h2⟩ := List.mem_filterMap.mp hx
        obtain ⟨_, t, _, e⟩ := chO_ne h2
        rw [e]
      · cases hx
    by_cases q : k = n
    · subst q
      rw [if_neg (Nat.lt_irrefl _)] at ih
      rw [if_pos (Nat.lt_succ_self _)]
      have := chB_len (B := B) (start := start) (gone := gone) (now := now) (i := k)
      have := List.length_filter_le (fun r : R3 => decide (r.1 = (k : Int))) (chB B start gone now k)
      omega
    · have e : (chB B start gone now n).filter (fun r => decide (r.1 = (k : Int))) = [] := by
        rw [List.filter_eq_nil_iff]
        intro x hx
        have := hB x hx
        simp only [decide_eq_true_eq]
        omega
      rw [e]
      by_cases q2 : k < n
      · rw [if_pos q2] at ih
        rw [if_pos (by omega)]
        simpa using ih
      · rw [if_neg q2] at ih
        rw [if_neg (by omega)]
        simpa using ih
theorem case_few {B : Book} {start : Posting} {gone : List Int} {now : Int} {ls : List Ltr} (C : CaseOk B start gone now ls) : FewC B ls (rowsOf start) (chs B start gone now B.bi.length) := by
  have g := C.g
  have n6 := g.n6
  have bl := g.bil
  have gs := good_rows g C.gp
  have hst : (rowsOf start).length ≤ 6 := by
    have := posts_len (ps := start) start.length
    have := C.gp.len
    unfold rowsOf
    omega
  have hcl := chs_len (B := B) (start := start) (gone := gone) (now := now) B.bi.length
  have hcl2 : B.bi.length * B.n ≤ 6 * 6 := Nat.mul_le_mul bl n6
  refine ⟨g, ⟨fun r hr => ?_, by rw [List.length_append]; omega⟩, fun t ht => (C.lt t ht).1, posts_ndL _, fun a ha b hb => ?_, fun a ha b hb e => ?_, ?_⟩
  · rcases List.mem_append.mp hr with z | z
    · exact gs.at_ r z
    · obtain ⟨⟨h1, h2⟩, ⟨h3, h4⟩, h5, h6⟩ := chs_in g C.n0 (by have := C.n1; omega) z
      obtain ⟨i, o, _, _, _, e⟩ := chs_mem z
      exact ⟨⟨h1, h2⟩, ⟨h3, h4⟩, fun q => (chO_ne e).1 q.symm, h5⟩
  · obtain ⟨i, o, t, h1, h2, rfl⟩ := posts_mem.mp ha
    obtain ⟨i', o', h3, h4, h5, h6⟩ := chs_mem hb
    obtain ⟨_, t', _, e⟩ := chO_ne h6
    intro q
    rw [e] at q
    have q : (i : Int) = (i' : Int) := q
    have : i = i' := by omega
    subst this
    unfold goneB at h4
    rw [h2] at h4
    cases h4
  · have e1 : a.1 = b.1 ∧ a.2.1 = b.2.1 := by
      exact Prod.mk.inj (show (a.1, a.2.1) = (b.1, b.2.1) from e)
    rcases List.mem_append.mp ha with za | za <;> rcases List.mem_append.mp hb with zb | zb
    · obtain ⟨i, o, t, h1, h2, rfl⟩ := posts_mem.mp za
      obtain ⟨i', o', t', h3, h4, rfl⟩ := posts_mem.mp zb
      have q : (i : Int) = (i' : Int) := e1.1
      have : i = i' := by omega
      subst this
      rw [h2] at h4
      cases h4
      rfl
    · exfalso
      obtain ⟨i, o, t, h1, h2, rfl⟩ := posts_mem.mp za
      obtain ⟨i', o', h3, h4, h5, h6⟩ := chs_mem zb
      obtain ⟨_, t', _, e⟩ := chO_ne h6
      have q := e1.1
      rw [e] at q
      have q : (i : Int) = (i' : Int) := q
      have : i = i' := by omega
      subst this
      unfold goneB at h4
      rw [h2] at h4
      cases h4
    · exfalso
      obtain ⟨i, o, t, h1, h2, rfl⟩ := posts_mem.mp zb
      obtain ⟨i', o', h3, h4, h5, h6⟩ := chs_mem za
      obtain ⟨_, t', _, e⟩ := chO_ne h6
      have q := e1.1
      rw [e] at q
      have q : (i' : Int) = (i : Int) := q
      have : i = i' := by omega
      subst this
      unfold goneB at h4
      rw [h2] at h4
      cases h4
    · obtain ⟨i, o, h1, h2, h3, h4⟩ := chs_mem za
      obtain ⟨i', o', h1', h2', h3', h4'⟩ := chs_mem zb
      obtain ⟨_, t, ht, ea⟩ := chO_ne h4
      obtain ⟨_, t', ht', eb⟩ := chO_ne h4'
      rw [ea, eb] at e1
      have q1 : (i : Int) = (i' : Int) := e1.1
      have q2 : (o : Int) = (o' : Int) := e1.2
      have r1 : i = i' := by omega
      have r2 : o = o' := by omega
      subst r1 r2
      rw [ht] at ht'
      cases ht'
      rw [ea, eb]
  · have h := allF_len (st := rowsOf start) (fr := chs B start gone now B.bi.length) (fun k => by
      have := chs_cnt (B := B) (start := start) (gone := gone) (now := now) k B.bi.length
      split at this <;> omega) B.bi.length
    have : 7 ^ B.bi.length ≤ 7 ^ 6 := Nat.pow_le_pow_right (by decide) bl
    have h7 : 7 ^ 6 = 117649 := by decide
    omega
theorem case_ltr {B : Book} {start : Posting} {gone : List Int} {now : Int} {ls : List Ltr} (C : CaseOk B start gone now ls) : LtrS B (rowsOf start ++ chs B start gone now B.bi.length) ls := by
  refine ⟨fun t ht => ?_, C.ll⟩
  obtain ⟨h1, h2, h3⟩ := C.lt t ht
  refine ⟨h1, ⟨fun r hr => ?_, h2⟩, h3⟩
  rcases List.mem_append.mp hr with z | z
  · exact C.pt r z
  · obtain ⟨i, o, _, _, _, e⟩ := chs_mem z
    obtain ⟨_, t', ht', er⟩ := chO_ne e
    have := carr_in C.g C.n0 ht'
    rw [er]
    show t' ≤ 110
    have := C.n1
    omega
/-! ### the posting told is what was chosen -/
end
end K
namespace K
open PySem L2 Z
section
variable {P : Program} {w : World} {K : PySem.W.Frag} {mg : Str → Option Value} {base : Heap} [LamC]
-- use Y8 Y9
/-! ### plain: what the law compares -/
theorem few_cc9 {B : Book} {ls : List Ltr} {st fr : List R3} {m : Nat} {many mm : Int} {cuts cc : List (List P2)} {o : Option (List R3)} (h : Few B ls st fr m many cuts o mm cc) : cuts.length ≤ 950000 → cc.length ≤ 950000 := by
  induction h with
  | stop _ => exact id
  | good _ _ _ => exact id
  | more _ _ _ ih => exact ih
  | cut _ _ _ h4 _ ih => exact fun _ => ih (by rw [List.length_append, List.length_singleton]; omega)
theorem choose_two {st fr : List R3} {cuts : List (List P2)} {nb : Nat} {many : Int} (h0 : 0 ≤ many) : (choose nb fr cuts nb many st).isNone = !((allF st fr nb).filter fun one => decide ((one.length : Int) - (st.length : Nat) ≤ many)).any (allTwo cuts) := by
  cases e : choose nb fr cuts nb many st with
  | some r =>
    obtain ⟨ext, h1, h2, h3, h4⟩ := choose_some nb many st r h0 e
    have : ((allF st fr nb).filter fun one => decide ((one.length : Int) - (st.length : Nat) ≤ many)).any (allTwo cuts) = true := by
      refine List.any_eq_true.mpr ⟨r, List.mem_filter.mpr ⟨allF_mem.mpr ⟨ext, h1, h2.mono (by omega) (Int.le_refl _)⟩, decide_eq_true ?_⟩, h4⟩
      rw [h1, List.length_append]
      omega
    rw [this]
    rfl
  | none =>
    have : ((allF st fr nb).filter fun one => decide ((one.length : Int) - (st.length : Nat) ≤ many)).any (allTwo cuts) = false := by
      rw [List.any_eq_false]
      intro r hr
      obtain ⟨h1, h2⟩ := List.mem_filter.mp hr
      obtain ⟨ext, h3, h4⟩ := allF_mem.mp h1
      have h2 := of_decide_eq_true h2
      rw [h3, List.length_append] at h2
      rw [h3, choose_none nb many st e ext (h4.mono (by omega) (Int.le_refl _)) (by omega)]
      decide
    rw [this]
    rfl
theorem cutG_drop {α : Type} {xs ys : List α} {i : Int} (h : i = (xs.length : Nat)) : cutG (xs ++ ys) (some i) none = ys := by
  unfold cutG
  rw [h, HT.sIx_nat, HT.sIx_none, List.length_append]
  rw [show min xs.length (xs.length + ys.length) = xs.length by omega, List.drop_left, show xs.length + ys.length - xs.length = ys.length by omega, List.take_length]
def eCuts (x : List (List P2)) : PyData := .list (x.map eCut)
/-- the lists of cuts that the law goes through -/
def sevenL (cc dr : List (List P2)) : List (List (List P2)) := [cc, cutG cc (some 1) none, cutG dr none (some 1), cc ++ cutG dr none (some 1), [], (List.replicate (3 : Int).toNat (cutG cc none (some 1))).flatten ++ cutG dr (some 1) none, dr]
theorem seven_at {cc dr : List (List P2)} (hc : ∀ z ∈ cc, z.length ≤ 1000) (hd : ∀ z ∈ dr, z.length ≤ 1000) (lc : cc.length ≤ 950000) (ld : dr.length ≤ 1000) : ∀ x ∈ sevenL cc dr, (∀ z ∈ x, z.length ≤ 1000) ∧ x.length ≤ 1000000 := by
  intro x hx
  have c1 : ∀ lo hi, ∀ z ∈ cutG cc lo hi, z.length ≤ 1000 := fun _ _ z hz => hc z (cutG_mem hz)
  have d1 : ∀ lo hi, ∀ z ∈ cutG dr lo hi, z.length ≤ 1000 := fun _ _ z hz => hd z (cutG_mem hz)
  have c2 : ∀ lo hi, (cutG cc lo hi).length ≤ 950000 := fun _ _ => Nat.le_trans cutG_len lc
  have d2 : ∀ lo hi, (cutG dr lo hi).length ≤ 1000 := fun _ _ => Nat.le_trans cutG_len ld
  have c3 : (cutG cc none (some 1)).length ≤ 1 := by
    unfold cutG
    rw [List.length_take, show (1 : Int) = ((1 : Nat) : Int) from rfl, HT.sIx_nat]
    omega
  simp only [sevenL, List.mem_cons, List.not_mem_nil, or_false] at hx
  rcases hx with rfl | rfl | rfl | rfl | rfl | rfl | rfl
  · exact ⟨hc, by omega⟩
  · exact ⟨c1 _ _, by have := c2 (some 1) none; omega⟩
  · exact ⟨d1 _ _, by have := d2 none (some 1); omega⟩
  · refine ⟨fun z hz => (List.mem_append.mp hz).elim (hc z) (d1 _ _ z), ?_⟩
    have := d2 none (some 1)
    rw [List.length_append]
    omega
  · exact ⟨fun z hz => absurd hz List.not_mem_nil, by simp⟩
  · refine ⟨fun z hz => (List.mem_append.mp hz).elim (fun h => ?_) (d1 _ _ z), ?_⟩
    · obtain ⟨l, h1, h2⟩ := List.mem_flatten.mp h
      rw [List.eq_of_mem_replicate h1] at h2
      exact c1 _ _ z h2
    · have := d2 (some 1) none
      rw [List.length_append, List.length_flatten]
      simp only [List.map_replicate, List.sum_replicate_nat]
      have : (3 : Int).toNat = 3 := rfl
      rw [this]
      omega
  · exact ⟨hd, by omega⟩
theorem rep_map {α : Type} {f : α → PyData} {xs : List α} : ∀ n : Nat, (List.replicate n (xs.map f)).flatten = (List.replicate n xs).flatten.map f
  | 0 => rfl
  | n + 1 => by rw [List.replicate_succ, List.replicate_succ, List.flatten_cons, List.flatten_cons, List.map_append, rep_map n]
theorem shp_Cuts (l : List (List P2)) : SeqAt.shaped (.list (l.map eCut)) = true := Shp.ok (n := 3) (.list (allM fun a _ => shp_Cut a)) (by decide)
theorem shp_Rws9 (l : List (List R3)) : SeqAt.shaped (.list (l.map eRows)) = true := Shp.ok (n := 3) (.list (allM fun a _ => (.list (allM fun r _ => .tuple (allC (.int _) (allC (.int _) (allC (.int _) allN)))) : Shp 2 (eRows a)))) (by decide)
theorem shp_nil9 : SeqAt.shaped (.list []) = true := Shp.ok (n := 1) (.list allN) (by decide)
theorem shp_bl9 (b : Bool) : SeqAt.shaped (.bool b) = true := Shp.ok (n := 1) (.bool b) (by decide)
theorem eqv_bl (a b : Bool) : PyData.eqv (.bool a) (.bool b) = (a == b) := by cases a <;> cases b <;> rfl
end
end K
namespace K
open PySem L2 Z
section
variable {P : Program} {w : World} {K : PySem.W.Frag} {mg : Str → Option Value} {base : Heap} [LamC]
-- use Y8 Y9
/-! ### is_cut, shows -/
structure GrIn (B : Book) (ls : List Ltr) (start : Posting) (gone : List Int) (now : Int) : Prop where
  gp : GoodPost B start
  h0 : 0 ≤ now
  hl : ls.length ≤ 1000
  F : FewC B ls (rowsOf start) (chs B start gone now B.bi.length)
def R_is_cut (ds : List PyData) (d : PyData) : Prop := ∃ B ls start gone now cut, ds = [eBook B, .list (List.map eLtr ls), ePost start, .list (List.map .int gone), .int now, .list (List.map eP2 cut)] ∧ GrIn B ls start gone now ∧ cut.length ≤ 1000 ∧ d = .bool (isCut B ls (rowsOf start ++ chs B start gone now B.bi.length) cut)
theorem ok_is_cut (M : Md K mg) : FnG P w K mg base "is_cut" ["book", "letters", "start", "gone", "now", "cut"] 8 (spP K R_is_cut) := by
  obtain ⟨C, g⟩ := M.g_Ground
  have Fm := ok_mk_ground (P := P) (w := w) (base := base) M g
  have Fc := ok_g_is_cut (P := P) (w := w) (base := base) M g
  refine fn_sd (N := ["book", "letters", "start", "gone", "now", "cut"]) M.d_is_cut ⟨rfl, rfl, rfl, by decide +kernel, rfl, by decide +kernel, by decide +kernel⟩ (fun ds d ⟨_, _, _, _, _, _, e, _⟩ => by rw [e]; rfl) (by decide) (fun X c ds d hR => ?_)
  obtain ⟨B, ls, start, gone, now, cut, rfl, I, hc, rfl⟩ := hR
  have hK := c.hK
  subst hK
  show SD X [.dat (eBook B), .dat (.list (ls.map eLtr)), .dat (ePost start), .dat (.list (gone.map .int)), .dat (.int now), .dat (.list (cut.map eP2))] _ _
  exact sd_ret (ed_meth c g.cl Fc (by decide) (ei_make c Fm (by decide) rfl (ad_cons (ed_var c 0 rfl (by kspl_open vis) rfl rfl rfl) (ad_cons (ed_var c 1 rfl (by kspl_open vis) rfl rfl rfl) (ad_cons (ed_var c 2 rfl (by kspl_open vis) rfl rfl rfl) (ad_cons (ed_var c 3 rfl (by kspl_open vis) rfl rfl rfl) (ad_cons (ed_var c 4 rfl (by kspl_open vis) rfl rfl rfl) ad_nil rfl) rfl) rfl) rfl) rfl) ⟨B, ls, start, gone, now, rfl, I.F.g, I.F.gl, I.gp, I.h0, rfl⟩ rfl rfl rfl) rfl (ad_cons (ed_var c 5 rfl (by kspl_open vis) rfl rfl rfl) ad_nil rfl) ⟨B, ls, _, _, cut, rfl, rfl, I.F.g, I.F.gr, I.F.gl, I.hl, hc, rfl⟩ rfl rfl rfl) rfl
noncomputable def showsB (B : Book) (ls : List Ltr) (start : Posting) (gone : List Int) (now many : Int) (cuts : List (List P2)) : Bool :=
  !(cuts.any fun z => !isCut B ls (rowsOf start ++ chs B start gone now B.bi.length) z) && (choose B.bi.length (chs B start gone now B.bi.length) cuts B.bi.length many (rowsOf start)).isNone
def R_shows (ds : List PyData) (d : PyData) : Prop := ∃ B ls start gone now many cuts, ds = [eBook B, .list (List.map eLtr ls), ePost start, .list (List.map .int gone), .int now, .int many, .list (List.map eCut cuts)] ∧ GrIn B ls start gone now ∧ (∀ z ∈ cuts, z.length ≤ 1000) ∧ cuts.length ≤ 1000000 ∧ 0 ≤ many ∧ d = .bool (showsB B ls start gone now many cuts)
theorem ok_shows (M : Md K mg) : FnG P w K mg base "shows" ["book", "letters", "start", "gone", "now", "many", "cuts"] 10 (spP K R_shows) := by
  obtain ⟨C, g⟩ := M.g_Ground
  have Fm := ok_mk_ground (P := P) (w := w) (base := base) M g
  have Fc := ok_g_is_cut (P := P) (w := w) (base := base) M g
  have Ff := ok_first_withD (P := P) (w := w) (base := base) M g
  refine fn_sd (N := ["book", "letters", "start", "gone", "now", "many", "cuts", "ground", "cut"]) M.d_shows ⟨rfl, rfl, rfl, by decide +kernel, rfl, by decide +kernel, by decide +kernel⟩ (fun ds d ⟨_, _, _, _, _, _, _, e, _⟩ => by rw [e]; rfl) (by decide) (fun X c ds d hR => ?_)
  obtain ⟨B, ls, start, gone, now, many, cuts, rfl, I, hcl, hcs, hm, rfl⟩ := hR
  have hK := c.hK
  subst hK
  have F := I.F
  have hst : (rowsOf start).length ≤ 900 := by
    have := posts_len (ps := start) start.length
    have := I.gp.len
    have := F.g.bil
    unfold rowsOf
    omega
  have hsl : (rowsOf start).length + (chs B start gone now B.bi.length).length ≤ 1000 := by have := F.gr.len; rw [List.length_append] at this; exact this
  show SD X [.dat (eBook B), .dat (.list (ls.map eLtr)), .dat (ePost start), .dat (.list (gone.map .int)), .dat (.int now), .dat (.int many), .dat (.list (cuts.map eCut)), .no, .no] _ _
  refine sd_asgI c 7 rfl (by kspl_open loc) (.inl rfl) (Nat.le_of_ble_eq_true rfl) (ei_make c Fm (by decide) rfl (ad_cons (ed_var c 0 rfl (by kspl_open vis) rfl rfl rfl) (ad_cons (ed_var c 1 rfl (by kspl_open vis) rfl rfl rfl) (ad_cons (ed_var c 2 rfl (by kspl_open vis) rfl rfl rfl) (ad_cons (ed_var c 3 rfl (by kspl_open vis) rfl rfl rfl) (ad_cons (ed_var c 4 rfl (by kspl_open vis) rfl rfl rfl) ad_nil rfl) rfl) rfl) rfl) rfl) ⟨B, ls, start, gone, now, rfl, F.g, F.gl, I.gp, I.h0, rfl⟩ rfl rfl rfl) rfl ?_
  unfold showsB
  show SD X [.dat (eBook B), .dat (.list (ls.map eLtr)), .dat (ePost start), .dat (.list (gone.map .int)), .dat (.int now), .dat (.int many), .dat (.list (cuts.map eCut)), .ins C (gF B ls (rowsOf start) (chs B start gone now B.bi.length)), .no] _ _
  refine sd_if (td_to (td_cmp (ed_el (el_filter c [("cut", 8)] (xs := cuts) (enc := eCut) (fun z => !isCut B ls (rowsOf start ++ chs B start gone now B.bi.length) z) eCut (by decide +kernel) rfl (id_seq (ed_var c 6 rfl (by kspl_open vis) rfl rfl rfl) rfl) (all1 ⟨_, rfl, .inl rfl⟩) (fun X' c2 => (gd_name c2 8 rfl (by kspl_open loc) (by kspl_open loc))) (Nat.lt_of_lt_of_le (show cuts.length < 2000000 by omega) (Nat.le_of_ble_eq_true rfl)) (fun z hz => ⟨_, rfl, fun X' c2 => ts_one (td_not (td_val (ed_meth c2 (by rw [c2.hK]; exact g.cl) Fc (by decide) (ei_var c2 7 rfl (by kspl_open vis) rfl rfl rfl) rfl (ad_cons (ed_var c2 8 rfl (by kspl_open vis) rfl rfl rfl) ad_nil rfl) ⟨B, ls, _, _, z, rfl, rfl, F.g, F.gr, F.gl, I.hl, hcl z hz, rfl⟩ rfl rfl rfl) (fun _ => rfl))), ⟨.inr rfl, .inr rfl, .inr rfl, .inr rfl, .inr rfl, .inr rfl, .inr rfl, .inr rfl, .inl rfl, trivial⟩, fun _ X' c2 => (ed_var c2 8 rfl (by kspl_open vis) rfl rfl rfl)⟩) (fun _ => rfl))) (ed_el (el_lst ad_nil (Nat.le_of_ble_eq_true rfl))) (cd_neD c (Shp.ok (n := 3) (.list (allM fun a _ => shp_Cut a)) (by decide)) (Shp.ok (n := 1) (.list allN) (by decide))) (nomark _)) (filter_any _ _ _)) (fun hb => ?_) (fun hb => ?_)
  · refine sd_ret ed_bl ?_
    show PyData.bool _ = .bool _
    rw [hb]
    rfl
  · refine sd_nil ?_
    refine sd_ret (ed_cmp (ed_meth c g.cl Ff (Nat.le_refl _) (ei_var c 7 rfl (by kspl_open vis) rfl rfl rfl) rfl (ad_cons (ed_var c 5 rfl (by kspl_open vis) rfl rfl rfl) (ad_cons (ed_var c 6 rfl (by kspl_open vis) rfl rfl rfl) ad_nil rfl) rfl) ⟨B, ls, _, _, many, cuts, rfl, rfl, F.g, hm, hst, by omega, hcs, rfl⟩ rfl rfl rfl) ed_non cd_isN (nomark _)) ?_
    show PyData.bool _ = .bool _
    rw [eO_non, hb]
    rfl
section
variable {aPostError aBadBook aNoOffice aBadPosting aNoPosting : Addr}
def R_law_told9 (ds : List PyData) (d : PyData) : Prop := ∃ B ls start gone now m o mm cc, FewIn ds B ls start gone now ∧ Few B ls (stO start) (frO B start gone now) m 0 [] o mm cc ∧ d = .list (List.map eCut cc)
theorem ok_law_told9 (M : Md K mg) (E : Exs K mg aPostError aBadBook aNoOffice aBadPosting aNoPosting) : FnG P w K mg base "_law_told" ["_law_book_here", "_law_letters_here", "_law_start", "_law_gone", "_law_now"] 11 (spP K R_law_told9) := by
  have Ff := ok_fewest (P := P) (w := w) (base := base) M E
  refine fn_sdS (N := ["_law_book_here", "_law_letters_here", "_law_start", "_law_gone", "_law_now", "e"]) M.d__law_told ⟨rfl, rfl, rfl, by decide +kernel, rfl, by decide +kernel, by decide +kernel⟩ (fun ds d ⟨_, _, _, _, _, _, _, _, _, I, _⟩ => by rw [I.e]; rfl) (by decide) (fun X c sk ds d hR => ?_)
  obtain ⟨B, ls, start, gone, now, m, o, mm, cc, I, hF, rfl⟩ := hR
  have I0 := I
  obtain ⟨rfl, gp, h0, hl, F⟩ := I
  show SD X [.dat (eBook B), .dat (.list (ls.map eLtr)), .dat (ePost start), .dat (.list (gone.map .int)), .dat (.int now), .no] _ _
  refine sd_tryAs c sk 5 rfl rfl rfl rfl E.g_NoPosting (fun pn xe c2 => ?_)
  cases o with
  | some rows =>
    exact sd_ret (ed_ix (ed_callX c2 Ff (by decide) rfl (ad_cons (ed_var c2 0 rfl (by kspl_open vis) rfl rfl rfl) (ad_cons (ed_var c2 1 rfl (by kspl_open vis) rfl rfl rfl) (ad_cons (ed_var c2 2 rfl (by kspl_open vis) rfl rfl rfl) (ad_cons (ed_var c2 3 rfl (by kspl_open vis) rfl rfl rfl) (ad_cons (ed_var c2 4 rfl (by kspl_open vis) rfl rfl rfl) ad_nil rfl) rfl) rfl) rfl) rfl) ⟨B, ls, start, gone, now, m, rows, mm, cc, I0, hF, rfl⟩ rfl rfl rfl) ed_int rfl (fun _ _ => rfl)) rfl
  | none =>
    refine sd_retX (ex_ix (ex_call c2 Ff (by decide) rfl (ad_cons (ed_var c2 0 rfl (by kspl_open vis) rfl rfl rfl) (ad_cons (ed_var c2 1 rfl (by kspl_open vis) rfl rfl rfl) (ad_cons (ed_var c2 2 rfl (by kspl_open vis) rfl rfl rfl) (ad_cons (ed_var c2 3 rfl (by kspl_open vis) rfl rfl rfl) (ad_cons (ed_var c2 4 rfl (by kspl_open vis) rfl rfl rfl) ad_nil rfl) rfl) rfl) rfl) rfl) ⟨B, ls, start, gone, now, m, mm, cc, I0, hF, rfl, rfl⟩ rfl rfl rfl) (fun _ _ => rfl)) ?_
    refine ⟨true, PySem.W.exm_ref E.s_NoPosting E.h_NoPosting E.t_NoPosting E.p_NoPosting_NoPosting, fun _ => ⟨(Nat.le_of_ble_eq_true rfl), fun a d oe pn hz hf c3 => ?_⟩, fun z => by cases z⟩
    show SD (X.suite a ((a, oe) :: pn)) [.dat (eBook B), .dat (.list (ls.map eLtr)), .dat (ePost start), .dat (.list (gone.map .int)), .dat (.int now), .cus (excC a d [(("cuts" : Str), PyData.list (List.map eCut cc))])] _ _
    exact sd_ret (ed_excF c3 E.i_NoPosting hz hf 5 rfl (.inl rfl) rfl E.x_NoPosting.no rfl rfl rfl rfl) rfl
end
/-! ### cuts drawn -/
def someS (rows : List R3) (r : Rg) : Nat → List P2 × Rg
  | 0 => ([], r)
  | n + 1 => ((someS rows r n).1 ++ (if 0 < nxV (someS rows r n).2 3 then [pairOf (rows.getD n (0, 0, 0))] else []), nxR (someS rows r n).2 3)
theorem someS_len {rows : List R3} {r : Rg} : ∀ n, (someS rows r n).1.length ≤ n
  | 0 => Nat.le_refl _
  | n + 1 => by
    have := someS_len (rows := rows) (r := r) n
    show ((someS rows r n).1 ++ (if 0 < nxV (someS rows r n).2 3 then [pairOf (rows.getD n (0, 0, 0))] else [])).length ≤ n + 1
    rw [List.length_append]
    split <;> simp <;> omega
def drawnG (s : List P2 × Rg) : List P2 × Rg := if nxV s.2 6 = 0 then (s.1 ++ [(nxV (nxR s.2 6) 4, nxV (nxR (nxR s.2 6) 4) 5)], nxR (nxR (nxR s.2 6) 4) 5) else (s.1, nxR s.2 6)
def drawnH (t : List P2 × Rg) : List P2 × Rg := (t.1 ++ cutG t.1 none (some (if decide (nxV t.2 6 = 0) = true then 1 else 0)), nxR t.2 6)
def drawnF (rows : List R3) (r : Rg) : List P2 × Rg := drawnH (drawnG (someS rows r rows.length))
theorem drawnF_len {rows : List R3} {r : Rg} : (drawnF rows r).1.length ≤ 2 * rows.length + 2 := by
  have h1 := someS_len (rows := rows) (r := r) rows.length
  have h2 : (drawnG (someS rows r rows.length)).1.length ≤ rows.length + 1 := by
    unfold drawnG
    split
    · rw [List.length_append, List.length_singleton]; omega
    · show (someS rows r rows.length).1.length ≤ _; omega
  unfold drawnF drawnH
  rw [List.length_append]
  have := cutG_len (xs := (drawnG (someS rows r rows.length)).1) (lo := none) (hi := some (if decide (nxV (drawnG (someS rows r rows.length)).2 6 = 0) = true then 1 else 0))
  omega
def R_law_drawn (r : Rg) (ds : List PyData) (r2 : Rg) (d : PyData) : Prop := ∃ rows, ds = [.list (List.map eR3 rows)] ∧ rows.length ≤ 1000 ∧ r2 = (drawnF rows r).2 ∧ d = .list ((drawnF rows r).1.map eP2)
theorem ok_law_drawn (M : Md K mg) : FnG P w K mg base "_law_drawn" ["_law_h", "_law_rows_here"] 3 (spR K R_law_drawn) := by
  have Fn := ok_next (P := P) (w := w) (base := base) M
  refine fn_sdR (N := ["_law_h", "_law_rows_here", "_law_found", "_law_row"]) M.d__law_drawn ⟨rfl, rfl, rfl, by decide +kernel, rfl, by decide +kernel, by decide +kernel⟩ (fun r ds r2 d ⟨_, e, _⟩ => by rw [e]; rfl) (by decide) (fun X c A A' r ds r2 d hR => ?_)
  obtain ⟨rows, rfl, hl, rfl, rfl⟩ := hR
  show SD X [.rng A A' r, .dat (.list (rows.map eR3)), .no, .no] _ _
  refine sd_asgC c 2 rfl rfl (Nat.le_of_ble_eq_true rfl) rfl rfl (by decide +kernel) (lc_lc c [("_law_row", 3)] (fun i => [.rng A A' (someS rows r i).2, .dat (.list (rows.map eR3)), .no, .no]) (fun i => (someS rows r i).1.map eP2) (by decide +kernel) rfl (id_seq (ed_var c 1 rfl (by kspl_open vis) rfl rfl rfl) rfl) (all1 ⟨_, rfl, rfl, .inl rfl⟩) (fun X' c2 => (gd_name c2 3 rfl (by kspl_open loc) (by kspl_open loc))) rfl (fun _ => rfl) rfl (Nat.lt_of_lt_of_le (show (rows.map eR3).length < 2000 by rw [List.length_map]; omega) (Nat.le_of_ble_eq_true rfl)) (fun i d hd => ?_) (fun _ => rfl)) ?_
  · obtain ⟨x, hx, rfl⟩ := map_get hd
    have hg : rows.getD i (0, 0, 0) = x := by rw [List.getD_eq_getElem?_getD, hx]; rfl
    refine ⟨_, (if 0 < nxV (someS rows r i).2 3 then some (eP2 (pairOf x)) else none), rfl, ⟨_, decide (0 < nxV (someS rows r i).2 3), fun X' c2 => ts_one (td_cmp (ed_callR c2 Fn (by decide) rfl 0 rfl (by kspl_open vis) rfl (ad_cons ed_int ad_nil rfl) rfl ⟨3, rfl, by decide, by decide, rfl, rfl⟩ rfl rfl rfl rfl rfl) ed_int cd_gt (nomark _)), fun hb => ?_, fun hb => ?_⟩, ?_⟩
    · have hb : ¬ 0 < nxV (someS rows r i).2 3 := by simpa using hb
      rw [if_neg hb]
      exact ⟨rfl, ⟨.inr rfl, .inr rfl, .inr rfl, .inl rfl, trivial⟩⟩
    · have hb : 0 < nxV (someS rows r i).2 3 := by simpa using hb
      rw [if_pos hb]
      exact ⟨eP2 (pairOf x), [.rng A A' (nxR (someS rows r i).2 3), .dat (.list (rows.map eR3)), .no, .dat (eR3 x)], rfl, fun X' c2 => ed_to (d := .tuple (cutD [.int x.1, .int x.2.1, .int x.2.2] none (some 2))) (ed_slT (ed_var c2 3 rfl (by kspl_open vis) rfl rfl rfl) po_no (po_yes ed_int)) rfl, ⟨.inr rfl, .inr rfl, .inr rfl, .inl rfl, trivial⟩⟩
    · show ((someS rows r i).1 ++ (if 0 < nxV (someS rows r i).2 3 then [pairOf (rows.getD i (0, 0, 0))] else [])).map eP2 = _
      rw [List.map_append, hg]
      split <;> rfl
  have hs := someS_len (rows := rows) (r := r) rows.length
  rw [show (rows.map eR3).length = rows.length from List.length_map ..]
  unfold drawnF
  generalize someS rows r rows.length = s at hs ⊢
  refine sd_ifJ (fun L => L = [.rng A A' (drawnG s).2, .dat (.list (rows.map eR3)), .own ((drawnG s).1.map eP2), .no]) (td_cmp (ed_callR c Fn (by decide) rfl 0 rfl (by kspl_open vis) rfl (ad_cons ed_int ad_nil rfl) rfl ⟨6, rfl, by decide, by decide, rfl, rfl⟩ rfl rfl rfl rfl rfl) ed_int cd_eqI (nomark _)) (fun hb => ?_) (fun hb => ?_) (fun L hL => ?_)
  · have hb : nxV s.2 6 = 0 := by simpa using hb
    have e : drawnG s = (s.1 ++ [(nxV (nxR s.2 6) 4, nxV (nxR (nxR s.2 6) 4) 5)], nxR (nxR (nxR s.2 6) 4) 5) := by unfold drawnG; rw [if_pos hb]
    rw [e]
    refine sd_append c 2 rfl (by kspl_open vis) (ed_tup (ad_cons (ed_callR c Fn (by decide) rfl 0 rfl (by kspl_open vis) rfl (ad_cons ed_int ad_nil rfl) rfl ⟨4, rfl, by decide, by decide, rfl, rfl⟩ rfl rfl rfl rfl rfl) (ad_cons (ed_callR c Fn (by decide) rfl 0 rfl (by kspl_open vis) rfl (ad_cons ed_int ad_nil rfl) rfl ⟨5, rfl, by decide, by decide, rfl, rfl⟩ rfl rfl rfl rfl rfl) ad_nil rfl) rfl) (Nat.le_of_ble_eq_true rfl)) rfl rfl (by rw [List.length_map]; exact Nat.lt_of_lt_of_le (show s.1.length < 10000 by omega) (Nat.le_of_ble_eq_true rfl)) ?_ rfl rfl rfl rfl rfl rfl
    refine sd_nil ?_
    rw [List.map_append]
    rfl
  · have hb : ¬ nxV s.2 6 = 0 := by simpa using hb
    have e : drawnG s = (s.1, nxR s.2 6) := by unfold drawnG; rw [if_neg hb]
    rw [e]
    exact sd_nil rfl
  subst hL
  have ht : (drawnG s).1.length ≤ 1001 := by
    unfold drawnG
    split
    · rw [List.length_append, List.length_singleton]; omega
    · show s.1.length ≤ _; omega
  generalize drawnG s = t at ht ⊢
  refine sd_freeze 2 rfl ?_
  refine sd_retL (el_cat (ed_var c 2 rfl (by kspl_open vis) rfl rfl rfl) (ed_el (el_slLe (ed_var c 2 rfl (by kspl_open vis) rfl rfl rfl) poe_no (poe_yes (ed_callT c rfl M.b_int PyProof.Rows.boot_int (ad_cons (ed_cmp (ed_callR c Fn (by decide) rfl 0 rfl (by kspl_open vis) rfl (ad_cons ed_int ad_nil rfl) rfl ⟨6, rfl, by decide, by decide, rfl, rfl⟩ rfl rfl rfl rfl rfl) ed_int cd_eqI (nomark _)) ad_nil rfl) (by kspl_open cl) (by decide) rfl rfl rfl)))) (by
    rw [cutD_map, List.length_map, List.length_map]
    exact Nat.le_trans (show _ ≤ 10000 by have := cutG_len (xs := t.1) (lo := none) (hi := some (if decide (nxV t.2 6 = 0) = true then 1 else 0)); omega) (Nat.le_of_ble_eq_true rfl))) ?_
  refine ⟨?_, rfl⟩
  show PyData.list ((t.1 ++ cutG t.1 none (some (if decide (nxV t.2 6 = 0) = true then 1 else 0))).map eP2) = .list (t.1.map eP2 ++ cutD (t.1.map eP2) none (some (if decide (nxV t.2 6 = 0) = true then 1 else 0)))
  rw [cutD_map, List.map_append]
end
end K
namespace K
open PySem L2 Z
section
variable {P : Program} {w : World} {K : PySem.W.Frag} {mg : Str → Option Value} {base : Heap} [LamC]
-- use Y8 Y9
/-! ### the law -/
def R_law (ds : List PyData) (d : PyData) : Prop := ∃ ns : List Int, ds = [.list (ns.map .int)] ∧ ns.length ≤ 63 ∧ d = .bool true
section
variable {aPostError aBadBook aNoOffice aBadPosting aNoPosting : Addr}
theorem law_loop2 (M : Md K mg) {X : Cx} (c : Ctx P w K mg base ⟨["_law_script", "_law_h", "_law_few", "_law_book_here", "_law_many", "_law_start", "_law_now", "_law_letters_here", "_law_stands", "_law_gone", "_law_rows_here", "_law_every", "_law_good", "_law_told_here", "_law_drawn_here", "_law_cut", "_law_found", "_law_cuts", "_law_true", "_law_most", "_law_two", "_law_k", "_law_one", "_law_turn"], defScope s_law, fun _ => true⟩ 13 X) {A A' : Addr} {ns : List Int} {r : Rg} {few : Int} {B : Book} {start : Posting} {gone : List Int} {now : Int} {ls : List Ltr} {cc dr : List (List P2)}
    (GI : GrIn B ls start gone now) (LS : LtrS B (rowsOf start ++ chs B start gone now B.bi.length) ls) (hc : ∀ z ∈ cc, z.length ≤ 1000) (hd : ∀ z ∈ dr, z.length ≤ 1000) (lc : cc.length ≤ 950000) (ld : dr.length ≤ 1000) :
    SD X [.dat (.list (ns.map .int)), .rng A A' r, .dat (.int few), .dat (eBook B), .dat (.int (B.bi.length : Nat)), .dat (ePost start), .dat (.int now), .dat (.list (ls.map eLtr)), .dat (.list ((rowsOf start).map eR3)), .dat (.list (gone.map .int)), .dat (.list ((rowsOf start ++ chs B start gone now B.bi.length).map eR3)), .dat (.list ((allF (rowsOf start) (chs B start gone now B.bi.length) B.bi.length).map eRows)), .dat (.list (((allF (rowsOf start) (chs B start gone now B.bi.length) B.bi.length).filter fun rows => keptB B rows ls).map eRows)), .dat (.list (cc.map eCut)), .dat (.list (dr.map eCut)), .no, .no, .no, .no, .no, .no, .no, .no, .no] ((defBody s_law).drop 16) { nx := fun _ => PyData.bool true = .none, rt := fun _ d' => d' = .bool true, rl := fun _ ds' => PyData.bool true = .list ds' } := by
  have Fs := ok_shows (P := P) (w := w) (base := base) M
  have Fic := ok_law_is_cut (P := P) (w := w) (base := base) M
  have F2 := ok_law_has_two (P := P) (w := w) (base := base) M
  have FC := GI.F
  have g := FC.g
  have hev := FC.cnt
  have hgr : ∀ rows ∈ (allF (rowsOf start) (chs B start gone now B.bi.length) B.bi.length), rows.length ≤ 1000 := fun rows hr => by
    obtain ⟨ext, h1, h2⟩ := allF_mem.mp hr
    rw [h1]; exact (rows_good FC h2).len
  have hst : (rowsOf start).length + (chs B start gone now B.bi.length).length ≤ 1000 := by have := FC.gr.len; rw [List.length_append] at this; exact this
  have s7 := seven_at hc hd lc ld
  have c3 : (cutG cc none (some 1)).length ≤ 950000 := Nat.le_trans cutG_len lc
  have d3 : ∀ lo hi, (cutG dr lo hi).length ≤ 1000 := fun _ _ => Nat.le_trans cutG_len ld
  refine sd_for c (fun _ => [.dat (.list (ns.map .int)), .rng A A' r, .dat (.int few), .dat (eBook B), .dat (.int (B.bi.length : Nat)), .dat (ePost start), .dat (.int now), .dat (.list (ls.map eLtr)), .dat (.list ((rowsOf start).map eR3)), .dat (.list (gone.map .int)), .dat (.list ((rowsOf start ++ chs B start gone now B.bi.length).map eR3)), .dat (.list ((allF (rowsOf start) (chs B start gone now B.bi.length) B.bi.length).map eRows)), .dat (.list (((allF (rowsOf start) (chs B start gone now B.bi.length) B.bi.length).filter fun rows => keptB B rows ls).map eRows)), .dat (.list (cc.map eCut)), .dat (.list (dr.map eCut)), .no, .no, .no, .no, .no, .no, .no, .no, .no]) (id_to (ds' := (sevenL cc dr).map eCuts) (id_seq (k1 := [.dat (.list (ns.map .int)), .rng A A' r, .dat (.int few), .dat (eBook B), .dat (.int (B.bi.length : Nat)), .dat (ePost start), .dat (.int now), .dat (.list (ls.map eLtr)), .dat (.list ((rowsOf start).map eR3)), .dat (.list (gone.map .int)), .dat (.list ((rowsOf start ++ chs B start gone now B.bi.length).map eR3)), .dat (.list ((allF (rowsOf start) (chs B start gone now B.bi.length) B.bi.length).map eRows)), .dat (.list (((allF (rowsOf start) (chs B start gone now B.bi.length) B.bi.length).filter fun rows => keptB B rows ls).map eRows)), .dat (.list (cc.map eCut)), .dat (.list (dr.map eCut)), .no, .no, .no, .no, .no, .no, .no, .no, .no]) (d := .list [eCuts cc, eCuts (cutG cc (some 1) none), eCuts (cutG dr none (some 1)), eCuts (cc ++ cutG dr none (some 1)), eCuts [], eCuts ((List.replicate (3 : Int).toNat (cutG cc none (some 1))).flatten ++ cutG dr (some 1) none), eCuts dr]) (ed_el (el_lst ?A (Nat.le_of_ble_eq_true rfl))) rfl) rfl) (gd_name c 17 rfl (by kspl_open loc) (by kspl_open loc)) ⟨.inr rfl, .inr rfl, .inr rfl, .inr rfl, .inr rfl, .inr rfl, .inr rfl, .inr rfl, .inr rfl, .inr rfl, .inr rfl, .inr rfl, .inr rfl, .inr rfl, .inr rfl, .inr rfl, .inr rfl, .inr rfl, .inr rfl, .inr rfl, .inr rfl, .inr rfl, .inr rfl, .inr rfl, trivial⟩ (fun i d hd' => ?_) (sd_ret ed_bl rfl) (fun _ => rfl)
  case A =>
    refine ad_consN (d := eCuts cc) (k1 := [.dat (.list (ns.map .int)), .rng A A' r, .dat (.int few), .dat (eBook B), .dat (.int (B.bi.length : Nat)), .dat (ePost start), .dat (.int now), .dat (.list (ls.map eLtr)), .dat (.list ((rowsOf start).map eR3)), .dat (.list (gone.map .int)), .dat (.list ((rowsOf start ++ chs B start gone now B.bi.length).map eR3)), .dat (.list ((allF (rowsOf start) (chs B start gone now B.bi.length) B.bi.length).map eRows)), .dat (.list (((allF (rowsOf start) (chs B start gone now B.bi.length) B.bi.length).filter fun rows => keptB B rows ls).map eRows)), .dat (.list (cc.map eCut)), .dat (.list (dr.map eCut)), .no, .no, .no, .no, .no, .no, .no, .no, .no]) (ed_var c 13 rfl (by kspl_open vis) rfl rfl rfl) ?a1 rfl
    refine ad_consN (d := eCuts (cutG cc (some 1) none)) (k1 := [.dat (.list (ns.map .int)), .rng A A' r, .dat (.int few), .dat (eBook B), .dat (.int (B.bi.length : Nat)), .dat (ePost start), .dat (.int now), .dat (.list (ls.map eLtr)), .dat (.list ((rowsOf start).map eR3)), .dat (.list (gone.map .int)), .dat (.list ((rowsOf start ++ chs B start gone now B.bi.length).map eR3)), .dat (.list ((allF (rowsOf start) (chs B start gone now B.bi.length) B.bi.length).map eRows)), .dat (.list (((allF (rowsOf start) (chs B start gone now B.bi.length) B.bi.length).filter fun rows => keptB B rows ls).map eRows)), .dat (.list (cc.map eCut)), .dat (.list (dr.map eCut)), .no, .no, .no, .no, .no, .no, .no, .no, .no]) (ed_to (ed_el (el_slL (ed_var c 13 rfl (by kspl_open vis) rfl rfl rfl) (po_yes ed_int) po_no)) (by rw [cutD_map]; rfl)) ?a2 rfl
    refine ad_consN (d := eCuts (cutG dr none (some 1))) (k1 := [.dat (.list (ns.map .int)), .rng A A' r, .dat (.int few), .dat (eBook B), .dat (.int (B.bi.length : Nat)), .dat (ePost start), .dat (.int now), .dat (.list (ls.map eLtr)), .dat (.list ((rowsOf start).map eR3)), .dat (.list (gone.map .int)), .dat (.list ((rowsOf start ++ chs B start gone now B.bi.length).map eR3)), .dat (.list ((allF (rowsOf start) (chs B start gone now B.bi.length) B.bi.length).map eRows)), .dat (.list (((allF (rowsOf start) (chs B start gone now B.bi.length) B.bi.length).filter fun rows => keptB B rows ls).map eRows)), .dat (.list (cc.map eCut)), .dat (.list (dr.map eCut)), .no, .no, .no, .no, .no, .no, .no, .no, .no]) (ed_to (ed_el (el_slL (ed_var c 14 rfl (by kspl_open vis) rfl rfl rfl) po_no (po_yes ed_int))) (by rw [cutD_map]; rfl)) ?a3 rfl
    refine ad_consN (d := eCuts (cc ++ cutG dr none (some 1))) (k1 := [.dat (.list (ns.map .int)), .rng A A' r, .dat (.int few), .dat (eBook B), .dat (.int (B.bi.length : Nat)), .dat (ePost start), .dat (.int now), .dat (.list (ls.map eLtr)), .dat (.list ((rowsOf start).map eR3)), .dat (.list (gone.map .int)), .dat (.list ((rowsOf start ++ chs B start gone now B.bi.length).map eR3)), .dat (.list ((allF (rowsOf start) (chs B start gone now B.bi.length) B.bi.length).map eRows)), .dat (.list (((allF (rowsOf start) (chs B start gone now B.bi.length) B.bi.length).filter fun rows => keptB B rows ls).map eRows)), .dat (.list (cc.map eCut)), .dat (.list (dr.map eCut)), .no, .no, .no, .no, .no, .no, .no, .no, .no]) (ed_to (ed_cat (ed_var c 13 rfl (by kspl_open vis) rfl rfl rfl) (ed_el (el_slL (ed_var c 14 rfl (by kspl_open vis) rfl rfl rfl) po_no (po_yes ed_int))) (by rw [cutD_map, List.length_map, List.length_map]; exact Nat.le_trans (show _ ≤ 2000000 by have := d3 none (some 1); omega) (Nat.le_of_ble_eq_true rfl))) (by rw [cutD_map, ← List.map_append]; rfl)) ?a4 rfl
    refine ad_consN (d := eCuts []) (k1 := [.dat (.list (ns.map .int)), .rng A A' r, .dat (.int few), .dat (eBook B), .dat (.int (B.bi.length : Nat)), .dat (ePost start), .dat (.int now), .dat (.list (ls.map eLtr)), .dat (.list ((rowsOf start).map eR3)), .dat (.list (gone.map .int)), .dat (.list ((rowsOf start ++ chs B start gone now B.bi.length).map eR3)), .dat (.list ((allF (rowsOf start) (chs B start gone now B.bi.length) B.bi.length).map eRows)), .dat (.list (((allF (rowsOf start) (chs B start gone now B.bi.length) B.bi.length).filter fun rows => keptB B rows ls).map eRows)), .dat (.list (cc.map eCut)), .dat (.list (dr.map eCut)), .no, .no, .no, .no, .no, .no, .no, .no, .no]) (ed_el (el_lst ad_nil (Nat.le_of_ble_eq_true rfl))) ?a5 rfl
    refine ad_consN (d := eCuts ((List.replicate (3 : Int).toNat (cutG cc none (some 1))).flatten ++ cutG dr (some 1) none)) (k1 := [.dat (.list (ns.map .int)), .rng A A' r, .dat (.int few), .dat (eBook B), .dat (.int (B.bi.length : Nat)), .dat (ePost start), .dat (.int now), .dat (.list (ls.map eLtr)), .dat (.list ((rowsOf start).map eR3)), .dat (.list (gone.map .int)), .dat (.list ((rowsOf start ++ chs B start gone now B.bi.length).map eR3)), .dat (.list ((allF (rowsOf start) (chs B start gone now B.bi.length) B.bi.length).map eRows)), .dat (.list (((allF (rowsOf start) (chs B start gone now B.bi.length) B.bi.length).filter fun rows => keptB B rows ls).map eRows)), .dat (.list (cc.map eCut)), .dat (.list (dr.map eCut)), .no, .no, .no, .no, .no, .no, .no, .no, .no]) ?x6 ?a6 rfl
    case a6 => exact ad_consN (d := eCuts dr) (k1 := [.dat (.list (ns.map .int)), .rng A A' r, .dat (.int few), .dat (eBook B), .dat (.int (B.bi.length : Nat)), .dat (ePost start), .dat (.int now), .dat (.list (ls.map eLtr)), .dat (.list ((rowsOf start).map eR3)), .dat (.list (gone.map .int)), .dat (.list ((rowsOf start ++ chs B start gone now B.bi.length).map eR3)), .dat (.list ((allF (rowsOf start) (chs B start gone now B.bi.length) B.bi.length).map eRows)), .dat (.list (((allF (rowsOf start) (chs B start gone now B.bi.length) B.bi.length).filter fun rows => keptB B rows ls).map eRows)), .dat (.list (cc.map eCut)), .dat (.list (dr.map eCut)), .no, .no, .no, .no, .no, .no, .no, .no, .no]) (ed_var c 14 rfl (by kspl_open vis) rfl rfl rfl) ad_nil rfl
    refine ed_to (ed_cat (ed_el (el_rep (el_slL (ed_var c 13 rfl (by kspl_open vis) rfl rfl rfl) po_no (po_yes ed_int)) (n := 3) ed_int (by decide) (by decide) ?b1)) (ed_el (el_slL (ed_var c 14 rfl (by kspl_open vis) rfl rfl rfl) (po_yes ed_int) po_no)) ?b2) ?b3
    case b1 =>
      rw [cutD_map, List.length_map]
      exact Nat.le_trans (show _ * 3 ≤ 3000000 by omega) (Nat.le_of_ble_eq_true rfl)
    case b2 =>
      rw [cutD_map, cutD_map, rep_map, List.length_map, List.length_map]
      refine Nat.le_trans (show _ ≤ 3000000 from ?_) (Nat.le_of_ble_eq_true rfl)
      have := d3 (some 1) none
      have h3 : (3 : Int).toNat = 3 := rfl
      rw [List.length_flatten, h3]
      simp only [List.map_replicate, List.sum_replicate_nat]
      omega
    case b3 =>
      rw [cutD_map, cutD_map, rep_map, ← List.map_append]
      rfl
  obtain ⟨cuts, hcu, rfl⟩ := map_get hd'
  obtain ⟨w1, w2⟩ := s7 cuts (List.mem_of_getElem? hcu)
  refine ⟨_, rfl, ?_⟩
  show SD X [.dat (.list (ns.map .int)), .rng A A' r, .dat (.int few), .dat (eBook B), .dat (.int (B.bi.length : Nat)), .dat (ePost start), .dat (.int now), .dat (.list (ls.map eLtr)), .dat (.list ((rowsOf start).map eR3)), .dat (.list (gone.map .int)), .dat (.list ((rowsOf start ++ chs B start gone now B.bi.length).map eR3)), .dat (.list ((allF (rowsOf start) (chs B start gone now B.bi.length) B.bi.length).map eRows)), .dat (.list (((allF (rowsOf start) (chs B start gone now B.bi.length) B.bi.length).filter fun rows => keptB B rows ls).map eRows)), .dat (.list (cc.map eCut)), .dat (.list (dr.map eCut)), .no, .no, .dat (.list (cuts.map eCut)), .no, .no, .no, .no, .no, .no] _ _
  refine sd_asg c 18 rfl (by kspl_open loc) (.inl rfl) (Nat.le_of_ble_eq_true rfl) (ed_to (ed_cmp (ed_el (el_filter c [("_law_cut", 15)] (xs := cuts) (enc := eCut) (fun z => !isCut B ls (rowsOf start ++ chs B start gone now B.bi.length) z) eCut (by decide +kernel) rfl (id_seq (ed_var c 17 rfl (by kspl_open vis) rfl rfl rfl) rfl) (all1 ⟨_, rfl, .inl rfl⟩) (fun X' c2 => (gd_name c2 15 rfl (by kspl_open loc) (by kspl_open loc))) (Nat.lt_of_lt_of_le (show (cuts).length < 2000000 by omega) (Nat.le_of_ble_eq_true rfl)) (fun z hz => ⟨_, rfl, fun X' c2 => ts_one (td_not (td_val (ed_call c2 Fic (by decide) rfl (ad_cons (ed_var c2 3 rfl (by kspl_open vis) rfl rfl rfl) (ad_cons (ed_var c2 7 rfl (by kspl_open vis) rfl rfl rfl) (ad_cons (ed_var c2 10 rfl (by kspl_open vis) rfl rfl rfl) (ad_cons (ed_var c2 15 rfl (by kspl_open vis) rfl rfl rfl) ad_nil rfl) rfl) rfl) rfl) ⟨B, ls, (rowsOf start ++ chs B start gone now B.bi.length), z, rfl, g, FC.gr, LS, w1 z hz, rfl⟩ rfl rfl rfl) (fun _ => rfl))), ⟨.inr rfl, .inr rfl, .inr rfl, .inr rfl, .inr rfl, .inr rfl, .inr rfl, .inr rfl, .inr rfl, .inr rfl, .inr rfl, .inr rfl, .inr rfl, .inr rfl, .inr rfl, .inl rfl, .inr rfl, .inr rfl, .inr rfl, .inr rfl, .inr rfl, .inr rfl, .inr rfl, .inr rfl, trivial⟩, fun _ X' c2 => (ed_var c2 15 rfl (by kspl_open vis) rfl rfl rfl)⟩) (fun _ => rfl))) (ed_el (el_lst ad_nil (Nat.le_of_ble_eq_true rfl))) (cd_eqD c (shp_Cuts _) shp_nil9) (nomark _)) (congrArg PyData.bool (filter_non _ _ _))) rfl ?_
  show SD X [.dat (.list (ns.map .int)), .rng A A' r, .dat (.int few), .dat (eBook B), .dat (.int (B.bi.length : Nat)), .dat (ePost start), .dat (.int now), .dat (.list (ls.map eLtr)), .dat (.list ((rowsOf start).map eR3)), .dat (.list (gone.map .int)), .dat (.list ((rowsOf start ++ chs B start gone now B.bi.length).map eR3)), .dat (.list ((allF (rowsOf start) (chs B start gone now B.bi.length) B.bi.length).map eRows)), .dat (.list (((allF (rowsOf start) (chs B start gone now B.bi.length) B.bi.length).filter fun rows => keptB B rows ls).map eRows)), .dat (.list (cc.map eCut)), .dat (.list (dr.map eCut)), .no, .no, .dat (.list (cuts.map eCut)), .dat (.bool (!cuts.any fun z => !isCut B ls (rowsOf start ++ chs B start gone now B.bi.length) z)), .no, .no, .no, .no, .no] _ _
  refine sd_for c (fun _ => [.dat (.list (ns.map .int)), .rng A A' r, .dat (.int few), .dat (eBook B), .dat (.int (B.bi.length : Nat)), .dat (ePost start), .dat (.int now), .dat (.list (ls.map eLtr)), .dat (.list ((rowsOf start).map eR3)), .dat (.list (gone.map .int)), .dat (.list ((rowsOf start ++ chs B start gone now B.bi.length).map eR3)), .dat (.list ((allF (rowsOf start) (chs B start gone now B.bi.length) B.bi.length).map eRows)), .dat (.list (((allF (rowsOf start) (chs B start gone now B.bi.length) B.bi.length).filter fun rows => keptB B rows ls).map eRows)), .dat (.list (cc.map eCut)), .dat (.list (dr.map eCut)), .no, .no, .dat (.list (cuts.map eCut)), .dat (.bool (!cuts.any fun z => !isCut B ls (rowsOf start ++ chs B start gone now B.bi.length) z)), .no, .no, .no, .no, .no]) (id_to (ds' := rngD 7) (id_range c rfl M.b_range (n := 7) ed_int ⟨by omega, by omega⟩ rfl) rfl) (gd_name c 19 rfl (by kspl_open loc) (by kspl_open loc)) ⟨.inr rfl, .inr rfl, .inr rfl, .inr rfl, .inr rfl, .inr rfl, .inr rfl, .inr rfl, .inr rfl, .inr rfl, .inr rfl, .inr rfl, .inr rfl, .inr rfl, .inr rfl, .inr rfl, .inr rfl, .inr rfl, .inr rfl, .inr rfl, .inr rfl, .inr rfl, .inr rfl, .inr rfl, trivial⟩ (fun i d hd' => ?_) (sd_nil ⟨.inr rfl, .inr rfl, .inr rfl, .inr rfl, .inr rfl, .inr rfl, .inr rfl, .inr rfl, .inr rfl, .inr rfl, .inr rfl, .inr rfl, .inr rfl, .inr rfl, .inr rfl, .inr rfl, .inr rfl, .inl rfl, .inl rfl, .inr rfl, .inr rfl, .inr rfl, .inr rfl, .inr rfl, trivial⟩) (fun _ => rfl)
  obtain ⟨hi, rfl⟩ := rngD_inv hd'
  refine ⟨_, rfl, ?_⟩
  show SD X [.dat (.list (ns.map .int)), .rng A A' r, .dat (.int few), .dat (eBook B), .dat (.int (B.bi.length : Nat)), .dat (ePost start), .dat (.int now), .dat (.list (ls.map eLtr)), .dat (.list ((rowsOf start).map eR3)), .dat (.list (gone.map .int)), .dat (.list ((rowsOf start ++ chs B start gone now B.bi.length).map eR3)), .dat (.list ((allF (rowsOf start) (chs B start gone now B.bi.length) B.bi.length).map eRows)), .dat (.list (((allF (rowsOf start) (chs B start gone now B.bi.length) B.bi.length).filter fun rows => keptB B rows ls).map eRows)), .dat (.list (cc.map eCut)), .dat (.list (dr.map eCut)), .no, .no, .dat (.list (cuts.map eCut)), .dat (.bool (!cuts.any fun z => !isCut B ls (rowsOf start ++ chs B start gone now B.bi.length) z)), .dat (.int (i : Nat)), .no, .no, .no, .no] _ _
  have hev2 : ((allF (rowsOf start) (chs B start gone now B.bi.length) B.bi.length).filter fun one => decide ((one.length : Int) - ((rowsOf start).length : Nat) ≤ (i : Nat))).length ≤ 900000 := Nat.le_trans (List.length_filter_le _ _) hev
  refine sd_asgC c 20 rfl rfl (Nat.le_of_ble_eq_true rfl) rfl rfl (by decide +kernel) (lc_filter c [("_law_one", 22)] (xs := (allF (rowsOf start) (chs B start gone now B.bi.length) B.bi.length)) (enc := eRows) (fun one => decide ((one.length : Int) - ((rowsOf start).length : Nat) ≤ (i : Nat))) eRows (by decide +kernel) rfl (id_seq (ed_var c 11 rfl (by kspl_open vis) rfl rfl rfl) rfl) (all1 ⟨_, rfl, .inl rfl⟩) (fun X' c2 => (gd_name c2 22 rfl (by kspl_open loc) (by kspl_open loc))) (Nat.lt_of_lt_of_le (show (allF (rowsOf start) (chs B start gone now B.bi.length) B.bi.length).length < 2000000 by omega) (Nat.le_of_ble_eq_true rfl)) (fun one ho => ⟨_, rfl, fun X' c2 => ts_one (td_to (td_cmp (ed_bin (ed_callB c2 rfl M.b_len PySem.boot_len (ad_cons (ed_var c2 22 rfl (by kspl_open vis) rfl rfl rfl) ad_nil rfl) (cl_lenL (xs := one.map eR3)) (by decide) rfl rfl rfl) (ed_callB c2 rfl M.b_len PySem.boot_len (ad_cons (ed_var c2 8 rfl (by kspl_open vis) rfl rfl rfl) ad_nil rfl) (cl_lenL (xs := (rowsOf start).map eR3)) (by decide) rfl rfl rfl) bd_sub) (ed_var c2 19 rfl (by kspl_open vis) rfl rfl rfl) cd_le (nomark _)) (by rw [List.length_map, List.length_map])), ⟨.inr rfl, .inr rfl, .inr rfl, .inr rfl, .inr rfl, .inr rfl, .inr rfl, .inr rfl, .inr rfl, .inr rfl, .inr rfl, .inr rfl, .inr rfl, .inr rfl, .inr rfl, .inr rfl, .inr rfl, .inr rfl, .inr rfl, .inr rfl, .inr rfl, .inr rfl, .inl rfl, .inr rfl, trivial⟩, fun _ X' c2 => (ed_var c2 22 rfl (by kspl_open vis) rfl rfl rfl)⟩) (fun _ => rfl)) ?_
  refine sd_freeze 20 rfl ?_
  show SD X [.dat (.list (ns.map .int)), .rng A A' r, .dat (.int few), .dat (eBook B), .dat (.int (B.bi.length : Nat)), .dat (ePost start), .dat (.int now), .dat (.list (ls.map eLtr)), .dat (.list ((rowsOf start).map eR3)), .dat (.list (gone.map .int)), .dat (.list ((rowsOf start ++ chs B start gone now B.bi.length).map eR3)), .dat (.list ((allF (rowsOf start) (chs B start gone now B.bi.length) B.bi.length).map eRows)), .dat (.list (((allF (rowsOf start) (chs B start gone now B.bi.length) B.bi.length).filter fun rows => keptB B rows ls).map eRows)), .dat (.list (cc.map eCut)), .dat (.list (dr.map eCut)), .no, .no, .dat (.list (cuts.map eCut)), .dat (.bool (!cuts.any fun z => !isCut B ls (rowsOf start ++ chs B start gone now B.bi.length) z)), .dat (.int (i : Nat)), .dat (.list (((allF (rowsOf start) (chs B start gone now B.bi.length) B.bi.length).filter fun one => decide ((one.length : Int) - ((rowsOf start).length : Nat) ≤ (i : Nat))).map eRows)), .no, .no, .no] _ _
  have hs : showsB B ls start gone now (i : Nat) cuts = ((!cuts.any fun z => !isCut B ls (rowsOf start ++ chs B start gone now B.bi.length) z) && !((allF (rowsOf start) (chs B start gone now B.bi.length) B.bi.length).filter fun one => decide ((one.length : Int) - ((rowsOf start).length : Nat) ≤ (i : Nat))).any (allTwo cuts)) := by
    unfold showsB
    rw [choose_two (by omega)]
  have hin : ∀ one ∈ ((allF (rowsOf start) (chs B start gone now B.bi.length) B.bi.length).filter fun one => decide ((one.length : Int) - ((rowsOf start).length : Nat) ≤ (i : Nat))), one.length ≤ 1000 := fun one h => hgr one (List.mem_filter.mp h).1
  generalize ((allF (rowsOf start) (chs B start gone now B.bi.length) B.bi.length).filter fun one => decide ((one.length : Int) - ((rowsOf start).length : Nat) ≤ (i : Nat))) = tw at hev2 hs hin ⊢
  refine sd_asgC c 20 rfl rfl (Nat.le_of_ble_eq_true rfl) rfl rfl (by decide +kernel) (lc_filter c [("_law_one", 22)] (xs := tw) (enc := eRows) (allTwo cuts) eRows (by decide +kernel) rfl (id_seq (ed_var c 20 rfl (by kspl_open vis) rfl rfl rfl) rfl) (all1 ⟨_, rfl, .inl rfl⟩) (fun X' c2 => (gd_name c2 22 rfl (by kspl_open loc) (by kspl_open loc))) (Nat.lt_of_lt_of_le (show tw.length < 2000000 by omega) (Nat.le_of_ble_eq_true rfl)) (fun one ho => ⟨_, rfl, fun X' c2 => ts_one (td_to (td_cmp (ed_el (el_filter c2 [("_law_cut", 15)] (xs := cuts) (enc := eCut) (fun z => !two one z) eCut (by decide +kernel) rfl (id_seq (ed_var c2 17 rfl (by kspl_open vis) rfl rfl rfl) rfl) (all1 ⟨_, rfl, .inl rfl⟩) (fun X' c3 => (gd_name c3 15 rfl (by kspl_open loc) (by kspl_open loc))) (Nat.lt_of_lt_of_le (show (cuts).length < 2000000 by omega) (Nat.le_of_ble_eq_true rfl)) (fun z hz => ⟨_, rfl, fun X' c3 => ts_one (td_not (td_val (ed_call c3 F2 (by decide) rfl (ad_cons (ed_var c3 22 rfl (by kspl_open vis) rfl rfl rfl) (ad_cons (ed_var c3 15 rfl (by kspl_open vis) rfl rfl rfl) ad_nil rfl) rfl) ⟨one, z, rfl, hin one ho, rfl⟩ rfl rfl rfl) (fun _ => rfl))), ⟨.inr rfl, .inr rfl, .inr rfl, .inr rfl, .inr rfl, .inr rfl, .inr rfl, .inr rfl, .inr rfl, .inr rfl, .inr rfl, .inr rfl, .inr rfl, .inr rfl, .inr rfl, .inl rfl, .inr rfl, .inr rfl, .inr rfl, .inr rfl, .inr rfl, .inr rfl, .inr rfl, .inr rfl, trivial⟩, fun _ X' c3 => (ed_var c3 15 rfl (by kspl_open vis) rfl rfl rfl)⟩) (fun _ => rfl))) (ed_el (el_lst ad_nil (Nat.le_of_ble_eq_true rfl))) (cd_eqD c2 (shp_Cuts _) shp_nil9) (nomark _)) (filter_non _ _ _)), ⟨.inr rfl, .inr rfl, .inr rfl, .inr rfl, .inr rfl, .inr rfl, .inr rfl, .inr rfl, .inr rfl, .inr rfl, .inr rfl, .inr rfl, .inr rfl, .inr rfl, .inr rfl, .inr rfl, .inr rfl, .inr rfl, .inr rfl, .inr rfl, .inr rfl, .inr rfl, .inl rfl, .inr rfl, trivial⟩, fun _ X' c2 => (ed_var c2 22 rfl (by kspl_open vis) rfl rfl rfl)⟩) (fun _ => rfl)) ?_
  refine sd_freeze 20 rfl ?_
  show SD X [.dat (.list (ns.map .int)), .rng A A' r, .dat (.int few), .dat (eBook B), .dat (.int (B.bi.length : Nat)), .dat (ePost start), .dat (.int now), .dat (.list (ls.map eLtr)), .dat (.list ((rowsOf start).map eR3)), .dat (.list (gone.map .int)), .dat (.list ((rowsOf start ++ chs B start gone now B.bi.length).map eR3)), .dat (.list ((allF (rowsOf start) (chs B start gone now B.bi.length) B.bi.length).map eRows)), .dat (.list (((allF (rowsOf start) (chs B start gone now B.bi.length) B.bi.length).filter fun rows => keptB B rows ls).map eRows)), .dat (.list (cc.map eCut)), .dat (.list (dr.map eCut)), .no, .no, .dat (.list (cuts.map eCut)), .dat (.bool (!cuts.any fun z => !isCut B ls (rowsOf start ++ chs B start gone now B.bi.length) z)), .dat (.int (i : Nat)), .dat (.list ((tw.filter (allTwo cuts)).map eRows)), .no, .no, .no] _ _
  refine sd_ifF (td_to (td_cmp (ed_call c Fs (by decide) rfl (ad_cons (ed_var c 3 rfl (by kspl_open vis) rfl rfl rfl) (ad_cons (ed_var c 7 rfl (by kspl_open vis) rfl rfl rfl) (ad_cons (ed_var c 5 rfl (by kspl_open vis) rfl rfl rfl) (ad_cons (ed_var c 9 rfl (by kspl_open vis) rfl rfl rfl) (ad_cons (ed_var c 6 rfl (by kspl_open vis) rfl rfl rfl) (ad_cons (ed_var c 19 rfl (by kspl_open vis) rfl rfl rfl) (ad_cons (ed_el (el_callT c rfl M.b_list PyProof.Rows.boot_list (ad_cons (ed_var c 17 rfl (by kspl_open vis) rfl rfl rfl) ad_nil rfl) cl_lstL (by decide) rfl rfl rfl)) ad_nil rfl) rfl) rfl) rfl) rfl) rfl) rfl) ⟨B, ls, start, gone, now, (i : Nat), cuts, rfl, GI, w1, w2, by omega, rfl⟩ rfl rfl rfl) (ed_and (y := !tw.any (allTwo cuts)) (ed_var c 18 rfl (by kspl_open vis) rfl rfl rfl) (fun _ => ed_and1 (ed_to (ed_cmp (ed_var c 20 rfl (by kspl_open vis) rfl rfl rfl) (ed_el (el_lst ad_nil (Nat.le_of_ble_eq_true rfl))) (cd_eqD c (shp_Rws9 _) shp_nil9) (nomark _)) (congrArg PyData.bool (filter_non _ _ _))))) (cd_neD c (shp_bl9 _) (shp_bl9 _)) (nomark _)) (by rw [eqv_bl, hs]; simp)) (sd_nil (sd_nil ⟨.inr rfl, .inr rfl, .inr rfl, .inr rfl, .inr rfl, .inr rfl, .inr rfl, .inr rfl, .inr rfl, .inr rfl, .inr rfl, .inr rfl, .inr rfl, .inr rfl, .inr rfl, .inr rfl, .inr rfl, .inr rfl, .inr rfl, .inl rfl, .inl rfl, .inr rfl, .inr rfl, .inr rfl, trivial⟩))
theorem law_loop1 (M : Md K mg) {X : Cx} (c : Ctx P w K mg base ⟨["_law_script", "_law_h", "_law_few", "_law_book_here", "_law_many", "_law_start", "_law_now", "_law_letters_here", "_law_stands", "_law_gone", "_law_rows_here", "_law_every", "_law_good", "_law_told_here", "_law_drawn_here", "_law_cut", "_law_found", "_law_cuts", "_law_true", "_law_most", "_law_two", "_law_k", "_law_one", "_law_turn"], defScope s_law, fun _ => true⟩ 13 X) {A A' : Addr} {ns : List Int} {r : Rg} {few : Int} {B : Book} {start : Posting} {gone : List Int} {now : Int} {ls : List Ltr} {cc dr : List (List P2)}
    (GI : GrIn B ls start gone now) (LS : LtrS B (rowsOf start ++ chs B start gone now B.bi.length) ls) (hc : ∀ z ∈ cc, z.length ≤ 1000) (hd : ∀ z ∈ dr, z.length ≤ 1000) (lc : cc.length ≤ 950000) (ld : dr.length ≤ 1000) :
    SD X [.dat (.list (ns.map .int)), .rng A A' r, .dat (.int few), .dat (eBook B), .dat (.int (B.bi.length : Nat)), .dat (ePost start), .dat (.int now), .dat (.list (ls.map eLtr)), .dat (.list ((rowsOf start).map eR3)), .dat (.list (gone.map .int)), .dat (.list ((rowsOf start ++ chs B start gone now B.bi.length).map eR3)), .dat (.list ((allF (rowsOf start) (chs B start gone now B.bi.length) B.bi.length).map eRows)), .dat (.list (((allF (rowsOf start) (chs B start gone now B.bi.length) B.bi.length).filter fun rows => keptB B rows ls).map eRows)), .dat (.list (cc.map eCut)), .dat (.list (dr.map eCut)), .no, .no, .no, .no, .no, .no, .no, .no, .no] ((defBody s_law).drop 15) { nx := fun _ => PyData.bool true = .none, rt := fun _ d' => d' = .bool true, rl := fun _ ds' => PyData.bool true = .list ds' } := by
  have Fi := ok_is_cut (P := P) (w := w) (base := base) M
  have Fic := ok_law_is_cut (P := P) (w := w) (base := base) M
  have F2 := ok_law_has_two (P := P) (w := w) (base := base) M
  have FC := GI.F
  have g := FC.g
  have hev := FC.cnt
  have hgr : ∀ rows ∈ ((allF (rowsOf start) (chs B start gone now B.bi.length) B.bi.length).filter fun rows => keptB B rows ls), rows.length ≤ 1000 := fun rows hr => by
    obtain ⟨ext, h1, h2⟩ := allF_mem.mp (List.mem_filter.mp hr).1
    rw [h1]; exact (rows_good FC h2).len
  have hgl : ((allF (rowsOf start) (chs B start gone now B.bi.length) B.bi.length).filter fun rows => keptB B rows ls).length ≤ 900000 := Nat.le_trans (List.length_filter_le _ _) hev
  have hkept : ∀ rows ∈ ((allF (rowsOf start) (chs B start gone now B.bi.length) B.bi.length).filter fun rows => keptB B rows ls), ∀ z, isCut B ls (rowsOf start ++ chs B start gone now B.bi.length) z = true → two rows z = true := fun rows hr z hz => by
    obtain ⟨h0, hk⟩ := List.mem_filter.mp hr
    obtain ⟨ext, h1, h2⟩ := allF_mem.mp h0
    have hgr' : GoodRows B rows := by rw [h1]; exact rows_good FC h2
    have hn : firstFail B rows ls = none := by
      rw [keptB_iff hgr'] at hk
      cases q : firstFail B rows ls with
      | none => rfl
      | some _ => rw [q] at hk; cases hk
    rw [h1] at hn ⊢
    exact kept_two FC h2 hn hz
  refine sd_for c (fun _ => [.dat (.list (ns.map .int)), .rng A A' r, .dat (.int few), .dat (eBook B), .dat (.int (B.bi.length : Nat)), .dat (ePost start), .dat (.int now), .dat (.list (ls.map eLtr)), .dat (.list ((rowsOf start).map eR3)), .dat (.list (gone.map .int)), .dat (.list ((rowsOf start ++ chs B start gone now B.bi.length).map eR3)), .dat (.list ((allF (rowsOf start) (chs B start gone now B.bi.length) B.bi.length).map eRows)), .dat (.list (((allF (rowsOf start) (chs B start gone now B.bi.length) B.bi.length).filter fun rows => keptB B rows ls).map eRows)), .dat (.list (cc.map eCut)), .dat (.list (dr.map eCut)), .no, .no, .no, .no, .no, .no, .no, .no, .no]) (id_seq (d := .list ((cc ++ dr).map eCut)) (ed_to (ed_cat (ed_var c 13 rfl (by kspl_open vis) rfl rfl rfl) (ed_var c 14 rfl (by kspl_open vis) rfl rfl rfl) (by rw [List.length_map, List.length_map]; exact Nat.le_trans (show _ ≤ 2000000 by omega) (Nat.le_of_ble_eq_true rfl))) (by rw [List.map_append])) rfl) (gd_name c 15 rfl (by kspl_open loc) (by kspl_open loc)) ⟨.inr rfl, .inr rfl, .inr rfl, .inr rfl, .inr rfl, .inr rfl, .inr rfl, .inr rfl, .inr rfl, .inr rfl, .inr rfl, .inr rfl, .inr rfl, .inr rfl, .inr rfl, .inr rfl, .inr rfl, .inr rfl, .inr rfl, .inr rfl, .inr rfl, .inr rfl, .inr rfl, .inr rfl, trivial⟩ (fun i d hd' => ?_) (law_loop2 M c GI LS hc hd lc ld) (fun _ => rfl)
  obtain ⟨z, hz, rfl⟩ := map_get hd'
  have hz1 : z.length ≤ 1000 := (List.mem_append.mp (List.mem_of_getElem? hz)).elim (hc z) (hd z)
  refine ⟨_, rfl, ?_⟩
  show SD X [.dat (.list (ns.map .int)), .rng A A' r, .dat (.int few), .dat (eBook B), .dat (.int (B.bi.length : Nat)), .dat (ePost start), .dat (.int now), .dat (.list (ls.map eLtr)), .dat (.list ((rowsOf start).map eR3)), .dat (.list (gone.map .int)), .dat (.list ((rowsOf start ++ chs B start gone now B.bi.length).map eR3)), .dat (.list ((allF (rowsOf start) (chs B start gone now B.bi.length) B.bi.length).map eRows)), .dat (.list (((allF (rowsOf start) (chs B start gone now B.bi.length) B.bi.length).filter fun rows => keptB B rows ls).map eRows)), .dat (.list (cc.map eCut)), .dat (.list (dr.map eCut)), .dat (.list (z.map eP2)), .no, .no, .no, .no, .no, .no, .no, .no] _ _
  refine sd_asg c 16 rfl (by kspl_open loc) (.inl rfl) (Nat.le_of_ble_eq_true rfl) (ed_call c Fi (by decide) rfl (ad_cons (ed_var c 3 rfl (by kspl_open vis) rfl rfl rfl) (ad_cons (ed_var c 7 rfl (by kspl_open vis) rfl rfl rfl) (ad_cons (ed_var c 5 rfl (by kspl_open vis) rfl rfl rfl) (ad_cons (ed_var c 9 rfl (by kspl_open vis) rfl rfl rfl) (ad_cons (ed_var c 6 rfl (by kspl_open vis) rfl rfl rfl) (ad_cons (ed_el (el_callT c rfl M.b_list PyProof.Rows.boot_list (ad_cons (ed_var c 15 rfl (by kspl_open vis) rfl rfl rfl) ad_nil rfl) cl_lstL (by decide) rfl rfl rfl)) ad_nil rfl) rfl) rfl) rfl) rfl) rfl) ⟨B, ls, start, gone, now, z, rfl, GI, hz1, rfl⟩ rfl rfl rfl) rfl ?_
  show SD X [.dat (.list (ns.map .int)), .rng A A' r, .dat (.int few), .dat (eBook B), .dat (.int (B.bi.length : Nat)), .dat (ePost start), .dat (.int now), .dat (.list (ls.map eLtr)), .dat (.list ((rowsOf start).map eR3)), .dat (.list (gone.map .int)), .dat (.list ((rowsOf start ++ chs B start gone now B.bi.length).map eR3)), .dat (.list ((allF (rowsOf start) (chs B start gone now B.bi.length) B.bi.length).map eRows)), .dat (.list (((allF (rowsOf start) (chs B start gone now B.bi.length) B.bi.length).filter fun rows => keptB B rows ls).map eRows)), .dat (.list (cc.map eCut)), .dat (.list (dr.map eCut)), .dat (.list (z.map eP2)), .dat (.bool (isCut B ls (rowsOf start ++ chs B start gone now B.bi.length) z)), .no, .no, .no, .no, .no, .no, .no] _ _
  refine sd_ifF (td_to (td_w (wd_or (x := false) (y := false) (td_not (td_val (ed_isi (b := true) c rfl M.b_isinstance (ed_var c 16 rfl (by kspl_open vis) rfl rfl rfl) rfl M.b_bool PyProof.Rows.boot_bool rfl (by decide) rfl rfl rfl rfl) (fun _ => rfl))) (fun _ => wd_or1 (td_to (td_cmp (ed_var c 16 rfl (by kspl_open vis) rfl rfl rfl) (ed_call c Fic (by decide) rfl (ad_cons (ed_var c 3 rfl (by kspl_open vis) rfl rfl rfl) (ad_cons (ed_var c 7 rfl (by kspl_open vis) rfl rfl rfl) (ad_cons (ed_var c 10 rfl (by kspl_open vis) rfl rfl rfl) (ad_cons (ed_var c 15 rfl (by kspl_open vis) rfl rfl rfl) ad_nil rfl) rfl) rfl) rfl) ⟨B, ls, (rowsOf start ++ chs B start gone now B.bi.length), z, rfl, g, FC.gr, LS, hz1, rfl⟩ rfl rfl rfl) (cd_neD c (shp_bl9 _) (shp_bl9 _)) (nomark _)) (by rw [eqv_bl]; simp))))) rfl) (sd_nil ?_)
  have hG : (isCut B ls (rowsOf start ++ chs B start gone now B.bi.length) z && ((allF (rowsOf start) (chs B start gone now B.bi.length) B.bi.length).filter fun rows => keptB B rows ls).any fun one => !two one z) = false := by
    cases q : isCut B ls (rowsOf start ++ chs B start gone now B.bi.length) z with
    | false => rfl
    | true =>
      rw [Bool.true_and, List.any_eq_false]
      intro rows hr
      rw [hkept rows hr z q]
      decide
  exact sd_ifF (td_to (td_w (wd_and (td_val (ed_var c 16 rfl (by kspl_open vis) rfl rfl rfl) (fun _ => rfl)) (fun _ => wd_and1 (td_to (td_cmp (ed_el (el_filter c [("_law_one", 22)] (xs := ((allF (rowsOf start) (chs B start gone now B.bi.length) B.bi.length).filter fun rows => keptB B rows ls)) (enc := eRows) (fun one => !two one z) eRows (by decide +kernel) rfl (id_seq (ed_var c 12 rfl (by kspl_open vis) rfl rfl rfl) rfl) (all1 ⟨_, rfl, .inl rfl⟩) (fun X' c2 => (gd_name c2 22 rfl (by kspl_open loc) (by kspl_open loc))) (Nat.lt_of_lt_of_le (show (((allF (rowsOf start) (chs B start gone now B.bi.length) B.bi.length).filter fun rows => keptB B rows ls)).length < 2000000 by omega) (Nat.le_of_ble_eq_true rfl)) (fun one ho => ⟨_, rfl, fun X' c2 => ts_one (td_not (td_val (ed_call c2 F2 (by decide) rfl (ad_cons (ed_var c2 22 rfl (by kspl_open vis) rfl rfl rfl) (ad_cons (ed_var c2 15 rfl (by kspl_open vis) rfl rfl rfl) ad_nil rfl) rfl) ⟨one, z, rfl, hgr one ho, rfl⟩ rfl rfl rfl) (fun _ => rfl))), ⟨.inr rfl, .inr rfl, .inr rfl, .inr rfl, .inr rfl, .inr rfl, .inr rfl, .inr rfl, .inr rfl, .inr rfl, .inr rfl, .inr rfl, .inr rfl, .inr rfl, .inr rfl, .inr rfl, .inr rfl, .inr rfl, .inr rfl, .inr rfl, .inr rfl, .inr rfl, .inl rfl, .inr rfl, trivial⟩, fun _ X' c2 => (ed_var c2 22 rfl (by kspl_open vis) rfl rfl rfl)⟩) (fun _ => rfl))) (ed_el (el_lst ad_nil (Nat.le_of_ble_eq_true rfl))) (cd_neD c (shp_Rws9 _) shp_nil9) (nomark _)) (filter_any _ _ _))))) hG) (sd_nil (sd_nil ⟨.inr rfl, .inr rfl, .inr rfl, .inr rfl, .inr rfl, .inr rfl, .inr rfl, .inr rfl, .inr rfl, .inr rfl, .inr rfl, .inr rfl, .inr rfl, .inr rfl, .inr rfl, .inl rfl, .inl rfl, .inr rfl, .inr rfl, .inr rfl, .inr rfl, .inr rfl, .inr rfl, .inr rfl, trivial⟩))
end
theorem ok_law (M : Md K mg) {f : Addr} {fd : FuncData} (F : L2.Fun K "law" "law" s_law f fd) (TB : LamX.TabB base mg LamC.cc LamC.tt) : L2.FnOk P w K mg base L2.CX0 14 f fd ["_law_script"] (spP K R_law) := by
  obtain ⟨aPostError, aBadBook, aNoOffice, aBadPosting, aNoPosting, E⟩ := M.exs
  have Fn := ok_next (P := P) (w := w) (base := base) M
  have Fb := ok_book (P := P) (w := w) (base := base) M
  have Fl := ok_law_letters (P := P) (w := w) (base := base) M
  have Fp := ok_law_posting (P := P) (w := w) (base := base) M
  have Fch := ok_law_choices (P := P) (w := w) (base := base) M TB
  have Fr := ok_law_rows (P := P) (w := w) (base := base) M
  have Fall := ok_law_all (P := P) (w := w) (base := base) M
  have Fk := ok_law_kept (P := P) (w := w) (base := base) M
  have Ft := ok_law_told9 (P := P) (w := w) (base := base) M E
  have Fd := ok_law_drawn (P := P) (w := w) (base := base) M
  refine ok_sd (N := ["_law_script", "_law_h", "_law_few", "_law_book_here", "_law_many", "_law_start", "_law_now", "_law_letters_here", "_law_stands", "_law_gone", "_law_rows_here", "_law_every", "_law_good", "_law_told_here", "_law_drawn_here", "_law_cut", "_law_found", "_law_cuts", "_law_true", "_law_most", "_law_two", "_law_k", "_law_one", "_law_turn"]) F ⟨rfl, rfl, rfl, by decide +kernel, rfl, by decide +kernel, by decide +kernel⟩ (fun ds d ⟨_, e, _⟩ => by rw [e]; rfl) (by decide) (fun X c ds d hR => ?_)
  obtain ⟨ns, rfl, hl, rfl⟩ := hR
  show SD X [.dat (.list (ns.map .int)), .no, .no, .no, .no, .no, .no, .no, .no, .no, .no, .no, .no, .no, .no, .no, .no, .no, .no, .no, .no, .no, .no, .no] _ _
  refine sd_rngNew c 1 rfl (by kspl_open loc) (.inl rfl) (Nat.le_of_ble_eq_true rfl) rfl M.b_list (ed_var c 0 rfl (by kspl_open vis) rfl rfl rfl) rfl rfl (fun A A' => ?_)
  generalize (⟨41, ns, 0⟩ : Rg) = r
  have f0 := nxV_0 (r := r) (m := 7) (by decide)
  show SD X [.dat (.list (ns.map .int)), .rng A A' r, .no, .no, .no, .no, .no, .no, .no, .no, .no, .no, .no, .no, .no, .no, .no, .no, .no, .no, .no, .no, .no, .no] _ _
  refine sd_asg c 2 rfl (by kspl_open loc) (.inl rfl) (Nat.le_of_ble_eq_true rfl) (ed_callB c rfl M.b_min PyProof.Rows.boot_min (ad_cons ed_int (ad_cons (ed_callR c Fn (by decide) rfl 1 rfl (by kspl_open vis) rfl (ad_cons ed_int ad_nil rfl) rfl ⟨7, rfl, by decide, by decide, rfl, rfl⟩ rfl rfl rfl rfl rfl) ad_nil rfl) rfl) (by kspl_open cl) (by decide) rfl rfl rfl) rfl ?_
  show SD X [.dat (.list (ns.map .int)), .rng A A' (nxR r 7), .dat (.int (min 2 (nxV r 7))), .no, .no, .no, .no, .no, .no, .no, .no, .no, .no, .no, .no, .no, .no, .no, .no, .no, .no, .no, .no, .no] _ _
  have w0 : 0 ≤ min 2 (nxV r 7) ∧ min 2 (nxV r 7) < 3 := by omega
  generalize min 2 (nxV r 7) = few at w0 ⊢
  generalize nxR r 7 = r1
  have p1 : 2 ≤ pick3 2 6 4 few ∧ pick3 2 6 4 few ≤ 6 := pick3_in (p := fun z => 2 ≤ z ∧ z ≤ 6) (by decide) (by decide) (by decide)
  have p2 : 0 ≤ pick3 6 6 3 few ∧ pick3 6 6 3 few ≤ 6 := pick3_in (p := fun z => 0 ≤ z ∧ z ≤ 6) (by decide) (by decide) (by decide)
  refine sd_asg c 3 rfl (by kspl_open loc) (.inl rfl) (Nat.le_of_ble_eq_true rfl) (ed_callR c Fb (by decide) rfl 1 rfl (by kspl_open vis) rfl (ad_cons (ed_ix (ed_el (el_lst (ad_cons ed_int (ad_cons ed_int (ad_cons ed_int ad_nil rfl) rfl) rfl) (Nat.le_of_ble_eq_true rfl))) (ed_var c 2 rfl (by kspl_open vis) rfl rfl rfl) (ix_pick3 w0.1 w0.2) (fun _ _ => rfl)) (ad_cons (ed_ix (ed_el (el_lst (ad_cons ed_int (ad_cons ed_int (ad_cons ed_int ad_nil rfl) rfl) rfl) (Nat.le_of_ble_eq_true rfl))) (ed_var c 2 rfl (by kspl_open vis) rfl rfl rfl) (ix_pick3 w0.1 w0.2) (fun _ _ => rfl)) ad_nil rfl) rfl) rfl ⟨pick3 2 6 4 few, pick3 6 6 3 few, rfl, p1.1, p1.2, p2.1, p2.2, rfl, rfl⟩ rfl rfl rfl rfl rfl) rfl ?_
  have g := lawBook_good (n := pick3 2 6 4 few) (b := pick3 6 6 3 few) (r := r1) p1.1 p1.2 p2.1 p2.2
  show SD X [.dat (.list (ns.map .int)), .rng A A' (bkB (pick3 2 6 4 few) (pick3 6 6 3 few) r1).2, .dat (.int few), .dat (eBook (lawBook (pick3 2 6 4 few) (pick3 6 6 3 few) r1)), .no, .no, .no, .no, .no, .no, .no, .no, .no, .no, .no, .no, .no, .no, .no, .no, .no, .no, .no, .no] _ _
  generalize lawBook (pick3 2 6 4 few) (pick3 6 6 3 few) r1 = B0 at g ⊢
  generalize (bkB (pick3 2 6 4 few) (pick3 6 6 3 few) r1).2 = r2
  refine sd_ifJ (fun L => ∃ B, Good B ∧ L = [.dat (.list (ns.map .int)), .rng A A' r2, .dat (.int few), .dat (eBook B), .no, .no, .no, .no, .no, .no, .no, .no, .no, .no, .no, .no, .no, .no, .no, .no, .no, .no, .no, .no]) (td_cmp (ed_var c 2 rfl (by kspl_open vis) rfl rfl rfl) ed_int (by kspl_open cd) (nomark _)) (fun hb => ?_) (fun hb => sd_nil ⟨B0, g, rfl⟩) (fun L hL => ?_)
  · refine sd_asg c 3 rfl (by kspl_open loc) (.inl rfl) (Nat.le_of_ble_eq_true rfl) (ed_bin (ed_slT (ed_var c 3 rfl (by kspl_open vis) rfl rfl rfl) po_no (po_yes ed_int)) (ed_tup (ad_cons (ed_slT (ed_ix (ed_var c 3 rfl (by kspl_open vis) rfl rfl rfl) ed_int rfl (fun _ _ => rfl)) po_no (po_yes ed_int)) (ad_cons (ed_ix (ed_var c 3 rfl (by kspl_open vis) rfl rfl rfl) ed_int rfl (fun _ _ => rfl)) ad_nil rfl) rfl) (Nat.le_of_ble_eq_true rfl)) (bd_catT (Nat.le_of_ble_eq_true rfl))) rfl ?_
    refine sd_nil ⟨⟨B0.fl, B0.st, cutG B0.ca none (some 2), B0.bi⟩, ca_less g (fun x hx => cutG_mem hx) (Nat.le_trans cutG_len g.cal), ?_⟩
    show [SK.dat (.list (ns.map .int)), .rng A A' r2, .dat (.int few), .dat (.tuple [.tuple (B0.fl.map eInts), .tuple (B0.st.map eRow), .tuple (cutD (B0.ca.map eRow) none (some 2)), eInts B0.bi]), .no, .no, .no, .no, .no, .no, .no, .no, .no, .no, .no, .no, .no, .no, .no, .no, .no, .no, .no, .no] = _
    rw [cutD_map]
    rfl
  obtain ⟨B, gB, rfl⟩ := hL
  clear g
  have bl := gB.bil
  have n6 := gB.n6
  refine sd_asg c 4 rfl (by kspl_open loc) (.inl rfl) (Nat.le_of_ble_eq_true rfl) (ed_to (ed_callB c rfl M.b_len PySem.boot_len (ad_cons (ed_ix (ed_var c 3 rfl (by kspl_open vis) rfl rfl rfl) ed_int rfl (fun _ _ => rfl)) ad_nil rfl) (by kspl_open cl) (by decide) rfl rfl rfl) (d' := .int (B.bi.length : Nat)) (by rw [List.length_map])) rfl ?_
  show SD X [.dat (.list (ns.map .int)), .rng A A' r2, .dat (.int few), .dat (eBook B), .dat (.int (B.bi.length : Nat)), .no, .no, .no, .no, .no, .no, .no, .no, .no, .no, .no, .no, .no, .no, .no, .no, .no, .no, .no] _ _
  have tail : ∀ (start : Posting) (r3 : Rg), GoodPost B start → (∀ r ∈ rowsOf start, r.2.2 ≤ 110) → SD X [.dat (.list (ns.map .int)), .rng A A' r3, .dat (.int few), .dat (eBook B), .dat (.int (B.bi.length : Nat)), .dat (ePost start), .no, .no, .no, .no, .no, .no, .no, .no, .no, .no, .no, .no, .no, .no, .no, .no, .no, .no] ((defBody s_law).drop 6) { nx := fun _ => PyData.bool true = .none, rt := fun _ d' => d' = .bool true, rl := fun _ ds' => PyData.bool true = .list ds' } := by
    intro start r3 gp pt
    have hp : 0 < pick2 1 30 (nxV r3 2) ∧ pick2 1 30 (nxV r3 2) < 40 := pick2_in (p := fun z => 0 < z ∧ z < 40) (by decide) (by decide)
    have v0 := nxV_0 (r := nxR r3 2) hp.1
    have v1 := nxV_1 (r := nxR r3 2) hp.1
    refine sd_asg c 6 rfl (by kspl_open loc) (.inl rfl) (Nat.le_of_ble_eq_true rfl) (ed_callR c Fn (by decide) rfl 1 rfl (by kspl_open vis) rfl (ad_cons (ed_ix (ed_el (el_lst (ad_cons ed_int (ad_cons ed_int ad_nil rfl) rfl) (Nat.le_of_ble_eq_true rfl))) (ed_callR c Fn (by decide) rfl 1 rfl (by kspl_open vis) rfl (ad_cons ed_int ad_nil rfl) rfl ⟨2, rfl, by decide, by decide, rfl, rfl⟩ rfl rfl rfl rfl rfl) (ix_pick2 (nxV_0 (by decide)) (nxV_1 (by decide))) (fun _ _ => rfl)) ad_nil rfl) rfl ⟨_, rfl, hp.1, by omega, rfl, rfl⟩ rfl rfl rfl rfl rfl) rfl ?_
    show SD X [.dat (.list (ns.map .int)), .rng A A' (nxR (nxR r3 2) (pick2 1 30 (nxV r3 2))), .dat (.int few), .dat (eBook B), .dat (.int (B.bi.length : Nat)), .dat (ePost start), .dat (.int (nxV (nxR r3 2) (pick2 1 30 (nxV r3 2)))), .no, .no, .no, .no, .no, .no, .no, .no, .no, .no, .no, .no, .no, .no, .no, .no, .no] _ _
    have n1 : nxV (nxR r3 2) (pick2 1 30 (nxV r3 2)) ≤ 50 := by omega
    generalize nxV (nxR r3 2) (pick2 1 30 (nxV r3 2)) = now at v0 n1 ⊢
    generalize nxR (nxR r3 2) (pick2 1 30 (nxV r3 2)) = r4
    refine sd_asg c 7 rfl (by kspl_open loc) (.inl rfl) (Nat.le_of_ble_eq_true rfl) (ed_callR c Fl (by decide) rfl 1 rfl (by kspl_open vis) rfl (ad_cons (ed_var c 3 rfl (by kspl_open vis) rfl rfl rfl) ad_nil rfl) rfl ⟨B, rfl, gB, rfl, rfl⟩ rfl rfl rfl rfl rfl) rfl ?_
    have lt := lawLtrs_at gB (r := r4)
    have ll := lawLtrs_len (B := B) (r := r4)
    show SD X [.dat (.list (ns.map .int)), .rng A A' (lawLtrs B r4).2, .dat (.int few), .dat (eBook B), .dat (.int (B.bi.length : Nat)), .dat (ePost start), .dat (.int now), .dat (.list ((lawLtrs B r4).1.map eLtr)), .no, .no, .no, .no, .no, .no, .no, .no, .no, .no, .no, .no, .no, .no, .no, .no] _ _
    generalize (lawLtrs B r4).1 = ls at lt ll ⊢
    generalize (lawLtrs B r4).2 = r5
    have pl := gp.len
    have hst : (rowsOf start).length ≤ 6 := by
      have := posts_len (ps := start) start.length
      unfold rowsOf
      omega
    refine sd_asg c 8 rfl (by kspl_open loc) (.inl rfl) (Nat.le_of_ble_eq_true rfl) (ed_el (el_call c Fr (by decide) rfl (ad_cons (ed_var c 5 rfl (by kspl_open vis) rfl rfl rfl) ad_nil rfl) ⟨start, rfl, by omega, rfl⟩ rfl rfl rfl)) rfl ?_
    show SD X [.dat (.list (ns.map .int)), .rng A A' r5, .dat (.int few), .dat (eBook B), .dat (.int (B.bi.length : Nat)), .dat (ePost start), .dat (.int now), .dat (.list (ls.map eLtr)), .dat (.list ((rowsOf start).map eR3)), .no, .no, .no, .no, .no, .no, .no, .no, .no, .no, .no, .no, .no, .no, .no] _ _
    have v0' := nxV_0 (r := r5) (m := 2) (by decide)
    have v1' := nxV_1 (r := r5) (m := 2) (by decide)
    refine sd_asgC c 9 rfl rfl (Nat.le_of_ble_eq_true rfl) rfl rfl (by decide +kernel) (lc_draw (A := A) (B := A') (r := nxR r5 2) c [("_law_k", 21)] 1 (n := (nxV r5 2 * (if decide ((0 : Int) < (B.bi.length : Nat)) = true then 1 else 0)).toNat) (drawM (B.bi.length : Int)) PyData.int (by decide +kernel) rfl (id_range c rfl M.b_range (n := nxV r5 2 * (if decide ((0 : Int) < (B.bi.length : Nat)) = true then 1 else 0)) (ed_bin (ed_callR c Fn (by decide) rfl 1 rfl (by kspl_open vis) rfl (ad_cons ed_int ad_nil rfl) rfl ⟨2, rfl, by decide, by decide, rfl, rfl⟩ rfl rfl rfl rfl rfl) (ed_callT c rfl M.b_int PyProof.Rows.boot_int (ad_cons (ed_cmp (ed_var c 4 rfl (by kspl_open vis) rfl rfl rfl) ed_int (by kspl_open cd) (nomark _)) ad_nil rfl) (by kspl_open cl) (by decide) rfl rfl rfl) (bd_mul (.inr (by split <;> decide)))) ⟨by split <;> omega, by split <;> omega⟩ rfl) rfl (by decide) (all1 ⟨_, rfl, .inl rfl⟩) (fun X' c2 => (gd_name c2 21 rfl (by kspl_open loc) (by kspl_open loc))) (Nat.lt_of_lt_of_le (show _ < 1000 by split <;> omega) (Nat.le_of_ble_eq_true rfl)) (fun j r' hj => ⟨_, _, rfl, fun X' c2 => (ed_callR c2 Fn (by decide) rfl 1 rfl (by kspl_open vis) rfl (ad_cons (ed_var c2 4 rfl (by kspl_open vis) rfl rfl rfl) ad_nil rfl) rfl ⟨(B.bi.length : Int), rfl, by
      have hj' := hj
      split at hj'
      · rename_i q; exact of_decide_eq_true q
      · simp at hj', by omega, rfl, rfl⟩ rfl rfl rfl rfl rfl), ⟨.inr rfl, .inr rfl, .inr rfl, .inr rfl, .inr rfl, .inr rfl, .inr rfl, .inr rfl, .inr rfl, .inr rfl, .inr rfl, .inr rfl, .inr rfl, .inr rfl, .inr rfl, .inr rfl, .inr rfl, .inr rfl, .inr rfl, .inr rfl, .inr rfl, .inl rfl, .inr rfl, .inr rfl, trivial⟩⟩) (fun _ => rfl)) ?_
    refine sd_freeze 9 rfl ?_
    have hgl : (iterI (drawM (B.bi.length : Int)) (nxV r5 2 * (if decide ((0 : Int) < (B.bi.length : Nat)) = true then 1 else 0)).toNat (nxR r5 2)).1.length ≤ 1000 := by rw [iterI_len]; split <;> omega
    show SD X [.dat (.list (ns.map .int)), .rng A A' (iterI (drawM (B.bi.length : Int)) (nxV r5 2 * (if decide ((0 : Int) < (B.bi.length : Nat)) = true then 1 else 0)).toNat (nxR r5 2)).2, .dat (.int few), .dat (eBook B), .dat (.int (B.bi.length : Nat)), .dat (ePost start), .dat (.int now), .dat (.list (ls.map eLtr)), .dat (.list ((rowsOf start).map eR3)), .dat (.list ((iterI (drawM (B.bi.length : Int)) (nxV r5 2 * (if decide ((0 : Int) < (B.bi.length : Nat)) = true then 1 else 0)).toNat (nxR r5 2)).1.map .int)), .no, .no, .no, .no, .no, .no, .no, .no, .no, .no, .no, .no, .no, .no] _ _
    generalize (iterI (drawM (B.bi.length : Int)) (nxV r5 2 * (if decide ((0 : Int) < (B.bi.length : Nat)) = true then 1 else 0)).toNat (nxR r5 2)).1 = gone at hgl ⊢
    generalize (iterI (drawM (B.bi.length : Int)) (nxV r5 2 * (if decide ((0 : Int) < (B.bi.length : Nat)) = true then 1 else 0)).toNat (nxR r5 2)).2 = r6
    have C : CaseOk B start gone now ls := ⟨gB, gp, pt, hgl, v0, n1, lt, by omega⟩
    have FC := case_few C
    have LS := case_ltr C
    have GI : GrIn B ls start gone now := ⟨gp, v0, by omega, FC⟩
    have hfr : (chs B start gone now B.bi.length).length ≤ 36 := by
      have := chs_len (B := B) (start := start) (gone := gone) (now := now) B.bi.length
      have : B.bi.length * B.n ≤ 6 * 6 := Nat.mul_le_mul bl n6
      omega
    obtain ⟨m, o, mm, cc, hFew, hI, hE⟩ := few_0 FC
    have hcc : cc.length ≤ 950000 := few_cc9 hFew (by simp)
    have Hin : FewIn [eBook B, .list (List.map eLtr ls), ePost start, .list (List.map .int gone), .int now] B ls start gone now := ⟨rfl, gp, v0, by omega, FC⟩
    have hev := FC.cnt
    refine sd_asg c 10 rfl (by kspl_open loc) (.inl rfl) (Nat.le_of_ble_eq_true rfl) (ed_to (d' := .list ((rowsOf start ++ chs B start gone now B.bi.length).map eR3)) (ed_cat (ed_var c 8 rfl (by kspl_open vis) rfl rfl rfl) (ed_el (el_call c Fch (by decide) rfl (ad_cons (ed_var c 3 rfl (by kspl_open vis) rfl rfl rfl) (ad_cons (ed_var c 5 rfl (by kspl_open vis) rfl rfl rfl) (ad_cons (ed_var c 9 rfl (by kspl_open vis) rfl rfl rfl) (ad_cons (ed_var c 6 rfl (by kspl_open vis) rfl rfl rfl) ad_nil rfl) rfl) rfl) rfl) ⟨B, start, gone, now, rfl, gB, gp, v0, rfl⟩ rfl rfl rfl)) (by rw [List.length_map, List.length_map]; exact Nat.le_trans (show _ ≤ 10000 by omega) (Nat.le_of_ble_eq_true rfl))) (by rw [← List.map_append])) rfl ?_
    show SD X [.dat (.list (ns.map .int)), .rng A A' r6, .dat (.int few), .dat (eBook B), .dat (.int (B.bi.length : Nat)), .dat (ePost start), .dat (.int now), .dat (.list (ls.map eLtr)), .dat (.list ((rowsOf start).map eR3)), .dat (.list (gone.map .int)), .dat (.list ((rowsOf start ++ chs B start gone now B.bi.length).map eR3)), .no, .no, .no, .no, .no, .no, .no, .no, .no, .no, .no, .no, .no] _ _
    refine sd_asg c 11 rfl (by kspl_open loc) (.inl rfl) (Nat.le_of_ble_eq_true rfl) (ed_call c Fall (by decide) rfl (ad_cons (ed_var c 8 rfl (by kspl_open vis) rfl rfl rfl) (ad_cons (ed_to (d' := .list ((chs B start gone now B.bi.length).map eR3)) (ed_el (el_slL (ed_var c 10 rfl (by kspl_open vis) rfl rfl rfl) (po_yes (ed_callB c rfl M.b_len PySem.boot_len (ad_cons (ed_var c 8 rfl (by kspl_open vis) rfl rfl rfl) ad_nil rfl) (cl_lenL (xs := (rowsOf start).map eR3)) (by decide) rfl rfl rfl)) po_no)) (by rw [cutD_map, cutG_drop (by rw [List.length_map])])) (ad_cons (ed_var c 4 rfl (by kspl_open vis) rfl rfl rfl) (ad_cons ed_int ad_nil rfl) rfl) rfl) rfl) ⟨rowsOf start, chs B start gone now B.bi.length, B.bi.length, rfl, bl, by omega, by omega, FC.cnt, rfl⟩ rfl rfl rfl) rfl ?_
    show SD X [.dat (.list (ns.map .int)), .rng A A' r6, .dat (.int few), .dat (eBook B), .dat (.int (B.bi.length : Nat)), .dat (ePost start), .dat (.int now), .dat (.list (ls.map eLtr)), .dat (.list ((rowsOf start).map eR3)), .dat (.list (gone.map .int)), .dat (.list ((rowsOf start ++ chs B start gone now B.bi.length).map eR3)), .dat (.list ((allF (rowsOf start) (chs B start gone now B.bi.length) B.bi.length).map eRows)), .no, .no, .no, .no, .no, .no, .no, .no, .no, .no, .no, .no] _ _
    refine sd_asgC c 12 rfl rfl (Nat.le_of_ble_eq_true rfl) rfl rfl (by decide +kernel) (lc_filter c [("_law_one", 22)] (xs := (allF (rowsOf start) (chs B start gone now B.bi.length) B.bi.length)) (enc := eRows) (fun rows => keptB B rows ls) eRows (by decide +kernel) rfl (id_seq (ed_var c 11 rfl (by kspl_open vis) rfl rfl rfl) rfl) (all1 ⟨_, rfl, .inl rfl⟩) (fun X' c2 => (gd_name c2 22 rfl (by kspl_open loc) (by kspl_open loc))) (Nat.lt_of_lt_of_le (show (allF (rowsOf start) (chs B start gone now B.bi.length) B.bi.length).length < 2000000 by omega) (Nat.le_of_ble_eq_true rfl)) (fun rows hr => ⟨_, rfl, fun X' c2 => ts_one (td_val (ed_call c2 Fk (by decide) rfl (ad_cons (ed_var c2 3 rfl (by kspl_open vis) rfl rfl rfl) (ad_cons (ed_var c2 22 rfl (by kspl_open vis) rfl rfl rfl) (ad_cons (ed_var c2 7 rfl (by kspl_open vis) rfl rfl rfl) ad_nil rfl) rfl) rfl) ⟨B, rows, ls, rfl, gB, (by
      obtain ⟨ext, h1, h2⟩ := allF_mem.mp hr
      rw [h1]; exact rows_good FC h2), LS.sub (fun r h => by
      obtain ⟨ext, h1, h2⟩ := allF_mem.mp hr
      rw [h1] at h
      exact rows_in h2 r h), rfl⟩ rfl rfl rfl) (fun _ => rfl)), ⟨.inr rfl, .inr rfl, .inr rfl, .inr rfl, .inr rfl, .inr rfl, .inr rfl, .inr rfl, .inr rfl, .inr rfl, .inr rfl, .inr rfl, .inr rfl, .inr rfl, .inr rfl, .inr rfl, .inr rfl, .inr rfl, .inr rfl, .inr rfl, .inr rfl, .inr rfl, .inl rfl, .inr rfl, trivial⟩, fun _ X' c2 => (ed_var c2 22 rfl (by kspl_open vis) rfl rfl rfl)⟩) (fun _ => rfl)) ?_
    refine sd_freeze 12 rfl ?_
    show SD X [.dat (.list (ns.map .int)), .rng A A' r6, .dat (.int few), .dat (eBook B), .dat (.int (B.bi.length : Nat)), .dat (ePost start), .dat (.int now), .dat (.list (ls.map eLtr)), .dat (.list ((rowsOf start).map eR3)), .dat (.list (gone.map .int)), .dat (.list ((rowsOf start ++ chs B start gone now B.bi.length).map eR3)), .dat (.list ((allF (rowsOf start) (chs B start gone now B.bi.length) B.bi.length).map eRows)), .dat (.list (((allF (rowsOf start) (chs B start gone now B.bi.length) B.bi.length).filter fun rows => keptB B rows ls).map eRows)), .no, .no, .no, .no, .no, .no, .no, .no, .no, .no, .no] _ _
    refine sd_asg c 13 rfl (by kspl_open loc) (.inl rfl) (Nat.le_of_ble_eq_true rfl) (ed_call c Ft (by decide) rfl (ad_cons (ed_var c 3 rfl (by kspl_open vis) rfl rfl rfl) (ad_cons (ed_var c 7 rfl (by kspl_open vis) rfl rfl rfl) (ad_cons (ed_var c 5 rfl (by kspl_open vis) rfl rfl rfl) (ad_cons (ed_var c 9 rfl (by kspl_open vis) rfl rfl rfl) (ad_cons (ed_var c 6 rfl (by kspl_open vis) rfl rfl rfl) ad_nil rfl) rfl) rfl) rfl) rfl) ⟨B, ls, start, gone, now, m, o, mm, cc, Hin, hFew, rfl⟩ rfl rfl rfl) rfl ?_
    show SD X [.dat (.list (ns.map .int)), .rng A A' r6, .dat (.int few), .dat (eBook B), .dat (.int (B.bi.length : Nat)), .dat (ePost start), .dat (.int now), .dat (.list (ls.map eLtr)), .dat (.list ((rowsOf start).map eR3)), .dat (.list (gone.map .int)), .dat (.list ((rowsOf start ++ chs B start gone now B.bi.length).map eR3)), .dat (.list ((allF (rowsOf start) (chs B start gone now B.bi.length) B.bi.length).map eRows)), .dat (.list (((allF (rowsOf start) (chs B start gone now B.bi.length) B.bi.length).filter fun rows => keptB B rows ls).map eRows)), .dat (.list (cc.map eCut)), .no, .no, .no, .no, .no, .no, .no, .no, .no, .no] _ _
    have hrl : (rowsOf start ++ chs B start gone now B.bi.length).length ≤ 42 := by rw [List.length_append]; omega
    refine sd_asgC c 14 rfl rfl (Nat.le_of_ble_eq_true rfl) rfl rfl (by decide +kernel) (lc_draw (A := A) (B := A') (r := r6) c [("_law_turn", 23)] 1 (n := 4) (fun _ => drawnF (rowsOf start ++ chs B start gone now B.bi.length)) eCut (by decide +kernel) rfl (id_to (ds' := rngD 4) (id_range c rfl M.b_range (n := 4) ed_int ⟨by omega, by omega⟩ rfl) rfl) rfl (by decide) (all1 ⟨_, rfl, .inl rfl⟩) (fun X' c2 => (gd_name c2 23 rfl (by kspl_open loc) (by kspl_open loc))) (Nat.lt_of_lt_of_le (show 4 < 1000 by decide) (Nat.le_of_ble_eq_true rfl)) (fun j r' hj => ⟨_, _, rfl, fun X' c2 => (ed_callR c2 Fd (by decide) rfl 1 rfl (by kspl_open vis) rfl (ad_cons (ed_var c2 10 rfl (by kspl_open vis) rfl rfl rfl) ad_nil rfl) rfl ⟨(rowsOf start ++ chs B start gone now B.bi.length), rfl, by omega, rfl, rfl⟩ rfl rfl rfl rfl rfl), ⟨.inr rfl, .inr rfl, .inr rfl, .inr rfl, .inr rfl, .inr rfl, .inr rfl, .inr rfl, .inr rfl, .inr rfl, .inr rfl, .inr rfl, .inr rfl, .inr rfl, .inr rfl, .inr rfl, .inr rfl, .inr rfl, .inr rfl, .inr rfl, .inr rfl, .inr rfl, .inr rfl, .inl rfl, trivial⟩⟩) (fun _ => rfl)) ?_
    refine sd_freeze 14 rfl ?_
    have hd1 : ∀ z ∈ (iterI (fun _ => drawnF (rowsOf start ++ chs B start gone now B.bi.length)) 4 r6).1, z.length ≤ 1000 := iterI_mem (fun _ r' => by
      have := drawnF_len (rows := (rowsOf start ++ chs B start gone now B.bi.length)) (r := r')
      omega) _ _
    have hd2 : (iterI (fun _ => drawnF (rowsOf start ++ chs B start gone now B.bi.length)) 4 r6).1.length ≤ 1000 := by rw [iterI_len]; omega
    show SD X [.dat (.list (ns.map .int)), .rng A A' (iterI (fun _ => drawnF (rowsOf start ++ chs B start gone now B.bi.length)) 4 r6).2, .dat (.int few), .dat (eBook B), .dat (.int (B.bi.length : Nat)), .dat (ePost start), .dat (.int now), .dat (.list (ls.map eLtr)), .dat (.list ((rowsOf start).map eR3)), .dat (.list (gone.map .int)), .dat (.list ((rowsOf start ++ chs B start gone now B.bi.length).map eR3)), .dat (.list ((allF (rowsOf start) (chs B start gone now B.bi.length) B.bi.length).map eRows)), .dat (.list (((allF (rowsOf start) (chs B start gone now B.bi.length) B.bi.length).filter fun rows => keptB B rows ls).map eRows)), .dat (.list (cc.map eCut)), .dat (.list ((iterI (fun _ => drawnF (rowsOf start ++ chs B start gone now B.bi.length)) 4 r6).1.map eCut)), .no, .no, .no, .no, .no, .no, .no, .no, .no] _ _
    generalize (iterI (fun _ => drawnF (rowsOf start ++ chs B start gone now B.bi.length)) 4 r6).1 = dr at hd1 hd2 ⊢
    exact law_loop1 M c GI LS hI.ln hd1 hcc hd2
  by_cases hq : 0 < nxV r2 3
  · refine sd_asg c 5 rfl (by kspl_open loc) (.inl rfl) (Nat.le_of_ble_eq_true rfl) (ed_if (x := true) (td_to (td_cmp (ed_callR c Fn (by decide) rfl 1 rfl (by kspl_open vis) rfl (ad_cons ed_int ad_nil rfl) rfl ⟨3, rfl, by decide, by decide, rfl, rfl⟩ rfl rfl rfl rfl rfl) ed_int cd_gt (nomark _)) (decT hq)) (fun _ => ed_to (d' := ePost (List.replicate B.bi.length none)) (ed_bin (ed_tup (ad_cons ed_non ad_nil rfl) (Nat.le_of_ble_eq_true rfl)) (ed_var c 4 rfl (by kspl_open vis) rfl rfl rfl) (bd_repT (by omega))) (by unfold ePost; rw [List.map_replicate]; rfl)) (fun z => by cases z)) rfl ?_
    exact tail _ _ (post_none rfl) rows_none
  · refine sd_asg c 5 rfl (by kspl_open loc) (.inl rfl) (Nat.le_of_ble_eq_true rfl) (ed_if (x := false) (td_to (td_cmp (ed_callR c Fn (by decide) rfl 1 rfl (by kspl_open vis) rfl (ad_cons ed_int ad_nil rfl) rfl ⟨3, rfl, by decide, by decide, rfl, rfl⟩ rfl rfl rfl rfl rfl) ed_int cd_gt (nomark _)) (decide_eq_false hq)) (fun z => by cases z) (fun _ => (ed_callR c Fp (by decide) rfl 1 rfl (by kspl_open vis) rfl (ad_cons (ed_var c 3 rfl (by kspl_open vis) rfl rfl rfl) ad_nil rfl) rfl ⟨B, rfl, gB, rfl, rfl⟩ rfl rfl rfl rfl rfl))) rfl ?_
    exact tail _ _ (lawPost_good gB) (lawPost_rt gB)
theorem law_R (ns : List Int) (h : ns.length ≤ 63) : R_law [.list (ns.map .int)] (.bool true) := ⟨ns, rfl, h, rfl⟩
end
end K
namespace K
open PySem L2 Z
theorem walk {l : PySem.W.OpenLaw} {q : Program} {loose : List Str} {XP : (Str → Option Value) → Heap → Prop} {YP : World → Heap → Prop} {d : DefRec} {K : Params → PySem.W.Frag} {ts : List Addr} (hn : l.most = some 63) (hdf : d.params.defaults = [])
    (hY : ∀ (w : World) (h : Heap), YP w h → (K w.params).In h ∧ ∀ P ∈ ts, h.get? P = some (PySem.W.tabObj #[]))
    (F : ∀ (w : World) (mg : Str → Option Value) (fa : Addr) (h : Heap), (K w.params).In h → h.Ns mainGlobals mg → mg d.name = some (.ref fa) →
      ∃ L : LamC, L.tt ∈ ts ∧ PySem.W.codeHdIn (K w.params) L.cc L.tt = true ∧ (K w.params).lookup L.tt = none ∧ Md (K w.params) mg ∧ ∃ f fd, L2.Fun (K w.params) "law" "law" s_law f fd ∧ mg "law" = some (.ref f) ∧ (∀ (s : Shared) (v : Value), BindsTo s fd ⟨[v], []⟩ [("_law_script", v)])) (hx : d.name = "law") :
    PySem.W.WalkO q loose XP YP l.row.toRowW d [] (fun f vs => PySem.call f vs) :=
  LamX.walk_ofTs (n := 63) (k := 14) (x := "_law_script") (CX := fun _ => L2.CX0) hn (by decide) hdf ⟨rfl, by decide, by decide⟩ (fun w h Y => (hY w h Y).1) (fun w mg fa h Y X G hm => by
    obtain ⟨L, h1, h2, h3, M, f, fd, Fu, hf, hb⟩ := F w mg fa h X G hm
    rw [hx, hf] at hm
    cases hm
    have hT := (hY w h Y).2 _ h1
    exact ⟨fd, [(L.cc, L.tt)], spP (K w.params) R_law, fun p hp => by rw [List.mem_singleton.mp hp]; exact hT, fun p hp => by rw [List.mem_singleton.mp hp]; exact h3, fun p hp => by rw [List.mem_singleton.mp hp]; exact PySem.W.codeHd_of_K X h2, hb,
      fun H a ns hl _ hP hS => sp_law law_R H a ns hl (fun p hp => by rw [List.mem_singleton.mp (show p ∈ [_] from hp)]; exact LamX.TabS.nil (hP _ (List.mem_singleton.mpr rfl))) hS, fun base _ _ TB => ok_law M Fu (TB _ (List.mem_singleton.mpr rfl))⟩) fun _ _ _ _ _ z => z
section
variable {K : PySem.W.Frag}
theorem md_mk {h : Heap} {mg : Str → Option Value} (X : K.In h) (G : h.Ns mainGlobals mg)
    {f0 f1 f2 f3 f4 f5 f6 f7 f8 f9 f10 f11 f12 f13 f14 f15 f16 f17 f18 f19 f20 f21 f22 f23 f24 f25 f26 f27 f28 f29 f30 f31 f32 f33 f34 f35 f36 f37 f38 f39 f40 f41 f42 : Addr} {od0 an0 od1 an1 od2 an2 od3 an3 od4 an4 od5 an5 od6 an6 od7 an7 od8 an8 od9 an9 od10 an10 od11 an11 od12 an12 od13 an13 od14 an14 od15 an15 od16 an16 od17 an17 od18 an18 od19 an19 od20 an20 od21 an21 od22 an22 od23 an23 od24 an24 od25 an25 od26 an26 od27 an27 od28 an28 od29 an29 od30 an30 od31 an31 od32 an32 od33 an33 od34 an34 od35 an35 od36 an36 od37 an37 od38 an38 od39 an39 od40 an40 od41 an41 od42 an42 : Option Addr} {sl0 sl1 sl2 sl3 sl4 sl5 sl6 sl7 sl8 sl9 sl10 sl11 sl12 sl13 sl14 sl15 sl16 sl17 sl18 sl19 sl20 sl21 sl22 sl23 sl24 sl25 sl26 sl27 sl28 sl29 sl30 sl31 sl32 sl33 sl34 sl35 sl36 sl37 sl38 sl39 sl40 sl41 sl42 : Array (Option Value)} {oc0 kV0 dc0 pm0 ct0 cd0 oc1 kV1 dc1 pm1 ct1 cd1 oc2 kV2 dc2 pm2 ct2 cd2 oc3 kV3 dc3 pm3 ct3 cd3 oc4 kV4 dc4 pm4 ct4 cd4 oc5 kV5 dc5 pm5 ct5 cd5 oc6 kV6 dc6 pm6 ct6 cd6 oc7 kV7 dc7 pm7 ct7 cd7 oc8 kV8 dc8 pm8 ct8 cd8 oc9 kV9 dc9 pm9 ct9 cd9 oc10 kV10 dc10 pm10 ct10 cd10 oc11 kV11 dc11 pm11 ct11 cd11 oc12 kV12 dc12 pm12 ct12 cd12 oc13 kV13 dc13 pm13 ct13 cd13 oc14 kV14 dc14 pm14 ct14 cd14 oc15 kV15 dc15 pm15 ct15 cd15 oc16 kV16 dc16 pm16 ct16 cd16 oc17 kV17 dc17 pm17 ct17 cd17 oc18 kV18 dc18 pm18 ct18 cd18 oc19 kV19 dc19 pm19 ct19 cd19 oc20 kV20 dc20 pm20 ct20 cd20 oc21 kV21 dc21 pm21 ct21 cd21 oc22 kV22 dc22 pm22 ct22 cd22 oc23 kV23 dc23 pm23 ct23 cd23 oc24 kV24 dc24 pm24 ct24 cd24 oc25 kV25 dc25 pm25 ct25 cd25 oc26 kV26 dc26 pm26 ct26 cd26 oc27 kV27 dc27 pm27 ct27 cd27 oc28 kV28 dc28 pm28 ct28 cd28 oc29 kV29 dc29 pm29 ct29 cd29 oc30 kV30 dc30 pm30 ct30 cd30 oc31 kV31 dc31 pm31 ct31 oc32 kV32 dc32 pm32 ct32 cd32 oc33 kV33 dc33 pm33 ct33 cd33 oc34 kV34 dc34 pm34 ct34 cd34 oc35 kV35 dc35 pm35 ct35 cd35 oc36 kV36 dc36 pm36 ct36 cd36 oc37 kV37 dc37 pm37 ct37 cd37 oc38 kV38 dc38 pm38 ct38 cd38 oc39 kV39 dc39 pm39 ct39 cd39 oc40 kV40 dc40 pm40 ct40 cd40 oc41 kV41 dc41 pm41 ct41 cd41 oc42 kV42 dc42 pm42 ct42 cd42 : Value} {cc tt : Addr} {ts : List Addr}
    (a0 : PySem.W.nsIn K mainGlobals "need" = some (some (.ref f0))) (l0 : K.lookup f0 = some ⟨oc0, od0, .func (PySem.W.fnOf "need" "need" (defArgs s_need) (defBody s_need) (defScope s_need) .none kV0 dc0 pm0 an0 cd0 ct0), sl0⟩) (c0 : PySem.W.codeIn K cd0 "need" = true) (k0 : PySem.W.keepIn K (.ref f0) = true)
    (a1 : PySem.W.nsIn K mainGlobals "is_office" = some (some (.ref f1))) (l1 : K.lookup f1 = some ⟨oc1, od1, .func (PySem.W.fnOf "is_office" "is_office" (defArgs s_is_office) (defBody s_is_office) (defScope s_is_office) .none kV1 dc1 pm1 an1 cd1 ct1), sl1⟩) (c1 : PySem.W.codeIn K cd1 "is_office" = true) (k1 : PySem.W.keepIn K (.ref f1) = true)
    (a2 : PySem.W.nsIn K mainGlobals "need_flights" = some (some (.ref f2))) (l2 : K.lookup f2 = some ⟨oc2, od2, .func (PySem.W.fnOf "need_flights" "need_flights" (defArgs s_need_flights) (defBody s_need_flights) (defScope s_need_flights) .none kV2 dc2 pm2 an2 cd2 ct2), sl2⟩) (c2 : PySem.W.codeIn K cd2 "need_flights" = true) (k2 : PySem.W.keepIn K (.ref f2) = true)
    (a3 : PySem.W.nsIn K mainGlobals "need_rows" = some (some (.ref f3))) (l3 : K.lookup f3 = some ⟨oc3, od3, .func (PySem.W.fnOf "need_rows" "need_rows" (defArgs s_need_rows) (defBody s_need_rows) (defScope s_need_rows) .none kV3 dc3 pm3 an3 cd3 ct3), sl3⟩) (c3 : PySem.W.codeIn K cd3 "need_rows" = true) (k3 : PySem.W.keepIn K (.ref f3) = true)
    (a4 : PySem.W.nsIn K mainGlobals "need_book" = some (some (.ref f4))) (l4 : K.lookup f4 = some ⟨oc4, od4, .func (PySem.W.fnOf "need_book" "need_book" (defArgs s_need_book) (defBody s_need_book) (defScope s_need_book) .none kV4 dc4 pm4 an4 cd4 ct4), sl4⟩) (c4 : PySem.W.codeIn K cd4 "need_book" = true) (k4 : PySem.W.keepIn K (.ref f4) = true)
    (a5 : PySem.W.nsIn K mainGlobals "need_posting" = some (some (.ref f5))) (l5 : K.lookup f5 = some ⟨oc5, od5, .func (PySem.W.fnOf "need_posting" "need_posting" (defArgs s_need_posting) (defBody s_need_posting) (defScope s_need_posting) .none kV5 dc5 pm5 an5 cd5 ct5), sl5⟩) (c5 : PySem.W.codeIn K cd5 "need_posting" = true) (k5 : PySem.W.keepIn K (.ref f5) = true)
    (a6 : PySem.W.nsIn K mainGlobals "need_office" = some (some (.ref f6))) (l6 : K.lookup f6 = some ⟨oc6, od6, .func (PySem.W.fnOf "need_office" "need_office" (defArgs s_need_office) (defBody s_need_office) (defScope s_need_office) .none kV6 dc6 pm6 an6 cd6 ct6), sl6⟩) (c6 : PySem.W.codeIn K cd6 "need_office" = true) (k6 : PySem.W.keepIn K (.ref f6) = true)
    (a7 : PySem.W.nsIn K mainGlobals "need_letters" = some (some (.ref f7))) (l7 : K.lookup f7 = some ⟨oc7, od7, .func (PySem.W.fnOf "need_letters" "need_letters" (defArgs s_need_letters) (defBody s_need_letters) (defScope s_need_letters) .none kV7 dc7 pm7 an7 cd7 ct7), sl7⟩) (c7 : PySem.W.codeIn K cd7 "need_letters" = true) (k7 : PySem.W.keepIn K (.ref f7) = true)
    (a8 : PySem.W.nsIn K mainGlobals "arrivals" = some (some (.ref f8))) (l8 : K.lookup f8 = some ⟨oc8, od8, .func (PySem.W.fnOf "arrivals" "arrivals" (defArgs s_arrivals) (defBody s_arrivals) (defScope s_arrivals) .none kV8 dc8 pm8 an8 cd8 ct8), sl8⟩) (c8 : PySem.W.codeIn K cd8 "arrivals" = true) (k8 : PySem.W.keepIn K (.ref f8) = true)
    (a9 : PySem.W.nsIn K mainGlobals "all_choices" = some (some (.ref f9))) (l9 : K.lookup f9 = some ⟨oc9, od9, .func (PySem.W.fnOf "all_choices" "all_choices" (defArgs s_all_choices) (defBody s_all_choices) (defScope s_all_choices) .none kV9 dc9 pm9 an9 cd9 ct9), sl9⟩) (c9 : PySem.W.codeIn K cd9 "all_choices" = true) (k9 : PySem.W.keepIn K (.ref f9) = true)
    (a10 : PySem.W.nsIn K mainGlobals "is_barred" = some (some (.ref f10))) (l10 : K.lookup f10 = some ⟨oc10, od10, .func (PySem.W.fnOf "is_barred" "is_barred" (defArgs s_is_barred) (defBody s_is_barred) (defScope s_is_barred) .none kV10 dc10 pm10 an10 cd10 ct10), sl10⟩) (c10 : PySem.W.codeIn K cd10 "is_barred" = true) (k10 : PySem.W.keepIn K (.ref f10) = true)
    (a11 : PySem.W.nsIn K mainGlobals "let_go" = some (some (.ref f11))) (l11 : K.lookup f11 = some ⟨oc11, od11, .func (PySem.W.fnOf "let_go" "let_go" (defArgs s_let_go) (defBody s_let_go) (defScope s_let_go) .none kV11 dc11 pm11 an11 cd11 ct11), sl11⟩) (c11 : PySem.W.codeIn K cd11 "let_go" = true) (k11 : PySem.W.keepIn K (.ref f11) = true)
    (a12 : PySem.W.nsIn K mainGlobals "comes" = some (some (.ref f12))) (l12 : K.lookup f12 = some ⟨oc12, od12, .func (PySem.W.fnOf "comes" "comes" (defArgs s_comes) (defBody s_comes) (defScope s_comes) .none kV12 dc12 pm12 an12 cd12 ct12), sl12⟩) (c12 : PySem.W.codeIn K cd12 "comes" = true) (k12 : PySem.W.keepIn K (.ref f12) = true)
    (a13 : PySem.W.nsIn K mainGlobals "posted" = some (some (.ref f13))) (l13 : K.lookup f13 = some ⟨oc13, od13, .func (PySem.W.fnOf "posted" "posted" (defArgs s_posted) (defBody s_posted) (defScope s_posted) .none kV13 dc13 pm13 an13 cd13 ct13), sl13⟩) (c13 : PySem.W.codeIn K cd13 "posted" = true) (k13 : PySem.W.keepIn K (.ref f13) = true)
    (a14 : PySem.W.nsIn K mainGlobals "spread" = some (some (.ref f14))) (l14 : K.lookup f14 = some ⟨oc14, od14, .func (PySem.W.fnOf "spread" "spread" (defArgs s_spread) (defBody s_spread) (defScope s_spread) .none kV14 dc14 pm14 an14 cd14 ct14), sl14⟩) (c14 : PySem.W.codeIn K cd14 "spread" = true) (k14 : PySem.W.keepIn K (.ref f14) = true)
    (a15 : PySem.W.nsIn K mainGlobals "without" = some (some (.ref f15))) (l15 : K.lookup f15 = some ⟨oc15, od15, .func (PySem.W.fnOf "without" "without" (defArgs s_without) (defBody s_without) (defScope s_without) .none kV15 dc15 pm15 an15 cd15 ct15), sl15⟩) (c15 : PySem.W.codeIn K cd15 "without" = true) (k15 : PySem.W.keepIn K (.ref f15) = true)
    (a16 : PySem.W.nsIn K mainGlobals "losses" = some (some (.ref f16))) (l16 : K.lookup f16 = some ⟨oc16, od16, .func (PySem.W.fnOf "losses" "losses" (defArgs s_losses) (defBody s_losses) (defScope s_losses) .none kV16 dc16 pm16 an16 cd16 ct16), sl16⟩) (c16 : PySem.W.codeIn K cd16 "losses" = true) (k16 : PySem.W.keepIn K (.ref f16) = true)
    (a17 : PySem.W.nsIn K mainGlobals "comes_by" = some (some (.ref f17))) (l17 : K.lookup f17 = some ⟨oc17, od17, .func (PySem.W.fnOf "comes_by" "comes_by" (defArgs s_comes_by) (defBody s_comes_by) (defScope s_comes_by) .none kV17 dc17 pm17 an17 cd17 ct17), sl17⟩) (c17 : PySem.W.codeIn K cd17 "comes_by" = true) (k17 : PySem.W.keepIn K (.ref f17) = true)
    (a18 : PySem.W.nsIn K mainGlobals "first_failing" = some (some (.ref f18))) (l18 : K.lookup f18 = some ⟨oc18, od18, .func (PySem.W.fnOf "first_failing" "first_failing" (defArgs s_first_failing) (defBody s_first_failing) (defScope s_first_failing) .none kV18 dc18 pm18 an18 cd18 ct18), sl18⟩) (c18 : PySem.W.codeIn K cd18 "first_failing" = true) (k18 : PySem.W.keepIn K (.ref f18) = true)
    (a19 : PySem.W.nsIn K mainGlobals "is_cut" = some (some (.ref f19))) (l19 : K.lookup f19 = some ⟨oc19, od19, .func (PySem.W.fnOf "is_cut" "is_cut" (defArgs s_is_cut) (defBody s_is_cut) (defScope s_is_cut) .none kV19 dc19 pm19 an19 cd19 ct19), sl19⟩) (c19 : PySem.W.codeIn K cd19 "is_cut" = true) (k19 : PySem.W.keepIn K (.ref f19) = true)
    (a20 : PySem.W.nsIn K mainGlobals "shows" = some (some (.ref f20))) (l20 : K.lookup f20 = some ⟨oc20, od20, .func (PySem.W.fnOf "shows" "shows" (defArgs s_shows) (defBody s_shows) (defScope s_shows) .none kV20 dc20 pm20 an20 cd20 ct20), sl20⟩) (c20 : PySem.W.codeIn K cd20 "shows" = true) (k20 : PySem.W.keepIn K (.ref f20) = true)
    (a21 : PySem.W.nsIn K mainGlobals "narrowed" = some (some (.ref f21))) (l21 : K.lookup f21 = some ⟨oc21, od21, .func (PySem.W.fnOf "narrowed" "narrowed" (defArgs s_narrowed) (defBody s_narrowed) (defScope s_narrowed) .none kV21 dc21 pm21 an21 cd21 ct21), sl21⟩) (c21 : PySem.W.codeIn K cd21 "narrowed" = true) (k21 : PySem.W.keepIn K (.ref f21) = true)
    (a22 : PySem.W.nsIn K mainGlobals "posting_of" = some (some (.ref f22))) (l22 : K.lookup f22 = some ⟨oc22, od22, .func (PySem.W.fnOf "posting_of" "posting_of" (defArgs s_posting_of) (defBody s_posting_of) (defScope s_posting_of) .none kV22 dc22 pm22 an22 cd22 ct22), sl22⟩) (c22 : PySem.W.codeIn K cd22 "posting_of" = true) (k22 : PySem.W.keepIn K (.ref f22) = true)
    (a23 : PySem.W.nsIn K mainGlobals "fewest" = some (some (.ref f23))) (l23 : K.lookup f23 = some ⟨oc23, od23, .func (PySem.W.fnOf "fewest" "fewest" (defArgs s_fewest) (defBody s_fewest) (defScope s_fewest) .none kV23 dc23 pm23 an23 cd23 ct23), sl23⟩) (c23 : PySem.W.codeIn K cd23 "fewest" = true) (k23 : PySem.W.keepIn K (.ref f23) = true)
    (a24 : PySem.W.nsIn K mainGlobals "_law_next" = some (some (.ref f24))) (l24 : K.lookup f24 = some ⟨oc24, od24, .func (PySem.W.fnOf "_law_next" "_law_next" (defArgs s__law_next) (defBody s__law_next) (defScope s__law_next) .none kV24 dc24 pm24 an24 cd24 ct24), sl24⟩) (c24 : PySem.W.codeIn K cd24 "_law_next" = true) (k24 : PySem.W.keepIn K (.ref f24) = true)
    (a25 : PySem.W.nsIn K mainGlobals "_law_hours" = some (some (.ref f25))) (l25 : K.lookup f25 = some ⟨oc25, od25, .func (PySem.W.fnOf "_law_hours" "_law_hours" (defArgs s__law_hours) (defBody s__law_hours) (defScope s__law_hours) .none kV25 dc25 pm25 an25 cd25 ct25), sl25⟩) (c25 : PySem.W.codeIn K cd25 "_law_hours" = true) (k25 : PySem.W.keepIn K (.ref f25) = true)
    (a26 : PySem.W.nsIn K mainGlobals "_law_book" = some (some (.ref f26))) (l26 : K.lookup f26 = some ⟨oc26, od26, .func (PySem.W.fnOf "_law_book" "_law_book" (defArgs s__law_book) (defBody s__law_book) (defScope s__law_book) .none kV26 dc26 pm26 an26 cd26 ct26), sl26⟩) (c26 : PySem.W.codeIn K cd26 "_law_book" = true) (k26 : PySem.W.keepIn K (.ref f26) = true)
    (a27 : PySem.W.nsIn K mainGlobals "_law_posting" = some (some (.ref f27))) (l27 : K.lookup f27 = some ⟨oc27, od27, .func (PySem.W.fnOf "_law_posting" "_law_posting" (defArgs s__law_posting) (defBody s__law_posting) (defScope s__law_posting) .none kV27 dc27 pm27 an27 cd27 ct27), sl27⟩) (c27 : PySem.W.codeIn K cd27 "_law_posting" = true) (k27 : PySem.W.keepIn K (.ref f27) = true)
    (a28 : PySem.W.nsIn K mainGlobals "_law_begins" = some (some (.ref f28))) (l28 : K.lookup f28 = some ⟨oc28, od28, .func (PySem.W.fnOf "_law_begins" "_law_begins" (defArgs s__law_begins) (defBody s__law_begins) (defScope s__law_begins) .none kV28 dc28 pm28 an28 cd28 ct28), sl28⟩) (c28 : PySem.W.codeIn K cd28 "_law_begins" = true) (k28 : PySem.W.keepIn K (.ref f28) = true)
    (a29 : PySem.W.nsIn K mainGlobals "_law_barred" = some (some (.ref f29))) (l29 : K.lookup f29 = some ⟨oc29, od29, .func (PySem.W.fnOf "_law_barred" "_law_barred" (defArgs s__law_barred) (defBody s__law_barred) (defScope s__law_barred) .none kV29 dc29 pm29 an29 cd29 ct29), sl29⟩) (c29 : PySem.W.codeIn K cd29 "_law_barred" = true) (k29 : PySem.W.keepIn K (.ref f29) = true)
    (a30 : PySem.W.nsIn K mainGlobals "_law_rows" = some (some (.ref f30))) (l30 : K.lookup f30 = some ⟨oc30, od30, .func (PySem.W.fnOf "_law_rows" "_law_rows" (defArgs s__law_rows) (defBody s__law_rows) (defScope s__law_rows) .none kV30 dc30 pm30 an30 cd30 ct30), sl30⟩) (c30 : PySem.W.codeIn K cd30 "_law_rows" = true) (k30 : PySem.W.keepIn K (.ref f30) = true)
    (a31 : PySem.W.nsIn K mainGlobals "_law_carried" = some (some (.ref f31))) (l31 : K.lookup f31 = some ⟨oc31, od31, .func (PySem.W.fnOf "_law_carried" "_law_carried" (defArgs s__law_carried) (defBody s__law_carried) (defScope s__law_carried) .none kV31 dc31 pm31 an31 (.ref cc) ct31), sl31⟩) (c31 : PySem.W.codeIn K (.ref cc) "_law_carried" = true) (k31 : PySem.W.keepIn K (.ref f31) = true)
    (a32 : PySem.W.nsIn K mainGlobals "_law_choices" = some (some (.ref f32))) (l32 : K.lookup f32 = some ⟨oc32, od32, .func (PySem.W.fnOf "_law_choices" "_law_choices" (defArgs s__law_choices) (defBody s__law_choices) (defScope s__law_choices) .none kV32 dc32 pm32 an32 cd32 ct32), sl32⟩) (c32 : PySem.W.codeIn K cd32 "_law_choices" = true) (k32 : PySem.W.keepIn K (.ref f32) = true)
    (a33 : PySem.W.nsIn K mainGlobals "_law_comes" = some (some (.ref f33))) (l33 : K.lookup f33 = some ⟨oc33, od33, .func (PySem.W.fnOf "_law_comes" "_law_comes" (defArgs s__law_comes) (defBody s__law_comes) (defScope s__law_comes) .none kV33 dc33 pm33 an33 cd33 ct33), sl33⟩) (c33 : PySem.W.codeIn K cd33 "_law_comes" = true) (k33 : PySem.W.keepIn K (.ref f33) = true)
    (a34 : PySem.W.nsIn K mainGlobals "_law_spread" = some (some (.ref f34))) (l34 : K.lookup f34 = some ⟨oc34, od34, .func (PySem.W.fnOf "_law_spread" "_law_spread" (defArgs s__law_spread) (defBody s__law_spread) (defScope s__law_spread) .none kV34 dc34 pm34 an34 cd34 ct34), sl34⟩) (c34 : PySem.W.codeIn K cd34 "_law_spread" = true) (k34 : PySem.W.keepIn K (.ref f34) = true)
    (a35 : PySem.W.nsIn K mainGlobals "_law_kept" = some (some (.ref f35))) (l35 : K.lookup f35 = some ⟨oc35, od35, .func (PySem.W.fnOf "_law_kept" "_law_kept" (defArgs s__law_kept) (defBody s__law_kept) (defScope s__law_kept) .none kV35 dc35 pm35 an35 cd35 ct35), sl35⟩) (c35 : PySem.W.codeIn K cd35 "_law_kept" = true) (k35 : PySem.W.keepIn K (.ref f35) = true)
    (a36 : PySem.W.nsIn K mainGlobals "_law_letters" = some (some (.ref f36))) (l36 : K.lookup f36 = some ⟨oc36, od36, .func (PySem.W.fnOf "_law_letters" "_law_letters" (defArgs s__law_letters) (defBody s__law_letters) (defScope s__law_letters) .none kV36 dc36 pm36 an36 cd36 ct36), sl36⟩) (c36 : PySem.W.codeIn K cd36 "_law_letters" = true) (k36 : PySem.W.keepIn K (.ref f36) = true)
    (a37 : PySem.W.nsIn K mainGlobals "_law_is_cut" = some (some (.ref f37))) (l37 : K.lookup f37 = some ⟨oc37, od37, .func (PySem.W.fnOf "_law_is_cut" "_law_is_cut" (defArgs s__law_is_cut) (defBody s__law_is_cut) (defScope s__law_is_cut) .none kV37 dc37 pm37 an37 cd37 ct37), sl37⟩) (c37 : PySem.W.codeIn K cd37 "_law_is_cut" = true) (k37 : PySem.W.keepIn K (.ref f37) = true)
    (a38 : PySem.W.nsIn K mainGlobals "_law_all" = some (some (.ref f38))) (l38 : K.lookup f38 = some ⟨oc38, od38, .func (PySem.W.fnOf "_law_all" "_law_all" (defArgs s__law_all) (defBody s__law_all) (defScope s__law_all) .none kV38 dc38 pm38 an38 cd38 ct38), sl38⟩) (c38 : PySem.W.codeIn K cd38 "_law_all" = true) (k38 : PySem.W.keepIn K (.ref f38) = true)
    (a39 : PySem.W.nsIn K mainGlobals "_law_has_two" = some (some (.ref f39))) (l39 : K.lookup f39 = some ⟨oc39, od39, .func (PySem.W.fnOf "_law_has_two" "_law_has_two" (defArgs s__law_has_two) (defBody s__law_has_two) (defScope s__law_has_two) .none kV39 dc39 pm39 an39 cd39 ct39), sl39⟩) (c39 : PySem.W.codeIn K cd39 "_law_has_two" = true) (k39 : PySem.W.keepIn K (.ref f39) = true)
    (a40 : PySem.W.nsIn K mainGlobals "_law_drawn" = some (some (.ref f40))) (l40 : K.lookup f40 = some ⟨oc40, od40, .func (PySem.W.fnOf "_law_drawn" "_law_drawn" (defArgs s__law_drawn) (defBody s__law_drawn) (defScope s__law_drawn) .none kV40 dc40 pm40 an40 cd40 ct40), sl40⟩) (c40 : PySem.W.codeIn K cd40 "_law_drawn" = true) (k40 : PySem.W.keepIn K (.ref f40) = true)
    (a41 : PySem.W.nsIn K mainGlobals "_law_told" = some (some (.ref f41))) (l41 : K.lookup f41 = some ⟨oc41, od41, .func (PySem.W.fnOf "_law_told" "_law_told" (defArgs s__law_told) (defBody s__law_told) (defScope s__law_told) .none kV41 dc41 pm41 an41 cd41 ct41), sl41⟩) (c41 : PySem.W.codeIn K cd41 "_law_told" = true) (k41 : PySem.W.keepIn K (.ref f41) = true)
    (a42 : PySem.W.nsIn K mainGlobals "law" = some (some (.ref f42))) (l42 : K.lookup f42 = some ⟨oc42, od42, .func (PySem.W.fnOf "law" "law" (defArgs s_law) (defBody s_law) (defScope s_law) .none kV42 dc42 pm42 an42 cd42 ct42), sl42⟩) (c42 : PySem.W.codeIn K cd42 "law" = true) (k42 : PySem.W.keepIn K (.ref f42) = true)
    (n0 : ∃ t, PySem.W.nsIn K mainGlobals "LEAST_OFFICES" = some (some (.int 2 t)))
    (n1 : ∃ t, PySem.W.nsIn K mainGlobals "MOST_OFFICES" = some (some (.int 6 t)))
    (n2 : ∃ t, PySem.W.nsIn K mainGlobals "MOST_FLIGHT" = some (some (.int 9 t)))
    (n3 : ∃ t, PySem.W.nsIn K mainGlobals "MOST_STORMS" = some (some (.int 8 t)))
    (n4 : ∃ t, PySem.W.nsIn K mainGlobals "MOST_CARTS" = some (some (.int 12 t)))
    (n5 : ∃ t, PySem.W.nsIn K mainGlobals "MOST_BIRDS" = some (some (.int 6 t)))
    (n6 : ∃ t, PySem.W.nsIn K mainGlobals "MOST_HOUR" = some (some (.int 99 t)))
    (n7 : ∃ t, PySem.W.nsIn K mainGlobals "FLIGHTS" = some (some (.int 0 t)))
    (n8 : ∃ t, PySem.W.nsIn K mainGlobals "STORMS" = some (some (.int 1 t)))
    (n9 : ∃ t, PySem.W.nsIn K mainGlobals "CARTS" = some (some (.int 2 t)))
    (n10 : ∃ t, PySem.W.nsIn K mainGlobals "BIRDS" = some (some (.int 3 t)))
    (z0 : PySem.W.nsIn K mainGlobals "bool" = some none)
    (z1 : PySem.W.nsIn K mainGlobals "enumerate" = some none)
    (z2 : PySem.W.nsIn K mainGlobals "int" = some none)
    (z3 : PySem.W.nsIn K mainGlobals "isinstance" = some none)
    (z4 : PySem.W.nsIn K mainGlobals "len" = some none)
    (z5 : PySem.W.nsIn K mainGlobals "list" = some none)
    (z6 : PySem.W.nsIn K mainGlobals "max" = some none)
    (z7 : PySem.W.nsIn K mainGlobals "min" = some none)
    (z8 : PySem.W.nsIn K mainGlobals "range" = some none)
    (z9 : PySem.W.nsIn K mainGlobals "sorted" = some none)
    (z10 : PySem.W.nsIn K mainGlobals "tuple" = some none)
    {C0 : Addr} {gf0_0 gf0_1 gf0_2 gf0_3 gf0_4 gf0_5 gf0_6 : Addr} {god0_0 gan0_0 god0_1 gan0_1 god0_2 gan0_2 god0_3 gan0_3 god0_4 gan0_4 god0_5 gan0_5 god0_6 gan0_6 : Option Addr} {gsl0_0 gsl0_1 gsl0_2 gsl0_3 gsl0_4 gsl0_5 gsl0_6 : Array (Option Value)} {goc0_0 gkV0_0 gdc0_0 gpm0_0 gct0_0 gcd0_0 goc0_1 gkV0_1 gdc0_1 gpm0_1 gct0_1 gcd0_1 goc0_2 gkV0_2 gdc0_2 gpm0_2 gct0_2 gcd0_2 goc0_3 gkV0_3 gdc0_3 gpm0_3 gct0_3 gcd0_3 goc0_4 gkV0_4 gdc0_4 gpm0_4 gct0_4 gcd0_4 goc0_5 gkV0_5 gdc0_5 gpm0_5 gct0_5 gcd0_5 goc0_6 gkV0_6 gdc0_6 gpm0_6 gct0_6 gcd0_6 : Value}
    (ga0 : PySem.W.nsIn K mainGlobals "Ground" = some (some (.ref C0))) (gpg0 : PySem.W.plainGet K C0 Str.empty = true) (ghd0 : PySem.W.hasDictIn K C0 = true) (gpo0 : PySem.W.plainOver K C0 = true) (gsa0 : PySem.W.findIn K (.ref C0) "__setattr__" = some (some (.builtin "object.__setattr__"))) (gmk0 : PySem.W.makesIn K C0 = true) (gkp0 : PySem.W.keepIn K (.ref C0) = true)
    (gfi0_0 : PySem.W.findIn K (.ref C0) "__init__" = some (some (.ref gf0_0))) (gfn0_0 : PySem.W.isFn K (.ref gf0_0) = true) (glk0_0 : K.lookup gf0_0 = some ⟨goc0_0, god0_0, .func (PySem.W.fnOf "__init__" "Ground.__init__" (defArgs s_Ground___init__) (defBody s_Ground___init__) (defScope s_Ground___init__) .none gkV0_0 gdc0_0 gpm0_0 gan0_0 gcd0_0 gct0_0), gsl0_0⟩) (gco0_0 : PySem.W.codeIn K gcd0_0 "Ground.__init__" = true) (gkk0_0 : PySem.W.keepIn K (.ref gf0_0) = true)
    (gfi0_1 : PySem.W.findIn K (.ref C0) "rows" = some (some (.ref gf0_1))) (gfn0_1 : PySem.W.isFn K (.ref gf0_1) = true) (glk0_1 : K.lookup gf0_1 = some ⟨goc0_1, god0_1, .func (PySem.W.fnOf "rows" "Ground.rows" (defArgs s_Ground_rows) (defBody s_Ground_rows) (defScope s_Ground_rows) .none gkV0_1 gdc0_1 gpm0_1 gan0_1 gcd0_1 gct0_1), gsl0_1⟩) (gco0_1 : PySem.W.codeIn K gcd0_1 "Ground.rows" = true) (gkk0_1 : PySem.W.keepIn K (.ref gf0_1) = true)
    (gfi0_2 : PySem.W.findIn K (.ref C0) "left" = some (some (.ref gf0_2))) (gfn0_2 : PySem.W.isFn K (.ref gf0_2) = true) (glk0_2 : K.lookup gf0_2 = some ⟨goc0_2, god0_2, .func (PySem.W.fnOf "left" "Ground.left" (defArgs s_Ground_left) (defBody s_Ground_left) (defScope s_Ground_left) .none gkV0_2 gdc0_2 gpm0_2 gan0_2 gcd0_2 gct0_2), gsl0_2⟩) (gco0_2 : PySem.W.codeIn K gcd0_2 "Ground.left" = true) (gkk0_2 : PySem.W.keepIn K (.ref gf0_2) = true)
    (gfi0_3 : PySem.W.findIn K (.ref C0) "is_cut" = some (some (.ref gf0_3))) (gfn0_3 : PySem.W.isFn K (.ref gf0_3) = true) (glk0_3 : K.lookup gf0_3 = some ⟨goc0_3, god0_3, .func (PySem.W.fnOf "is_cut" "Ground.is_cut" (defArgs s_Ground_is_cut) (defBody s_Ground_is_cut) (defScope s_Ground_is_cut) .none gkV0_3 gdc0_3 gpm0_3 gan0_3 gcd0_3 gct0_3), gsl0_3⟩) (gco0_3 : PySem.W.codeIn K gcd0_3 "Ground.is_cut" = true) (gkk0_3 : PySem.W.keepIn K (.ref gf0_3) = true)
    (gfi0_4 : PySem.W.findIn K (.ref C0) "has_two" = some (some (.ref gf0_4))) (gfn0_4 : PySem.W.isFn K (.ref gf0_4) = true) (glk0_4 : K.lookup gf0_4 = some ⟨goc0_4, god0_4, .func (PySem.W.fnOf "has_two" "Ground.has_two" (defArgs s_Ground_has_two) (defBody s_Ground_has_two) (defScope s_Ground_has_two) .none gkV0_4 gdc0_4 gpm0_4 gan0_4 gcd0_4 gct0_4), gsl0_4⟩) (gco0_4 : PySem.W.codeIn K gcd0_4 "Ground.has_two" = true) (gkk0_4 : PySem.W.keepIn K (.ref gf0_4) = true)
    (gfi0_5 : PySem.W.findIn K (.ref C0) "choosing" = some (some (.ref gf0_5))) (gfn0_5 : PySem.W.isFn K (.ref gf0_5) = true) (glk0_5 : K.lookup gf0_5 = some ⟨goc0_5, god0_5, .func (PySem.W.fnOf "choosing" "Ground.choosing" (defArgs s_Ground_choosing) (defBody s_Ground_choosing) (defScope s_Ground_choosing) .none gkV0_5 gdc0_5 gpm0_5 gan0_5 gcd0_5 gct0_5), gsl0_5⟩) (gco0_5 : PySem.W.codeIn K gcd0_5 "Ground.choosing" = true) (gkk0_5 : PySem.W.keepIn K (.ref gf0_5) = true)
    (gfi0_6 : PySem.W.findIn K (.ref C0) "first_with" = some (some (.ref gf0_6))) (gfn0_6 : PySem.W.isFn K (.ref gf0_6) = true) (glk0_6 : K.lookup gf0_6 = some ⟨goc0_6, god0_6, .func (PySem.W.fnOf "first_with" "Ground.first_with" (defArgs s_Ground_first_with) (defBody s_Ground_first_with) (defScope s_Ground_first_with) .none gkV0_6 gdc0_6 gpm0_6 gan0_6 gcd0_6 gct0_6), gsl0_6⟩) (gco0_6 : PySem.W.codeIn K gcd0_6 "Ground.first_with" = true) (gkk0_6 : PySem.W.keepIn K (.ref gf0_6) = true)
    (gna0_book : PySem.W.findIn K (.ref C0) "book" = some none)
    (gna0_letters : PySem.W.findIn K (.ref C0) "letters" = some none)
    (gna0_stands : PySem.W.findIn K (.ref C0) "stands" = some none)
    (gna0_free : PySem.W.findIn K (.ref C0) "free" = some none)
    {aPostError aBadBook aNoOffice aBadPosting aNoPosting : Addr}
    (xg_PostError : PySem.W.nsIn K mainGlobals "PostError" = some (some (.ref aPostError)))
    (xc_PostError : PySem.W.isClsIn K aPostError = true)
    (xt_PostError : PySem.W.typeIn K (.ref aPostError) = some (.type "type"))
    (xs_PostError : PySem.W.subIn K (.ref aPostError) (.type "BaseException") = some true)
    (xh_PostError : PySem.W.hasDictIn K aPostError = true)
    (xg_BadBook : PySem.W.nsIn K mainGlobals "BadBook" = some (some (.ref aBadBook)))
    (xc_BadBook : PySem.W.isClsIn K aBadBook = true)
    (xt_BadBook : PySem.W.typeIn K (.ref aBadBook) = some (.type "type"))
    (xs_BadBook : PySem.W.subIn K (.ref aBadBook) (.type "BaseException") = some true)
    (xh_BadBook : PySem.W.hasDictIn K aBadBook = true)
    (xg_NoOffice : PySem.W.nsIn K mainGlobals "NoOffice" = some (some (.ref aNoOffice)))
    (xc_NoOffice : PySem.W.isClsIn K aNoOffice = true)
    (xt_NoOffice : PySem.W.typeIn K (.ref aNoOffice) = some (.type "type"))
    (xs_NoOffice : PySem.W.subIn K (.ref aNoOffice) (.type "BaseException") = some true)
    (xh_NoOffice : PySem.W.hasDictIn K aNoOffice = true)
    (xg_BadPosting : PySem.W.nsIn K mainGlobals "BadPosting" = some (some (.ref aBadPosting)))
    (xc_BadPosting : PySem.W.isClsIn K aBadPosting = true)
    (xt_BadPosting : PySem.W.typeIn K (.ref aBadPosting) = some (.type "type"))
    (xs_BadPosting : PySem.W.subIn K (.ref aBadPosting) (.type "BaseException") = some true)
    (xh_BadPosting : PySem.W.hasDictIn K aBadPosting = true)
    (xg_NoPosting : PySem.W.nsIn K mainGlobals "NoPosting" = some (some (.ref aNoPosting)))
    (xc_NoPosting : PySem.W.isClsIn K aNoPosting = true)
    (xt_NoPosting : PySem.W.typeIn K (.ref aNoPosting) = some (.type "type"))
    (xs_NoPosting : PySem.W.subIn K (.ref aNoPosting) (.type "BaseException") = some true)
    (xh_NoPosting : PySem.W.hasDictIn K aNoPosting = true)
    (xp_NoPosting_PostError : PySem.W.subIn K (.ref aNoPosting) (.ref aPostError) = some true)
    (xp_NoPosting_BadBook : PySem.W.subIn K (.ref aNoPosting) (.ref aBadBook) = some false)
    (xp_NoPosting_NoOffice : PySem.W.subIn K (.ref aNoPosting) (.ref aNoOffice) = some false)
    (xp_NoPosting_BadPosting : PySem.W.subIn K (.ref aNoPosting) (.ref aBadPosting) = some false)
    (xp_NoPosting_NoPosting : PySem.W.subIn K (.ref aNoPosting) (.ref aNoPosting) = some true)
    (xv_NoPosting : PySem.W.subIn K (.ref aNoPosting) (.type "ValueError") = some true)
    (xiA_NoPosting : PySem.W.findIn K (.ref aNoPosting) "__getattribute__" = some (some (.builtin "BaseException.__getattribute__")))
    (xiB_NoPosting : PySem.W.findIn K (.ref aNoPosting) "__getattr__" = some none)
    (xiC_NoPosting : PySem.W.findIn K (.ref aNoPosting) "__class__" = some (some (.builtin "object.__class__")))
    (xiD_NoPosting : PySem.W.specialIn K (.builtin "object.__class__") "__get__" = some (some (.builtin "getset_descriptor.__get__")))
    (xiE_NoPosting : PySem.W.takesIn K (.builtin "object.__class__") = some true)
    (xiF_NoPosting : PySem.W.mroIn K aNoPosting (.type "object") = some true)
    (xkC_NoPosting : PySem.W.keepIn K (.ref aNoPosting) = true)
    {nm_NoPosting q_NoPosting : Str} {N_NoPosting : Addr} {bs_NoPosting : List Value} {sn_NoPosting : List Str} {su_NoPosting : List Value} {ab_NoPosting : Bool} {co_NoPosting : Option Bool} {dd_NoPosting : Option Addr} {k0_NoPosting k1_NoPosting k2_NoPosting k3_NoPosting k5_NoPosting : Option Value} {xf_NoPosting : Addr} {xod_NoPosting xan_NoPosting : Option Addr} {xsl_NoPosting : Array (Option Value)} {xoc_NoPosting xkV_NoPosting xdc_NoPosting xpm_NoPosting xcd_NoPosting xct_NoPosting : Value}
    (xl_NoPosting : K.lookup aNoPosting = some (excClassObj nm_NoPosting q_NoPosting aNoPosting N_NoPosting bs_NoPosting [.ref aPostError, .type "ValueError", .type "Exception", .type "BaseException", .type "object"] true sn_NoPosting su_NoPosting ab_NoPosting co_NoPosting dd_NoPosting k0_NoPosting k1_NoPosting k2_NoPosting k3_NoPosting k5_NoPosting "ValueError.__new__"))
    (xsa_NoPosting : PySem.W.findIn K (.ref aNoPosting) "__setattr__" = some (some (.builtin "object.__setattr__")))
    (xno_NoPosting : PySem.W.findIn K (.ref aNoPosting) "cuts" = some none)
    (xI_NoPosting : PySem.W.findIn K (.ref aNoPosting) "__init__" = some (some (.ref xf_NoPosting)))
    (xtI_NoPosting : PySem.W.typeIn K (.ref xf_NoPosting) = some (.type "function"))
    (xlk_NoPosting : K.lookup xf_NoPosting = some ⟨xoc_NoPosting, xod_NoPosting, .func (PySem.W.fnOf "__init__" "NoPosting.__init__" (defArgs s_NoPosting___init__) (defBody s_NoPosting___init__) (defScope s_NoPosting___init__) .none xkV_NoPosting xdc_NoPosting xpm_NoPosting xan_NoPosting xcd_NoPosting xct_NoPosting), xsl_NoPosting⟩)
    (xco_NoPosting : PySem.W.codeIn K xcd_NoPosting "NoPosting.__init__" = true)
    (xkk_NoPosting : PySem.W.keepIn K (.ref xf_NoPosting) = true)
    (xVE : PySem.W.nsIn K mainGlobals "ValueError" = some none)
    (hts : tt ∈ ts) (hh : PySem.W.codeHdIn K cc tt = true) (ht : K.lookup tt = none)
    : ∃ L : LamC, L.tt ∈ ts ∧ PySem.W.codeHdIn K L.cc L.tt = true ∧ K.lookup L.tt = none ∧ Md K mg ∧ ∃ f fd, L2.Fun K "law" "law" s_law f fd ∧ mg "law" = some (.ref f) ∧ (∀ (s : Shared) (v : Value), BindsTo s fd ⟨[v], []⟩ [("_law_script", v)]) := by
  letI L : LamC := ⟨cc, tt⟩
  exact ⟨L, hts, hh, ht, {
    c_LEAST_OFFICES := let ⟨t, e⟩ := n0; ⟨t, PySem.W.mg_of X G e⟩
    c_MOST_OFFICES := let ⟨t, e⟩ := n1; ⟨t, PySem.W.mg_of X G e⟩
    c_MOST_FLIGHT := let ⟨t, e⟩ := n2; ⟨t, PySem.W.mg_of X G e⟩
    c_MOST_STORMS := let ⟨t, e⟩ := n3; ⟨t, PySem.W.mg_of X G e⟩
    c_MOST_CARTS := let ⟨t, e⟩ := n4; ⟨t, PySem.W.mg_of X G e⟩
    c_MOST_BIRDS := let ⟨t, e⟩ := n5; ⟨t, PySem.W.mg_of X G e⟩
    c_MOST_HOUR := let ⟨t, e⟩ := n6; ⟨t, PySem.W.mg_of X G e⟩
    c_FLIGHTS := let ⟨t, e⟩ := n7; ⟨t, PySem.W.mg_of X G e⟩
    c_STORMS := let ⟨t, e⟩ := n8; ⟨t, PySem.W.mg_of X G e⟩
    c_CARTS := let ⟨t, e⟩ := n9; ⟨t, PySem.W.mg_of X G e⟩
    c_BIRDS := let ⟨t, e⟩ := n10; ⟨t, PySem.W.mg_of X G e⟩
    d_need := have F := L2.fun_mk (st := s_need) l0 c0 k0; ⟨_, _, F, PySem.W.mg_of X G a0, F.binds fun _ _ _ _ _ _ us hl => match us, hl with | [_, _], _ => rfl⟩
    d_is_office := have F := L2.fun_mk (st := s_is_office) l1 c1 k1; ⟨_, _, F, PySem.W.mg_of X G a1, F.binds fun _ _ _ _ _ _ us hl => match us, hl with | [_, _], _ => rfl⟩
    d_need_flights := have F := L2.fun_mk (st := s_need_flights) l2 c2 k2; ⟨_, _, F, PySem.W.mg_of X G a2, F.binds fun _ _ _ _ _ _ us hl => match us, hl with | [_], _ => rfl⟩
    d_need_rows := have F := L2.fun_mk (st := s_need_rows) l3 c3 k3; ⟨_, _, F, PySem.W.mg_of X G a3, F.binds fun _ _ _ _ _ _ us hl => match us, hl with | [_, _, _, _], _ => rfl⟩
    d_need_book := have F := L2.fun_mk (st := s_need_book) l4 c4 k4; ⟨_, _, F, PySem.W.mg_of X G a4, F.binds fun _ _ _ _ _ _ us hl => match us, hl with | [_], _ => rfl⟩
    d_need_posting := have F := L2.fun_mk (st := s_need_posting) l5 c5 k5; ⟨_, _, F, PySem.W.mg_of X G a5, F.binds fun _ _ _ _ _ _ us hl => match us, hl with | [_, _], _ => rfl⟩
    d_need_office := have F := L2.fun_mk (st := s_need_office) l6 c6 k6; ⟨_, _, F, PySem.W.mg_of X G a6, F.binds fun _ _ _ _ _ _ us hl => match us, hl with | [_, _], _ => rfl⟩
    d_need_letters := have F := L2.fun_mk (st := s_need_letters) l7 c7 k7; ⟨_, _, F, PySem.W.mg_of X G a7, F.binds fun _ _ _ _ _ _ us hl => match us, hl with | [_, _], _ => rfl⟩
    d_arrivals := have F := L2.fun_mk (st := s_arrivals) l8 c8 k8; ⟨_, _, F, PySem.W.mg_of X G a8, F.binds fun _ _ _ _ _ _ us hl => match us, hl with | [_, _, _], _ => rfl⟩
    d_all_choices := have F := L2.fun_mk (st := s_all_choices) l9 c9 k9; ⟨_, _, F, PySem.W.mg_of X G a9, F.binds fun _ _ _ _ _ _ us hl => match us, hl with | [_, _, _, _], _ => rfl⟩
    d_is_barred := have F := L2.fun_mk (st := s_is_barred) l10 c10 k10; ⟨_, _, F, PySem.W.mg_of X G a10, F.binds fun _ _ _ _ _ _ us hl => match us, hl with | [_, _, _, _], _ => rfl⟩
    d_let_go := have F := L2.fun_mk (st := s_let_go) l11 c11 k11; ⟨_, _, F, PySem.W.mg_of X G a11, F.binds fun _ _ _ _ _ _ us hl => match us, hl with | [_, _, _, _], _ => rfl⟩
    d_comes := have F := L2.fun_mk (st := s_comes) l12 c12 k12; ⟨_, _, F, PySem.W.mg_of X G a12, F.binds fun _ _ _ _ _ _ us hl => match us, hl with | [_, _, _, _], _ => rfl⟩
    d_posted := have F := L2.fun_mk (st := s_posted) l13 c13 k13; ⟨_, _, F, PySem.W.mg_of X G a13, F.binds fun _ _ _ _ _ _ us hl => match us, hl with | [_], _ => rfl⟩
    d_spread := have F := L2.fun_mk (st := s_spread) l14 c14 k14; ⟨_, _, F, PySem.W.mg_of X G a14, F.binds fun _ _ _ _ _ _ us hl => match us, hl with | [_, _, _], _ => rfl⟩
    d_without := have F := L2.fun_mk (st := s_without) l15 c15 k15; ⟨_, _, F, PySem.W.mg_of X G a15, F.binds fun _ _ _ _ _ _ us hl => match us, hl with | [_, _], _ => rfl⟩
    d_losses := have F := L2.fun_mk (st := s_losses) l16 c16 k16; ⟨_, _, F, PySem.W.mg_of X G a16, F.binds fun _ _ _ _ _ _ us hl => match us, hl with | [_], _ => rfl⟩
    d_comes_by := have F := L2.fun_mk (st := s_comes_by) l17 c17 k17; ⟨_, _, F, PySem.W.mg_of X G a17, F.binds fun _ _ _ _ _ _ us hl => match us, hl with | [_, _, _], _ => rfl⟩
    d_first_failing := have F := L2.fun_mk (st := s_first_failing) l18 c18 k18; ⟨_, _, F, PySem.W.mg_of X G a18, F.binds fun _ _ _ _ _ _ us hl => match us, hl with | [_, _, _], _ => rfl⟩
    d_is_cut := have F := L2.fun_mk (st := s_is_cut) l19 c19 k19; ⟨_, _, F, PySem.W.mg_of X G a19, F.binds fun _ _ _ _ _ _ us hl => match us, hl with | [_, _, _, _, _, _], _ => rfl⟩
    d_shows := have F := L2.fun_mk (st := s_shows) l20 c20 k20; ⟨_, _, F, PySem.W.mg_of X G a20, F.binds fun _ _ _ _ _ _ us hl => match us, hl with | [_, _, _, _, _, _, _], _ => rfl⟩
    d_narrowed := have F := L2.fun_mk (st := s_narrowed) l21 c21 k21; ⟨_, _, F, PySem.W.mg_of X G a21, F.binds fun _ _ _ _ _ _ us hl => match us, hl with | [_, _], _ => rfl⟩
    d_posting_of := have F := L2.fun_mk (st := s_posting_of) l22 c22 k22; ⟨_, _, F, PySem.W.mg_of X G a22, F.binds fun _ _ _ _ _ _ us hl => match us, hl with | [_, _], _ => rfl⟩
    d_fewest := have F := L2.fun_mk (st := s_fewest) l23 c23 k23; ⟨_, _, F, PySem.W.mg_of X G a23, F.binds fun _ _ _ _ _ _ us hl => match us, hl with | [_, _, _, _, _], _ => rfl⟩
    d__law_next := have F := L2.fun_mk (st := s__law_next) l24 c24 k24; ⟨_, _, F, PySem.W.mg_of X G a24, F.binds fun _ _ _ _ _ _ us hl => match us, hl with | [_, _], _ => rfl⟩
    d__law_hours := have F := L2.fun_mk (st := s__law_hours) l25 c25 k25; ⟨_, _, F, PySem.W.mg_of X G a25, F.binds fun _ _ _ _ _ _ us hl => match us, hl with | [_, _, _], _ => rfl⟩
    d__law_book := have F := L2.fun_mk (st := s__law_book) l26 c26 k26; ⟨_, _, F, PySem.W.mg_of X G a26, F.binds fun _ _ _ _ _ _ us hl => match us, hl with | [_, _, _], _ => rfl⟩
    d__law_posting := have F := L2.fun_mk (st := s__law_posting) l27 c27 k27; ⟨_, _, F, PySem.W.mg_of X G a27, F.binds fun _ _ _ _ _ _ us hl => match us, hl with | [_, _], _ => rfl⟩
    d__law_begins := have F := L2.fun_mk (st := s__law_begins) l28 c28 k28; ⟨_, _, F, PySem.W.mg_of X G a28, F.binds fun _ _ _ _ _ _ us hl => match us, hl with | [_, _], _ => rfl⟩
    d__law_barred := have F := L2.fun_mk (st := s__law_barred) l29 c29 k29; ⟨_, _, F, PySem.W.mg_of X G a29, F.binds fun _ _ _ _ _ _ us hl => match us, hl with | [_, _, _, _], _ => rfl⟩
    d__law_rows := have F := L2.fun_mk (st := s__law_rows) l30 c30 k30; ⟨_, _, F, PySem.W.mg_of X G a30, F.binds fun _ _ _ _ _ _ us hl => match us, hl with | [_], _ => rfl⟩
    d__law_carried := have F := L2.fun_mk (st := s__law_carried) l31 c31 k31; ⟨_, _, F, PySem.W.mg_of X G a31, F.binds fun _ _ _ _ _ _ us hl => match us, hl with | [_, _, _], _ => rfl⟩
    d__law_choices := have F := L2.fun_mk (st := s__law_choices) l32 c32 k32; ⟨_, _, F, PySem.W.mg_of X G a32, F.binds fun _ _ _ _ _ _ us hl => match us, hl with | [_, _, _, _], _ => rfl⟩
    d__law_comes := have F := L2.fun_mk (st := s__law_comes) l33 c33 k33; ⟨_, _, F, PySem.W.mg_of X G a33, F.binds fun _ _ _ _ _ _ us hl => match us, hl with | [_, _, _], _ => rfl⟩
    d__law_spread := have F := L2.fun_mk (st := s__law_spread) l34 c34 k34; ⟨_, _, F, PySem.W.mg_of X G a34, F.binds fun _ _ _ _ _ _ us hl => match us, hl with | [_, _, _], _ => rfl⟩
    d__law_kept := have F := L2.fun_mk (st := s__law_kept) l35 c35 k35; ⟨_, _, F, PySem.W.mg_of X G a35, F.binds fun _ _ _ _ _ _ us hl => match us, hl with | [_, _, _], _ => rfl⟩
    d__law_letters := have F := L2.fun_mk (st := s__law_letters) l36 c36 k36; ⟨_, _, F, PySem.W.mg_of X G a36, F.binds fun _ _ _ _ _ _ us hl => match us, hl with | [_, _], _ => rfl⟩
    d__law_is_cut := have F := L2.fun_mk (st := s__law_is_cut) l37 c37 k37; ⟨_, _, F, PySem.W.mg_of X G a37, F.binds fun _ _ _ _ _ _ us hl => match us, hl with | [_, _, _, _], _ => rfl⟩
    d__law_all := have F := L2.fun_mk (st := s__law_all) l38 c38 k38; ⟨_, _, F, PySem.W.mg_of X G a38, F.binds fun _ _ _ _ _ _ us hl => match us, hl with | [_, _, _, _], _ => rfl⟩
    d__law_has_two := have F := L2.fun_mk (st := s__law_has_two) l39 c39 k39; ⟨_, _, F, PySem.W.mg_of X G a39, F.binds fun _ _ _ _ _ _ us hl => match us, hl with | [_, _], _ => rfl⟩
    d__law_drawn := have F := L2.fun_mk (st := s__law_drawn) l40 c40 k40; ⟨_, _, F, PySem.W.mg_of X G a40, F.binds fun _ _ _ _ _ _ us hl => match us, hl with | [_, _], _ => rfl⟩
    d__law_told := have F := L2.fun_mk (st := s__law_told) l41 c41 k41; ⟨_, _, F, PySem.W.mg_of X G a41, F.binds fun _ _ _ _ _ _ us hl => match us, hl with | [_, _, _, _, _], _ => rfl⟩
    b_bool := PySem.W.mg_none_of X G z0
    b_enumerate := PySem.W.mg_none_of X G z1
    b_int := PySem.W.mg_none_of X G z2
    b_isinstance := PySem.W.mg_none_of X G z3
    b_len := PySem.W.mg_none_of X G z4
    b_list := PySem.W.mg_none_of X G z5
    b_max := PySem.W.mg_none_of X G z6
    b_min := PySem.W.mg_none_of X G z7
    b_range := PySem.W.mg_none_of X G z8
    b_sorted := PySem.W.mg_none_of X G z9
    b_tuple := PySem.W.mg_none_of X G z10
    e__law_carried := have F := fun_mkC (st := s__law_carried) l31 c31 k31; ⟨_, _, F, PySem.W.mg_of X G a31, F.fun.binds fun _ _ _ _ _ _ us hl => match us, hl with | [_, _, _], _ => rfl⟩
    g_Ground := ⟨C0, {
      cl := ⟨gpg0, ghd0, gpo0, gsa0⟩
      mkd := have F := L2.fun_mk (st := s_Ground___init__) glk0_0 gco0_0 gkk0_0; ⟨_, _, F, ⟨gmk0, gfi0_0, gfn0_0, gkp0⟩, PySem.W.mg_of X G ga0, F.binds fun _ _ _ _ _ _ us hl => match us, hl with | [_, _, _, _, _, _], _ => rfl⟩
      m_rows := have F := L2.fun_mk (st := s_Ground_rows) glk0_1 gco0_1 gkk0_1; ⟨_, _, F, ⟨gfi0_1, gfn0_1, gkk0_1⟩, F.binds fun _ _ _ _ _ _ us hl => match us, hl with | [_], _ => rfl⟩
      m_left := have F := L2.fun_mk (st := s_Ground_left) glk0_2 gco0_2 gkk0_2; ⟨_, _, F, ⟨gfi0_2, gfn0_2, gkk0_2⟩, F.binds fun _ _ _ _ _ _ us hl => match us, hl with | [_, _], _ => rfl⟩
      m_is_cut := have F := L2.fun_mk (st := s_Ground_is_cut) glk0_3 gco0_3 gkk0_3; ⟨_, _, F, ⟨gfi0_3, gfn0_3, gkk0_3⟩, F.binds fun _ _ _ _ _ _ us hl => match us, hl with | [_, _], _ => rfl⟩
      m_has_two := have F := L2.fun_mk (st := s_Ground_has_two) glk0_4 gco0_4 gkk0_4; ⟨_, _, F, ⟨gfi0_4, gfn0_4, gkk0_4⟩, F.binds fun _ _ _ _ _ _ us hl => match us, hl with | [_, _, _], _ => rfl⟩
      m_choosing := have F := L2.fun_mk (st := s_Ground_choosing) glk0_5 gco0_5 gkk0_5; ⟨_, _, F, ⟨gfi0_5, gfn0_5, gkk0_5⟩, F.binds fun _ _ _ _ _ _ us hl => match us, hl with | [_, _, _, _, _], _ => rfl⟩
      m_first_with := have F := L2.fun_mk (st := s_Ground_first_with) glk0_6 gco0_6 gkk0_6; ⟨_, _, F, ⟨gfi0_6, gfn0_6, gkk0_6⟩, F.binds fun _ _ _ _ _ _ us hl => match us, hl with | [_, _, _], _ => rfl⟩
      na_book := gna0_book
      na_letters := gna0_letters
      na_stands := gna0_stands
      na_free := gna0_free }⟩
    b_ValueError := PySem.W.mg_none_of X G xVE
    exs := ⟨aPostError, aBadBook, aNoOffice, aBadPosting, aNoPosting, {
      g_PostError := PySem.W.mg_of X G xg_PostError
      c_PostError := xc_PostError
      t_PostError := xt_PostError
      s_PostError := xs_PostError
      h_PostError := xh_PostError
      g_BadBook := PySem.W.mg_of X G xg_BadBook
      c_BadBook := xc_BadBook
      t_BadBook := xt_BadBook
      s_BadBook := xs_BadBook
      h_BadBook := xh_BadBook
      g_NoOffice := PySem.W.mg_of X G xg_NoOffice
      c_NoOffice := xc_NoOffice
      t_NoOffice := xt_NoOffice
      s_NoOffice := xs_NoOffice
      h_NoOffice := xh_NoOffice
      g_BadPosting := PySem.W.mg_of X G xg_BadPosting
      c_BadPosting := xc_BadPosting
      t_BadPosting := xt_BadPosting
      s_BadPosting := xs_BadPosting
      h_BadPosting := xh_BadPosting
      g_NoPosting := PySem.W.mg_of X G xg_NoPosting
      c_NoPosting := xc_NoPosting
      t_NoPosting := xt_NoPosting
      s_NoPosting := xs_NoPosting
      h_NoPosting := xh_NoPosting
      p_NoPosting_PostError := xp_NoPosting_PostError
      p_NoPosting_BadBook := xp_NoPosting_BadBook
      p_NoPosting_NoOffice := xp_NoPosting_NoOffice
      p_NoPosting_BadPosting := xp_NoPosting_BadPosting
      p_NoPosting_NoPosting := xp_NoPosting_NoPosting
      v_NoPosting := xv_NoPosting
      i_NoPosting := ⟨xc_NoPosting, xiA_NoPosting, xiB_NoPosting, xs_NoPosting, xiC_NoPosting, xiD_NoPosting, xiE_NoPosting, xiF_NoPosting, xh_NoPosting⟩
      x_NoPosting := have F := L2.fun_mk (st := s_NoPosting___init__) xlk_NoPosting xco_NoPosting xkk_NoPosting; ⟨PySem.W.mg_of X G xg_NoPosting, ⟨⟨_, _, _, _, _, _, _, _, _, _, _, _, _, _, _, xl_NoPosting, show PySem.HandSPX.refsVE [.type "ValueError", .type "Exception", .type "BaseException", .type "object"] = true by decide +kernel⟩, xsa_NoPosting, xs_NoPosting, xt_NoPosting, xkC_NoPosting⟩, xno_NoPosting, _, _, xI_NoPosting, xtI_NoPosting, F.binds (fun _ _ _ _ _ _ us hl => match us, hl with | [_, _], _ => rfl), F⟩ }⟩
    }, 
  ⟨f42, _, L2.fun_mk (st := s_law) l42 c42 k42, PySem.W.mg_of X G a42, fun s v => .of_eq rfl⟩⟩
end
end K
open PySem PySem.W PyProof.Rows in
set_option maxRecDepth 100000 in
set_option maxHeartbeats 0 in
theorem PySem.Challenge.cw_homingpost_k09_whole_what_cuts_say_is_so_holds : PySem.Challenge.rw_homingpost_k09_whole_what_cuts_say_is_so.Holds := by
  w_on; o_law; k_head; (case hw => w_witness2)
  k_fill
  refine K.walk (l := PySem.Challenge.rw_homingpost_k09_whole_what_cuts_say_is_so) rfl rfl (fun w h Y => ⟨PySem.W.km_in_of Y, PySem.W.km_tabs_of Y⟩) ?F rfl
  case F =>
    intro w mg fa h KX G hmg
    refine' K.md_mk KX G ?a0 ?l0 ?c0 ?k0 ?a1 ?l1 ?c1 ?k1 ?a2 ?l2 ?c2 ?k2 ?a3 ?l3 ?c3 ?k3 ?a4 ?l4 ?c4 ?k4 ?a5 ?l5 ?c5 ?k5 ?a6 ?l6 ?c6 ?k6 ?a7 ?l7 ?c7 ?k7 ?a8 ?l8 ?c8 ?k8 ?a9 ?l9 ?c9 ?k9 ?a10 ?l10 ?c10 ?k10 ?a11 ?l11 ?c11 ?k11 ?a12 ?l12 ?c12 ?k12 ?a13 ?l13 ?c13 ?k13 ?a14 ?l14 ?c14 ?k14 ?a15 ?l15 ?c15 ?k15 ?a16 ?l16 ?c16 ?k16 ?a17 ?l17 ?c17 ?k17 ?a18 ?l18 ?c18 ?k18 ?a19 ?l19 ?c19 ?k19 ?a20 ?l20 ?c20 ?k20 ?a21 ?l21 ?c21 ?k21 ?a22 ?l22 ?c22 ?k22 ?a23 ?l23 ?c23 ?k23 ?a24 ?l24 ?c24 ?k24 ?a25 ?l25 ?c25 ?k25 ?a26 ?l26 ?c26 ?k26 ?a27 ?l27 ?c27 ?k27 ?a28 ?l28 ?c28 ?k28 ?a29 ?l29 ?c29 ?k29 ?a30 ?l30 ?c30 ?k30 ?a31 ?l31 ?c31 ?k31 ?a32 ?l32 ?c32 ?k32 ?a33 ?l33 ?c33 ?k33 ?a34 ?l34 ?c34 ?k34 ?a35 ?l35 ?c35 ?k35 ?a36 ?l36 ?c36 ?k36 ?a37 ?l37 ?c37 ?k37 ?a38 ?l38 ?c38 ?k38 ?a39 ?l39 ?c39 ?k39 ?a40 ?l40 ?c40 ?k40 ?a41 ?l41 ?c41 ?k41 ?a42 ?l42 ?c42 ?k42 ?n0 ?n1 ?n2 ?n3 ?n4 ?n5 ?n6 ?n7 ?n8 ?n9 ?n10 ?z0 ?z1 ?z2 ?z3 ?z4 ?z5 ?z6 ?z7 ?z8 ?z9 ?z10 ?ga0 ?gpg0 ?ghd0 ?gpo0 ?gsa0 ?gmk0 ?gkp0 ?gfi0_0 ?gfn0_0 ?glk0_0 ?gco0_0 ?gkk0_0 ?gfi0_1 ?gfn0_1 ?glk0_1 ?gco0_1 ?gkk0_1 ?gfi0_2 ?gfn0_2 ?glk0_2 ?gco0_2 ?gkk0_2 ?gfi0_3 ?gfn0_3 ?glk0_3 ?gco0_3 ?gkk0_3 ?gfi0_4 ?gfn0_4 ?glk0_4 ?gco0_4 ?gkk0_4 ?gfi0_5 ?gfn0_5 ?glk0_5 ?gco0_5 ?gkk0_5 ?gfi0_6 ?gfn0_6 ?glk0_6 ?gco0_6 ?gkk0_6 ?gna0_book ?gna0_letters ?gna0_stands ?gna0_free ?xg_PostError ?xc_PostError ?xt_PostError ?xs_PostError ?xh_PostError ?xg_BadBook ?xc_BadBook ?xt_BadBook ?xs_BadBook ?xh_BadBook ?xg_NoOffice ?xc_NoOffice ?xt_NoOffice ?xs_NoOffice ?xh_NoOffice ?xg_BadPosting ?xc_BadPosting ?xt_BadPosting ?xs_BadPosting ?xh_BadPosting ?xg_NoPosting ?xc_NoPosting ?xt_NoPosting ?xs_NoPosting ?xh_NoPosting ?xp_NoPosting_PostError ?xp_NoPosting_BadBook ?xp_NoPosting_NoOffice ?xp_NoPosting_BadPosting ?xp_NoPosting_NoPosting ?xv_NoPosting ?xiA_NoPosting ?xiB_NoPosting ?xiC_NoPosting ?xiD_NoPosting ?xiE_NoPosting ?xiF_NoPosting ?xkC_NoPosting ?xl_NoPosting ?xsa_NoPosting ?xno_NoPosting ?xI_NoPosting ?xtI_NoPosting ?xlk_NoPosting ?xco_NoPosting ?xkk_NoPosting ?xVE ?hts ?hh ?ht
    (case a0 => k_is)
    (case l0 => k_is)
    (case c0 => k_is)
    (case k0 => k_is)
    (case a1 => k_is)
    (case l1 => k_is)
    (case c1 => k_is)
    (case k1 => k_is)
    (case a2 => k_is)
    (case l2 => k_is)
    (case c2 => k_is)
    (case k2 => k_is)
    (case a3 => k_is)
    (case l3 => k_is)
    (case c3 => k_is)
    (case k3 => k_is)
    (case a4 => k_is)
    (case l4 => k_is)
    (case c4 => k_is)
    (case k4 => k_is)
    (case a5 => k_is)
    (case l5 => k_is)
    (case c5 => k_is)
    (case k5 => k_is)
    (case a6 => k_is)
    (case l6 => k_is)
    (case c6 => k_is)
    (case k6 => k_is)
    (case a7 => k_is)
    (case l7 => k_is)
    (case c7 => k_is)
    (case k7 => k_is)
    (case a8 => k_is)
    (case l8 => k_is)
    (case c8 => k_is)
    (case k8 => k_is)
    (case a9 => k_is)
    (case l9 => k_is)
    (case c9 => k_is)
    (case k9 => k_is)
    (case a10 => k_is)
    (case l10 => k_is)
    (case c10 => k_is)
    (case k10 => k_is)
    (case a11 => k_is)
    (case l11 => k_is)
    (case c11 => k_is)
    (case k11 => k_is)
    (case a12 => k_is)
    (case l12 => k_is)
    (case c12 => k_is)
    (case k12 => k_is)
    (case a13 => k_is)
    (case l13 => k_is)
    (case c13 => k_is)
    (case k13 => k_is)
    (case a14 => k_is)
    (case l14 => k_is)
    (case c14 => k_is)
    (case k14 => k_is)
    (case a15 => k_is)
    (case l15 => k_is)
    (case c15 => k_is)
    (case k15 => k_is)
    (case a16 => k_is)
    (case l16 => k_is)
    (case c16 => k_is)
    (case k16 => k_is)
    (case a17 => k_is)
    (case l17 => k_is)
    (case c17 => k_is)
    (case k17 => k_is)
    (case a18 => k_is)
    (case l18 => k_is)
    (case c18 => k_is)
    (case k18 => k_is)
    (case a19 => k_is)
    (case l19 => k_is)
    (case c19 => k_is)
    (case k19 => k_is)
    (case a20 => k_is)
    (case l20 => k_is)
    (case c20 => k_is)
    (case k20 => k_is)
    (case a21 => k_is)
    (case l21 => k_is)
    (case c21 => k_is)
    (case k21 => k_is)
    (case a22 => k_is)
    (case l22 => k_is)
    (case c22 => k_is)
    (case k22 => k_is)
    (case a23 => k_is)
    (case l23 => k_is)
    (case c23 => k_is)
    (case k23 => k_is)
    (case a24 => k_is)
    (case l24 => k_is)
    (case c24 => k_is)
    (case k24 => k_is)
    (case a25 => k_is)
    (case l25 => k_is)
    (case c25 => k_is)
    (case k25 => k_is)
    (case a26 => k_is)
    (case l26 => k_is)
    (case c26 => k_is)
    (case k26 => k_is)
    (case a27 => k_is)
    (case l27 => k_is)
    (case c27 => k_is)
    (case k27 => k_is)
    (case a28 => k_is)
    (case l28 => k_is)
    (case c28 => k_is)
    (case k28 => k_is)
    (case a29 => k_is)
    (case l29 => k_is)
    (case c29 => k_is)
    (case k29 => k_is)
    (case a30 => k_is)
    (case l30 => k_is)
    (case c30 => k_is)
    (case k30 => k_is)
    (case a31 => k_is)
    (case l31 => k_is)
    (case c31 => k_is)
    (case k31 => k_is)
    (case a32 => k_is)
    (case l32 => k_is)
    (case c32 => k_is)
    (case k32 => k_is)
    (case a33 => k_is)
    (case l33 => k_is)
    (case c33 => k_is)
    (case k33 => k_is)
    (case a34 => k_is)
    (case l34 => k_is)
    (case c34 => k_is)
    (case k34 => k_is)
    (case a35 => k_is)
    (case l35 => k_is)
    (case c35 => k_is)
    (case k35 => k_is)
    (case a36 => k_is)
    (case l36 => k_is)
    (case c36 => k_is)
    (case k36 => k_is)
    (case a37 => k_is)
    (case l37 => k_is)
    (case c37 => k_is)
    (case k37 => k_is)
    (case a38 => k_is)
    (case l38 => k_is)
    (case c38 => k_is)
    (case k38 => k_is)
    (case a39 => k_is)
    (case l39 => k_is)
    (case c39 => k_is)
    (case k39 => k_is)
    (case a40 => k_is)
    (case l40 => k_is)
    (case c40 => k_is)
    (case k40 => k_is)
    (case a41 => k_is)
    (case l41 => k_is)
    (case c41 => k_is)
    (case k41 => k_is)
    (case a42 => k_is)
    (case l42 => k_is)
    (case c42 => k_is)
    (case k42 => k_is)
    (case n0 => exact ⟨_, by k_is⟩)
    (case n1 => exact ⟨_, by k_is⟩)
    (case n2 => exact ⟨_, by k_is⟩)
    (case n3 => exact ⟨_, by k_is⟩)
    (case n4 => exact ⟨_, by k_is⟩)
    (case n5 => exact ⟨_, by k_is⟩)
    (case n6 => exact ⟨_, by k_is⟩)
    (case n7 => exact ⟨_, by k_is⟩)
    (case n8 => exact ⟨_, by k_is⟩)
    (case n9 => exact ⟨_, by k_is⟩)
    (case n10 => exact ⟨_, by k_is⟩)
    (case z0 => k_is)
    (case z1 => k_is)
    (case z2 => k_is)
    (case z3 => k_is)
    (case z4 => k_is)
    (case z5 => k_is)
    (case z6 => k_is)
    (case z7 => k_is)
    (case z8 => k_is)
    (case z9 => k_is)
    (case z10 => k_is)
    (case ga0 => k_is)
    (case gpg0 => k_is)
    (case ghd0 => k_is)
    (case gpo0 => k_is)
    (case gsa0 => k_is)
    (case gmk0 => k_is)
    (case gkp0 => k_is)
    (case gfi0_0 => k_is)
    (case gfn0_0 => k_is)
    (case glk0_0 => k_is)
    (case gco0_0 => k_is)
    (case gkk0_0 => k_is)
    (case gfi0_1 => k_is)
    (case gfn0_1 => k_is)
    (case glk0_1 => k_is)
    (case gco0_1 => k_is)
    (case gkk0_1 => k_is)
    (case gfi0_2 => k_is)
    (case gfn0_2 => k_is)
    (case glk0_2 => k_is)
    (case gco0_2 => k_is)
    (case gkk0_2 => k_is)
    (case gfi0_3 => k_is)
    (case gfn0_3 => k_is)
    (case glk0_3 => k_is)
    (case gco0_3 => k_is)
    (case gkk0_3 => k_is)
    (case gfi0_4 => k_is)
    (case gfn0_4 => k_is)
    (case glk0_4 => k_is)
    (case gco0_4 => k_is)
    (case gkk0_4 => k_is)
    (case gfi0_5 => k_is)
    (case gfn0_5 => k_is)
    (case glk0_5 => k_is)
    (case gco0_5 => k_is)
    (case gkk0_5 => k_is)
    (case gfi0_6 => k_is)
    (case gfn0_6 => k_is)
    (case glk0_6 => k_is)
    (case gco0_6 => k_is)
    (case gkk0_6 => k_is)
    (case gna0_book => k_is)
    (case gna0_letters => k_is)
    (case gna0_stands => k_is)
    (case gna0_free => k_is)
    (case xg_PostError => k_is)
    (case xc_PostError => k_is)
    (case xt_PostError => k_is)
    (case xs_PostError => k_is)
    (case xh_PostError => k_is)
    (case xg_BadBook => k_is)
    (case xc_BadBook => k_is)
    (case xt_BadBook => k_is)
    (case xs_BadBook => k_is)
    (case xh_BadBook => k_is)
    (case xg_NoOffice => k_is)
    (case xc_NoOffice => k_is)
    (case xt_NoOffice => k_is)
    (case xs_NoOffice => k_is)
    (case xh_NoOffice => k_is)
    (case xg_BadPosting => k_is)
    (case xc_BadPosting => k_is)
    (case xt_BadPosting => k_is)
    (case xs_BadPosting => k_is)
    (case xh_BadPosting => k_is)
    (case xg_NoPosting => k_is)
    (case xc_NoPosting => k_is)
    (case xt_NoPosting => k_is)
    (case xs_NoPosting => k_is)
    (case xh_NoPosting => k_is)
    (case xp_NoPosting_PostError => k_is)
    (case xp_NoPosting_BadBook => k_is)
    (case xp_NoPosting_NoOffice => k_is)
    (case xp_NoPosting_BadPosting => k_is)
    (case xp_NoPosting_NoPosting => k_is)
    (case xv_NoPosting => k_is)
    (case xiA_NoPosting => k_is)
    (case xiB_NoPosting => k_is)
    (case xiC_NoPosting => k_is)
    (case xiD_NoPosting => k_is)
    (case xiE_NoPosting => k_is)
    (case xiF_NoPosting => k_is)
    (case xkC_NoPosting => k_is)
    (case xl_NoPosting => k_is)
    (case xsa_NoPosting => k_is)
    (case xno_NoPosting => k_is)
    (case xI_NoPosting => k_is)
    (case xtI_NoPosting => k_is)
    (case xlk_NoPosting => k_is)
    (case xco_NoPosting => k_is)
    (case xkk_NoPosting => k_is)
    (case xVE => k_is)
    (case hts => exact List.mem_cons_self)
    (case hh => kernel_rfl)
    (case ht => kernel_rfl)
