import PyProof.Rows.All
import Wide.All
import OpenK.AllK
import Wide.FinOn
import HandS.ForMost
import HandS.TupAny
import HandS.TupMul
import HandS.Walk
import HandS.IsInst
import HandS.TupSets
import HandS.ExcInit
import KE.KxSplit
import HandS.EndTab
import HandS.Lambda
import HandS.Deep
import KE.GoesEnum
import HandS.Zip
import HandS.SortInts
import HandS.RevTup
import HandS.Rev
import HandS.More
import PyProof.P3In
import HandS.Strs
import HandS.SetFor
import HandS.Style
import HandS.Small
import HandS.Conv
import KE.SortKeyHeap
import HandS.Words
import HandS.WordsExc
import HandS.ExcOwn
import HandS.ExcField
import KE.KExcIs
import HandS.ExcIs
import HandS.NoneIn
import PyProof.EqAt
import PySem.Challenge.RW_homingpost_k14_refusals
set_option Elab.async false
set_option linter.all false
set_option maxRecDepth 100000
set_option maxHeartbeats 4000000
namespace Z
open PySem PySem.Spec L2
/-- the state of the law's drawing -/
structure Rg where
  s : Int
  c : List Int
  k : Int
/-- a slot of any other kind, by what it says of what stays, of the heap, of its value and of what is its own; mt: it may be the caller's -/
structure Cus where
  P : PySem.W.Frag → Hp → Hp → Option V → List Addr → Prop
  mt : Bool
  move : ∀ (K : PySem.W.Frag) (G H G2 H2 : Hp) (o : Option V) (as : List Addr), Same G G2 → P K G H o as → (∀ a ∈ as, ∀ u, H a = some u → H2 a = some u) → P K G2 H2 o as
  there : ∀ (K : PySem.W.Frag) (G H : Hp) (o : Option V) (as : List Addr), P K G H o as → ∀ a ∈ as, ∃ u, H a = some u ∧ ∀ ps, u ≠ .tbl ps
/-- what a slot holds: nothing known, data that stays, a list of our own, the drawing state, an instance that stays, a dict of our own -/
inductive SK where
  | no
  | dat (d : PyData)
  | own (ds : List PyData)
  | rng (a b : Addr) (r : Rg)
  | ins (C : Addr) (fs : List (Str × PyData))
  | dic (kvs : List (Int × PyData))
  | ptr (a : Addr)
  | tlo (d0 ds d1 : List PyData)
  | oin (a dx C : Addr) (fs : List (Str × PyData))
  | cus (c : Cus)
def isRng : SK → Bool
  | .rng _ _ _ => true
  | .oin _ _ _ _ => true
  | .cus c => c.mt
  | _ => false
/-- where a def began: what stays, the heap, what it may change -/
structure Wd where
  G : Hp
  H : Hp
  M : Addr → Prop
/-- the tables of code objects that the program's lambdas go into, each with its lambdas' name -/
class Tabl where
  T : List (Addr × Str)
variable [Tabl]
/-- the tables are as they shall be, and none of them is among what stays -/
structure TbO (G H : Hp) : Prop where
  g : ∀ p ∈ Tabl.T, G p.1 = none
  t : LamX.Tabs Tabl.T H
/-- a thing that is neither a table nor known by a statement alone -/
def Pl (u : HO) : Prop := (∀ ps, u ≠ .tbl ps) ∧ ∀ φ, u ≠ .ext φ
theorem pl_lst {xs : List V} : Pl (.lst xs) := ⟨(fun _ z => by cases z), (fun _ z => by cases z)⟩
theorem TbO.at {G H : Hp} (t : TbO G H) {p : Addr × Str} (hp : p ∈ Tabl.T) : ∃ ps, H p.1 = some (.tbl ps) := let ⟨ps, h, _⟩ := t.t p hp; ⟨ps, h⟩
theorem TbO.mono {G H G2 H2 : Hp} (t : TbO G H) (hg : ∀ p ∈ Tabl.T, G2 p.1 = none) (k : ∀ b o, ¬ Pl o → H b = some o → H2 b = some o) : TbO G2 H2 := ⟨hg, fun p hp => by
  obtain ⟨ps, h1, h2, h3⟩ := t.t p hp
  refine ⟨ps, k _ _ (fun z => z.1 ps rfl) h1, h2, fun q cv hc => ?_⟩
  obtain ⟨c, e1, e2⟩ := h3 q cv hc
  exact ⟨c, e1, k _ _ (fun z => z.2 _ rfl) e2⟩⟩
theorem TbO.upd {G H : Hp} {a : Addr} {o : HO} (t : TbO G H) (n : ∀ u, H a = some u → Pl u) : TbO G (upd H a o) := t.mono t.g fun b u nu e => by
  have : b ≠ a := fun z => by subst z; exact nu (n u e)
  rw [upd_ne this]; exact e
theorem TbO.updG {G H : Hp} {a : Addr} {o : HO} (t : TbO G H) (n : H a = some o) (pl : Pl o) : TbO (L2.upd G a o) H := t.mono (fun p hp => by
  obtain ⟨ps, h⟩ := t.at hp
  have : p.1 ≠ a := fun z => by rw [z, n] at h; cases h; exact pl.1 ps rfl
  rw [upd_ne this]; exact t.g p hp) fun b u _ e => e
structure Le (W : Wd) (G H : Hp) : Prop where
  g : Same W.G G
  gh : Same G H
  keep : ∀ a o, ¬ W.M a → (∀ ps, o ≠ .tbl ps) → W.H a = some o → H a = some o
  there : ∀ a o, W.H a = some o → ∃ o', H a = some o'
  fz : ∀ a o, W.G a = none → W.H a = some o → G a = none
  m : ∀ a, W.M a → ∃ o, W.H a = some o
  tb : TbO G H
/-- nothing that stood is changed -/
structure Lp (G0 H0 G H : Hp) : Prop where
  g : Same G0 G
  gh : Same G H
  keep : ∀ a o, ¬ False → H0 a = some o → H a = some o
  there : ∀ a o, H0 a = some o → ∃ o', H a = some o'
  fz : ∀ a o, G0 a = none → H0 a = some o → G a = none
abbrev pur (G H : Hp) : Wd := ⟨G, H, fun _ => False⟩
theorem Le.refl {G H : Hp} (h : Same G H) (t : TbO G H) : Le (pur G H) G H :=
  ⟨Same.refl G, h, fun _ _ _ _ e => e, fun _ o e => ⟨o, e⟩, fun _ _ e _ => e, fun _ z => z.elim, t⟩
theorem Lp.refl {G H : Hp} (h : Same G H) : Lp G H G H :=
  ⟨Same.refl G, h, fun _ _ _ e => e, fun _ o e => ⟨o, e⟩, fun _ _ e _ => e⟩
theorem TbO.step {G H G2 H2 : Hp} (t : TbO G H) (l : Lp G H G2 H2) : TbO G2 H2 := t.mono (fun p hp => by
  obtain ⟨ps, h⟩ := t.at hp
  exact l.fz _ _ (t.g p hp) h) fun b o _ e => l.keep b o (fun z => z) e
theorem Le.trans {W : Wd} {G H G2 H2 : Hp} (a : Le W G H) (b : Lp G H G2 H2) : Le W G2 H2 where
  g := a.g.trans b.g
  gh := b.gh
  keep := fun x o m nt e => b.keep x o (fun z => z) (a.keep x o m nt e)
  there := fun x o e => let ⟨o', e'⟩ := a.there x o e; b.there x o' e'
  fz := fun x o n e => let ⟨o', e'⟩ := a.there x o e; b.fz x o' (a.fz x o n e) e'
  m := a.m
  tb := a.tb.step b
theorem Le.transL {W : Wd} {G H G2 H2 : Hp} (a : Le W G H) (b : Le (pur G H) G2 H2) : Le W G2 H2 where
  g := a.g.trans b.g
  gh := b.gh
  keep := fun x o m nt e => b.keep x o (fun z => z) nt (a.keep x o m nt e)
  there := fun x o e => let ⟨o', e'⟩ := a.there x o e; b.there x o' e'
  fz := fun x o n e => let ⟨o', e'⟩ := a.there x o e; b.fz x o' (a.fz x o n e) e'
  m := a.m
  tb := b.tb
theorem Lp.le {G H G2 H2 : Hp} (l : Lp G H G2 H2) (t : TbO G H) : Le (pur G H) G2 H2 := ⟨l.g, l.gh, fun a o _ _ e => l.keep a o (fun z => z) e, l.there, l.fz, fun _ z => z.elim, t.step l⟩
theorem Lp.trans {G H G1 H1 G2 H2 : Hp} (a : Lp G H G1 H1) (b : Lp G1 H1 G2 H2) : Lp G H G2 H2 where
  g := a.g.trans b.g
  gh := b.gh
  keep := fun x o m e => b.keep x o m (a.keep x o m e)
  there := fun x o e => let ⟨o', e'⟩ := a.there x o e; b.there x o' e'
  fz := fun x o n e => let ⟨o', e'⟩ := a.there x o e; b.fz x o' (a.fz x o n e) e'
/-- a new thing that stays -/
theorem Lp.new {G H : Hp} {p : Addr} {o : HO} (h : Same G H) (n : H p = none) : Lp G H (upd G p o) (upd H p o) where
  g := fun b u e => by
    have : b ≠ p := fun z => by rw [z] at e; rw [h p u e] at n; cases n
    rw [upd_ne this]; exact e
  gh := fun b u e => by
    by_cases q : b = p
    · subst q; rw [upd_same] at e ⊢; exact e
    · rw [upd_ne q] at e ⊢; exact h b u e
  keep := fun x u _ e => by rw [upd_ne (ne_of_none e n)]; exact e
  there := fun x u e => ⟨u, by rw [upd_ne (ne_of_none e n)]; exact e⟩
  fz := fun x u e e' => by
    have e' : H x = some u := e'
    rw [upd_ne (ne_of_none e' n)]; exact e
/-- a new thing of our own -/
theorem Lp.newOwn {G H : Hp} {p : Addr} {o : HO} (h : Same G H) (n : H p = none) : Lp G H G (upd H p o) where
  g := Same.refl G
  gh := fun b u e => by
    have : b ≠ p := fun z => by rw [z] at e; rw [h p u e] at n; cases n
    rw [upd_ne this]; exact h b u e
  keep := fun x u _ e => by rw [upd_ne (ne_of_none e n)]; exact e
  there := fun x u e => ⟨u, by rw [upd_ne (ne_of_none e n)]; exact e⟩
  fz := fun x u e _ => e
end Z
namespace L2
open PySem PySem.Spec
/-! ### data stays -/
theorem Same.seqT {K : PySem.W.Frag} {H H' : Hp} {a : Addr} {xs : List V} (e : Same H H') (h : SqT K H a xs) : SqT K H' a xs := by
  rcases h with (h | ⟨o, h⟩) | h
  · exact .inl (.inl (e _ _ h))
  · exact .inl (.inr ⟨o, e _ _ h⟩)
  · exact .inr h
mutual
theorem Dp.mono {K : PySem.W.Frag} {G G' : Hp} (e : Same G G') : ∀ {v : V} {d : PyData}, Dp K G v d → Dp K G' v d
  | _, _, .non => .non
  | _, _, .bl b => .bl b
  | _, _, .int i => .int i
  | _, _, .str x => .str x
  | _, _, .lst h t => .lst (e.seq h) (DpAll.mono e t)
  | _, _, .tup h t => .tup (Same.seqT e h) (DpAll.mono e t)
theorem DpAll.mono {K : PySem.W.Frag} {G G' : Hp} (e : Same G G') : ∀ {vs : List V} {ds : List PyData}, DpAll K G vs ds → DpAll K G' vs ds
  | _, _, .nil => .nil
  | _, _, .cons h t => .cons (Dp.mono e h) (DpAll.mono e t)
end
section
variable {K : PySem.W.Frag} {G : Hp}
theorem DpAll.len : ∀ {vs : List V} {ds : List PyData}, DpAll K G vs ds → vs.length = ds.length
  | _, _, .nil => rfl
  | _, _, .cons _ t => congrArg (· + 1) (DpAll.len t)
theorem DpAll.get : ∀ {vs : List V} {ds : List PyData} {i : Nat} {d : PyData}, DpAll K G vs ds → ds[i]? = some d → ∃ v, vs[i]? = some v ∧ Dp K G v d
  | _, _, _, _, .nil, e => by simp at e
  | _, _, 0, _, .cons h _, e => by
    simp at e; subst e; exact ⟨_, rfl, h⟩
  | _, _, i + 1, _, .cons _ t, e => by
    obtain ⟨v, a, b⟩ := DpAll.get (i := i) t (by simpa using e)
    exact ⟨v, by simpa using a, b⟩
theorem DpAll.getV : ∀ {vs : List V} {ds : List PyData} {i : Nat} {v : V}, DpAll K G vs ds → vs[i]? = some v → ∃ d, ds[i]? = some d ∧ Dp K G v d
  | _, _, _, _, .nil, e => by simp at e
  | _, _, 0, _, .cons h _, e => by
    simp at e; subst e; exact ⟨_, rfl, h⟩
  | _, _, i + 1, _, .cons _ t, e => by
    obtain ⟨v, a, b⟩ := DpAll.getV (i := i) t (by simpa using e)
    exact ⟨v, by simpa using a, b⟩
theorem DpAll.append : ∀ {vs ws : List V} {ds es : List PyData}, DpAll K G vs ds → DpAll K G ws es → DpAll K G (vs ++ ws) (ds ++ es)
  | _, _, _, _, .nil, b => b
  | _, _, _, _, .cons h t, b => .cons h (DpAll.append t b)
theorem DpAll.set : ∀ {vs : List V} {ds : List PyData} {v : V} {d : PyData} (i : Nat), DpAll K G vs ds → Dp K G v d → DpAll K G (vs.set i v) (ds.set i d)
  | _, _, _, _, _, .nil, _ => .nil
  | _, _, _, _, 0, .cons _ t, h => .cons h t
  | _, _, _, _, i + 1, .cons q t, h => .cons q (DpAll.set i t h)
theorem DpAll.take : ∀ {vs : List V} {ds : List PyData} (i : Nat), DpAll K G vs ds → DpAll K G (vs.take i) (ds.take i)
  | _, _, 0, _ => by simpa using DpAll.nil
  | _, _, _ + 1, .nil => by simpa using DpAll.nil
  | _, _, i + 1, .cons q t => by simpa using DpAll.cons q (DpAll.take i t)
theorem DpAll.drop : ∀ {vs : List V} {ds : List PyData} (i : Nat), DpAll K G vs ds → DpAll K G (vs.drop i) (ds.drop i)
  | _, _, 0, h => by simpa using h
  | _, _, _ + 1, .nil => by simpa using DpAll.nil
  | _, _, i + 1, .cons _ t => by simpa using DpAll.drop i t
theorem DpAll.ints : ∀ {ns : List Int}, DpAll K G (ns.map V.int) (ns.map PyData.int)
  | [] => .nil
  | n :: r => .cons (.int n) (DpAll.ints)
theorem Dp.int_inv {v : V} {i : Int} (h : Dp K G v (.int i)) : v = .int i := by cases h; rfl
theorem Dp.bl_inv {v : V} {b : Bool} (h : Dp K G v (.bool b)) : v = .bl b := by cases h; rfl
theorem Dp.non_inv {v : V} (h : Dp K G v .none) : v = .non := by cases h; rfl
theorem Dp.lst_inv {v : V} {ds : List PyData} (h : Dp K G v (.list ds)) : ∃ a xs, v = .ref a ∧ SqL K G a xs ∧ DpAll K G xs ds := by
  cases h with | lst s t => exact ⟨_, _, rfl, s, t⟩
theorem Dp.tup_inv {v : V} {ds : List PyData} (h : Dp K G v (.tuple ds)) : ∃ a xs, v = .ref a ∧ SqT K G a xs ∧ DpAll K G xs ds := by
  cases h with | tup s t => exact ⟨_, _, rfl, s, t⟩
theorem DpAll.ints_inv : ∀ {vs : List V} {ns : List Int}, DpAll K G vs (ns.map PyData.int) → vs = ns.map V.int
  | _, [], h => by cases h; rfl
  | _, n :: r, h => by
    cases h with | cons a b => cases a; rw [DpAll.ints_inv b]; rfl
end
end L2
namespace Z
open PySem PySem.Spec L2
variable [Tabl]
/-! ### what the slots hold -/
def FsD (K : PySem.W.Frag) (G : Hp) : List (Str × V) → List (Str × PyData) → Prop := Paired fun p q => p.1 = q.1 ∧ Dp K G p.2 q.2
def KvD (K : PySem.W.Frag) (G : Hp) : List (Key × V) → List (Int × PyData) → Prop := Paired fun p q => p.1 = .inl q.1 ∧ Dp K G p.2 q.2
def Sl (K : PySem.W.Frag) (G H : Hp) : SK → Option V → List Addr → Prop
  | .no, _, as => as = []
  | .dat d, o, as => as = [] ∧ ∃ v, o = some v ∧ Dp K G v d
  | .own ds, o, as => ∃ a vs, o = some (.ref a) ∧ as = [a] ∧ H a = some (.lst vs) ∧ DpAll K G vs ds
  | .rng a b r, o, as => o = some (.ref a) ∧ as = [a, b] ∧ H a = some (.lst [.int r.s, .ref b, .int r.k]) ∧ H b = some (.lst (r.c.map V.int)) ∧ a ≠ b
  | .ins C fs, o, as => as = [] ∧ ∃ p dx vs, o = some (.ref p) ∧ G p = some (.ins C dx vs) ∧ FsD K G vs fs
  | .dic kvs, o, as => ∃ a vs, o = some (.ref a) ∧ as = [a] ∧ H a = some (.dK vs) ∧ KvD K G vs kvs
  | .ptr a, o, as => as = [] ∧ o = some (.ref a)
  | .tlo d0 ds d1, o, as => ∃ p a vs us ws, o = some (.ref p) ∧ as = [a] ∧ G p = some (.tup (vs ++ .ref a :: ws)) ∧ DpAll K G vs d0 ∧ H a = some (.lst us) ∧ DpAll K G us ds ∧ DpAll K G ws d1
  | .oin a dx C fs, o, as => o = some (.ref a) ∧ as = [a, dx] ∧ (∃ vs, H a = some (.ins C dx vs) ∧ FsD K G vs fs) ∧ H dx = some (.own a) ∧ a ≠ dx
  | .cus c, o, as => c.P K G H o as
structure Ow (W : Wd) (ks : List SK) (G : Hp) (ow : Nat → List Addr) : Prop where
  dis : ∀ i j a, a ∈ ow i → a ∈ ow j → i = j
  mine : ∀ i a, a ∈ ow i → G a = none ∧ (W.H a = none ∨ (W.M a ∧ ∃ k, ks[i]? = some k ∧ isRng k = true))
  out : ∀ i, ks.length ≤ i → ow i = []
structure Sts (K : PySem.W.Frag) (W : Wd) (ks : List SK) (σ : St) (G H : Hp) : Prop where
  le : Le W G H
  len : σ.length = ks.length
  own : ∃ ow : Nat → List Addr, Ow W ks G ow ∧ ∀ i k, ks[i]? = some k → Sl K G H k ((σ[i]?).getD none) (ow i)
section
variable {K : PySem.W.Frag} {W : Wd} {ks : List SK} {σ : St} {G H G2 H2 : Hp}
theorem FsD.mono (e : Same G G2) {vs : List (Str × V)} {fs : List (Str × PyData)} (h : FsD K G vs fs) : FsD K G2 vs fs := Paired.mapP h fun _ _ q => ⟨q.1, Dp.mono e q.2⟩
theorem KvD.mono (e : Same G G2) {vs : List (Key × V)} {fs : List (Int × PyData)} (h : KvD K G vs fs) : KvD K G2 vs fs := Paired.mapP h fun _ _ q => ⟨q.1, Dp.mono e q.2⟩
theorem Sl.move {k : SK} {o : Option V} {as : List Addr} (e : Same G G2) (h : Sl K G H k o as) (k2 : ∀ a ∈ as, ∀ u, H a = some u → H2 a = some u) : Sl K G2 H2 k o as := by
  cases k with
  | no => exact h
  | dat d => obtain ⟨a, v, b, c⟩ := h; exact ⟨a, v, b, Dp.mono e c⟩
  | own ds => obtain ⟨a, vs, b, rfl, c, d⟩ := h; exact ⟨a, vs, b, rfl, k2 a (by simp) _ c, DpAll.mono e d⟩
  | rng a b r => obtain ⟨c, rfl, d, f, g⟩ := h; exact ⟨c, rfl, k2 a (by simp) _ d, k2 b (by simp) _ f, g⟩
  | ins C fs => obtain ⟨a, p, dx, vs, b, c, d⟩ := h; exact ⟨a, p, dx, vs, b, e _ _ c, FsD.mono e d⟩
  | dic kvs => obtain ⟨a, vs, b, rfl, c, d⟩ := h; exact ⟨a, vs, b, rfl, k2 a (by simp) _ c, KvD.mono e d⟩
  | tlo d0 ds d1 => obtain ⟨p, a, vs, us, ws, b, rfl, c, d, f, g, gw⟩ := h; exact ⟨p, a, vs, us, ws, b, rfl, e _ _ c, DpAll.mono e d, k2 a (by simp) _ f, DpAll.mono e g, DpAll.mono e gw⟩
  | ptr a => exact h
  | oin a dx C fs => obtain ⟨c, rfl, ⟨vs, d, f⟩, g, n⟩ := h; exact ⟨c, rfl, ⟨vs, k2 a (by simp) _ d, FsD.mono e f⟩, k2 dx (by simp) _ g, n⟩
  | cus c => exact c.move K G H G2 H2 o as e h k2
theorem Sl.there {k : SK} {o : Option V} {as : List Addr} (h : Sl K G H k o as) : ∀ a ∈ as, ∃ u, H a = some u := by
  cases k with
  | no => cases (show as = [] from h); simp
  | dat d => obtain ⟨rfl, _⟩ := h; simp
  | own ds => obtain ⟨a, vs, b, rfl, c, d⟩ := h; intro x hx; simp at hx; subst hx; exact ⟨_, c⟩
  | rng a b r =>
    obtain ⟨c, rfl, d, f, g⟩ := h
    intro x hx
    simp at hx
    rcases hx with rfl | rfl
    · exact ⟨_, d⟩
    · exact ⟨_, f⟩
  | ins C fs => obtain ⟨rfl, _⟩ := h; simp
  | dic kvs => obtain ⟨a, vs, b, rfl, c, d⟩ := h; intro x hx; simp at hx; subst hx; exact ⟨_, c⟩
  | tlo d0 ds d1 => obtain ⟨p, a, vs, us, ws, b, rfl, c, d, f, g, gw⟩ := h; intro x hx; simp at hx; subst hx; exact ⟨_, f⟩
  | ptr a => obtain ⟨rfl, _⟩ := h; simp
  | oin a dx C fs =>
    obtain ⟨c, rfl, ⟨vs, d, f⟩, g, n⟩ := h
    intro x hx
    simp at hx
    rcases hx with rfl | rfl
    · exact ⟨_, d⟩
    · exact ⟨_, g⟩
  | cus c => exact fun a ha => (c.there K G H o as h a ha).imp fun _ z => z.1
theorem Sl.thereN {k : SK} {o : Option V} {as : List Addr} (h : Sl K G H k o as) : ∀ a ∈ as, ∃ u, H a = some u ∧ ∀ ps, u ≠ .tbl ps := by
  cases k with
  | no => cases (show as = [] from h); simp
  | dat d => obtain ⟨rfl, _⟩ := h; simp
  | own ds => obtain ⟨a, vs, b, rfl, c, d⟩ := h; intro x hx; simp at hx; subst hx; exact ⟨_, c, fun _ z => by cases z⟩
  | rng a b r =>
    obtain ⟨c, rfl, d, f, g⟩ := h
    intro x hx
    simp at hx
    rcases hx with rfl | rfl
    · exact ⟨_, d, fun _ z => by cases z⟩
    · exact ⟨_, f, fun _ z => by cases z⟩
  | ins C fs => obtain ⟨rfl, _⟩ := h; simp
  | dic kvs => obtain ⟨a, vs, b, rfl, c, d⟩ := h; intro x hx; simp at hx; subst hx; exact ⟨_, c, fun _ z => by cases z⟩
  | tlo d0 ds d1 => obtain ⟨p, a, vs, us, ws, b, rfl, c, d, f, g, gw⟩ := h; intro x hx; simp at hx; subst hx; exact ⟨_, f, fun _ z => by cases z⟩
  | ptr a => obtain ⟨rfl, _⟩ := h; simp
  | oin a dx C fs =>
    obtain ⟨c, rfl, ⟨vs, d, f⟩, g, n⟩ := h
    intro x hx
    simp at hx
    rcases hx with rfl | rfl
    · exact ⟨_, d, fun _ z => by cases z⟩
    · exact ⟨_, g, fun _ z => by cases z⟩
  | cus c => exact c.there K G H o as h
/-- a step that changes nothing of ours -/
theorem Sts.pure (S : Sts K W ks σ G H) (l : Lp G H G2 H2) : Sts K W ks σ G2 H2 := by
  obtain ⟨le, len, ow, o, f⟩ := S
  have live : ∀ i a, a ∈ ow i → ∃ u, H a = some u := fun i a ha => by
    by_cases hi : i < ks.length
    · exact (f i ks[i] (by simp [hi])).there a ha
    · rw [o.out i (by omega)] at ha; cases ha
  refine ⟨le.trans l, len, ow, ⟨o.dis, fun i a ha => ?_, o.out⟩, fun i k hk => ?_⟩
  · obtain ⟨g0, w0⟩ := o.mine i a ha
    obtain ⟨u, hu⟩ := live i a ha
    exact ⟨l.fz a u g0 hu, w0⟩
  · exact (f i k hk).move l.g fun a _ u hu => l.keep a u (fun z => z) hu
/-- .. but to tables -/
theorem Sts.step (S : Sts K W ks σ G H) (l : Le (pur G H) G2 H2) : Sts K W ks σ G2 H2 := by
  obtain ⟨le, len, ow, o, f⟩ := S
  have live : ∀ i a, a ∈ ow i → ∃ u, H a = some u ∧ ∀ ps, u ≠ .tbl ps := fun i a ha => by
    by_cases hi : i < ks.length
    · exact (f i ks[i] (by simp [hi])).thereN a ha
    · rw [o.out i (by omega)] at ha; cases ha
  refine ⟨le.transL l, len, ow, ⟨o.dis, fun i a ha => ?_, o.out⟩, fun i k hk => ?_⟩
  · obtain ⟨g0, w0⟩ := o.mine i a ha
    obtain ⟨u, hu, _⟩ := live i a ha
    exact ⟨l.fz a u g0 hu, w0⟩
  · refine (f i k hk).move l.g fun a ha u hu => ?_
    obtain ⟨u', hu', nt⟩ := live i a ha
    rw [hu] at hu'
    cases hu'
    exact l.keep a u (fun z => z) nt hu
theorem Sts.gh (S : Sts K W ks σ G H) : Same G H := S.le.gh
theorem Sts.dat (S : Sts K W ks σ G H) {i : Nat} {d : PyData} (h : ks[i]? = some (.dat d)) : ∃ v, σ[i]? = some (some v) ∧ Dp K G v d := by
  obtain ⟨le, len, ow, o, f⟩ := S
  obtain ⟨_, v, e, q⟩ := f i _ h
  have hi : i < σ.length := by rw [len]; exact (List.getElem?_eq_some_iff.mp h).1
  refine ⟨v, ?_, q⟩
  rw [List.getElem?_eq_getElem hi] at e ⊢
  simpa using e
end
end Z
namespace Z
open PySem PySem.Spec L2
variable [Tabl]
/-! ### the context of a body, by what is fixed -/
structure Sta where
  N : List Str
  sc : Scope
  fn : Str → Bool
/-- q: no exception is handled here -/
structure CtxB (q : Bool) (P : Program) (w : World) (K : PySem.W.Frag) (mg : Str → Option Value) (base : Heap) (T : Sta) (k : Nat) (X : Cx) : Prop where
  hP : X.prog = P
  hw : X.w = w
  hK : X.K = K
  hmg : X.mg = mg
  hbase : X.base = base
  hN : X.N = T.N
  nd : T.N.Nodup
  hs : X.env.scope = T.sc
  calm' : q = true → X.calm = true
  room' : q = true → Room k X.A
  un : X.A.units + 200 < cLine
  po : PassesOwn (model X.prog X.w) X.A X.env X.xe
  fn : X.fn = T.fn
abbrev Ctx (P : Program) (w : World) (K : PySem.W.Frag) (mg : Str → Option Value) (base : Heap) (T : Sta) (k : Nat) (X : Cx) : Prop := CtxB true P w K mg base T k X
theorem CtxB.calm {P : Program} {w : World} {K : PySem.W.Frag} {mg : Str → Option Value} {base : Heap} {T : Sta} {k : Nat} {X : Cx} (c : CtxB true P w K mg base T k X) : X.calm = true := c.calm' rfl
theorem CtxB.room {P : Program} {w : World} {K : PySem.W.Frag} {mg : Str → Option Value} {base : Heap} {T : Sta} {k : Nat} {X : Cx} (c : CtxB true P w K mg base T k X) : Room k X.A := c.room' rfl
theorem CtxB.units {q : Bool} {P : Program} {w : World} {K : PySem.W.Frag} {mg : Str → Option Value} {base : Heap} {T : Sta} {k : Nat} {X : Cx} (c : CtxB q P w K mg base T k X) : X.A.units + 64 < cLine := by have := c.un; omega
structure EV (X : Cx) (e : Expr) (σ : St) (H : Hp) (Q : VK) : Prop where
  run : ∀ (pins : List (Addr × Obj)) (s : Shared), Inv X pins σ H s → wpAny (model X.prog X.w) X.A (eval e X.env) (EP X pins σ Q) X.xe s
theorem pe_ev {X : Cx} {e : Expr} : PE X e (EV X e) := ⟨fun pins s σ H Q I h => h.run pins s I⟩
theorem ev_of {X : Cx} {e : Expr} {t : TE} {σ : St} {H : Hp} {Q : VK} (h : PE X e t) (q : t σ H Q) : EV X e σ H Q := ⟨fun pins s I => h.run pins s σ H Q I q⟩
structure TV (X : Cx) (e : Expr) (σ : St) (H : Hp) (Q : Bool → Hp → Prop) : Prop where
  run : ∀ (pins : List (Addr × Obj)) (s : Shared), Inv X pins σ H s → wpAny (model X.prog X.w) X.A (isTrue e X.env (eval e X.env)) (TP X pins σ Q) X.xe s
theorem pt_tv {X : Cx} {e : Expr} : PT X e (TV X e) := ⟨fun pins s σ H Q I h => h.run pins s I⟩
theorem tv_of {X : Cx} {e : Expr} {t : TT} {σ : St} {H : Hp} {Q : Bool → Hp → Prop} (h : PT X e t) (q : t σ H Q) : TV X e σ H Q := ⟨fun pins s I => h.run pins s σ H Q I q⟩
structure WV (X : Cx) (e : Expr) (σ : St) (H : Hp) (Q : Bool → Hp → Prop) : Prop where
  run : ∀ (whole : Sem Value) (pins : List (Addr × Obj)) (s : Shared), Inv X pins σ H s → wpAny (model X.prog X.w) X.A (isTrue e X.env whole) (TP X pins σ Q) X.xe s
theorem pw_wv {X : Cx} {e : Expr} : PW X e (WV X e) := ⟨fun whole pins s σ H Q I h => h.run whole pins s I⟩
theorem wv_of {X : Cx} {e : Expr} {t : TT} {σ : St} {H : Hp} {Q : Bool → Hp → Prop} (h : PW X e t) (q : t σ H Q) : WV X e σ H Q := ⟨fun whole pins s I => h.run whole pins s σ H Q I q⟩
structure AV (X : Cx) (es : List Expr) (σ : St) (H : Hp) (Q : List V → Hp → Prop) : Prop where
  run : ∀ (pos : Pos) (pins : List (Addr × Obj)) (s : Shared), Inv X pins σ H s → wpAny (model X.prog X.w) X.A (spliced (backTo pos (starEach es X.env))) (AP X pins σ Q) X.xe s
theorem pa_av {X : Cx} {es : List Expr} : PA X es (AV X es) := ⟨fun pos pins s σ H Q I h => h.run pos pins s I⟩
theorem av_of {X : Cx} {es : List Expr} {t : TA} {σ : St} {H : Hp} {Q : List V → Hp → Prop} (h : PA X es t) (q : t σ H Q) : AV X es σ H Q := ⟨fun pos pins s I => h.run pos pins s σ H Q I q⟩
/-! ### what evaluates to what data, the slots' contents ahead and behind -/
def ED (X : Cx) (ks : List SK) (e : Expr) (ks' : List SK) (d : PyData) : Prop :=
  ∀ W σ G H, Sts X.K W ks σ G H → ∀ Q : VK, (∀ v G2 H2, Sts X.K W ks' σ G2 H2 → Same G G2 → Dp X.K G2 v d → Q v H2) → EV X e σ H Q
/-- a new list of our own: it stands as one more slot -/
def EL (X : Cx) (ks : List SK) (e : Expr) (ks' : List SK) (ds : List PyData) : Prop :=
  ∀ W σ G H, Sts X.K W ks σ G H → ∀ Q : VK, (∀ a G2 H2, Sts X.K W (ks' ++ [.own ds]) (σ ++ [some (.ref a)]) G2 H2 → Same G G2 → Q (.ref a) H2) → EV X e σ H Q
def TD (X : Cx) (ks : List SK) (e : Expr) (ks' : List SK) (b : Bool) : Prop :=
  ∀ W σ G H, Sts X.K W ks σ G H → ∀ Q : Bool → Hp → Prop, (∀ G2 H2, Sts X.K W ks' σ G2 H2 → Same G G2 → Q b H2) → TV X e σ H Q
def WD (X : Cx) (ks : List SK) (e : Expr) (ks' : List SK) (b : Bool) : Prop :=
  ∀ W σ G H, Sts X.K W ks σ G H → ∀ Q : Bool → Hp → Prop, (∀ G2 H2, Sts X.K W ks' σ G2 H2 → Same G G2 → Q b H2) → WV X e σ H Q
def AD (X : Cx) (ks : List SK) (es : List Expr) (ks' : List SK) (ds : List PyData) : Prop :=
  ∀ W σ G H, Sts X.K W ks σ G H → ∀ Q : List V → Hp → Prop, (∀ vs G2 H2, Sts X.K W ks' σ G2 H2 → Same G G2 → DpAll X.K G2 vs ds → Q vs H2) → AV X es σ H Q
section
variable {P : Program} {w : World} {K : PySem.W.Frag} {mg : Str → Option Value} {base : Heap} {T : Sta} {k : Nat} {X : Cx} {ks k1 k2 k3 : List SK} {a b e : Expr} {es : List Expr} {d da db : PyData} {ds : List PyData} {pos : Pos}
/-! ### names and constants -/
theorem vis_of (c : CtxB cq P w K mg base T k X) {x : Str} (h : Vis T.sc x) : Vis X.env.scope x := by rw [c.hs]; exact h
theorem ix_of (c : CtxB cq P w K mg base T k X) {i : Nat} {x : Str} (h : T.N[i]? = some x) : X.N[i]? = some x := by rw [c.hN]; exact h
theorem ed_var (c : CtxB cq P w K mg base T k X) (i : Nat) {x : Str} (hN : T.N[i]? = some x) (hv : Vis T.sc x) (hk : ks[i]? = some (.dat d)) (hd : (x == ("__debug__" : Str)) = false) (hcd : (x == ("__classdict__" : Str)) = false) : ED X ks (.Name x pos) ks d := by
  intro W σ G H S Q q
  obtain ⟨v, e, r⟩ := S.dat hk
  exact ev_of (pe_var (ix_of c hN) (vis_of c hv) hd hcd) ⟨v, e, q v G H S (Same.refl G) r⟩
theorem ed_int {i : Int} {j : Nat} : ED X ks (.Constant (.int i) j pos) ks (.int i) := fun W σ G H S Q q => ev_of pe_int (q (.int i) G H S (Same.refl G) (.int i))
theorem ed_bl {b : Bool} {j : Nat} : ED X ks (.Constant (.bool b) j pos) ks (.bool b) := fun W σ G H S Q q => ev_of pe_bl (q (.bl b) G H S (Same.refl G) (.bl b))
theorem ed_non {j : Nat} : ED X ks (.Constant .none j pos) ks .none := fun W σ G H S Q q => ev_of pe_non (q .non G H S (Same.refl G) .non)
theorem ed_str {x : Str} {j : Nat} : ED X ks (.Constant (.str x) j pos) ks (.str x) := fun W σ G H S Q q => ev_of pe_str (q (.str x) G H S (Same.refl G) (.str x))
theorem gl_of (c : CtxB cq P w K mg base T k X) {x : Str} (h : T.sc.names.lookup x = some .globalImplicit) : Gl X x := by
  show X.env.scope.names.lookup x = _
  rw [c.hs]; exact h
/-- a module's int -/
theorem ed_gint (c : CtxB cq P w K mg base T k X) {x : Str} {i : Int} (hg : T.sc.names.lookup x = some .globalImplicit) (hm : ∃ t, mg x = some (.int i t)) (hd : (x == ("__debug__" : Str)) = false) : ED X ks (.Name x pos) ks (.int i) := by
  intro W σ G H S Q q
  obtain ⟨t, hm⟩ := hm
  exact ev_of (pe_glob (v := .int i) (gl_of c hg) (by rw [c.hmg]; exact hm) ⟨t, rfl⟩ hd) (q (.int i) G H S (Same.refl G) (.int i))
/-! ### operators -/
/-- two data give data by an operation on values -/
def RD (K : PySem.W.Frag) (r : R2) (da db d : PyData) : Prop := ∀ G H x y, Same G H → Dp K G x da → Dp K G y db → ∀ Q : VK, (∀ v G2 H2, Lp G H G2 H2 → Dp K G2 v d → Q v H2) → r x y H Q
theorem RD.flat {r : R2} (h : ∀ G H x y, Same G H → Dp K G x da → Dp K G y db → ∃ v, (∀ G, Dp K G v d) ∧ ∀ Q : VK, Q v H → r x y H Q) : RD K r da db d := fun G H x y g ha hb Q q => by
  obtain ⟨v, r1, r2⟩ := h G H x y g ha hb
  exact r2 Q (q v G H (Lp.refl g) (r1 G))
theorem bin_go {r : R2} {W : Wd} {σ : St} {G H : Hp} {Q : VK} (ha : ED X ks a k1 da) (hb : ED X k1 b k2 db) (hr : RD X.K r da db d) (S : Sts X.K W ks σ G H) (q : ∀ v G2 H2, Sts X.K W k2 σ G2 H2 → Same G G2 → Dp X.K G2 v d → Q v H2) : tOp r (EV X a) (EV X b) σ H Q := by
  refine ha W σ G H S _ fun x G1 H1 S1 g1 r1 => ?_
  refine hb W σ G1 H1 S1 _ fun y G2 H2 S2 g2 r2 => ?_
  exact hr G2 H2 x y S2.gh (Dp.mono g2 r1) r2 Q fun v G3 H3 l r3 => q v G3 H3 (S2.pure l) ((g1.trans g2).trans l.g) r3
/-- what a + b (..) is of data -/
structure BinD (X : Cx) (op : Operator) (da db d : PyData) : Prop where
  out : ∃ r, OpR X (binaryOp op) r ∧ RD X.K r da db d
theorem ed_bin {op : Operator} (ha : ED X ks a k1 da) (hb : ED X k1 b k2 db) (h : BinD X op da db d) : ED X ks (.BinOp a op b pos) k2 d := by
  obtain ⟨r, ho, hr⟩ := h.out
  intro W σ G H S Q q
  exact ev_of (pe_op ho pe_ev pe_ev) (bin_go ha hb hr S q)
theorem rd_I0 {g : Int → Int → V} {i j : Int} (hd : ∀ G, Dp K G (g i j) d) : RD K (rI0 g) (.int i) (.int j) d := RD.flat fun G H x y _ ha hb => ⟨g i j, hd, fun Q q => ⟨i, j, ha.int_inv, hb.int_inv, q⟩⟩
theorem rd_I {C : Int → Int → Prop} {g : Int → Int → V} {i j : Int} (hc : C i j) (hd : ∀ G, Dp K G (g i j) d) : RD K (rI C g) (.int i) (.int j) d := RD.flat fun G H x y _ ha hb => ⟨g i j, hd, fun Q q => ⟨i, j, ha.int_inv, hb.int_inv, hc, q⟩⟩
theorem bd_add {i j : Int} : BinD X .Add (.int i) (.int j) (.int (i + j)) := ⟨_, op_add, rd_I0 fun _ => .int _⟩
theorem bd_sub {i j : Int} : BinD X .Sub (.int i) (.int j) (.int (i - j)) := ⟨_, op_sub, rd_I0 fun _ => .int _⟩
theorem bd_mul {i j : Int} (h : CMul i j) : BinD X .Mult (.int i) (.int j) (.int (i * j)) := ⟨_, op_mul, rd_I h fun _ => .int _⟩
theorem bd_mod {i j : Int} (h : 0 < j) : BinD X .Mod (.int i) (.int j) (.int (i % j)) := ⟨_, op_mod, rd_I h fun _ => .int _⟩
theorem bd_fdiv {i j : Int} (h : 0 < j ∧ j < 1073741824) : BinD X .FloorDiv (.int i) (.int j) (.int (i / j)) := ⟨_, op_fdiv, rd_I h fun _ => .int _⟩
theorem bd_pow {i j : Int} (h : CPow i j) : BinD X .Pow (.int i) (.int j) (.int (i ^ j.toNat)) := ⟨_, op_pow, rd_I h fun _ => .int _⟩
theorem bd_catT {xs ys : List PyData} (h : xs.length + ys.length ≤ sizeLine) : BinD X .Add (.tuple xs) (.tuple ys) (.tuple (xs ++ ys)) := by
  refine ⟨_, op_catA, fun G H x y g ha hb Q q => ?_⟩
  obtain ⟨a, vs, rfl, sa, aa⟩ := ha.tup_inv
  obtain ⟨b, us, rfl, sb, ab⟩ := hb.tup_inv
  have l1 := aa.len
  have l2 := ab.len
  refine ⟨a, b, vs, us, rfl, rfl, Same.seqT g sa, Same.seqT g sb, by omega, fun e => ?_, fun _ e => ?_, fun _ _ p np => ?_⟩
  · subst e
    cases aa
    exact q _ G H (Lp.refl g) hb
  · subst e
    cases ab
    exact q _ G H (Lp.refl g) (by rw [List.append_nil]; exact ha)
  · have l := Lp.new (o := .tup (vs ++ us)) g np
    exact q _ _ _ l (.tup (SqT.of upd_same) (DpAll.append (DpAll.mono l.g aa) (DpAll.mono l.g ab)))
/-! ### comparisons -/
structure CmpD (X : Cx) (op : CmpOp) (da db : PyData) (c : Bool) : Prop where
  out : ∃ r, OpR X (compareOp op) r ∧ RD X.K r da db (.bool c)
theorem ed_cmp {op : CmpOp} {c : Bool} (ha : ED X ks a k1 da) (hb : ED X k1 b k2 db) (h : CmpD X op da db c) (hm : behindInMarks op b = false) : ED X ks (.Compare a [op] [b] pos) k2 (.bool c) := by
  obtain ⟨r, ho, hr⟩ := h.out
  intro W σ G H S Q q
  exact ev_of (pe_cmpR ho pe_ev pe_ev hm) (bin_go ha hb hr S q)
theorem td_cmp {op : CmpOp} {c : Bool} (ha : ED X ks a k1 da) (hb : ED X k1 b k2 db) (h : CmpD X op da db c) (hm : behindInMarks op b = false) : TD X ks (.Compare a [op] [b] pos) k2 c := by
  obtain ⟨r, ho, hr⟩ := h.out
  intro W σ G H S Q q
  refine tv_of (pt_cmpR ho pe_ev pe_ev hm) (bin_go (Q := fun x H' => ∃ k, x = .bl k ∧ Q k H') ha hb hr S fun v G2 H2 S2 g r2 => ⟨c, r2.bl_inv, q G2 H2 S2 g⟩)
theorem cd_lt {i j : Int} : CmpD X .Lt (.int i) (.int j) (decide (i < j)) := ⟨_, op_lt, rd_I0 fun _ => .bl _⟩
theorem cd_le {i j : Int} : CmpD X .LtE (.int i) (.int j) (decide (i ≤ j)) := ⟨_, op_le, rd_I0 fun _ => .bl _⟩
theorem cd_gt {i j : Int} : CmpD X .Gt (.int i) (.int j) (decide (j < i)) := ⟨_, op_gt, rd_I0 fun _ => .bl _⟩
theorem cd_ge {i j : Int} : CmpD X .GtE (.int i) (.int j) (decide (j ≤ i)) := ⟨_, op_ge, rd_I0 fun _ => .bl _⟩
theorem cd_eqI {i j : Int} : CmpD X .Eq (.int i) (.int j) (decide (i = j)) := ⟨_, op_eq, RD.flat fun G H x y _ ha hb => ⟨.bl (decide (i = j)), fun _ => .bl _, fun Q q => by
  rw [ha.int_inv, hb.int_inv]
  refine ⟨rfl, ?_⟩
  have e : decide (V.int i = V.int j) = decide (i = j) := by rw [dec_int, Bool.beq_eq_decide_eq]
  rw [e]; exact q⟩⟩
theorem cd_neI {i j : Int} : CmpD X .NotEq (.int i) (.int j) (!decide (i = j)) := ⟨_, op_ne, RD.flat fun G H x y _ ha hb => ⟨.bl (!decide (i = j)), fun _ => .bl _, fun Q q => by
  rw [ha.int_inv, hb.int_inv]
  refine ⟨rfl, ?_⟩
  have e : decide (V.int i = V.int j) = decide (i = j) := by rw [dec_int, Bool.beq_eq_decide_eq]
  rw [e]; exact q⟩⟩
theorem cd_neD (c : CtxB cq P w K mg base T k X) (sa : SeqAt.shaped da = true) (sb : SeqAt.shaped db = true) : CmpD X .NotEq da db (!PyData.eqv da db) :=
  ⟨_, op_neD (c.units), fun G H x y g ha hb Q q => ⟨da, db, Dp.mono g ha, Dp.mono g hb, sa, sb, q _ G H (Lp.refl g) (.bl _)⟩⟩
def isNoneD : PyData → Bool
  | .none => true
  | _ => false
theorem non_dec {G : Hp} {v : V} (h : Dp K G v d) : decide (v = .non) = isNoneD d := by cases h <;> first | rfl | exact decide_eq_false (fun z => nomatch z)
theorem cd_isN : CmpD X .Is d .none (isNoneD d) := ⟨_, op_isN, RD.flat fun G H x y _ ha hb => ⟨.bl (isNoneD d), fun _ => .bl _, fun Q q => ⟨hb.non_inv, by rw [non_dec ha]; exact q⟩⟩⟩
theorem cd_notN : CmpD X .IsNot d .none (!isNoneD d) := ⟨_, op_notN, RD.flat fun G H x y _ ha hb => ⟨.bl (!isNoneD d), fun _ => .bl _, fun Q q => ⟨hb.non_inv, by rw [non_dec ha]; exact q⟩⟩⟩
/-- a < b < c -/
theorem ed_chain {op op' : CmpOp} {x y : Bool} {e3 : Expr} {dc : PyData} (ha : ED X ks a ks da) (hb : ED X ks b ks db) (hc : x = true → ED X ks e3 ks dc) (h : CmpD X op da db x) (h' : CmpD X op' db dc y)
    (hm : lastMarks [op, op'] [b, e3] = false) : ED X ks (.Compare a [op, op'] [b, e3] pos) ks (.bool (x && y)) := by
  obtain ⟨r, ho, hr⟩ := h.out
  obtain ⟨r', ho', hr'⟩ := h'.out
  intro W σ G H S Q q
  cases x with
  | false =>
    refine ev_of (pe_chain ho ho' pe_ev pe_ev pe_ev hm) ?_
    refine ha W σ G H S _ fun x G1 H1 S1 g1 r1 => ?_
    refine hb W σ G1 H1 S1 _ fun y G2 H2 S2 g2 r2 => ?_
    refine hr G2 H2 x y S2.gh (Dp.mono g2 r1) r2 _ fun v G3 H3 l r3 => ⟨false, r3.bl_inv, ?_⟩
    show Q (.bl false) H3
    exact q _ G3 H3 (S2.pure l) ((g1.trans g2).trans l.g) (.bl _)
  | true =>
    refine ev_of (pe_chain ho ho' pe_ev pe_ev pe_ev hm) ?_
    refine ha W σ G H S _ fun x G1 H1 S1 g1 r1 => ?_
    refine hb W σ G1 H1 S1 _ fun y G2 H2 S2 g2 r2 => ?_
    refine hr G2 H2 x y S2.gh (Dp.mono g2 r1) r2 _ fun v G3 H3 l r3 => ⟨true, r3.bl_inv, ?_⟩
    show EV X e3 σ H3 _
    refine hc rfl W σ G3 H3 (S2.pure l) _ fun z G4 H4 S4 g4 r4 => ?_
    refine hr' G4 H4 y z S4.gh (Dp.mono (l.g.trans g4) r2) r4 _ fun v G5 H5 l5 r5 => ?_
    exact q v G5 H5 (S4.pure l5) ((((g1.trans g2).trans l.g).trans g4).trans l5.g) r5
theorem td_val {c : Bool} (h : ED X ks e k1 (.bool c)) (he : ∀ whole, isTrue e X.env whole = (do let v ← whole; standAt e.pos; holding [v] (truthy v))) : TD X ks e k1 c := by
  intro W σ G H S Q q
  refine tv_of (pt_val pe_ev he) (h W σ G H S _ fun v G2 H2 S2 g r => ⟨c, r.bl_inv, q G2 H2 S2 g⟩)
/-! ### and, or, not, if -/
theorem td_not {c : Bool} (h : TD X ks a k1 c) : TD X ks (.UnaryOp .Not a pos) k1 (!c) := fun W σ G H S Q q => tv_of (pt_not pt_tv) (h W σ G H S _ fun G2 H2 S2 g => q G2 H2 S2 g)
theorem td_w {c : Bool} (h : WD X ks a k1 c) : TD X ks a k1 c := fun W σ G H S Q q => tv_of pw_wv.pt (h W σ G H S _ fun G2 H2 S2 g => q G2 H2 S2 g)
theorem wd_and1 {c : Bool} (h : TD X ks a k1 c) : WD X ks (.BoolOp .And [a] pos) k1 c := fun W σ G H S Q q => wv_of (pw_and1 pt_tv) (h W σ G H S _ fun G2 H2 S2 g => q G2 H2 S2 g)
theorem wd_or1 {c : Bool} (h : TD X ks a k1 c) : WD X ks (.BoolOp .Or [a] pos) k1 c := fun W σ G H S Q q => wv_of (pw_or1 pt_tv) (h W σ G H S _ fun G2 H2 S2 g => q G2 H2 S2 g)
theorem wd_and {x y : Bool} (ha : TD X ks a ks x) (hb : x = true → WD X ks (.BoolOp .And (b :: es) pos) ks y) : WD X ks (.BoolOp .And (a :: b :: es) pos) ks (x && y) := fun W σ G H S Q q => by
  refine wv_of (pw_and pt_tv pw_wv) (ha W σ G H S _ fun G2 H2 S2 g => ?_)
  cases x with
  | false => exact q G2 H2 S2 g
  | true => exact hb rfl W σ G2 H2 S2 Q fun G3 H3 S3 g3 => q G3 H3 S3 (g.trans g3)
theorem wd_or {x y : Bool} (ha : TD X ks a ks x) (hb : x = false → WD X ks (.BoolOp .Or (b :: es) pos) ks y) : WD X ks (.BoolOp .Or (a :: b :: es) pos) ks (x || y) := fun W σ G H S Q q => by
  refine wv_of (pw_or pt_tv pw_wv) (ha W σ G H S _ fun G2 H2 S2 g => ?_)
  cases x with
  | true => exact q G2 H2 S2 g
  | false => exact hb rfl W σ G2 H2 S2 Q fun G3 H3 S3 g3 => q G3 H3 S3 (g.trans g3)
theorem ed_and1 {op : BoolOp} (h : ED X ks a k1 d) : ED X ks (.BoolOp op [a] pos) k1 d := fun W σ G H S Q q => ev_of (pe_one pe_ev) (h W σ G H S Q q)
theorem ed_and {x y : Bool} (ha : ED X ks a ks (.bool x)) (hb : x = true → ED X ks (.BoolOp .And (b :: es) pos) ks (.bool y)) : ED X ks (.BoolOp .And (a :: b :: es) pos) ks (.bool (x && y)) := fun W σ G H S Q q => by
  refine ev_of (pe_and pe_ev pe_ev) (ha W σ G H S _ fun v G2 H2 S2 g r => ⟨x, r.bl_inv, ?_⟩)
  cases x with
  | false => exact q _ G2 H2 S2 g (.bl _)
  | true => exact hb rfl W σ G2 H2 S2 Q fun v G3 H3 S3 g3 => q v G3 H3 S3 (g.trans g3)
theorem ed_if {x : Bool} {t : Expr} (ht : TD X ks t k1 x) (ha : x = true → ED X k1 a k2 d) (hb : x = false → ED X k1 b k2 d) : ED X ks (.IfExp t a b pos) k2 d := fun W σ G H S Q q => by
  refine ev_of (pe_ifExp pt_tv pe_ev pe_ev) (ht W σ G H S _ fun G2 H2 S2 g => ?_)
  cases x with
  | true => exact ha rfl W σ G2 H2 S2 Q fun v G3 H3 S3 g3 => q v G3 H3 S3 (g.trans g3)
  | false => exact hb rfl W σ G2 H2 S2 Q fun v G3 H3 S3 g3 => q v G3 H3 S3 (g.trans g3)
/-! ### argument lists, displays -/
theorem ad_nil : AD X ks [] ks [] := fun W σ G H S Q q => av_of pa_nil (q [] G H S (Same.refl G) .nil)
theorem ad_cons (ha : ED X ks a k1 d) (hr : AD X k1 es k2 ds) (hs : starEach (a :: es) X.env = (false, eval a X.env) :: starEach es X.env) : AD X ks (a :: es) k2 (d :: ds) := fun W σ G H S Q q =>
  av_of (pa_cons pe_ev pa_av hs) (ha W σ G H S _ fun v G1 H1 S1 g1 r1 => hr W σ G1 H1 S1 _ fun vs G2 H2 S2 g2 r2 => q _ G2 H2 S2 (g1.trans g2) (.cons (Dp.mono g2 r1) r2))
theorem ed_tup {x1} (h : AD X ks es k1 ds) (hl : ds.length ≤ sizeLine) : ED X ks (.Tuple es x1 pos) k1 (.tuple ds) := fun W σ G H S Q q =>
  ev_of (pe_tup pa_av) (h W σ G H S _ fun vs G1 H1 S1 g1 r1 => ⟨by rw [r1.len]; exact hl, fun p np => by
    have l := Lp.new (o := .tup vs) S1.gh np
    exact q _ _ _ (S1.pure l) (g1.trans l.g) (.tup (SqT.of upd_same) (DpAll.mono l.g r1))⟩)
/-! ### subscripts -/
theorem ed_ixT {ds : List PyData} {i : Int} (ha : ED X ks a k1 (.tuple ds)) (hb : ED X k1 b k2 (.int i)) (hi : atI ds i = some d) (hs : PlainIx b) : ED X ks (.Subscript a b pos) k2 d := fun W σ G H S Q q => by
  refine ev_of (pe_ix ix_tup pe_ev pe_ev hs) (bin_go ha hb (d := d) (fun G H x y g ra rb Q q => ?_) S q)
  obtain ⟨p, vs, rfl, sp, ap⟩ := ra.tup_inv
  rw [rb.int_inv]
  obtain ⟨j, h1, h2, h3, h4, h5⟩ := atI_get hi
  obtain ⟨v, hv, rv⟩ := ap.get h2
  refine ⟨p, vs, i, v, rfl, rfl, Same.seqT g sp, ?_, q v G H (Lp.refl g) rv⟩
  unfold atI at hi ⊢
  rw [ap.len]
  cases e : ixN ds.length i with
  | none => rw [e] at hi; cases hi
  | some j' =>
    rw [e] at hi
    have hj := (ixN_seq e).1
    rw [hj] at h1
    cases h1
    exact hv
theorem ed_ixL {ds : List PyData} {i : Int} (ha : ED X ks a k1 (.list ds)) (hb : ED X k1 b k2 (.int i)) (hi : atI ds i = some d) (hs : PlainIx b) : ED X ks (.Subscript a b pos) k2 d := fun W σ G H S Q q => by
  refine ev_of (pe_ix ix_list pe_ev pe_ev hs) (bin_go ha hb (d := d) (fun G H x y g ra rb Q q => ?_) S q)
  obtain ⟨p, vs, rfl, sp, ap⟩ := ra.lst_inv
  rw [rb.int_inv]
  obtain ⟨j, h1, h2, h3, h4, h5⟩ := atI_get hi
  obtain ⟨v, hv, rv⟩ := ap.get h2
  refine ⟨p, vs, i, v, rfl, rfl, g.seq sp, ?_, q v G H (Lp.refl g) rv⟩
  unfold atI at hi ⊢
  rw [ap.len]
  cases e : ixN ds.length i with
  | none => rw [e] at hi; cases hi
  | some j' =>
    rw [e] at hi
    have hj := (ixN_seq e).1
    rw [hj] at h1
    cases h1
    exact hv
end
end Z
namespace Z
open PySem PySem.Spec L2
variable [Tabl]
section
variable {K : PySem.W.Frag} {W : Wd} {ks : List SK} {σ : St} {G H G2 H2 : Hp}
theorem Le.upd {W : Wd} {G H : Hp} {a : Addr} {o : HO} (l : Le W G H) (h : ∃ u, H a = some u) (n : ∀ u, H a = some u → Pl u) (g : G a = none) (m : W.H a = none ∨ W.M a) : Le W G (upd H a o) where
  g := l.g
  gh := fun b u e => by
    have : b ≠ a := fun z => by rw [z, g] at e; cases e
    rw [upd_ne this]; exact l.gh b u e
  keep := fun b u hm nt e => by
    have : b ≠ a := fun z => by
      subst z
      rcases m with m | m
      · rw [m] at e; cases e
      · exact hm m
    rw [upd_ne this]; exact l.keep b u hm nt e
  there := fun b u e => by
    by_cases q : b = a
    · subst q; exact ⟨_, upd_same⟩
    · rw [upd_ne q]; exact l.there b u e
  fz := l.fz
  m := l.m
  tb := l.tb.upd n
theorem Ow.live {ow : Nat → List Addr} (o : Ow W ks G ow) (f : ∀ i k, ks[i]? = some k → Sl K G H k ((σ[i]?).getD none) (ow i)) : ∀ i a, a ∈ ow i → ∃ u, H a = some u := fun i a ha => by
  by_cases hi : i < ks.length
  · exact (f i ks[i] (by simp [hi])).there a ha
  · rw [o.out i (by omega)] at ha; cases ha
theorem Ow.liveN {ow : Nat → List Addr} (o : Ow W ks G ow) (f : ∀ i k, ks[i]? = some k → Sl K G H k ((σ[i]?).getD none) (ow i)) : ∀ i a, a ∈ ow i → ∃ u, H a = some u ∧ ∀ ps, u ≠ .tbl ps := fun i a ha => by
  by_cases hi : i < ks.length
  · exact (f i ks[i] (by simp [hi])).thereN a ha
  · rw [o.out i (by omega)] at ha; cases ha
/-- slot i is set anew; what else is ours stays as it is -/
theorem Sts.put {i : Nat} {k : SK} {v : Option V} (S : Sts K W ks σ G H) (hi : i < ks.length) (l : Le W G2 H2) (gg : Same G G2)
    (gz : ∀ a u, G a = none → H a = some u → G2 a = none)
    (kp : ∀ ow, Ow W ks G ow → (∀ i k, ks[i]? = some k → Sl K G H k ((σ[i]?).getD none) (ow i)) → (∀ j a, j ≠ i → a ∈ ow j → ∀ u, H a = some u → H2 a = some u) ∧
      ∃ as, Sl K G2 H2 k v as ∧ (∀ a ∈ as, (∀ j, j ≠ i → a ∉ ow j) ∧ G2 a = none ∧ (W.H a = none ∨ (W.M a ∧ isRng k = true)))) :
    Sts K W (ks.set i k) (σ.set i v) G2 H2 := by
  obtain ⟨le, len, ow, o, f⟩ := S
  obtain ⟨kp, as, s1, s2⟩ := kp ow o f
  refine ⟨l, by simp [len], fun j => if j = i then as else ow j, ⟨fun j j' a h h' => ?_, fun j a h => ?_, fun j hj => ?_⟩, fun j kj hj => ?_⟩
  · by_cases q : j = i <;> by_cases q' : j' = i
    · rw [q, q']
    · simp only [q, if_true, q', if_false] at h h'
      exact ((s2 a h).1 j' q' h').elim
    · simp only [q, if_false, q', if_true] at h h'
      exact ((s2 a h').1 j q h).elim
    · simp only [q, q', if_false] at h h'
      exact o.dis j j' a h h'
  · by_cases q : j = i
    · simp only [q, if_true] at h
      obtain ⟨_, b, c⟩ := s2 a h
      refine ⟨b, ?_⟩
      rcases c with c | ⟨c, e⟩
      · exact .inl c
      · exact .inr ⟨c, k, by rw [q, List.getElem?_set_self hi], e⟩
    · simp only [q, if_false] at h
      obtain ⟨b, c⟩ := o.mine j a h
      obtain ⟨u, hu⟩ := o.live f j a h
      refine ⟨gz a u b hu, ?_⟩
      rcases c with c | ⟨c, r, e⟩
      · exact .inl c
      · exact .inr ⟨c, r, by rw [List.getElem?_set_ne (Ne.symm q)]; exact e.1, e.2⟩
  · have : j ≠ i := by simp at hj; omega
    simp only [this, if_false]
    exact o.out j (by simpa using hj)
  · by_cases q : j = i
    · subst q
      rw [List.getElem?_set_self hi] at hj
      cases hj
      simp only [if_true]
      rw [List.getElem?_set_self (by omega)]
      exact s1
    · rw [List.getElem?_set_ne (Ne.symm q)] at hj
      simp only [q, if_false]
      rw [List.getElem?_set_ne (Ne.symm q)]
      exact (f j kj hj).move gg fun a ha u hu => kp j a q ha u hu
theorem Sts.setDat {i : Nat} {v : V} {d : PyData} (S : Sts K W ks σ G H) (hi : i < ks.length) (r : Dp K G v d) : Sts K W (ks.set i (.dat d)) (σ.set i (some v)) G H :=
  S.put hi S.le (Same.refl G) (fun _ _ e _ => e) fun ow o f => ⟨fun _ _ _ _ u e => e, [], ⟨rfl, v, rfl, r⟩, fun _ h => by cases h⟩
/-- one more slot, a list that nobody else has -/
theorem Sts.pushL {p : Addr} {vs : List V} {ds : List PyData} (S : Sts K W ks σ G H) (l : Le (pur G H) G2 H2) (np : H p = none) (gp : G2 p = none) (hp : H2 p = some (.lst vs)) (r : DpAll K G2 vs ds) :
    Sts K W (ks ++ [.own ds]) (σ ++ [some (.ref p)]) G2 H2 := by
  have S2 := S.step l
  obtain ⟨_, _, ow0, o0, f0⟩ := S
  have wp : W.H p = none := by
    cases e : W.H p with
    | none => rfl
    | some u =>
      obtain ⟨u', e'⟩ := ‹Le W G H›.there p u e
      rw [np] at e'; cases e'
  obtain ⟨le, len, _⟩ := S2
  have live := o0.live f0
  refine ⟨le, by simp [len], fun j => if j = ks.length then [p] else ow0 j, ⟨fun j j' a h h' => ?_, fun j a h => ?_, fun j hj => ?_⟩, fun j kj hj => ?_⟩
  · have no : ∀ j, p ∉ ow0 j := fun j h => by
      obtain ⟨u, hu⟩ := live j p h
      rw [np] at hu; cases hu
    by_cases q : j = ks.length <;> by_cases q' : j' = ks.length
    · rw [q, q']
    · simp only [q, if_true, q', if_false] at h h'
      simp at h; subst h
      exact (no j' h').elim
    · simp only [q, if_false, q', if_true] at h h'
      simp at h'; subst h'
      exact (no j h).elim
    · simp only [q, q', if_false] at h h'
      exact o0.dis j j' a h h'
  · by_cases q : j = ks.length
    · simp only [q, if_true] at h
      simp at h; subst h
      exact ⟨gp, .inl wp⟩
    · simp only [q, if_false] at h
      obtain ⟨b, c⟩ := o0.mine j a h
      obtain ⟨u, hu⟩ := live j a h
      refine ⟨l.fz a u b hu, ?_⟩
      rcases c with c | ⟨c, r, e⟩
      · exact .inl c
      · refine .inr ⟨c, r, ?_, e.2⟩
        rw [List.getElem?_append_left (List.getElem?_eq_some_iff.mp e.1).1]; exact e.1
  · have : j ≠ ks.length := by simp at hj; omega
    simp only [this, if_false]
    exact o0.out j (by simp at hj; omega)
  · by_cases q : j = ks.length
    · subst q
      rw [List.getElem?_append_right (Nat.le_refl _)] at hj
      simp at hj
      subst hj
      simp only [if_true]
      rw [List.getElem?_append_right (by omega), len]
      simp only [Nat.sub_self]
      exact ⟨p, vs, rfl, rfl, hp, r⟩
    · have hj' : j < ks.length := by
        have := (List.getElem?_eq_some_iff.mp hj).1
        simp at this; omega
      rw [List.getElem?_append_left hj'] at hj
      simp only [q, if_false]
      rw [List.getElem?_append_left (by omega)]
      exact (f0 j kj hj).move l.g fun a ha u hu => by
        obtain ⟨u', hu', nt⟩ := (f0 j kj hj).thereN a ha
        rw [hu] at hu'
        cases hu'
        exact l.keep a u (fun z => z) nt hu
theorem Sts.push {p : Addr} {vs : List V} {ds : List PyData} (S : Sts K W ks σ G H) (l : Lp G H G2 H2) (np : H p = none) (gp : G2 p = none) (hp : H2 p = some (.lst vs)) (r : DpAll K G2 vs ds) :
    Sts K W (ks ++ [.own ds]) (σ ++ [some (.ref p)]) G2 H2 := S.pushL (l.le S.le.tb) np gp hp r
/-- the slot more taken away again, what it held told -/
theorem Sts.pop {a : Addr} {ds : List PyData} (S : Sts K W (ks ++ [.own ds]) (σ ++ [some (.ref a)]) G H) : Sts K W ks σ G H ∧ G a = none ∧ W.H a = none ∧ ∃ vs, H a = some (.lst vs) ∧ DpAll K G vs ds ∧
    ∃ ow, Ow W ks G ow ∧ (∀ i k, ks[i]? = some k → Sl K G H k ((σ[i]?).getD none) (ow i)) ∧ ∀ j, a ∉ ow j := by
  obtain ⟨le, len, ow, o, f⟩ := S
  have len' : σ.length = ks.length := by simpa using len
  have z := f ks.length (.own ds) (by simp)
  rw [List.getElem?_append_right (by omega), len', Nat.sub_self] at z
  obtain ⟨a', vs, e1, e2, e3, e4⟩ := z
  cases e1
  obtain ⟨m1, m2⟩ := o.mine ks.length a (by rw [e2]; simp)
  have m2 : W.H a = none := by
    rcases m2 with m2 | ⟨_, r, m2, m3⟩
    · exact m2
    · simp at m2
      subst m2
      cases m3
  have O : Ow W ks G (fun j => if j < ks.length then ow j else []) := by
    refine ⟨fun i j b h h' => ?_, fun i b h => ?_, fun i hi => by rw [if_neg (by omega)]⟩
    · by_cases q : i < ks.length <;> by_cases q' : j < ks.length <;> simp only [q, q', if_true, if_false] at h h' <;> first | exact o.dis i j b h h' | cases h | cases h'
    · by_cases q : i < ks.length
      · simp only [q, if_true] at h
        obtain ⟨b1, c⟩ := o.mine i b h
        refine ⟨b1, ?_⟩
        rcases c with c | ⟨c, r, e⟩
        · exact .inl c
        · refine .inr ⟨c, r, ?_, e.2⟩
          have e := e.1
          rw [List.getElem?_append_left q] at e; exact e
      · simp only [q, if_false] at h; cases h
  have Fs : ∀ i k, ks[i]? = some k → Sl K G H k ((σ[i]?).getD none) (if i < ks.length then ow i else []) := fun i k hk => by
    have hi := (List.getElem?_eq_some_iff.mp hk).1
    rw [if_pos hi]
    have q := f i k (by rw [List.getElem?_append_left hi]; exact hk)
    rw [List.getElem?_append_left (by omega)] at q
    exact q
  refine ⟨⟨le, len', _, O, Fs⟩, m1, m2, vs, e3, e4, _, O, Fs, fun j h => ?_⟩
  by_cases q : j < ks.length
  · simp only [q, if_true] at h
    have := o.dis j ks.length a h (by rw [e2]; simp)
    omega
  · simp only [q, if_false] at h; cases h
/-- what is ours becomes what stays -/
theorem Sts.freeze {a : Addr} {o : HO} {ow : Nat → List Addr} (le : Le W G H) (len : σ.length = ks.length) (ow1 : Ow W ks G ow) (f : ∀ i k, ks[i]? = some k → Sl K G H k ((σ[i]?).getD none) (ow i)) (no : ∀ j, a ∉ ow j)
    (ga : G a = none) (wa : W.H a = none) (ha : H a = some o) (pl : Pl o) : Sts K W ks σ (upd G a o) H ∧ Same G (upd G a o) := by
  have gg : Same G (upd G a o) := fun b u e => by
    have : b ≠ a := fun z => by rw [z, ga] at e; cases e
    rw [upd_ne this]; exact e
  refine ⟨⟨⟨le.g.trans gg, fun b u e => ?_, le.keep, le.there, fun b u e1 e2 => ?_, le.m, le.tb.updG ha pl⟩, len, ow, ⟨ow1.dis, fun i b hb => ?_, ow1.out⟩, fun i k hk => (f i k hk).move gg fun _ _ _ e => e⟩, gg⟩
  · by_cases q : b = a
    · subst q; rw [upd_same] at e; cases e; exact ha
    · rw [upd_ne q] at e; exact le.gh b u e
  · have : b ≠ a := fun z => by rw [z, wa] at e2; cases e2
    rw [upd_ne this]; exact le.fz b u e1 e2
  · have : b ≠ a := fun z => no i (z ▸ hb)
    rw [upd_ne this]; exact ow1.mine i b hb
theorem Sts.popFreeze {a : Addr} {ds : List PyData} (S : Sts K W (ks ++ [.own ds]) (σ ++ [some (.ref a)]) G H) : ∃ G2, Sts K W ks σ G2 H ∧ Same G G2 ∧ Dp K G2 (.ref a) (.list ds) := by
  obtain ⟨S1, g, w, vs, ha, r, ow, o, f, no⟩ := S.pop
  obtain ⟨S2, gg⟩ := Sts.freeze S1.le S1.len o f no g w ha pl_lst
  exact ⟨_, S2, gg, .lst (SqL.of upd_same) (DpAll.mono gg r)⟩
/-- the slot more goes to slot i -/
theorem Sts.popTo {i : Nat} {a : Addr} {ds : List PyData} (S : Sts K W (ks ++ [.own ds]) (σ ++ [some (.ref a)]) G H) (hi : i < ks.length) : Sts K W (ks.set i (.own ds)) (σ.set i (some (.ref a))) G H := by
  obtain ⟨S1, g, w, vs, ha, r, ow, o, f, no⟩ := S.pop
  refine ⟨S1.le, by simp [S1.len], fun j => if j = i then [a] else ow j, ⟨fun j j' b h h' => ?_, fun j b h => ?_, fun j hj => ?_⟩, fun j kj hj => ?_⟩
  · by_cases q : j = i <;> by_cases q' : j' = i
    · rw [q, q']
    · simp only [q, if_true, q', if_false] at h h'
      simp at h; subst h; exact (no j' h').elim
    · simp only [q, if_false, q', if_true] at h h'
      simp at h'; subst h'; exact (no j h).elim
    · simp only [q, q', if_false] at h h'
      exact o.dis j j' b h h'
  · by_cases q : j = i
    · simp only [q, if_true] at h
      simp at h; subst h
      exact ⟨g, .inl w⟩
    · simp only [q, if_false] at h
      obtain ⟨b1, c⟩ := o.mine j b h
      refine ⟨b1, ?_⟩
      rcases c with c | ⟨c, r, e⟩
      · exact .inl c
      · exact .inr ⟨c, r, by rw [List.getElem?_set_ne (Ne.symm q)]; exact e.1, e.2⟩
  · have : j ≠ i := by simp at hj; omega
    simp only [this, if_false]
    exact o.out j (by simpa using hj)
  · by_cases q : j = i
    · subst q
      rw [List.getElem?_set_self hi] at hj
      cases hj
      simp only [if_true]
      rw [List.getElem?_set_self (by rw [S1.len]; exact hi)]
      exact ⟨a, vs, rfl, rfl, ha, r⟩
    · rw [List.getElem?_set_ne (Ne.symm q)] at hj
      simp only [q, if_false]
      rw [List.getElem?_set_ne (Ne.symm q)]
      exact f j kj hj
/-- a slot of our own list -/
theorem Sts.ownAt {i : Nat} {ds : List PyData} (S : Sts K W ks σ G H) (h : ks[i]? = some (.own ds)) : ∃ a vs, σ[i]? = some (some (.ref a)) ∧ H a = some (.lst vs) ∧ DpAll K G vs ds ∧ G a = none ∧ W.H a = none ∧
    ∃ ow, Ow W ks G ow ∧ (∀ i k, ks[i]? = some k → Sl K G H k ((σ[i]?).getD none) (ow i)) ∧ ow i = [a] ∧ ∀ j, j ≠ i → a ∉ ow j := by
  obtain ⟨le, len, ow, o, f⟩ := S
  obtain ⟨a, vs, e1, e2, e3, e4⟩ := f i _ h
  have hi : i < σ.length := by rw [len]; exact (List.getElem?_eq_some_iff.mp h).1
  obtain ⟨m1, m2⟩ := o.mine i a (by rw [e2]; simp)
  have m2 : W.H a = none := by
    rcases m2 with m2 | ⟨_, r, m2, m3⟩
    · exact m2
    · rw [h] at m2; cases m2; cases m3
  refine ⟨a, vs, ?_, e3, e4, m1, m2, ow, o, f, e2, fun j hj ha => hj (o.dis j i a ha (by rw [e2]; simp))⟩
  rw [List.getElem?_eq_getElem hi] at e1 ⊢
  simpa using e1
/-- slot i's own list is changed -/
theorem Sts.mutOwn {i : Nat} {a : Addr} {vs us : List V} {ds es : List PyData} (S : Sts K W ks σ G H) (h : ks[i]? = some (.own ds)) (ha : σ[i]? = some (some (.ref a))) (r : DpAll K G us es) : Sts K W (ks.set i (.own es)) σ G (upd H a (.lst us)) := by
  obtain ⟨a', vs', e1, e2, e3, e4, e5, ow, o, f, e6, e7⟩ := S.ownAt h
  rw [ha] at e1
  cases e1
  have hi := (List.getElem?_eq_some_iff.mp h).1
  have hσ : σ.set i (some (.ref a)) = σ := by
    apply List.ext_getElem?
    intro j
    by_cases q : j = i
    · subst q; rw [List.getElem?_set_self (by rw [S.len]; exact hi), ha]
    · rw [List.getElem?_set_ne (Ne.symm q)]
  rw [← hσ]
  refine S.put hi (S.le.upd ⟨_, e2⟩ (fun u e => by rw [e2] at e; cases e; exact pl_lst) e4 (.inl e5)) (Same.refl G) (fun _ _ e _ => e) fun ow' o' f' => ⟨fun j b hj hb u hu => ?_, [a], ⟨a, us, rfl, rfl, upd_same, r⟩, fun b hb => ?_⟩
  · obtain ⟨a2, vs2, q1, q2, q3, q4⟩ := f' i _ h
    rw [ha] at q1
    cases q1
    have : b ≠ a := fun z => hj (o'.dis j i b hb (by rw [q2, z]; simp))
    rw [upd_ne this]; exact hu
  · simp at hb; subst hb
    refine ⟨fun j hj hb => ?_, e4, .inl e5⟩
    obtain ⟨a2, vs2, q1, q2, q3, q4⟩ := f' i _ h
    rw [ha] at q1
    cases q1
    exact hj (o'.dis j i b hb (by rw [q2]; simp))
/-- weaker -/
def Wk : List SK → List SK → Prop
  | [], [] => True
  | a :: as, b :: bs => (b = .no ∨ a = b) ∧ Wk as bs
  | _, _ => False
theorem Wk.len : ∀ {ks ls : List SK}, Wk ks ls → ks.length = ls.length
  | [], [], _ => rfl
  | _ :: _, _ :: _, h => congrArg (· + 1) (Wk.len h.2)
theorem Wk.at : ∀ {ks ls : List SK} {i : Nat} {k : SK}, Wk ks ls → ls[i]? = some k → k = .no ∨ ks[i]? = some k
  | [], [], _, _, _, e => by simp at e
  | a :: as, b :: bs, 0, k, h, e => by
    simp at e; subst e
    rcases h.1 with q | q
    · exact .inl q
    · exact .inr (by simp [q])
  | a :: as, b :: bs, i + 1, k, h, e => by
    have := Wk.at (i := i) h.2 (by simpa using e)
    simpa using this
theorem Wk.rfl' : ∀ {ks : List SK}, Wk ks ks
  | [] => trivial
  | _ :: _ => ⟨.inr rfl, Wk.rfl'⟩
theorem Sts.weak {ls : List SK} (S : Sts K W ks σ G H) (h : Wk ks ls) : Sts K W ls σ G H := by
  obtain ⟨le, len, ow, o, f⟩ := S
  have hl := h.len
  classical
  refine ⟨le, by omega, fun j => if ls[j]? = some .no ∨ ls.length ≤ j then [] else ow j, ⟨fun i j a ha hb => ?_, fun i a ha => ?_, fun i hi => ?_⟩, fun i k hk => ?_⟩
  · by_cases q : ls[i]? = some .no ∨ ls.length ≤ i
    · simp only [q, if_true] at ha; cases ha
    · by_cases q' : ls[j]? = some .no ∨ ls.length ≤ j
      · simp only [q', if_true] at hb; cases hb
      · simp only [q, q', if_false] at ha hb
        exact o.dis i j a ha hb
  · by_cases q : ls[i]? = some .no ∨ ls.length ≤ i
    · simp only [q, if_true] at ha; cases ha
    · simp only [q, if_false] at ha
      obtain ⟨b, c⟩ := o.mine i a ha
      refine ⟨b, ?_⟩
      rcases c with c | ⟨c, r, e⟩
      · exact .inl c
      · refine .inr ⟨c, r, ?_, e.2⟩
        have e := e.1
        have hi : i < ls.length := by omega
        have e' : ls[i]? = some ls[i] := by simp [hi]
        rcases h.at e' with z | z
        · exact (q (.inl (by rw [e', z]))).elim
        · rw [e', ← z, e]
  · simp only [hi, or_true, if_true]
  · rcases h.at hk with z | z
    · subst z
      simp only [hk, true_or, if_true]
      exact (show ([] : List Addr) = [] from rfl)
    · by_cases q : k = .no
      · subst q
        simp only [hk, true_or, if_true]
        exact (show ([] : List Addr) = [] from rfl)
      · have : ¬ (ls[i]? = some .no ∨ ls.length ≤ i) := by
          have hi := (List.getElem?_eq_some_iff.mp hk).1
          rintro (e | e)
          · rw [hk] at e; exact q (Option.some.inj e)
          · omega
        simp only [this, if_false]
        exact f i k z
end
end Z
namespace Z
open PySem PySem.Spec L2
variable [Tabl]
section
variable {P : Program} {w : World} {K : PySem.W.Frag} {mg : Str → Option Value} {base : Heap} {T : Sta} {k : Nat} {X : Cx} {ks k1 k2 k3 : List SK} {a b e : Expr} {es : List Expr} {d da db : PyData} {ds : List PyData} {pos : Pos}
/-! ### new lists -/
theorem el_lst (h : AD X ks es k1 ds) (hl : ds.length ≤ sizeLine) : EL X ks (.List es pos) k1 ds := fun W σ G H S Q q =>
  ev_of (pe_lst pa_av) (h W σ G H S _ fun vs G1 H1 S1 g1 r1 => ⟨by rw [r1.len]; exact hl, fun p np => by
    have gp : G1 p = none := by
      cases e : G1 p with
      | none => rfl
      | some u => rw [S1.gh p u e] at np; cases np
    have l := Lp.newOwn (o := .lst vs) S1.gh np
    exact q p G1 _ (S1.push l np gp upd_same r1) g1⟩)
theorem ed_el (h : EL X ks e k1 ds) : ED X ks e k1 (.list ds) := fun W σ G H S Q q => h W σ G H S Q fun a G2 H2 S2 g => by
  obtain ⟨G3, S3, g3, r⟩ := S2.popFreeze
  exact q _ G3 H2 S3 (g.trans g3) r
/-! ### built-ins by their name -/
structure CallD (X : Cx) (f : Value) (ds : List PyData) (d : PyData) : Prop where
  out : ∃ r, CallR X f r ∧ ∀ G H vs, Same G H → DpAll X.K G vs ds → ∀ Q : VK, (∀ v G2 H2, Lp G H G2 H2 → Dp X.K G2 v d → Q v H2) → r vs H Q
structure CallL (X : Cx) (f : Value) (ds : List PyData) (es : List PyData) : Prop where
  out : ∃ r, CallR X f r ∧ ∀ G H vs, Same G H → DpAll X.K G vs ds → ∀ Q : VK, (∀ p us G2 H2, Lp G H G2 H2 → H p = none → G2 p = none → H2 p = some (.lst us) → DpAll X.K G2 us es → Q (.ref p) H2) → r vs H Q
section
variable {x : Str} {p : Pos} {id : String}
theorem ed_callB (c : CtxB cq P w K mg base T k X) (hg : T.sc.names.lookup x = some .globalImplicit) (hm : mg x = none) (hv : bootBuiltins x = some (.builtin id)) (ha : AD X ks (e :: es) k1 ds) (h : CallD X (.builtin id) ds d) (hn : x ≠ "__name__") (hdb : (x == ("__debug__" : Str)) = false)
    (he : starEach (e :: es) X.env = (false, eval e X.env) :: starEach es X.env) (hpl : (backTo pos (starEach es X.env)).any (·.1) = false) : ED X ks (.Call (.Name x p) (e :: es) [] pos) k1 d := by
  obtain ⟨r, hc, hr⟩ := h.out
  intro W σ G H S Q q
  exact ev_of (pe_callB hc (gl_of c hg) (by rw [c.hmg]; exact hm) hv pa_av hn hdb he hpl) (ha W σ G H S _ fun vs G1 H1 S1 g1 r1 => hr G1 H1 vs S1.gh r1 Q fun v G2 H2 l r2 => q v G2 H2 (S1.pure l) (g1.trans l.g) r2)
theorem ed_callT (c : CtxB cq P w K mg base T k X) (hg : T.sc.names.lookup x = some .globalImplicit) (hm : mg x = none) (hv : bootBuiltins x = some (.type id)) (ha : AD X ks (e :: es) k1 ds) (h : CallD X (.type id) ds d) (hn : x ≠ "__name__") (hdb : (x == ("__debug__" : Str)) = false)
    (he : starEach (e :: es) X.env = (false, eval e X.env) :: starEach es X.env) (hpl : (backTo pos (starEach es X.env)).any (·.1) = false) : ED X ks (.Call (.Name x p) (e :: es) [] pos) k1 d := by
  obtain ⟨r, hc, hr⟩ := h.out
  intro W σ G H S Q q
  exact ev_of (pe_callTy hc (gl_of c hg) (by rw [c.hmg]; exact hm) hv pa_av hn hdb he hpl) (ha W σ G H S _ fun vs G1 H1 S1 g1 r1 => hr G1 H1 vs S1.gh r1 Q fun v G2 H2 l r2 => q v G2 H2 (S1.pure l) (g1.trans l.g) r2)
theorem DpAll.one {G : Hp} {vs : List V} (h : DpAll K G vs [d]) : ∃ v, vs = [v] ∧ Dp K G v d := by
  cases h with | cons a b => cases b; exact ⟨_, rfl, a⟩
theorem DpAll.two {G : Hp} {vs : List V} (h : DpAll K G vs [da, db]) : ∃ v u, vs = [v, u] ∧ Dp K G v da ∧ Dp K G u db := by
  cases h with | cons a b => cases b with | cons b c => cases c; exact ⟨_, _, rfl, a, b⟩
theorem cl_lenL {xs : List PyData} : CallD X (.builtin "len") [.list xs] (.int xs.length) := ⟨_, call_len_seq, fun G H vs g r Q q => by
  obtain ⟨v, rfl, r1⟩ := DpAll.one r
  obtain ⟨p, us, rfl, sp, ap⟩ := r1.lst_inv
  exact ⟨p, us, rfl, .inl (g.seq sp), by rw [ap.len]; exact q _ G H (Lp.refl g) (.int _)⟩⟩
theorem cl_lenT {xs : List PyData} : CallD X (.builtin "len") [.tuple xs] (.int xs.length) := ⟨_, call_len_seq, fun G H vs g r Q q => by
  obtain ⟨v, rfl, r1⟩ := DpAll.one r
  obtain ⟨p, us, rfl, sp, ap⟩ := r1.tup_inv
  exact ⟨p, us, rfl, .inr (Same.seqT g sp), by rw [ap.len]; exact q _ G H (Lp.refl g) (.int _)⟩⟩
theorem cl_max2 (hc : X.calm = true) {i j : Int} : CallD X (.builtin "max") [.int i, .int j] (.int (max i j)) := ⟨_, call_max2 hc, fun G H vs g r Q q => by
  obtain ⟨v, u, rfl, r1, r2⟩ := DpAll.two r
  rw [r1.int_inv, r2.int_inv]
  have e : (if j > i then j else i) = max i j := by
    split <;> omega
  exact ⟨i, j, rfl, by rw [e]; exact q _ G H (Lp.refl g) (.int _)⟩⟩
theorem cl_min2 (hc : X.calm = true) {i j : Int} : CallD X (.builtin "min") [.int i, .int j] (.int (min i j)) := ⟨_, call_min2 hc, fun G H vs g r Q q => by
  obtain ⟨v, u, rfl, r1, r2⟩ := DpAll.two r
  rw [r1.int_inv, r2.int_inv]
  have e : (if j < i then j else i) = min i j := by
    split <;> omega
  exact ⟨i, j, rfl, by rw [e]; exact q _ G H (Lp.refl g) (.int _)⟩⟩
theorem cl_intB {x : Bool} : CallD X (.type "int") [.bool x] (.int (if x then 1 else 0)) := ⟨_, call_int1, fun G H vs g r Q q => by
  obtain ⟨v, rfl, r1⟩ := DpAll.one r
  rw [r1.bl_inv]
  exact .inr ⟨x, rfl, q _ G H (Lp.refl g) (.int _)⟩⟩
theorem cl_tupL {xs : List PyData} : CallD X (.type "tuple") [.list xs] (.tuple xs) := ⟨_, call_tuple_of, fun G H vs g r Q q => by
  obtain ⟨v, rfl, r1⟩ := DpAll.one r
  obtain ⟨p, us, rfl, sp, ap⟩ := r1.lst_inv
  refine ⟨p, us, rfl, .inl ⟨g.seq sp, fun l nl => ?_⟩⟩
  have le := Lp.new (o := .tup us) g nl
  exact q _ _ _ le (.tup (SqT.of upd_same) (DpAll.mono le.g ap))⟩
theorem cl_lstL {xs : List PyData} : CallL X (.type "list") [.list xs] xs := ⟨_, call_list_of, fun G H vs g r Q q => by
  obtain ⟨v, rfl, r1⟩ := DpAll.one r
  obtain ⟨p, us, rfl, sp, ap⟩ := r1.lst_inv
  refine ⟨p, us, rfl, .inl (g.seq sp), fun l nl => ?_⟩
  have gl : G l = none := by
    cases e : G l with
    | none => rfl
    | some u => rw [g l u e] at nl; cases nl
  exact q l us G _ (Lp.newOwn g nl) nl gl upd_same ap⟩
theorem cl_lstT {xs : List PyData} : CallL X (.type "list") [.tuple xs] xs := ⟨_, call_list_of, fun G H vs g r Q q => by
  obtain ⟨v, rfl, r1⟩ := DpAll.one r
  obtain ⟨p, us, rfl, sp, ap⟩ := r1.tup_inv
  refine ⟨p, us, rfl, .inr (Same.seqT g sp), fun l nl => ?_⟩
  have gl : G l = none := by
    cases e : G l with
    | none => rfl
    | some u => rw [g l u e] at nl; cases nl
  exact q l us G _ (Lp.newOwn g nl) nl gl upd_same ap⟩
end
/-! ### a list of our own that is read where it stands -/
theorem own_ix (c : CtxB cq P w K mg base T k X) (i : Nat) {x : Str} {p : Pos} {ds : List PyData} {j : Int} (hN : T.N[i]? = some x) (hv : Vis T.sc x) (hb : ED X ks b k1 (.int j)) (hk : k1[i]? = some (.own ds)) (hi : atI ds j = some d) (hs : PlainIx b) (hk0 : ks[i]? = some (.own ds))
    (hd : (x == ("__debug__" : Str)) = false) (hcd : (x == ("__classdict__" : Str)) = false) : ED X ks (.Subscript (.Name x p) b pos) k1 d := fun W σ G H S Q q => by
  obtain ⟨a0, vs0, e0, h0, r0, g0, w0, _⟩ := S.ownAt hk0
  refine ev_of (pe_ix ix_list (pe_var (ix_of c hN) (vis_of c hv) hd hcd) pe_ev hs) ?_
  refine ⟨.ref a0, e0, ?_⟩
  refine hb W σ G H S _ fun v G1 H1 S1 g1 r1 => ?_
  obtain ⟨a, vs, e1, h1, r, g2, w1, _⟩ := S1.ownAt hk
  rw [e0] at e1
  cases e1
  rw [r1.int_inv]
  obtain ⟨j', q1, q2, q3, q4, q5⟩ := atI_get hi
  obtain ⟨v, hv', rv⟩ := r.get q2
  refine ⟨a0, vs, j, v, rfl, rfl, SqL.of h1, ?_, q v G1 H1 S1 g1 rv⟩
  unfold atI at hi ⊢
  rw [r.len]
  cases e : ixN ds.length j with
  | none => rw [e] at hi; cases hi
  | some j2 =>
    rw [e] at hi
    have hj := (ixN_seq e).1
    rw [hj] at q1
    cases q1
    exact hv'
/-! ### calls of defs -/
/-- what a def promises of data: no change of what stood -/
def spP (K : PySem.W.Frag) (R : List PyData → PyData → Prop) : Sp := fun vs H Q _ => ∃ G ds d, Same G H ∧ TbO G H ∧ DpAll K G vs ds ∧ R ds d ∧ ∀ v G2 H2, Le (pur G H) G2 H2 → Dp K G2 v d → Q v H2
def RngAt (H : Hp) (a b : Addr) (r : Rg) : Prop := H a = some (.lst [.int r.s, .ref b, .int r.k]) ∧ H b = some (.lst (r.c.map V.int)) ∧ a ≠ b
/-- .. that draws -/
def spR (K : PySem.W.Frag) (R : Rg → List PyData → Rg → PyData → Prop) : Sp := fun vs H Q _ => ∃ G a b us r ds r2 d, vs = .ref a :: us ∧ Same G H ∧ TbO G H ∧ RngAt H a b r ∧ G a = none ∧ G b = none ∧ DpAll K G us ds ∧ R r ds r2 d ∧
  ∀ v G2 H2, Le ⟨G, H, fun x => x = a ∨ x = b⟩ G2 H2 → RngAt H2 a b r2 → Dp K G2 v d → Q v H2
/-- a def of the module that keeps a promise -/
structure FnG (P : Program) (w : World) (K : PySem.W.Frag) (mg : Str → Option Value) (base : Heap) (x : Str) (ps : List Str) (j : Nat) (sp : Sp) : Prop where
  ex : ∃ f fd, FnOk P w K mg base CX0 j f fd ps sp ∧ mg x = some (.ref f) ∧ PySem.W.keepIn K (.ref f) = true ∧ Binds K fd ps []
theorem FnG.mono {x : Str} {ps : List Str} {j j' : Nat} {sp : Sp} (F : FnG P w K mg base x ps j sp) (h : j ≤ j') : FnG P w K mg base x ps j' sp := by
  obtain ⟨f, fd, a, b⟩ := F.ex
  exact ⟨f, fd, a.mono h, b⟩
section
variable {x : Str} {p : Pos} {ps : List Str} {j : Nat}
theorem fn_run (c : Ctx P w K mg base T k X) {sp : Sp} (F : FnG P w K mg base x ps j sp) (hj : j ≤ k) (hg : T.sc.names.lookup x = some .globalImplicit) (hdb : (x == ("__debug__" : Str)) = false)
    (he : starEach (e :: es) X.env = (false, eval e X.env) :: starEach es X.env) (hpl : (backTo pos (starEach es X.env)).any (·.1) = false) {t : TA} (ha : PA X (e :: es) t) : PE X (.Call (.Name x p) (e :: es) [] pos) (tCall sp [] E0 t) := by
  obtain ⟨f, fd, F, hm, hk, hb⟩ := F.ex
  have h1 := c.hP
  have h2 := c.hw
  have h3 := c.hK
  have h4 := c.hmg
  have h5 := c.hbase
  subst h1 h2 h3 h4 h5
  exact pe_call F (c.room.mono hj) (gl_of c hg) hm hk hb .nil pass0 ha hdb he hpl
theorem ed_call (c : Ctx P w K mg base T k X) {R : List PyData → PyData → Prop} (F : FnG P w K mg base x ps j (spP K R)) (hj : j ≤ k) (hg : T.sc.names.lookup x = some .globalImplicit) (ha : AD X ks (e :: es) k1 ds) (hR : R ds d) (hdb : (x == ("__debug__" : Str)) = false)
    (he : starEach (e :: es) X.env = (false, eval e X.env) :: starEach es X.env) (hpl : (backTo pos (starEach es X.env)).any (·.1) = false) : ED X ks (.Call (.Name x p) (e :: es) [] pos) k1 d := fun W σ G H S Q q => by
  have hK := c.hK
  refine ev_of (fn_run c F hj hg hdb he hpl pa_av) (ha W σ G H S _ fun vs G1 H1 S1 g1 r1 => ?_)
  show spP K R (vs ++ []) H1 Q E0
  rw [List.append_nil]
  rw [hK] at r1
  exact ⟨G1, ds, d, S1.gh, S1.le.tb, r1, hR, fun v G2 H2 l r2 => q v G2 H2 (S1.step l) (g1.trans l.g) (by rw [hK]; exact r2)⟩
theorem Sts.rngAt {W : Wd} {σ : St} {G H : Hp} {i : Nat} {a b : Addr} {r : Rg} (S : Sts K W ks σ G H) (h : ks[i]? = some (.rng a b r)) : σ[i]? = some (some (.ref a)) ∧ RngAt H a b r ∧ G a = none ∧ G b = none ∧ (W.H a = none ∨ W.M a) ∧ (W.H b = none ∨ W.M b) ∧
    ∃ ow, Ow W ks G ow ∧ (∀ i k, ks[i]? = some k → Sl K G H k ((σ[i]?).getD none) (ow i)) ∧ ow i = [a, b] := by
  obtain ⟨le, len, ow, o, f⟩ := S
  obtain ⟨e1, e2, e3, e4, e5⟩ := f i _ h
  have hi : i < σ.length := by rw [len]; exact (List.getElem?_eq_some_iff.mp h).1
  have m1 := o.mine i a (by rw [e2]; simp)
  have m2 := o.mine i b (by rw [e2]; simp)
  refine ⟨?_, ⟨e3, e4, e5⟩, m1.1, m2.1, m1.2.imp id (·.1), m2.2.imp id (·.1), ow, o, f, e2⟩
  rw [List.getElem?_eq_getElem hi] at e1 ⊢
  simpa using e1
/-- behind a call that draws -/
theorem Sts.rngStep {W : Wd} {σ : St} {G H G2 H2 : Hp} {i : Nat} {r r2 : Rg} {a b : Addr} (S : Sts K W ks σ G H) (h : ks[i]? = some (.rng a b r)) (l : Le ⟨G, H, fun x => x = a ∨ x = b⟩ G2 H2) (hr2 : RngAt H2 a b r2) :
    Sts K W (ks.set i (.rng a b r2)) σ G2 H2 := by
  obtain ⟨ha, hr, e3, e4, e5, e6, ow, o, f, e7⟩ := S.rngAt h
  have hi := (List.getElem?_eq_some_iff.mp h).1
  have hσ : σ.set i (some (.ref a)) = σ := by
    apply List.ext_getElem?
    intro j
    by_cases q : j = i
    · subst q; rw [List.getElem?_set_self (by rw [S.len]; exact hi), ha]
    · rw [List.getElem?_set_ne (Ne.symm q)]
  have nab : ∀ x u, ¬ W.M x → W.H x = some u → ¬ (x = a ∨ x = b) := fun x u hm hx => by
    rintro (z | z) <;> subst z
    · rcases e5 with e5 | e5
      · rw [hx] at e5; cases e5
      · exact hm e5
    · rcases e6 with e6 | e6
      · rw [hx] at e6; cases e6
      · exact hm e6
  have le : Le W G2 H2 := ⟨S.le.g.trans l.g, l.gh, fun x u hm nt hx => l.keep x u (nab x u hm hx) nt (S.le.keep x u hm nt hx), fun x u hx => by
    obtain ⟨u', hu⟩ := S.le.there x u hx
    exact l.there x u' hu, fun x u h1 h2 => by
    obtain ⟨u', hu⟩ := S.le.there x u h2
    exact l.fz x u' (S.le.fz x u h1 h2) hu, S.le.m, l.tb⟩
  rw [← hσ]
  refine S.put hi le l.g (fun x u h1 h2 => l.fz x u h1 h2) fun ow' o' f' => ?_
  obtain ⟨q1, q2, q3, q4, q5⟩ := f' i _ h
  refine ⟨fun j x hj hx u hu => by
    obtain ⟨u', hu', nt⟩ := o'.liveN f' j x hx
    rw [hu] at hu'
    cases hu'
    refine l.keep x u ?_ nt hu
    rintro (z | z) <;> subst z
    · exact hj (o'.dis j i _ hx (by rw [q2]; simp))
    · exact hj (o'.dis j i _ hx (by rw [q2]; simp)), [a, b], ⟨rfl, rfl, hr2.1, hr2.2.1, hr2.2.2⟩, fun x hx => ⟨fun j hj hx' => ?_, ?_, ?_⟩⟩
  · exact hj (o'.dis j i x hx' (by rw [q2]; exact hx))
  · have : x = a ∨ x = b := by simpa using hx
    rcases this with z | z
    · rw [z]; exact l.fz a _ e3 hr.1
    · rw [z]; exact l.fz b _ e4 hr.2.1
  · have : x = a ∨ x = b := by simpa using hx
    rcases this with z | z
    · subst z; exact e5.imp id fun z => ⟨z, rfl⟩
    · subst z; exact e6.imp id fun z => ⟨z, rfl⟩
theorem ed_callR (c : Ctx P w K mg base T k X) {R : Rg → List PyData → Rg → PyData → Prop} (F : FnG P w K mg base x ps j (spR K R)) (hj : j ≤ k) (hg : T.sc.names.lookup x = some .globalImplicit) (i : Nat) {y : Str} {py : Pos} {r0 r r2 : Rg} {a' b' a0 b0 : Addr} (hN : T.N[i]? = some y) (hv : Vis T.sc y)
    (hk0 : ks[i]? = some (.rng a0 b0 r0)) (ha : AD X ks es k1 ds) (hk : k1[i]? = some (.rng a' b' r)) (hR : R r ds r2 d) (hdb : (x == ("__debug__" : Str)) = false) (hd : (y == ("__debug__" : Str)) = false) (hcd : (y == ("__classdict__" : Str)) = false)
    (he : starEach (.Name y py :: es) X.env = (false, eval (.Name y py) X.env) :: starEach es X.env) (hpl : (backTo pos (starEach es X.env)).any (·.1) = false) : ED X ks (.Call (.Name x p) (.Name y py :: es) [] pos) (k1.set i (.rng a' b' r2)) d := fun W σ G H S Q q => by
  have hK := c.hK
  obtain ⟨e1, _⟩ := S.rngAt hk0
  refine ev_of (fn_run c F hj hg hdb he hpl (pa_cons (pe_var (ix_of c hN) (vis_of c hv) hd hcd) pa_av he)) ?_
  refine ⟨.ref a0, e1, ha W σ G H S _ fun vs G1 H1 S1 g1 r1 => ?_⟩
  obtain ⟨e1', e2, e3, e4, _⟩ := S1.rngAt hk
  rw [e1] at e1'
  cases e1'
  show spR K R (.ref _ :: vs ++ []) H1 Q E0
  rw [List.append_nil]
  rw [hK] at r1
  exact ⟨G1, _, b', vs, r, ds, r2, d, rfl, S1.gh, S1.le.tb, e2, e3, e4, r1, hR, fun v G2 H2 l hr2 r3 => q v G2 H2 (S1.rngStep hk l hr2) (g1.trans l.g) (by rw [hK]; exact r3)⟩
end
end
end Z
namespace Z
open PySem PySem.Spec L2
variable [Tabl]
/-- what is wanted behind statements, by the slots' contents -/
structure Po where
  nx : List SK → Prop
  rt : List SK → PyData → Prop
  rl : List SK → List PyData → Prop := fun _ _ => False
  bk : List SK → Prop := fun _ => False
  ct : List SK → Prop := fun _ => False
  rT : List SK → List PyData → List PyData → List PyData → Prop := fun _ _ _ _ => False
  ex : List SK → Value → List (Str × PyData) → Prop := fun _ _ _ => False
  rc : List SK → SK → Prop := fun _ _ => False
/-- the fields of an exception that stays -/
def ExF (K : PySem.W.Frag) (G : Hp) (d : Option Addr) (fs : List (Str × PyData)) : Prop := match d with
  | none => fs = []
  | some dx => ∃ vs, G dx = some (.xd vs) ∧ FsD K G vs fs
theorem ExF.mono {K : PySem.W.Frag} {G G2 : Hp} {d : Option Addr} {fs : List (Str × PyData)} (e : Same G G2) (h : ExF K G d fs) : ExF K G2 d fs := by
  cases d with
  | none => exact h
  | some dx => obtain ⟨vs, a, b⟩ := h; exact ⟨vs, e _ _ a, FsD.mono e b⟩
structure Mt (X : Cx) (W : Wd) (Φ : Po) (D : Ends) : Prop where
  nx : ∀ ks σ G H, Φ.nx ks → Sts X.K W ks σ G H → D.nx σ H
  bk : ∀ ks σ G H, Φ.bk ks → Sts X.K W ks σ G H → D.bk σ H
  ct : ∀ ks σ G H, Φ.ct ks → Sts X.K W ks σ G H → D.ct σ H
  rt : ∀ ks σ G H v d, Φ.rt ks d → Sts X.K W ks σ G H → Dp X.K G v d → D.rt v H
  rl : ∀ ks σ G H a ds, Φ.rl ks ds → Sts X.K W (ks ++ [.own ds]) (σ ++ [some (.ref a)]) G H → D.rt (.ref a) H
  rT : ∀ ks σ G H a ds es fs, Φ.rT ks ds es fs → Sts X.K W (ks ++ [.tlo ds es fs]) (σ ++ [some (.ref a)]) G H → D.rt (.ref a) H
  ex : (∃ Wx : WX, Takes X Wx ∧ ∀ ks σ G H cls d fs, Φ.ex ks cls fs → Sts X.K W ks σ G H → ExF X.K G d fs → Wx cls d σ H) ∧ ∀ ks σ G H v k, Φ.rc ks k → Sts X.K W (ks ++ [k]) (σ ++ [some v]) G H → D.rt v H
structure SV (X : Cx) (sts : List Stmt) (D : Ends) (σ : St) (H : Hp) : Prop where
  run : ∀ (pins : List (Addr × Obj)) (s : Shared), Inv X pins σ H s → wpAny (model X.prog X.w) X.A (execs sts X.env) (SP X pins D) X.xe s
theorem pss_sv {X : Cx} {sts : List Stmt} : PSs X sts (SV X sts) := ⟨fun pins s σ H D I h => h.run pins s I⟩
theorem sv_of {X : Cx} {sts : List Stmt} {t : TS} {D : Ends} {σ : St} {H : Hp} (h : PSs X sts t) (q : t D σ H) : SV X sts D σ H := ⟨fun pins s I => h.run pins s σ H D I q⟩
def SD (X : Cx) (ks : List SK) (sts : List Stmt) (Φ : Po) : Prop := ∀ W σ G H D, Sts X.K W ks σ G H → Mt X W Φ D → SV X sts D σ H
section
variable {P : Program} {w : World} {K : PySem.W.Frag} {mg : Str → Option Value} {base : Heap} {T : Sta} {k : Nat} {X : Cx} {ks k1 k2 k3 : List SK} {a b e : Expr} {es : List Expr} {d da db : PyData} {ds : List PyData} {pos p : Pos} {rest body orelse : List Stmt} {Φ : Po}
theorem SD.imp {Ψ : Po} (h : SD X ks rest Φ) (hn : ∀ k, Φ.nx k → Ψ.nx k) (hr : ∀ k d, Φ.rt k d → Ψ.rt k d) (hl : ∀ k d, Φ.rl k d → Ψ.rl k d) (hb : ∀ k, Φ.bk k → Ψ.bk k) (hc : ∀ k, Φ.ct k → Ψ.ct k) (hT : ∀ k d e f, Φ.rT k d e f → Ψ.rT k d e f) (hx : ∀ k c f, Φ.ex k c f → Ψ.ex k c f) (hC : ∀ k s, Φ.rc k s → Ψ.rc k s) : SD X ks rest Ψ := fun W σ G H D S M =>
  h W σ G H D S ⟨fun ks σ G H q => M.nx ks σ G H (hn _ q), fun ks σ G H q => M.bk ks σ G H (hb _ q), fun ks σ G H q => M.ct ks σ G H (hc _ q), fun ks σ G H v d q => M.rt ks σ G H v d (hr _ _ q), fun ks σ G H a ds q => M.rl ks σ G H a ds (hl _ _ q), fun ks σ G H a ds es fs q => M.rT ks σ G H a ds es fs (hT _ _ _ _ q), let ⟨⟨Wx, t, h⟩, h'⟩ := M.ex; ⟨⟨Wx, t, fun ks σ G H c d f q => h ks σ G H c d f (hx _ _ _ q)⟩, fun ks σ G H v k q => h' ks σ G H v k (hC _ _ q)⟩⟩
theorem sd_nil (h : Φ.nx ks) : SD X ks [] Φ := fun W σ G H D S M => sv_of pss_nil (M.nx ks σ G H h S)
theorem sd_weak {ls : List SK} (h : Wk ks ls) (q : SD X ls rest Φ) : SD X ks rest Φ := fun W σ G H D S M => q W σ G H D (S.weak h) M
theorem loc_of (c : CtxB cq P w K mg base T k X) {x : Str} (h : Loc T.sc x) : Loc X.env.scope x := by rw [c.hs]; exact h
theorem fn_of' (c : CtxB cq P w K mg base T k X) {x : Str} (h : T.fn x = true ∨ T.sc.names.lookup x = some .local) : X.fn x = true ∨ X.env.scope.names.lookup x = some .local := by rw [c.fn, c.hs]; exact h
theorem nd_of (c : CtxB cq P w K mg base T k X) : X.N.Nodup := by rw [c.hN]; exact c.nd
section
variable {x : Str} {i : Nat}
theorem sd_asg (c : CtxB cq P w K mg base T k X) (i : Nat) (hi : T.N[i]? = some x) (hx : Loc T.sc x) (hf : T.fn x = true ∨ T.sc.names.lookup x = some .local) (hl : i < k1.length) (h : ED X ks e k1 d) (hs : swapsWith e (some (.Name x p)) pos.line X.env = pure false)
    (q : SD X (k1.set i (.dat d)) rest Φ) : SD X ks (.Assign [.Name x p] e pos :: rest) Φ := fun W σ G H D S M => by
  refine sv_of (pss_cons (ps_set (nd_of c) (ix_of c hi) (loc_of c hx) pe_ev hs (fn_of' c hf)) pss_sv) ?_
  exact h W σ G H S _ fun v G2 H2 S2 g r => q W _ G2 H2 D (S2.setDat hl r) M
theorem sd_asgL (c : CtxB cq P w K mg base T k X) (i : Nat) (hi : T.N[i]? = some x) (hx : Loc T.sc x) (hf : T.fn x = true ∨ T.sc.names.lookup x = some .local) (hl : i < k1.length) (h : EL X ks e k1 ds) (hs : swapsWith e (some (.Name x p)) pos.line X.env = pure false)
    (q : SD X (k1.set i (.own ds)) rest Φ) : SD X ks (.Assign [.Name x p] e pos :: rest) Φ := fun W σ G H D S M => by
  refine sv_of (pss_cons (ps_set (nd_of c) (ix_of c hi) (loc_of c hx) pe_ev hs (fn_of' c hf)) pss_sv) ?_
  exact h W σ G H S _ fun a G2 H2 S2 g => q W _ G2 H2 D (S2.popTo hl) M
end
theorem sd_expr (h : ED X ks e k1 d) (hs : swapsWith e none pos.line X.env = pure false) (q : SD X k1 rest Φ) : SD X ks (.Expr e pos :: rest) Φ := fun W σ G H D S M =>
  sv_of (pss_cons (ps_expr pe_ev hs) pss_sv) (h W σ G H S _ fun v G2 H2 S2 g r => q W σ G2 H2 D S2 M)
theorem sd_ret (h : ED X ks e k1 d) (q : Φ.rt k1 d) : SD X ks (.Return (some e) pos :: rest) Φ := fun W σ G H D S M =>
  sv_of (pss_cons (ps_ret pe_ev) pss_sv) (h W σ G H S _ fun v G2 H2 S2 g r => M.rt k1 σ G2 H2 v d q S2 r)
theorem sd_if {t : Expr} {c : Bool} (h : TD X ks t k1 c) (h1 : c = true → SD X k1 body { Φ with nx := fun k => SD X k rest Φ }) (h0 : c = false → SD X k1 orelse { Φ with nx := fun k => SD X k rest Φ }) : SD X ks (.If t body orelse pos :: rest) Φ := fun W σ G H D S M => by
  refine sv_of (pss_cons (ps_if pt_tv pss_sv pss_sv) pss_sv) (h W σ G H S _ fun G2 H2 S2 g => ?_)
  have M' : Mt X W { Φ with nx := fun k => SD X k rest Φ } { D with nx := SV X rest D } := ⟨fun ks σ G H q S => q W σ G H D S M, M.bk, M.ct, M.rt, M.rl, M.rT, M.ex⟩
  cases c with
  | true => exact h1 rfl W σ G2 H2 _ S2 M'
  | false => exact h0 rfl W σ G2 H2 _ S2 M'
/-- an if whose ways end (return) or go on alike -/
theorem sd_ifT {t : Expr} (h : TD X ks t k1 true) (h1 : SD X k1 body { Φ with nx := fun k => SD X k rest Φ }) : SD X ks (.If t body orelse pos :: rest) Φ := sd_if h (fun _ => h1) (fun e => nomatch e)
theorem sd_ifF {t : Expr} (h : TD X ks t k1 false) (h0 : SD X k1 orelse { Φ with nx := fun k => SD X k rest Φ }) : SD X ks (.If t body orelse pos :: rest) Φ := sd_if h (fun e => nomatch e) (fun _ => h0)
/-! ### lists of our own changed -/
theorem sd_append (c : CtxB cq P w K mg base T k X) (i : Nat) {x : Str} {p2 p3 : Pos} (hN : T.N[i]? = some x) (hv : Vis T.sc x) (h : ED X ks e k1 d) (hk : k1[i]? = some (.own ds)) (hk0 : ks[i]? = some (.own da')) (hz : ds.length < sizeLine)
    (q : SD X (k1.set i (.own (ds ++ [d]))) rest Φ) (hd : (x == ("__debug__" : Str)) = false) (hcd : (x == ("__classdict__" : Str)) = false)
    (hs : swapsWith (.Call (.Attribute (.Name x p) "append" p2) [e] [] p3) none pos.line X.env = pure false)
    (he : starEach [e] X.env = (false, eval e X.env) :: starEach [] X.env) (hfew : (((backTo p3 (starEach [e] X.env)).all fun x => !x.fst) && ((backToKw p3 (keywordEach [] X.env)).all fun x => x.fst.isSome) && decide (([e].length + ([] : List Keyword).length + if ([] : List Keyword).isEmpty = true then 0 else 1) < 30)) = true)
    (hline : (p2.endLine == p3.line) = true) : SD X ks (.Expr (.Call (.Attribute (.Name x p) "append" p2) [e] [] p3) pos :: rest) Φ := fun W σ G H D S M => by
  obtain ⟨a0, vs0, e0, h0, r0, g0, w0, _⟩ := S.ownAt hk0
  refine sv_of (pss_cons (ps_expr (pe_bm PySem.F.plainAttrs_list PySem.F.slot_list_append PySem.F.type_list_append mt_append (pe_var (ix_of c hN) (vis_of c hv) hd hcd) (pa_cons pe_ev pa_nil he) (hs := he) (hfew := hfew) (hline := hline)) hs) pss_sv) ?_
  refine ⟨.ref a0, e0, .inl ⟨rfl, _, SqL.of h0⟩, ?_⟩
  refine h W σ G H S _ fun v G1 H1 S1 g1 r1 => ?_
  obtain ⟨a, vs, e1, h1, r, g2, w1, _⟩ := S1.ownAt hk
  rw [e0] at e1
  cases e1
  refine ⟨a0, vs, v, rfl, rfl, h1, by rw [r.len]; exact hz, ?_⟩
  exact q W σ G1 _ D (S1.mutOwn (vs := vs) hk e0 (DpAll.append r (.cons r1 .nil))) M
theorem sd_freeze (i : Nat) (hk : ks[i]? = some (.own ds)) (q : SD X (ks.set i (.dat (.list ds))) rest Φ) : SD X ks rest Φ := fun W σ G H D S M => by
  obtain ⟨a, vs, e1, h1, r, g, w1, ow, o, f, e2, no⟩ := S.ownAt hk
  have hi := (List.getElem?_eq_some_iff.mp hk).1
  have hσ : σ.set i (some (.ref a)) = σ := by
    apply List.ext_getElem?
    intro j
    by_cases q : j = i
    · subst q; rw [List.getElem?_set_self (by rw [S.len]; exact hi), e1]
    · rw [List.getElem?_set_ne (Ne.symm q)]
  -- forget the slot, freeze, know it again
  have S1 : Sts X.K W (ks.set i .no) (σ.set i (some (.ref a))) G H := S.put hi S.le (Same.refl G) (fun _ _ e _ => e) fun _ _ _ => ⟨fun _ _ _ _ _ e => e, [], rfl, fun _ h => by cases h⟩
  rw [hσ] at S1
  have O1 : Ow W (ks.set i .no) G (fun j => if j = i then [] else ow j) := by
    refine ⟨fun j j' b hb hb' => ?_, fun j b hb => ?_, fun j hj => ?_⟩
    · by_cases z : j = i <;> by_cases z' : j' = i <;> simp only [z, z', if_true, if_false] at hb hb' <;> first | exact o.dis j j' b hb hb' | cases hb | cases hb'
    · by_cases z : j = i
      · simp only [z, if_true] at hb; cases hb
      · simp only [z, if_false] at hb
        obtain ⟨b1, c⟩ := o.mine j b hb
        refine ⟨b1, ?_⟩
        rcases c with c | ⟨c, r, e⟩
        · exact .inl c
        · exact .inr ⟨c, r, by rw [List.getElem?_set_ne (Ne.symm z)]; exact e.1, e.2⟩
    · by_cases z : j = i
      · simp only [z, if_true]
      · simp only [z, if_false]
        exact o.out j (by simpa using hj)
  have F1 : ∀ j k, (ks.set i .no)[j]? = some k → Sl X.K G H k ((σ[j]?).getD none) (if j = i then [] else ow j) := fun j k hj => by
    by_cases z : j = i
    · subst z
      rw [List.getElem?_set_self hi] at hj
      cases hj
      simp only [if_true]
      exact (show ([] : List Addr) = [] from rfl)
    · rw [List.getElem?_set_ne (Ne.symm z)] at hj
      simp only [z, if_false]
      exact f j k hj
  obtain ⟨S2, gg⟩ := Sts.freeze (pl := pl_lst) S1.le S1.len O1 F1 (fun j hb => by
    by_cases z : j = i
    · simp only [z, if_true] at hb; cases hb
    · simp only [z, if_false] at hb
      exact no j z hb) g w1 h1
  have S3 := S2.setDat (i := i) (d := .list ds) (by simpa using hi) (.lst (SqL.of upd_same) (DpAll.mono gg r))
  rw [hσ] at S3
  rw [List.set_set] at S3
  exact q W σ _ H D S3 M
/-! ### what is walked -/
structure SrcOk (K : PySem.W.Frag) (J : It) (Gs : Hp) (ds : List PyData) : Prop where
  wk : Walk J ds.length (fun H => Same Gs H) (fun i H x H' => ∀ G, Same Gs G → Same G H → ∃ d G', ds[i]? = some d ∧ Lp G H G' H' ∧ Dp K G' x d)
structure IV (X : Cx) (tg iter : Expr) (σ : St) (H : Hp) (R : It → Hp → Prop) : Prop where
  run : ∀ (pins : List (Addr × Obj)) (s : Shared), Inv X pins σ H s →
    wpAny (model X.prog X.w) X.A (eval iter X.env) (fun v s1 => wpAny (model X.prog X.w) X.A (pyIter v) (PIE X pins σ tg R) X.xe s1) X.xe s
theorem pi_iv {X : Cx} {tg iter : Expr} : PI X tg iter (IV X tg iter) := ⟨fun pins s σ H R I h => h.run pins s I⟩
theorem iv_of {X : Cx} {tg iter : Expr} {wi : TI} {σ : St} {H : Hp} {R : It → Hp → Prop} (h : PI X tg iter wi) (q : wi σ H R) : IV X tg iter σ H R := ⟨fun pins s I => h.run pins s σ H R I q⟩
def ID (X : Cx) (ks : List SK) (tg iter : Expr) (ks' : List SK) (ds : List PyData) : Prop := ∀ W σ G H, Sts X.K W ks σ G H → ∀ R : It → Hp → Prop, (∀ J G2 H2, Sts X.K W ks' σ G2 H2 → Same G G2 → SrcOk X.K J G2 ds → R J H2) → IV X tg iter σ H R
theorem id_tup {tg : Expr} (h : ED X ks e k1 (.tuple ds)) : ID X ks tg e k1 ds := fun W σ G H S R q => by
  refine iv_of (pi_tup pe_ev) (h W σ G H S _ fun v G2 H2 S2 g r => ?_)
  obtain ⟨a, vs, rfl, sa, aa⟩ := r.tup_inv
  refine ⟨a, rfl, ⟨vs, Same.seqT S2.gh sa⟩, q _ G2 H2 S2 g ⟨?_⟩⟩
  rw [← aa.len]
  refine walk_tup.mono (fun H' s => Same.seqT s sa) fun i H' x H'' hi s y => ?_
  obtain ⟨rfl, hx⟩ := y
  intro G' s1 s2
  obtain ⟨d, hd, rd⟩ := aa.getV hx
  exact ⟨d, G', hd, Lp.refl s2, Dp.mono s1 rd⟩
theorem id_lst {tg : Expr} (h : ED X ks e k1 (.list ds)) : ID X ks tg e k1 ds := fun W σ G H S R q => by
  refine iv_of (pi_list pe_ev) (h W σ G H S _ fun v G2 H2 S2 g r => ?_)
  obtain ⟨a, vs, rfl, sa, aa⟩ := r.lst_inv
  refine ⟨a, rfl, ⟨vs, S2.gh.seq sa⟩, q _ G2 H2 S2 g ⟨?_⟩⟩
  rw [← aa.len]
  refine walk_list.mono (fun H' s => s.seq sa) fun i H' x H'' hi s y => ?_
  obtain ⟨rfl, hx⟩ := y
  intro G' s1 s2
  obtain ⟨d, hd, rd⟩ := aa.getV hx
  exact ⟨d, G', hd, Lp.refl s2, Dp.mono s1 rd⟩
def rngD (n : Nat) : List PyData := (List.range n).map fun i => .int (i : Nat)
theorem rngD_get {n i : Nat} (h : i < n) : (rngD n)[i]? = some (.int (i : Nat)) := by simp [rngD, h]
theorem id_range {tg : Expr} (c : CtxB cq P w K mg base T k X) {n : Int} (hg : T.sc.names.lookup ("range" : Str) = some .globalImplicit) (hm : mg "range" = none) (h : ED X ks a k1 (.int n)) (hn : n < 2 ^ 62 ∧ -(2 ^ 62) ≤ n)
    (hs : starEach [a] X.env = [(false, eval a X.env)]) : ID X ks tg (.Call (.Name "range" p) [a] [] pos) k1 (rngD n.toNat) := fun W σ G H S R q => by
  refine iv_of (pi_range1 (gl_of c hg) (by rw [c.hmg]; exact hm) (pa_cons pe_ev pa_nil hs) hs) (h W σ G H S _ fun v G2 H2 S2 g r => ?_)
  refine ⟨n, by rw [r.int_inv], hn.2, hn.1, q _ G2 H2 S2 g ⟨?_⟩⟩
  have e : (rngD n.toNat).length = n.toNat := by simp [rngD]
  rw [e]
  refine (walk_range (lo := 0) (n := n.toNat)).mono (fun _ _ => trivial) fun i H' x H'' hi s y => ?_
  obtain ⟨rfl, rfl⟩ := y
  intro G' s1 s2
  refine ⟨_, G', rngD_get hi, Lp.refl s2, ?_⟩
  show Dp X.K G' (V.int (0 + (i : Int))) (.int (i : Int))
  rw [Int.zero_add]; exact .int _
/-! ### targets -/
/-- a target takes data into slots -/
def GD (X : Cx) (tg : Expr) (f : PyData → List SK → Option (List SK)) (js : List Nat) : Prop := ∃ g : TG, PG X tg g ∧ ∀ W σ G H ks v d ks', Sts X.K W ks σ G H → Dp X.K G v d → f d ks = some ks' → ∀ Q : St → Hp → Prop,
  (∀ σ2, Sts X.K W ks' σ2 G H → (∀ i, i ∉ js → σ2[i]? = σ[i]?) → σ2.length = σ.length → Q σ2 H) → g v σ H Q
def tg1 (j : Nat) (d : PyData) (ks : List SK) : Option (List SK) := if j < ks.length then some (ks.set j (.dat d)) else none
def setAll : List Nat → List PyData → List SK → Option (List SK)
  | [], [], ks => some ks
  | j :: js, d :: ds, ks => if j < ks.length then setAll js ds (ks.set j (.dat d)) else none
  | _, _, _ => none
def tgN (js : List Nat) : PyData → List SK → Option (List SK)
  | .tuple ds, ks => setAll js ds ks
  | _, _ => none
theorem gd_name (c : CtxB cq P w K mg base T k X) (j : Nat) {x : Str} (hi : T.N[j]? = some x) (hx : Loc T.sc x) (hf : T.fn x = true ∨ T.sc.names.lookup x = some .local) : GD X (.Name x p) (tg1 j) [j] := by
  refine ⟨_, pg_name (nd_of c) (ix_of c hi) (loc_of c hx) (fn_of' c hf), fun W σ G H ks v d ks' S r e Q q => ?_⟩
  unfold tg1 at e
  split at e
  · cases e
    exact q _ (S.setDat ‹_› r) (fun i hi => List.getElem?_set_ne (fun z => hi (by simp [z]))) (by simp)
  · cases e
def GsD (X : Cx) (es : List Expr) (js : List Nat) : Prop := ∃ g : TGs, PGs X es g ∧ ∀ W σ G H ks vs ds ks', Sts X.K W ks σ G H → DpAll X.K G vs ds → setAll js ds ks = some ks' → ∀ Q : St → Hp → Prop,
  (∀ σ2, Sts X.K W ks' σ2 G H → (∀ i, i ∉ js → σ2[i]? = σ[i]?) → σ2.length = σ.length → Q σ2 H) → g vs σ H Q
theorem gs_nil : GsD X [] [] := ⟨_, pgs_nil, fun W σ G H ks vs ds ks' S r e Q q => by
  cases r with
  | nil => cases e; exact ⟨rfl, q σ S (fun _ _ => rfl) rfl⟩
  | cons _ _ => cases e⟩
theorem gs_cons (c : CtxB cq P w K mg base T k X) (j : Nat) {x : Str} {js : List Nat} (hi : T.N[j]? = some x) (hx : Loc T.sc x) (hf : T.fn x = true ∨ T.sc.names.lookup x = some .local) (h : GsD X es js)
    (hs : (assignEach (.Name x p :: es) X.env).map (·.2) = assign (.Name x p) X.env :: (assignEach es X.env).map (·.2)) : GsD X (.Name x p :: es) (j :: js) := by
  obtain ⟨g, pg, hg⟩ := h
  refine ⟨_, pgs_cons (pg_name (nd_of c) (ix_of c hi) (loc_of c hx) (fn_of' c hf)) pg hs, fun W σ G H ks vs ds ks' S r e Q q => ?_⟩
  cases r with
  | nil => cases e
  | cons r1 r2 =>
    rename_i v vs d ds
    unfold setAll at e
    split at e
    · refine ⟨v, vs, rfl, ?_⟩
      refine hg W _ G H _ vs ds ks' (S.setDat ‹_› r1) r2 e Q fun σ2 S2 h2 l2 => q σ2 S2 (fun i hi => ?_) (by rw [l2]; simp)
      rw [h2 i (fun z => hi (by simp [z]))]
      exact List.getElem?_set_ne (fun z => hi (by simp [z]))
    · cases e
theorem gd_tup {js : List Nat} {kk : Nat} (c : Ctx P w K mg base T k X) (h : GsD X es js) (hn : (assignEach es X.env).length = js.length) (hst : (assignEach es X.env).findIdx? (·.1) = none) : GD X (.Tuple es kk p) (tgN js) js := by
  obtain ⟨g, pg, hg⟩ := h
  refine ⟨_, pg_tup c.calm pg hn hst, fun W σ G H ks v d ks' S r e Q q => ?_⟩
  cases d with
  | tuple ds =>
    obtain ⟨a, vs, rfl, sa, aa⟩ := r.tup_inv
    have e' : setAll js ds ks = some ks' := e
    have hl : ∀ (js : List Nat) (ds : List PyData) (ks : List SK), setAll js ds ks = some ks' → ds.length = js.length := by
      intro js
      induction js with
      | nil => intro ds ks h; cases ds with
        | nil => rfl
        | cons _ _ => cases h
      | cons j js ih => intro ds ks h; cases ds with
        | nil => cases h
        | cons d ds =>
          unfold setAll at h
          split at h
          · simp [ih ds _ h]
          · cases h
    exact ⟨a, vs, rfl, Same.seqT S.gh sa, by rw [aa.len]; exact hl js ds ks e', hg W σ G H ks vs ds ks' S aa e' Q q⟩
  | _ => cases e
/-! ### for -/
theorem Sts.rebase {W : Wd} {σ : St} {G H Gm : Hp} (S : Sts K W ks σ G H) (h1 : Same W.G Gm) (h2 : Same Gm G) : Sts K ⟨Gm, W.H, W.M⟩ ks σ G H := by
  obtain ⟨le, len, ow, o, f⟩ := S
  refine ⟨⟨h2, le.gh, le.keep, le.there, fun a u e e2 => le.fz a u ?_ e2, le.m, le.tb⟩, len, ow, ⟨o.dis, o.mine, o.out⟩, f⟩
  cases q : W.G a with
  | none => rfl
  | some v =>
    have e : Gm a = none := e
    rw [h1 a v q] at e; cases e
theorem Sts.unbase {W : Wd} {σ : St} {G H Gm Hm : Hp} (l : Le W Gm Hm) (S : Sts K ⟨Gm, W.H, W.M⟩ ks σ G H) : Sts K W ks σ G H := by
  obtain ⟨le, len, ow, o, f⟩ := S
  exact ⟨⟨l.g.trans le.g, le.gh, le.keep, le.there, fun a u e e2 => le.fz a u (l.fz a u e e2) e2, le.m, le.tb⟩, len, ow, ⟨o.dis, o.mine, o.out⟩, f⟩
theorem Mt.exU {W : Wd} {Gm Hm : Hp} {D : Ends} (M : Mt X W Φ D) (l : Le W Gm Hm) : (∃ Wx : WX, Takes X Wx ∧ ∀ ks σ G H cls d fs, Φ.ex ks cls fs → Sts X.K ⟨Gm, W.H, W.M⟩ ks σ G H → ExF X.K G d fs → Wx cls d σ H) ∧ ∀ ks σ G H v k, Φ.rc ks k → Sts X.K ⟨Gm, W.H, W.M⟩ (ks ++ [k]) (σ ++ [some v]) G H → D.rt v H := by
  obtain ⟨⟨Wx, t, h⟩, h'⟩ := M.ex
  exact ⟨⟨Wx, t, fun ks σ G H c d f q S => h ks σ G H c d f q (S.unbase l)⟩, fun ks σ G H v k q S => h' ks σ G H v k q (S.unbase l)⟩
theorem ex0 {X : Cx} {W : Wd} {D : V → Hp → Prop} : (∃ Wx : WX, Takes X Wx ∧ ∀ (ks : List SK) (σ : St) (G H : Hp) (cls : Value) (d : Option Addr) (fs : List (Str × PyData)), False → Sts X.K W ks σ G H → ExF X.K G d fs → Wx cls d σ H) ∧ ∀ (ks : List SK) (σ : St) (G H : Hp) (v : V) (k : SK), False → Sts X.K W (ks ++ [k]) (σ ++ [some v]) G H → D v H :=
  ⟨⟨_, LamX.takes0, fun _ _ _ _ _ _ _ z => z.elim⟩, fun _ _ _ _ _ _ z => z.elim⟩
theorem sd_for (c : Ctx P w K mg base T k X) {tg iter : Expr} {f : PyData → List SK → Option (List SK)} {js : List Nat} (F : Nat → List SK) (hi : ID X ks tg iter k1 ds) (hg : GD X tg f js) (h0 : Wk k1 (F 0))
    (turn : ∀ i d, ds[i]? = some d → ∃ kb, f d (F i) = some kb ∧ SD X kb body { Φ with nx := fun k => Wk k (F (i + 1)), ct := fun k => Wk k (F (i + 1)), bk := fun _ => False })
    (fin : SD X (F ds.length) rest Φ) (hs : ∀ x, foldedSetIterable iter X.env x = pure x) : SD X ks (.For tg iter body [] pos :: rest) Φ := fun W σ G H D S M => by
  obtain ⟨g, pg, hg⟩ := hg
  have hp := c.po
  refine sv_of (pss_cons (ps_for hp c.calm pi_iv pg pss_sv hs) pss_sv) ?_
  refine hi W σ G H S _ fun J G2 H2 S2 g2 src => ?_
  refine for_it src.wk (fun i σ' H' => ∃ G', Sts X.K W (F i) σ' G' H' ∧ Same G2 G') ⟨G2, S2.weak h0, Same.refl G2⟩ (fun i σ' H' _ ⟨G', S', g'⟩ => g'.trans S'.gh) ?_ ?_
  · rintro i x σ' H' H'' hlt ⟨G', S', g'⟩ y
    obtain ⟨d, G3, hd, l, r⟩ := y G' g' S'.gh
    obtain ⟨kb, e, b⟩ := turn i d hd
    refine hg W σ' G3 H'' (F i) x d kb (S'.pure l) r e _ fun σ2 S3 _ _ => ?_
    refine b ⟨G2, W.H, W.M⟩ σ2 G3 H'' _ (S3.rebase S2.le.g (g'.trans l.g)) ⟨fun ks σ G H q S => ⟨G, (S.unbase S2.le).weak q, S.le.g⟩, fun _ _ _ _ q => q.elim, fun ks σ G H q S => ⟨G, (S.unbase S2.le).weak q, S.le.g⟩, fun ks σ G H v d q S r => M.rt ks σ G H v d q (S.unbase S2.le) r, fun ks σ G H a ds q S => M.rl ks σ G H a ds q (S.unbase S2.le), fun ks σ G H a ds es fs q S => M.rT ks σ G H a ds es fs q (S.unbase S2.le), M.exU S2.le⟩
  · rintro σ' H' ⟨G', S', g'⟩
    exact fin W σ' G' H' D S' M
end
end Z
namespace Z
open PySem PySem.Spec L2
variable [Tabl]
def GV (X : Cx) (tg : Expr) : TG := fun v σ H Q => ∀ (pins : List (Addr × Obj)) (s : Shared) (u : Value), Inv X pins σ H s → RelV v u → wpAny (model X.prog X.w) X.A (assign tg X.env u) (fun _ s' => ∃ σ' H', Inv X pins σ' H' s' ∧ Q σ' H') X.xe s
def TsV (X : Cx) (ifs : List Expr) : TT := fun σ H Q => ∀ (pins : List (Addr × Obj)) (s : Shared), Inv X pins σ H s →
    wpAny (model X.prog X.w) X.A (forIn ifs true fun c r => if r = true then do let ok ← isTrue c X.env (eval c X.env); pure (ForInStep.yield ok) else pure (ForInStep.yield r)) (TP X pins σ Q) X.xe s
/-- a clause's tests -/
def TsD (X : Cx) (ks : List SK) (ifs : List Expr) (ks' : List SK) (b : Bool) : Prop :=
  ∀ W σ G H, Sts X.K W ks σ G H → ∀ Q : Bool → Hp → Prop, (∀ G2 H2, Sts X.K W ks' σ G2 H2 → Same G G2 → Q b H2) → TsV X ifs σ H Q
def Tb (T : Sta) (scope : Scope) : Sta := ⟨T.N, relS scope T.sc, fun x => scope.names.lookup x == some .cell⟩
def wipeK (ks : List SK) : List Nat → List SK
  | [] => ks
  | v :: vs => (wipeK ks vs).set v .no
theorem wipeK_length (ks : List SK) : ∀ vs, (wipeK ks vs).length = ks.length
  | [] => rfl
  | v :: vs => by unfold wipeK; rw [List.length_set, wipeK_length ks vs]
theorem wipeK_in {ks : List SK} {i : Nat} (h : i < ks.length) : ∀ {vs : List Nat}, i ∈ vs → (wipeK ks vs)[i]? = some .no
  | v :: vs, hm => by
    unfold wipeK
    by_cases q : v = i
    · subst q; rw [List.getElem?_set_self (by rw [wipeK_length]; exact h)]
    · rw [List.getElem?_set_ne q]
      exact wipeK_in h ((List.mem_cons.mp hm).resolve_left (fun z => q z.symm))
theorem wipeK_out {ks : List SK} {i : Nat} : ∀ {vs : List Nat}, i ∉ vs → (wipeK ks vs)[i]? = ks[i]?
  | [], _ => rfl
  | v :: vs, hm => by
    unfold wipeK
    rw [List.getElem?_set_ne (fun z => hm (by simp [z]))]
    exact wipeK_out (fun z => hm (by simp [z]))
theorem wipe_in {σ : St} {i : Nat} (h : i < σ.length) : ∀ {vs : List Nat}, i ∈ vs → (wipe σ vs)[i]? = some none
  | v :: vs, hm => by
    unfold wipe
    by_cases q : v = i
    · subst q; rw [List.getElem?_set_self (by rw [wipe_length]; exact h)]
    · rw [List.getElem?_set_ne q]
      exact wipe_in h ((List.mem_cons.mp hm).resolve_left (fun z => q z.symm))
def gB (X : Cx) (scope : Scope) (tg : Expr) : TG := fun v σ H Q => ∀ s0 H0 C cl fp, GV (X.blk s0 H0 scope (compEnvC scope cl C X.env) fp) tg v σ H Q
def ttB (X : Cx) (scope : Scope) (ifs : List Expr) : TT := fun σ H Q => ∀ s0 H0 C cl fp, TsV (X.blk s0 H0 scope (compEnvC scope cl C X.env) fp) ifs σ H Q
def teB (X : Cx) (scope : Scope) (elt : Expr) : TE := fun σ H Q => ∀ s0 H0 C cl fp, EV (X.blk s0 H0 scope (compEnvC scope cl C X.env) fp) elt σ H Q
section
variable {P : Program} {w : World} {K : PySem.W.Frag} {mg : Str → Option Value} {base : Heap} {T : Sta} {k : Nat} {X : Cx} {ks k1 k2 k3 : List SK} {a b e : Expr} {es : List Expr} {d da db : PyData} {ds : List PyData} {pos p : Pos}
theorem ts_nil : TsD X ks [] ks true := fun W σ G H S Q q => fun pins s I => pts_nil.run pins s σ H Q I (q G H S (Same.refl G))
theorem Ctx.blk (c : Ctx P w K mg base T k X) {scope : Scope} {own : List (Str × Nat)} (s : Shared) (H : Hp) (C : Addr) (cl : List (Str × Addr)) (fp : List Addr) : Ctx P w K mg base (Tb T scope) k (X.blk s H scope (compEnvC scope cl C X.env) fp) where
  hP := c.hP
  hw := c.hw
  hK := c.hK
  hmg := c.hmg
  hbase := c.hbase
  hN := c.hN
  nd := c.nd
  hs := by
    show relS scope X.env.scope = relS scope T.sc
    rw [c.hs]
  calm' := c.calm'
  room' := c.room'
  un := c.un
  po := PassesOwn.never
  fn := rfl
/-- the slots of a block ahead of its first turn -/
theorem Sts.wiped {W : Wd} {σ : St} {G H : Hp} (S : Sts K W ks σ G H) (vs : List Nat) (nw : ∀ i ∈ vs, ∀ k, ks[i]? = some k → k = .no ∨ ∃ d, k = .dat d) : Sts K W (wipeK ks vs) (wipe σ vs) G H := by
  have S1 : Sts K W (wipeK ks vs) σ G H := by
    refine S.weak ?_
    clear S
    have : ∀ (ls : List SK) (ks : List SK), ls.length = ks.length → (∀ (i : Nat) (k : SK), ls[i]? = some k → k = .no ∨ ks[i]? = some k) → Wk ks ls := by
      intro ls
      induction ls with
      | nil => intro ks h _; cases ks with
        | nil => trivial
        | cons _ _ => cases h
      | cons l ls ih => intro ks h f; cases ks with
        | nil => cases h
        | cons k ks =>
          refine ⟨?_, ih ks (by simpa using h) fun i k hk => by have := f (i + 1) k (by simpa using hk); simpa using this⟩
          have := f 0 l (by simp)
          simp at this
          rcases this with z | z
          · exact .inl z
          · exact .inr z
    refine this _ _ (wipeK_length _ _) fun i k hk => ?_
    by_cases q : i ∈ vs
    · have hi : i < ks.length := by have := (List.getElem?_eq_some_iff.mp hk).1; rwa [wipeK_length] at this
      rw [wipeK_in hi q] at hk
      exact .inl (Option.some.inj hk).symm
    · rw [wipeK_out q] at hk; exact .inr hk
  obtain ⟨le, len, ow, o, f⟩ := S1
  refine ⟨le, by rw [wipe_length]; exact len, ow, o, fun i k hk => ?_⟩
  have := f i k hk
  by_cases q : i ∈ vs
  · have hi : i < ks.length := by have := (List.getElem?_eq_some_iff.mp hk).1; rwa [wipeK_length] at this
    rw [wipeK_in hi q] at hk
    cases hk
    exact this
  · rw [wipe_out q]
    exact this
/-- the slots' values at places of which nothing is known may differ -/
theorem Sts.swap {W : Wd} {σ σ2 : St} {G H : Hp} {vs : List Nat} (S : Sts K W ks σ G H) (hl : σ2.length = σ.length) (h : ∀ i, i ∉ vs → σ2[i]? = σ[i]?) (hn : ∀ i ∈ vs, ∀ k, ks[i]? = some k → k = .no) : Sts K W ks σ2 G H := by
  obtain ⟨le, len, ow, o, f⟩ := S
  refine ⟨le, by omega, ow, o, fun i k hk => ?_⟩
  by_cases q : i ∈ vs
  · have := f i k hk
    have e := hn i q k hk
    subst e
    exact this
  · rw [h i q]; exact f i k hk
/-- what a turn of a comprehension does: the block's slots kb, from which it goes on to those of the next turn -/
def TurnD (B : Cx → Prop) (ifs : List Expr) (elt : Expr) (kb kn : List SK) (o : Option PyData) : Prop :=
  ∃ k2 b, (∀ X', B X' → TsD X' kb ifs k2 b) ∧ (b = false → o = none ∧ Wk k2 kn) ∧ (b = true → ∃ d k3, o = some d ∧ (∀ X', B X' → ED X' k2 elt k3 d) ∧ Wk k3 kn)
theorem wipe_swap {σ σ2 : St} {vs : List Nat} (hl : σ2.length = σ.length) (h : ∀ i, i ∉ vs → σ2[i]? = σ[i]?) : wipe σ2 vs = wipe σ vs := by
  apply List.ext_getElem?
  intro i
  by_cases q : i ∈ vs
  · by_cases hi : i < σ.length
    · rw [wipe_in (by omega) q, wipe_in hi q]
    · rw [List.getElem?_eq_none (by rw [wipe_length]; omega), List.getElem?_eq_none (by rw [wipe_length]; omega)]
  · rw [wipe_out q, wipe_out q, h i q]
/-- a list comprehension, before its list goes anywhere -/
structure LC (X : Cx) (ks : List SK) (e : Expr) (ks' : List SK) (es : List PyData) : Prop where
  out : ∃ (elt tg iter : Expr) (ifs : List Expr) (scope : Scope) (pos : Pos) (own : List (Str × Nat)) (wi : TI) (g : TG) (tt : TT) (te : TE), e = .ListComp elt [⟨tg, iter, ifs, 0⟩] scope pos ∧ PI X tg iter wi ∧ BlkOk X.N X.env.scope scope own ∧
    (∀ (s : Shared) (H : Hp) (C : Addr) (cl : List (Str × Addr)) (fp : List Addr), PG (X.blk s H scope (compEnvC scope cl C X.env) fp) tg g) ∧ (∀ (s : Shared) (H : Hp) (C : Addr) (cl : List (Str × Addr)) (fp : List Addr), PTs (X.blk s H scope (compEnvC scope cl C X.env) fp) ifs tt) ∧
    (∀ (s : Shared) (H : Hp) (C : Addr) (cl : List (Str × Addr)) (fp : List Addr), PE (X.blk s H scope (compEnvC scope cl C X.env) fp) elt te) ∧ (∀ x, foldedSetIterable iter X.env x = pure x) ∧
    ∀ W σ G H, Sts X.K W ks σ G H → ∀ Q : VK, (∀ a G2 H2, Sts X.K W (ks' ++ [.own es]) (σ ++ [some (.ref a)]) G2 H2 → Same G G2 → Q (.ref a) H2) → tLc wi g tt te (own.map (·.2)) σ H Q
theorem LC.el (c : Ctx P w K mg base T k X) (h : LC X ks e k1 ds) : EL X ks e k1 ds := fun W σ G H S Q q => by
  obtain ⟨elt, tg, iter, ifs, scope, pos, own, wi, g, tt, te, rfl, hi, bk, hg, ht, he, hs, run⟩ := h.out
  exact ev_of (pe_lc c.calm (nd_of c) hi bk hg ht he hs) (run W σ G H S Q q)
/-- [elt for tg in iter if ..]: F the slots by the turn, ac what is made so far -/
theorem lc_lc (c : Ctx P w K mg base T k X) {elt tg iter : Expr} {ifs : List Expr} {scope : Scope} (own : List (Str × Nat)) {f : PyData → List SK → Option (List SK)} {js : List Nat} (F : Nat → List SK) (ac : Nat → List PyData)
    (ok : blkC T.N T.sc scope own = true) (hjs : js.all (fun j => (own.map (·.2)).contains j) = true) (hi : ID X ks tg iter k1 ds)
    (nw : ∀ i ∈ own.map (·.2), ∃ k, k1[i]? = some k ∧ (F ds.length)[i]? = some k ∧ (k = .no ∨ ∃ d, k = .dat d))
    (hg : ∀ X', Ctx P w K mg base (Tb T scope) k X' → GD X' tg f js)
    (h0 : F 0 = k1) (hl : ∀ i, (F i).length = k1.length) (a0 : ac 0 = []) (hz : ds.length < sizeLine)
    (turn : ∀ i d, ds[i]? = some d → ∃ kb o, f d (wipeK (F i) (own.map (·.2))) = some kb ∧ TurnD (Ctx P w K mg base (Tb T scope) k) ifs elt kb (wipeK (F (i + 1)) (own.map (·.2))) o ∧ ac (i + 1) = ac i ++ o.toList)
    (hs : ∀ x, foldedSetIterable iter X.env x = pure x) :
    LC X ks (.ListComp elt [⟨tg, iter, ifs, 0⟩] scope pos) (F ds.length) (ac ds.length) := by
  have acl : ∀ i, i ≤ ds.length → (ac i).length ≤ i := by
    intro i
    induction i with
    | zero => intro _; rw [a0]; exact Nat.le_refl _
    | succ i ih =>
      intro hi
      obtain ⟨kb, o, _, _, e⟩ := turn i ds[i] (by simp)
      rw [e, List.length_append]
      have := ih (by omega)
      cases o <;> simp <;> omega
  have bk : BlkOk X.N X.env.scope scope own := by rw [c.hN, c.hs]; exact blkOk_by ok
  have hjs' : ∀ j ∈ js, j ∈ own.map (·.2) := fun j hj => by simpa using List.all_eq_true.mp hjs j hj
  refine ⟨elt, tg, iter, ifs, scope, pos, own, _, gB X scope tg, ttB X scope ifs, teB X scope elt, rfl, pi_iv, bk,
    fun s0 H0 C cl fp => ⟨fun pins s σ H v u Q I r h => h s0 H0 C cl fp pins s u I r⟩, fun s0 H0 C cl fp => ⟨fun pins s σ H Q I h => h s0 H0 C cl fp pins s I⟩, fun s0 H0 C cl fp => ⟨fun pins s σ H Q I h => (h s0 H0 C cl fp).run pins s I⟩, hs, fun W σ G H S Q q => ?_⟩
  refine hi W σ G H S _ fun J G1 H1 S1 g1 src => ?_
  intro D hD
  have wD : W.H D = none := by
    cases e : W.H D with
    | none => rfl
    | some u =>
      obtain ⟨u', e'⟩ := S1.le.there D u e
      rw [hD] at e'; cases e'
  have gD : G1 D = none := by
    cases e : G1 D with
    | none => rfl
    | some u => rw [S1.gh D u e] at hD; cases hD
  -- a world in which the new list is another's
  have lend : ∀ {ks' : List SK} {σ' : St} {G' H' : Hp} {us us' : List V}, Sts X.K ⟨G1, upd W.H D (.lst us), W.M⟩ ks' σ' G' H' → Sts X.K ⟨G1, upd W.H D (.lst us'), W.M⟩ ks' σ' G' (upd H' D (.lst us')) := by
    intro ks' σ' G' H' us us' S'
    obtain ⟨le, len, ow, o, f⟩ := S'
    have no : ∀ i, D ∉ ow i := fun i h => by
      obtain ⟨_, z⟩ := o.mine i D h
      rcases z with z | ⟨z, _⟩
      · have z := upd_same.symm.trans z
        cases z
      · obtain ⟨u, hu⟩ := S1.le.m D z
        rw [wD] at hu; cases hu
    have gz : G' D = none := le.fz D _ gD upd_same
    have hDm0 : ¬ W.M D := fun z => by
      obtain ⟨u, hu⟩ := S1.le.m D z
      rw [wD] at hu; cases hu
    have hD0 : H' D = some (.lst us) := le.keep D _ hDm0 (fun _ z => by cases z) upd_same
    refine ⟨⟨le.g, fun b u e => ?_, fun b u hm nt e => ?_, fun b u e => ?_, fun b u e e2 => ?_, fun b hm => ?_, le.tb.upd fun u e => by rw [hD0] at e; cases e; exact pl_lst⟩, len, ow, ⟨o.dis, fun i b hb => ?_, o.out⟩, fun i k hk => (f i k hk).move (Same.refl _) fun b hb u hu => ?_⟩
    · have : b ≠ D := fun z => by rw [z, gz] at e; cases e
      exact (upd_ne this).trans (le.gh b u e)
    · by_cases z : b = D
      · subst z; exact upd_same.trans (upd_same.symm.trans e)
      · exact (upd_ne z).trans (le.keep b u hm nt ((upd_ne z).trans ((upd_ne z).symm.trans e)))
    · by_cases z : b = D
      · subst z; exact ⟨_, upd_same⟩
      · obtain ⟨o', h'⟩ := le.there b u ((upd_ne z).trans ((upd_ne z).symm.trans e))
        exact ⟨o', (upd_ne z).trans h'⟩
    · by_cases z : b = D
      · subst z; exact gz
      · exact le.fz b u e ((upd_ne z).trans ((upd_ne z).symm.trans e2))
    · obtain ⟨u, hu⟩ := S1.le.m b hm
      have z : b ≠ D := fun z => by rw [z, wD] at hu; cases hu
      exact ⟨u, (upd_ne z).trans hu⟩
    · obtain ⟨b1, b2⟩ := o.mine i b hb
      have z : b ≠ D := fun z => no i (z ▸ hb)
      exact ⟨b1, b2.imp (fun e => (upd_ne z).trans ((upd_ne z).symm.trans e)) id⟩
    · have z : b ≠ D := fun z => no i (z ▸ hb)
      exact (upd_ne z).trans hu
  have first : Sts X.K ⟨G1, upd W.H D (.lst []), W.M⟩ (wipeK k1 (own.map (·.2))) (wipe σ (own.map (·.2))) G1 (upd H1 D (.lst [])) := by
    have S2 := S1.wiped (own.map (·.2)) (fun i hi k hk => by
      obtain ⟨k', h1, _, h2⟩ := nw i hi
      rw [hk] at h1; cases h1; exact h2)
    obtain ⟨le, len, ow, o, f⟩ := S2
    have live := o.live f
    have no : ∀ i, D ∉ ow i := fun i h => by
      obtain ⟨u, hu⟩ := live i D h
      rw [hD] at hu; cases hu
    refine ⟨⟨Same.refl _, fun b u e => ?_, fun b u hm nt e => ?_, fun b u e => ?_, fun b u e _ => e, fun b hm => ?_, le.tb.upd fun u e => by rw [hD] at e; cases e⟩, len, ow, ⟨o.dis, fun i b hb => ?_, o.out⟩, fun i k hk => (f i k hk).move (Same.refl _) fun b hb u hu => ?_⟩
    · have : b ≠ D := fun z => by rw [z, gD] at e; cases e
      exact (upd_ne this).trans (le.gh b u e)
    · by_cases z : b = D
      · subst z; exact upd_same.trans (upd_same.symm.trans e)
      · exact (upd_ne z).trans (le.keep b u hm nt ((upd_ne z).symm.trans e))
    · by_cases z : b = D
      · subst z; exact ⟨_, upd_same⟩
      · obtain ⟨o', h'⟩ := le.there b u ((upd_ne z).symm.trans e)
        exact ⟨o', (upd_ne z).trans h'⟩
    · obtain ⟨u, hu⟩ := S1.le.m b hm
      have z : b ≠ D := fun z => by rw [z, wD] at hu; cases hu
      exact ⟨u, (upd_ne z).trans hu⟩
    · obtain ⟨b1, b2⟩ := o.mine i b hb
      have z : b ≠ D := fun z => no i (z ▸ hb)
      exact ⟨b1, b2.imp (fun e => (upd_ne z).trans e) id⟩
    · have z : b ≠ D := fun z => no i (z ▸ hb)
      exact (upd_ne z).trans hu
  refine lc_it (g := gB X scope tg) (tt := ttB X scope ifs) (te := teB X scope elt) (vs := own.map (·.2)) (σ := σ) (Qd := fun H => Q (.ref D) H) src.wk (fun i H' => ∃ G' us, Sts X.K ⟨G1, upd W.H D (.lst us), W.M⟩ (wipeK (F i) (own.map (·.2))) (wipe σ (own.map (·.2))) G' H' ∧ DpAll X.K G' us (ac i))
    ⟨G1, [], by rw [h0]; exact first, by rw [a0]; exact .nil⟩ (fun i H' _ ⟨G', us, S', _⟩ => S'.le.g.trans S'.le.gh) ?_ ?_
  · rintro i x H' H'' hlt ⟨G', us, S', ra⟩ y
    obtain ⟨d, G3, hd, l, r⟩ := y G' S'.le.g S'.gh
    have hst := S'.pure l
    obtain ⟨kb, o, e1, ⟨k2, b, t1, t2, t3⟩, e2⟩ := turn i d hd
    intro s0 H0 C cl fp pins s u I rx
    have c' := c.blk (scope := scope) (own := own) s0 H0 C cl fp
    obtain ⟨g', pg, hg'⟩ := hg _ c'
    refine pg.run pins s _ H'' x u _ I rx ?_
    refine hg' _ _ G3 H'' _ x d kb hst r e1 _ fun σ2 S3 hσ hσl => ⟨wipe_swap (by rw [hσl, wipe_length]) (fun j hj => ?_), ?_⟩
    · rw [hσ j (fun z => hj (hjs' j z)), wipe_out hj]
    · -- the next turn's state, from the block's
      have nxt : ∀ {k3 : List SK} {G4 H4 : Hp} {us' : List V}, Sts X.K ⟨G1, upd W.H D (.lst us'), W.M⟩ k3 σ2 G4 H4 → Wk k3 (wipeK (F (i + 1)) (own.map (·.2))) → Sts X.K ⟨G1, upd W.H D (.lst us'), W.M⟩ (wipeK (F (i + 1)) (own.map (·.2))) (wipe σ (own.map (·.2))) G4 H4 := fun {k3 G4 H4 us'} S4 hw => by
        refine (S4.weak hw).swap (vs := own.map (·.2)) hσl.symm (fun j hj => ?_) fun j hj k' hk' => ?_
        · rw [hσ j (fun z => hj (hjs' j z))]
        · have hlt : j < (F (i + 1)).length := by have := (List.getElem?_eq_some_iff.mp hk').1; rwa [wipeK_length] at this
          rw [wipeK_in hlt hj] at hk'
          exact (Option.some.inj hk').symm
      intro s0' H0' C' cl' fp' pins' s' I'
      refine t1 _ (c.blk (scope := scope) (own := own) s0' H0' C' cl' fp') _ σ2 G3 H'' S3 _ (fun G4 H4 S4 g4 => ?_) pins' s' I'
      cases b with
      | false =>
        obtain ⟨z, hw⟩ := t2 rfl
        subst z
        rw [if_neg Bool.false_ne_true]
        refine ⟨G4, us, nxt S4 hw, ?_⟩
        rw [e2]
        simp only [Option.toList, List.append_nil]
        exact DpAll.mono (l.g.trans g4) ra
      | true =>
        rw [if_pos rfl]
        obtain ⟨d', k3, z, hE, hw⟩ := t3 rfl
        subst z
        intro s0'' H0'' C'' cl'' fp''
        refine hE _ (c.blk (scope := scope) (own := own) s0'' H0'' C'' cl'' fp'') _ σ2 G4 H4 S4 _ (fun v G5 H5 S5 g5 r5 => ?_)
        have ra5 := DpAll.mono ((l.g.trans g4).trans g5) ra
        refine ⟨us, S5.le.keep D _ (fun z => ?_) (fun _ z => by cases z) upd_same, ?_, G5, us ++ [v], nxt (lend S5) hw, ?_⟩
        · obtain ⟨u, hu⟩ := S1.le.m D z
          rw [wD] at hu; cases hu
        · rw [ra.len]
          exact Nat.lt_of_le_of_lt (Nat.le_trans (acl i (Nat.le_of_lt hlt)) (Nat.le_of_lt hlt)) hz
        · rw [e2]
          exact DpAll.append ra5 (.cons r5 .nil)
  · rintro H' ⟨G', us, S', ra⟩
    have hDm : ¬ W.M D := fun z => by
      obtain ⟨u, hu⟩ := S1.le.m D z
      rw [wD] at hu; cases hu
    have hD' : H' D = some (.lst us) := S'.le.keep D _ hDm (fun _ z => by cases z) upd_same
    have gD' : G' D = none := S'.le.fz D _ gD upd_same
    obtain ⟨le, len, ow, o, f⟩ := S'
    have hvl : (F ds.length).length = k1.length := hl _
    have len' : σ.length = (F ds.length).length := by rw [wipe_length, wipeK_length] at len; exact len
    obtain ⟨le1, len1, ow1, o1, f1⟩ := S1
    refine q D G' H' ⟨⟨le1.g.trans le.g, le.gh, fun b u hm nt e => ?_, fun b u e => ?_, fun b u e e2 => ?_, le1.m, le.tb⟩, by simp [len'], fun j => if j = (F ds.length).length then [D] else if j ∈ own.map (·.2) then [] else ow j, ⟨fun i j a' ha hb => ?_, fun i a' ha => ?_, fun i hi => ?_⟩, fun i k' hk => ?_⟩ (g1.trans le.g)
    · have z : b ≠ D := fun z => by rw [z, wD] at e; cases e
      exact le.keep b u hm nt ((upd_ne z).trans e)
    · have z : b ≠ D := fun z => by rw [z, wD] at e; cases e
      exact le.there b u ((upd_ne z).trans e)
    · have z : b ≠ D := fun z => by rw [z, wD] at e2; cases e2
      exact le.fz b u (le1.fz b u e e2) ((upd_ne z).trans e2)
    · have no : ∀ i, D ∉ ow i := fun i h => by
        obtain ⟨_, z⟩ := o.mine i D h
        rcases z with z | ⟨z, _⟩
        · have z := upd_same.symm.trans z
          cases z
        · exact hDm z
      by_cases q1 : i = (F ds.length).length <;> by_cases q2 : j = (F ds.length).length
      · rw [q1, q2]
      · simp only [q1, if_true, q2, if_false] at ha hb
        simp at ha; subst ha
        split at hb
        · cases hb
        · exact (no j hb).elim
      · simp only [q1, if_false, q2, if_true] at ha hb
        simp at hb; subst hb
        split at ha
        · cases ha
        · exact (no i ha).elim
      · simp only [q1, q2, if_false] at ha hb
        split at ha
        · cases ha
        · split at hb
          · cases hb
          · exact o.dis i j a' ha hb
    · by_cases q1 : i = (F ds.length).length
      · simp only [q1, if_true] at ha
        simp at ha; subst ha
        exact ⟨gD', .inl wD⟩
      · simp only [q1, if_false] at ha
        split at ha
        · cases ha
        · rename_i qv
          obtain ⟨b1, b2⟩ := o.mine i a' ha
          refine ⟨b1, ?_⟩
          have z : a' ≠ D := fun z => by
            subst z
            rcases b2 with z | ⟨z, _⟩
            · have z := upd_same.symm.trans z
              cases z
            · exact hDm z
          rcases b2 with e | ⟨e, r, e2⟩
          · exact .inl ((upd_ne z).symm.trans e)
          · refine .inr ⟨e, r, ?_, e2.2⟩
            have e2 := e2.1
            rw [wipeK_out qv] at e2
            rw [List.getElem?_append_left (List.getElem?_eq_some_iff.mp e2).1]; exact e2
    · have h1 : i ≠ (F ds.length).length := by simp at hi; omega
      simp only [h1, if_false]
      split
      · rfl
      · exact o.out i (by rw [wipeK_length]; simp at hi; omega)
    · by_cases q1 : i = (F ds.length).length
      · subst q1
        rw [List.getElem?_append_right (Nat.le_refl _)] at hk
        simp at hk
        subst hk
        simp only [if_true]
        rw [List.getElem?_append_right (by omega), len']
        simp only [Nat.sub_self]
        exact ⟨D, us, rfl, rfl, hD', ra⟩
      · have hi' : i < (F ds.length).length := by have := (List.getElem?_eq_some_iff.mp hk).1; simp at this; omega
        rw [List.getElem?_append_left hi'] at hk
        simp only [q1, if_false]
        rw [List.getElem?_append_left (by omega)]
        by_cases qv : i ∈ own.map (·.2)
        · simp only [qv, if_true]
          obtain ⟨k'', n1, n2, n3⟩ := nw i qv
          rw [hk] at n2
          cases n2
          rcases n3 with z | ⟨d, z⟩
          · subst z
            exact (show ([] : List Addr) = [] from rfl)
          · subst z
            obtain ⟨_, v, e, r1⟩ := f1 i _ n1
            exact ⟨rfl, v, e, Dp.mono le.g r1⟩
        · simp only [qv, if_false]
          have := f i k' (by rw [wipeK_out qv]; exact hk)
          rw [wipe_out qv] at this
          exact this
end
end Z
namespace Z
open PySem PySem.Spec L2
variable [Tabl]
/-! ### a def's promise by its body -/
structure DefAt (K : PySem.W.Frag) (mg : Str → Option Value) (x : Str) (st : Stmt) (ps : List Str) : Prop where
  ex : ∃ f fd, Fun K x x st f fd ∧ mg x = some (.ref f) ∧ Binds K fd ps []
section
variable {P : Program} {w : World} {K : PySem.W.Frag} {mg : Str → Option Value} {base : Heap}
theorem cxOf_ctx {N ps : List Str} {st : Stmt} {qual : Str} {f : Addr} {k : Nat} (S : FnScope N ps (defScope st)) (cdv : Value) (A : Around) (outer : List Env) (s : Shared) (H : Hp) (E : XK) (hr : Room k (A.deeper (PyProof.Rows.envOfC qual (defScope st) s.heap.objs.size f cdv))) :
    Ctx P w K mg base ⟨N, defScope st, fun _ => true⟩ k (cxOf CX0 P w K mg base N qual (defScope st) f cdv A outer s H E).nox where
  hP := rfl
  hw := rfl
  hK := rfl
  hmg := rfl
  hbase := rfl
  hN := rfl
  nd := S.nd
  hs := rfl
  calm' := fun _ => rfl
  room' := fun _ => hr
  un := Nat.lt_of_le_of_lt (Nat.add_le_add_right (Nat.le_add_right _ _) _) hr.un
  po := PassesOwn.never
  fn := rfl
theorem start_sts {W : Wd} {G H : Hp} {N : List Str} {vs : List V} {ds : List PyData} (le : Le W G H) (r : DpAll K G vs ds) (hl : ds.length ≤ N.length) : Sts K W (ds.map SK.dat ++ List.replicate (N.length - ds.length) .no) (L2.start N vs) G H := by
  have hv := r.len
  refine ⟨le, by simp [L2.start]; omega, fun _ => [], ⟨fun _ _ _ h _ => (by cases h), fun _ _ h => (by cases h), fun _ _ => rfl⟩, fun i k hk => ?_⟩
  by_cases q : i < ds.length
  · rw [List.getElem?_append_left (by simpa using q), List.getElem?_map] at hk
    cases e : ds[i]? with
    | none => rw [e] at hk; cases hk
    | some d =>
      rw [e] at hk
      cases hk
      obtain ⟨v, e1, e2⟩ := r.get e
      refine ⟨rfl, v, ?_, e2⟩
      unfold L2.start
      rw [List.getElem?_append_left (by simp; omega), List.getElem?_map, e1]
      rfl
  · rw [List.getElem?_append_right (by simp; omega)] at hk
    have := List.mem_of_getElem? hk
    rw [List.mem_replicate] at this
    rw [this.2]
    exact (show ([] : List Addr) = [] from rfl)
theorem fn_sd {R : List PyData → PyData → Prop} {x : Str} {st : Stmt} {N ps : List Str} {k : Nat} (D : DefAt K mg x st ps) (S : FnScope N ps (defScope st)) (hl : ∀ ds d, R ds d → ds.length = ps.length) (hN : ps.length ≤ N.length)
    (h : ∀ X, Ctx P w K mg base ⟨N, defScope st, fun _ => true⟩ k X → ∀ ds d, R ds d → SD X (ds.map SK.dat ++ List.replicate (N.length - ds.length) .no) (defBody st) { nx := fun _ => d = .none, rt := fun _ d' => d' = d, rl := fun _ ds' => d = .list ds' }) :
    FnG P w K mg base x ps (k + 1) (spP K R) := by
  obtain ⟨f, fd, F, hm, hb⟩ := D.ex
  refine ⟨f, fd, ?_, hm, F.kp, hb⟩
  refine F.ok S (fun vs H Q E ⟨G, ds, d, _, _, r, hR, _⟩ => by rw [r.len]; exact hl ds d hR) (fun cdv A outer s H vs Q E hr ⟨G, ds, d, g, tb, r, hR, q⟩ => ⟨_, pss_sv, ?_⟩)
  have S0 := start_sts (N := N) (Le.refl g tb) r (by rw [hl ds d hR]; exact hN)
  refine h _ (cxOf_ctx S cdv A outer s H E hr) ds d hR _ _ G H _ S0 ⟨fun ks σ G' H' e S' => ?_, fun _ _ _ _ z => z.elim, fun _ _ _ _ z => z.elim, fun ks σ G' H' v d' e S' r' => ?_, fun ks σ G' H' a ds' e S' => ?_, fun _ _ _ _ _ _ _ _ z => z.elim, ex0⟩
  · exact q .non G' H' S'.le (by rw [e]; exact .non)
  · exact q v G' H' S'.le (by rw [← e]; exact r')
  · obtain ⟨G2, S2, g2, r2⟩ := S'.popFreeze
    exact q _ G2 H' S2.le (by rw [e]; exact r2)
/-- a def whose first argument is the drawing state -/
theorem start_rng {W : Wd} {G H : Hp} {N : List Str} {a b : Addr} {r : Rg} {vs : List V} {ds : List PyData} (le : Le W G H) (hr : RngAt H a b r) (ga : G a = none) (gb : G b = none) (ma : W.M a) (mb : W.M b) (rr : DpAll K G vs ds) (hl : ds.length + 1 ≤ N.length) :
    Sts K W (.rng a b r :: (ds.map SK.dat ++ List.replicate (N.length - (ds.length + 1)) .no)) (L2.start N (.ref a :: vs)) G H := by
  have hv := rr.len
  have e : L2.start N (.ref a :: vs) = some (.ref a) :: (vs.map some ++ List.replicate (N.length - (ds.length + 1)) none) := by
    unfold L2.start
    rw [List.map_cons, List.length_cons, hv]
    rfl
  rw [e]
  refine ⟨le, by simp; omega, fun i => if i = 0 then [a, b] else [], ⟨fun i j x h h' => ?_, fun i x h => ?_, fun i hi => ?_⟩, fun i k hk => ?_⟩
  · by_cases q : i = 0 <;> by_cases q' : j = 0 <;> simp only [q, q', if_true, if_false] at h h' <;> first | (rw [q, q']; done) | exact absurd h List.not_mem_nil | exact absurd h' List.not_mem_nil
  · by_cases q : i = 0
    · simp only [q, if_true] at h
      have : x = a ∨ x = b := by simpa using h
      rcases this with z | z <;> subst z
      · exact ⟨ga, .inr ⟨ma, _, by rw [q]; rfl, rfl⟩⟩
      · exact ⟨gb, .inr ⟨mb, _, by rw [q]; rfl, rfl⟩⟩
    · simp only [q, if_false] at h; cases h
  · have : i ≠ 0 := by simp at hi; omega
    simp only [this, if_false]
  · cases i with
    | zero =>
      cases hk
      exact ⟨rfl, rfl, hr.1, hr.2.1, hr.2.2⟩
    | succ i =>
      simp only [Nat.succ_ne_zero, if_false]
      have hk' : (ds.map SK.dat ++ List.replicate (N.length - (ds.length + 1)) .no)[i]? = some k := hk
      show Sl K G H k (((vs.map some ++ List.replicate (N.length - (ds.length + 1)) none)[i]?).getD none) []
      by_cases q : i < ds.length
      · rw [List.getElem?_append_left (by simpa using q), List.getElem?_map] at hk'
        cases e : ds[i]? with
        | none => rw [e] at hk'; cases hk'
        | some d =>
          rw [e] at hk'
          cases hk'
          obtain ⟨v, e1, e2⟩ := rr.get e
          refine ⟨rfl, v, ?_, e2⟩
          rw [List.getElem?_append_left (by simp; omega), List.getElem?_map, e1]
          rfl
      · rw [List.getElem?_append_right (by simp; omega)] at hk'
        have := List.mem_of_getElem? hk'
        rw [List.mem_replicate] at this
        rw [this.2]
        exact (show ([] : List Addr) = [] from rfl)
theorem fn_sdR {R : Rg → List PyData → Rg → PyData → Prop} {x : Str} {st : Stmt} {N ps : List Str} {k : Nat} (D : DefAt K mg x st ps) (S : FnScope N ps (defScope st)) (hl : ∀ r ds r2 d, R r ds r2 d → ds.length + 1 = ps.length) (hN : ps.length ≤ N.length)
    (h : ∀ X, Ctx P w K mg base ⟨N, defScope st, fun _ => true⟩ k X → ∀ a b r ds r2 d, R r ds r2 d → SD X (.rng a b r :: (ds.map SK.dat ++ List.replicate (N.length - (ds.length + 1)) .no)) (defBody st)
      { nx := fun ks => d = .none ∧ ks[0]? = some (.rng a b r2), rt := fun ks d' => d' = d ∧ ks[0]? = some (.rng a b r2), rl := fun ks ds' => d = .list ds' ∧ ks[0]? = some (.rng a b r2) }) :
    FnG P w K mg base x ps (k + 1) (spR K R) := by
  obtain ⟨f, fd, F, hm, hb⟩ := D.ex
  refine ⟨f, fd, ?_, hm, F.kp, hb⟩
  refine F.ok S (fun vs H Q E ⟨G, a, b, us, r, ds, r2, d, e, _, _, _, _, _, rr, hR, _⟩ => by rw [e, List.length_cons, rr.len]; exact hl r ds r2 d hR) (fun cdv A outer s H vs Q E hr ⟨G, a, b, us, r, ds, r2, d, e, g, tb, hrg, ga, gb, rr, hR, q⟩ => ⟨_, pss_sv, ?_⟩)
  subst e
  have le : Le ⟨G, H, fun x => x = a ∨ x = b⟩ G H := ⟨Same.refl G, g, fun _ _ _ _ e => e, fun _ o e => ⟨o, e⟩, fun _ _ e _ => e, fun x hx => by
    rcases hx with z | z <;> subst z
    · exact ⟨_, hrg.1⟩
    · exact ⟨_, hrg.2.1⟩, tb⟩
  have S0 := start_rng (N := N) le hrg ga gb (.inl rfl) (.inr rfl) rr (by rw [hl r ds r2 d hR]; exact hN)
  refine h _ (cxOf_ctx S cdv A outer s H E hr) a b r ds r2 d hR _ _ G H _ S0 ⟨fun ks σ G' H' e S' => ?_, fun _ _ _ _ z => z.elim, fun _ _ _ _ z => z.elim, fun ks σ G' H' v d' e S' r' => ?_, fun ks σ G' H' p ds' e S' => ?_, fun _ _ _ _ _ _ _ _ z => z.elim, ex0⟩
  · exact q .non G' H' S'.le (S'.rngAt e.2).2.1 (by rw [e.1]; exact .non)
  · exact q v G' H' S'.le (S'.rngAt e.2).2.1 (by rw [← e.1]; exact r')
  · obtain ⟨G2, S2, g2, r2⟩ := S'.popFreeze
    exact q _ G2 H' S2.le (S2.rngAt e.2).2.1 (by rw [e.1]; exact r2)
end
end Z
/-! ### enumerate of a tuple -/
namespace Z
open PySem PySem.Spec L2
variable [Tabl]
section
open Sem (wp)
open AutoSeq1 (wpAny_loadPart')
theorem zmeets_enumT (t : Addr) (items : Array Value) : Meets (Builtin.«enumerate.__new__» ⟨[.type "enumerate", .ref t], []⟩) (fun _ R s => s.heap.IsTuple t items ∧
      R (.ok (.ret (.ref (s.heap.push { cls := .type "tuple_iterator", data := .fields #[.ref t, .int 0 0] }).objs.size))) { s with heap := (s.heap.push { cls := .type "tuple_iterator", data := .fields #[.ref t, .int 0 0] }).push { cls := .type "enumerate", data := .fields #[.none, .bool false, .ref s.heap.objs.size, rawInt 0, .none, .none] } }) :=
  .of_wp fun prog w A R s hh => by
    obtain ⟨zp, zg, zd, zt, zo⟩ := s
    obtain ⟨ht, hr⟩ := hh
    have zsub := sub_enumerate
    have zit : ∀ {A' : Around} {E : Value → Shared → Prop} {Q : Value → Shared → Prop}, Q (.ref zp.objs.size) ⟨zp.push { cls := .type "tuple_iterator", data := .fields #[.ref t, .int 0 0] }, zg, zd, zt, zo⟩ → wpAny (model prog w) A' (pyIter (.ref t)) Q E ⟨zp, zg, zd, zt, zo⟩ :=
      fun q => (begins_tuple t items).iter prog w _ _ ⟨zp, zg, zd, zt, zo⟩ _ ht q
    wp_walk using zit
    refine wpAny_stack_any fun zst => wpAny_pure ?_
    split
    · rename_i cz _ _ _ _ _
      cases (cz == Value.type "enumerate")
      · wp_walk using zit
        exact ⟨_, rfl, hr⟩
      · wp_walk using zit
        exact ⟨_, rfl, hr⟩
    · wp_walk using zit
      exact ⟨_, rfl, hr⟩
theorem zcall_enumT {prog : Program} {w : World} {A : Around} {E : Value → Shared → Prop} {s : Shared} {t : Addr} {items : Array Value} {Q : Value → Shared → Prop} (ht : s.heap.IsTuple t items)
    (h : ∀ h', IsEnum h' (s.heap.objs.size + 1) s.heap.objs.size 0 .none → h'.IsTupleIter s.heap.objs.size t 0 → h'.objs.size = s.heap.objs.size + 2 → (∀ b o, s.heap.get? b = some o → h'.get? b = some o) → Q (.ref (s.heap.objs.size + 1)) { s with heap := h' }) :
    wpAny (model prog w) A (call (.type "enumerate") [.ref t]) Q E s := by
  refine callType_new F.called_enumerate (by decide) (F.typeCall_enumerate_1 _) (F.newCall_enumerate_1 _) (fun ob => F.args_object_init_2 ob _) F.entry_enumerate_new (zmeets_enumT t items) ⟨ht, ?_⟩
  have zz : (s.heap.push { cls := .type "tuple_iterator", data := .fields #[.ref t, .int 0 0] }).objs.size = s.heap.objs.size + 1 := Heap.size_push ..
  show _ ∧ _
  rw [zz]
  have ze : IsEnum ((s.heap.push { cls := .type "tuple_iterator", data := .fields #[.ref t, .int 0 0] }).push { cls := .type "enumerate", data := .fields #[.none, .bool false, .ref s.heap.objs.size, rawInt 0, .none, .none] }) (s.heap.objs.size + 1) s.heap.objs.size 0 .none := by
    have zq := Heap.get?_push_size (s.heap.push { cls := .type "tuple_iterator", data := .fields #[.ref t, .int 0 0] }) (o := { cls := .type "enumerate", data := .fields #[.none, .bool false, .ref s.heap.objs.size, rawInt 0, .none, .none] }) rfl
    rw [zz] at zq
    exact zq
  exact ⟨⟨_, ze, rfl⟩, h _ ze ⟨_, Heap.get?_push_of_some _ (Heap.get?_push_size _ rfl), rfl, rfl⟩ (by rw [Heap.size_push, zz]) fun b o q => Heap.get?_push_of_some _ (Heap.get?_push_of_some _ q)⟩
end
def IteT (K : PySem.W.Frag) (a : Addr) : It :=
  ⟨fun i H => ∃ (xs : List V) (x : V), SqT K H a xs ∧ xs[i]? = some x, fun i H v H' => ∃ T x, v = .ref T ∧ H T = none ∧ H' = upd H T (.tup [.int (i : Nat), x]) ∧ ∀ xs, SqT K H a xs → xs[i]? = some x, fun i H => ∃ xs : List V, SqT K H a xs ∧ xs.length = i⟩
theorem tupIt_ne {h : Heap} {a it : Addr} {i : Nat} {its : Array Value} (ht : h.IsTuple a its) (hi : h.IsTupleIter it a i) : a ≠ it := fun z => by
  subst z
  obtain ⟨o, ho, hc, _⟩ := ht
  obtain ⟨o', ho', hc', _⟩ := hi
  rw [ho] at ho'
  cases ho'
  rw [hc] at hc'
  exact absurd hc' (by decide)
theorem zturn_enumT {P : Program} {w : World} {K : PySem.W.Frag} {elts : List Expr} {kk : Nat} {tpos : Pos} (a e it : Addr) :
    Turn P w K (.Tuple elts kk tpos) (IteT K a) [e, it] e (fun i h => (∃ old, IsEnum h e it ((i : Nat) : Int) old) ∧ h.IsTupleIter it a i ∧ e ≠ it) where
  mem := by simp
  obj := fun i h st b hb => by
    obtain ⟨⟨old, ze⟩, ⟨o, zo, _, zd⟩, _⟩ := st
    rcases (show b = e ∨ b = it by simpa using hb) with q | q <;> subst q
    · exact ⟨_, ze, fun v q => nomatch q⟩
    · exact ⟨o, zo, fun v q => by rw [zd] at q; cases q⟩
  keep := fun i h h' st k => by
    obtain ⟨⟨old, ze⟩, zi, zn⟩ := st
    exact ⟨⟨old, k e (by simp) _ ze⟩, zi.at fun o q => k it (by simp) o q, zn⟩
  item := by
    intro X hP hw hK hc i pins s σ H E I hf st hg
    subst hP hw hK
    obtain ⟨⟨old, ze⟩, zi, zn⟩ := st
    obtain ⟨xs, x, hq, hx⟩ := hg
    obtain ⟨its, rv, p, hz⟩ := I.tuple hq
    have pt : s.heap.IsTuple a its.toArray := p
    obtain ⟨u0, hu0, ru0⟩ := rv.get hx
    have hlt : i < its.toArray.size := by
      have := (List.getElem?_eq_some_iff.mp hu0).1
      simpa using this
    have zne := tupIt_ne pt zi
    have zel : e < s.heap.objs.size := Heap.lt_size ze
    have zil : it < s.heap.objs.size := by obtain ⟨_, q, _⟩ := zi; exact Heap.lt_size q
    have zea : e ∉ [it, a] := by
      intro z
      rcases (show e = it ∨ e = a by simpa using z) with z | z
      · exact zn z
      · subst z
        obtain ⟨o, ho, hcl, _⟩ := pt
        have ze' : s.heap.get? e = some _ := ze
        rw [ze'] at ho
        cases ho
        exact absurd (show Value.type "enumerate" = Value.type "tuple" from hcl) (by decide)
    have zh : X.A.in1.handled = none := I.ok.hd hc
    refine wpAny_pyNext_enum_itemD (Draws.tuple zh it a zne its.toArray) ze ⟨zi, pt⟩ hlt zn zea fun u h' tk hu ho st' hT hsz hk => ?_
    have hu' : its[i]? = some u := by simpa using hu
    have ru : RelV x u := by
      rw [hu0] at hu'
      cases hu'
      exact ru0
    refine ⟨_, rfl, wpAny_letOwnedTupleGo_enum (s := { s with heap := h', toks := tk + 1 }) ho fun h'' he' sb => ?_⟩
    have hT2 : h''.get? s.heap.objs.size = some { cls := .type "tuple", data := .seq #[.int i tk, u] } := (sb.2 _ (Nat.ne_of_gt zel)).trans hT
    have new : ObjOk X.prog X.w (upd H s.heap.objs.size (.tup [.int (i : Nat), x])) h'' s.heap.objs.size (.tup [.int (i : Nat), x]) :=
      ⟨by show 2 ≤ sizeLine; decide, [.int i tk, u], .cons ⟨_, rfl⟩ (.cons ru .nil), ⟨_, hT2, rfl, _, rfl⟩⟩
    have I1 : Inv X pins σ (upd H s.heap.objs.size (.tup [.int (i : Nat), x])) { s with heap := h'', toks := tk + 1 } :=
      I.turnedNew (ch := [e, it]) (fun b ob hb q => (sb.2 b (fun z => hb (by simp [z]))).trans (hk b ob (fun z => hb (by simp [z])) (fun z => hb (by simp [z])) q)) hf (Nat.le_refl _) new
    refine ⟨.ref s.heap.objs.size, _, I1, rfl, ⟨_, x, rfl, I.hok.fresh (Nat.le_refl _), rfl, fun ys hy => by rw [I.tuple_inj hy hq]; exact hx⟩, ⟨⟨u, ?_⟩, st'.1.at fun o q => (sb.2 it (Ne.symm zn)).trans q, zn⟩, fun b hb => ?_⟩
    · have e1 : ((i + 1 : Nat) : Int) = (i : Int) + 1 := by omega
      rw [e1]; exact he'
    · have hb' : b < s.heap.objs.size := by
        rcases (show b = e ∨ b = it by simpa using hb) with z | z
        · rw [z]; exact zel
        · rw [z]; exact zil
      rw [upd_ne (Nat.ne_of_lt hb')]
      exact (hf b hb).1
  done := by
    intro X hP hw hK hc i pins s σ H E I hf st hg
    subst hP hw hK
    obtain ⟨⟨old, ze⟩, zi, zn⟩ := st
    obtain ⟨xs, hq, hx⟩ := hg
    obtain ⟨its, rv, p, hz⟩ := I.tuple hq
    have pt : s.heap.IsTuple a its.toArray := p
    obtain ⟨f0, f1, f2, f3, f4, f5⟩ := hf it (by simp)
    have hl := rv.length
    have zne := tupIt_ne pt zi
    have zh : X.A.in1.handled = none := I.ok.hd hc
    obtain ⟨o, ho, hcl, hd⟩ := id zi
    have zis : s.heap.IsTupleIter it a i ∧ s.heap.IsTuple a its.toArray := ⟨zi, pt⟩
    have q : i = its.toArray.size := by simp; omega
    subst q
    exact wpAny_pyNext_enum_endD (Draws.tuple zh it a zne its.toArray) ze zis fun h' eb => ⟨rfl, I.turned (t' := s.toks) (fun b o hb q => eb b o hb q) f0 f1 f3 f4 f5⟩
  self := fun A i s Q E st q => by
    obtain ⟨⟨_, ze⟩, _⟩ := st
    exact wpAny_pyIter_enum ze q
def iEnumT (K : PySem.W.Frag) (ta : TA) : TI := fun σ H R => ta σ H fun vs H1 => ∃ a xs, vs = [.ref a] ∧ SqT K H1 a xs ∧ R (IteT K a) H1
theorem zpi_enumT {X : Cx} {e : Expr} {ta : TA} {p pos tpos : Pos} {elts : List Expr} {kk : Nat} (hg : Gl X "enumerate") (hm : X.mg "enumerate" = none) (ha : PA X [e] ta) (hs : starEach [e] X.env = [(false, eval e X.env)]) :
    PI X (.Tuple elts kk tpos) (.Call (.Name "enumerate" p) [e] [] pos) (iEnumT X.K ta) := by
  refine ⟨fun pins s σ H R I h => ?_⟩
  refine PyProof.Rows.Call_ (ld_blt I hg hm PyProof.Rows.boot_enumerate (PyProof.Rows.callWith_type1 (thn (ha.run pos pins s σ H _ I h) fun us s1 ⟨vs, H1, I1, r1, q1⟩ => ?_) hs rfl))
  obtain ⟨a, xs, ex, hq, q⟩ := q1
  subst ex
  cases r1 with
  | cons r rr =>
    cases rr
    cases r
    obtain ⟨its, rv, p', hz⟩ := I1.tuple hq
    refine zcall_enumT (show s1.heap.IsTuple a its.toArray from p') fun h' he hit hsz hk => wpAny_pyIter_enum he ?_
    have I2 : Inv X pins σ H1 { s1 with heap := h' } := I1.kept (t' := s1.toks) hk
    refine ⟨s1.heap.objs.size + 1, [s1.heap.objs.size + 1, s1.heap.objs.size], _, _, H1, rfl, I2, zturn_enumT a (s1.heap.objs.size + 1) s1.heap.objs.size, ⟨⟨.none, he⟩, hit, Nat.succ_ne_self _⟩, fun b hb => ?_, q⟩
    have hle : s1.heap.objs.size ≤ b := by
      rcases (show b = s1.heap.objs.size + 1 ∨ b = s1.heap.objs.size by simpa using hb) with z | z
      · rw [z]; exact Nat.le_add_right _ _
      · rw [z]; exact Nat.le_refl _
    exact I1.fpOk hle (I1.hok.fresh hle)
theorem walk_enumT {K : PySem.W.Frag} {a : Addr} {xs : List V} : Walk (IteT K a) xs.length (fun H => SqT K H a xs) (YPair (fun i => some (.int (i : Nat))) (fun i => xs[i]?)) := by
  refine ⟨fun i _ hi q => ⟨xs, xs[i], q, by simp [hi]⟩, fun _ q => ⟨xs, q, rfl⟩, fun i H v H' _ q y => ?_⟩
  obtain ⟨T, x, h1, h2, h3, h4⟩ := y
  exact ⟨T, .int (i : Nat), x, h1, h2, h3, rfl, h4 xs q⟩
section
variable {P : Program} {w : World} {K : PySem.W.Frag} {mg : Str → Option Value} {base : Heap} {T : Sta} {k : Nat} {X : Cx} {ks k1 k2 k3 : List SK} {a b e : Expr} {es : List Expr} {d da db : PyData} {ds : List PyData} {pos p tpos : Pos} {rest body orelse : List Stmt} {Φ : Po}
/-- i, x of enumerate -/
def enumD (ds : List PyData) : List PyData := (List.range ds.length).map fun i => .tuple [.int (i : Nat), ds.getD i .none]
theorem enumD_len (ds : List PyData) : (enumD ds).length = ds.length := by simp [enumD]
theorem enumD_get {ds : List PyData} {i : Nat} {d : PyData} (h : ds[i]? = some d) : (enumD ds)[i]? = some (.tuple [.int (i : Nat), d]) := by
  have hi := (List.getElem?_eq_some_iff.mp h).1
  unfold enumD
  rw [List.getElem?_map, List.getElem?_range hi]
  simp [List.getD_eq_getElem?_getD, h]
theorem enumD_inv {ds : List PyData} {i : Nat} {z : PyData} (h : (enumD ds)[i]? = some z) : ∃ d, ds[i]? = some d ∧ z = .tuple [.int (i : Nat), d] := by
  have hi := (List.getElem?_eq_some_iff.mp h).1
  rw [enumD_len] at hi
  have e : ds[i]? = some ds[i] := by simp [hi]
  rw [enumD_get e] at h
  exact ⟨_, e, (Option.some.inj h).symm⟩
theorem src_pair {J : It} {Gs : Hp} {vs : List V} {n : Nat} {x y : Nat → Option V} {es : List PyData} {Gc : Hp → Prop} (wk : Walk J n Gc (YPair x y)) (hn : n = es.length) (hG : ∀ H, Same Gs H → Gc H)
    (hd : ∀ i u v, i < n → x i = some u → y i = some v → ∃ d d', es[i]? = some (.tuple [d, d']) ∧ Dp K Gs u d ∧ Dp K Gs v d') : SrcOk K J Gs es := by
  subst hn
  refine ⟨wk.mono (fun H s => hG H s) fun i H v H' hi s yy => ?_⟩
  obtain ⟨t, u, v', rfl, nT, rfl, hx, hy⟩ := yy
  intro G s1 s2
  obtain ⟨d, d', h1, h2, h3⟩ := hd i u v' hi hx hy
  have l := Lp.new (o := .tup [u, v']) s2 nT
  exact ⟨_, _, h1, l, .tup (SqT.of upd_same) (.cons (Dp.mono (s1.trans l.g) h2) (.cons (Dp.mono (s1.trans l.g) h3) .nil))⟩
theorem id_enumT {elts : List Expr} {kk : Nat} (c : CtxB cq P w K mg base T k X) (hg : T.sc.names.lookup ("enumerate" : Str) = some .globalImplicit) (hm : mg "enumerate" = none) (h : ED X ks a k1 (.tuple ds)) (hs : starEach [a] X.env = [(false, eval a X.env)]) :
    ID X ks (.Tuple elts kk tpos) (.Call (.Name "enumerate" p) [a] [] pos) k1 (enumD ds) := fun W σ G H S R q => by
  refine iv_of (zpi_enumT (gl_of c hg) (by rw [c.hmg]; exact hm) (pa_cons pe_ev pa_nil hs) hs) (h W σ G H S _ fun v G2 H2 S2 g r => ?_)
  obtain ⟨a, vs, rfl, sa, aa⟩ := r.tup_inv
  refine ⟨a, vs, rfl, Same.seqT S2.gh sa, q _ G2 H2 S2 g (src_pair (vs := vs) walk_enumT (by rw [enumD_len, aa.len]) (fun H s => Same.seqT s sa) fun i u v hi hx hy => ?_)⟩
  obtain ⟨d, hd, rd⟩ := aa.getV hy
  have hx := (Option.some.inj hx).symm
  subst hx
  exact ⟨_, d, enumD_get hd, .int _, rd⟩
/-! ### subscripts, slices, in -/
def ixD : PyData → Int → Option PyData
  | .tuple ds, i => atI ds i
  | .list ds, i => atI ds i
  | _, _ => none
theorem ed_ix {i : Int} (ha : ED X ks a k1 da) (hb : ED X k1 b k2 (.int i)) (hi : ixD da i = some d) (hs : PlainIx b) : ED X ks (.Subscript a b pos) k2 d := by
  cases da with
  | tuple ds => exact ed_ixT ha hb hi hs
  | list ds => exact ed_ixL ha hb hi hs
  | _ => cases hi
def seqD : PyData → Option (List PyData)
  | .tuple ds => some ds
  | .list ds => some ds
  | _ => none
theorem id_seq {tg : Expr} (h : ED X ks e k1 d) (hd : seqD d = some ds) : ID X ks tg e k1 ds := by
  cases d with
  | tuple ds' => cases hd; exact id_tup h
  | list ds' => cases hd; exact id_lst h
  | _ => cases hd
/-- an optional part of a slice -/
def POd (X : Cx) (ks : List SK) (e : Option Expr) (o : Option Int) : Prop := ∃ t : TO, PO X e t ∧ ∀ W σ G H, Sts X.K W ks σ G H → ∀ Q : Option Int → Hp → Prop, (∀ G2 H2, Sts X.K W ks σ G2 H2 → Same G G2 → Q o H2) → t σ H Q
theorem po_no : POd X ks none none := ⟨_, po_none, fun W σ G H S Q q => q G H S (Same.refl G)⟩
theorem po_yes {i : Int} (h : ED X ks e ks (.int i)) : POd X ks (some e) (some i) := ⟨_, po_some pe_ev, fun W σ G H S Q q => h W σ G H S _ fun v G2 H2 S2 g r => ⟨i, r.int_inv, q G2 H2 S2 g⟩⟩
def cutD (xs : List PyData) (lo hi : Option Int) : List PyData := (xs.drop (HT.sIx xs.length 0 lo)).take (HT.sIx xs.length xs.length hi - HT.sIx xs.length 0 lo)
theorem DpAll.cut {G : Hp} {vs : List V} {ds : List PyData} (r : DpAll K G vs ds) (lo hi : Option Int) : DpAll K G (cutV vs lo hi) (cutD ds lo hi) := by
  unfold cutV cutD
  rw [r.len]
  exact (r.drop _).take _
theorem ed_slT {lo hi : Option Expr} {l h : Option Int} {p2 : Pos} (ha : ED X ks a k1 (.tuple ds)) (hl : POd X k1 lo l) (hh : POd X k1 hi h) : ED X ks (.Subscript a (.Slice lo hi none p2) pos) k1 (.tuple (cutD ds l h)) := by
  obtain ⟨tl, pl, ql⟩ := hl
  obtain ⟨th, ph, qh⟩ := hh
  intro W σ G H S Q q
  refine ev_of (pe_slice sl_tupA pe_ev pl ph) (ha W σ G H S _ fun v G1 H1 S1 g1 r1 => ql W σ G1 H1 S1 _ fun G2 H2 S2 g2 => qh W σ G2 H2 S2 _ fun G3 H3 S3 g3 => ?_)
  obtain ⟨t, vs, rfl, sa, aa⟩ := r1.tup_inv
  have sa3 := Same.seqT (g2.trans g3) sa
  have aa3 := DpAll.mono (g2.trans g3) aa
  refine ⟨t, vs, rfl, Same.seqT S3.gh sa3, fun hw => ?_, fun hw m nm => ?_⟩
  · refine q _ G3 H3 S3 ((g1.trans g2).trans g3) ?_
    have e : cutD ds l h = ds := by
      unfold cutD
      rw [← aa.len, hw.1, hw.2, aa.len]
      simp
    rw [e]
    exact .tup sa3 aa3
  · have le := Lp.new (o := .tup (cutV vs l h)) S3.gh nm
    exact q _ _ _ (S3.pure le) (((g1.trans g2).trans g3).trans le.g) (.tup (SqT.of upd_same) (DpAll.mono le.g (DpAll.cut aa3 l h)))
/-! ### unpacking, a list of our own handed back -/
theorem sd_unpack (c : CtxB cq P w K mg base T k X) {tg : Expr} {f : PyData → List SK → Option (List SK)} {js : List Nat} (h : ED X ks e k1 d) (hg : GD X tg f js) (hf : f d k1 = some k2) (hs : swapsWithSole [tg] e pos.line X.env = pure false) (hw : swappedStores [tg] e X.env = pure none)
    (h1 : (assignEach [tg] X.env).map (·.2) = [assign tg X.env]) (q : SD X k2 rest Φ) : SD X ks (.Assign [tg] e pos :: rest) Φ := fun W σ G H D S M => by
  obtain ⟨g, pg, hg⟩ := hg
  refine sv_of (pss_cons (ps_asg pe_ev pg hs hw h1) pss_sv) ?_
  refine h W σ G H S _ fun v G2 H2 S2 g2 r => ?_
  exact hg W σ G2 H2 k1 v d k2 S2 r hf _ fun σ2 S3 _ _ => q W σ2 G2 H2 D S3 M
end
end Z
namespace Z
open PySem PySem.Spec L2
/-! ### books as data -/
abbrev Row := Int × Int × Int × Int
structure Book where
  fl : List (List Int)
  st : List Row
  ca : List Row
  bi : List Int
def eInts (l : List Int) : PyData := .tuple (l.map .int)
def eRow (r : Row) : PyData := .tuple [.int r.1, .int r.2.1, .int r.2.2.1, .int r.2.2.2]
def eBook (B : Book) : PyData := .tuple [.tuple (B.fl.map eInts), .tuple (B.st.map eRow), .tuple (B.ca.map eRow), eInts B.bi]
abbrev Book.n (B : Book) : Nat := B.fl.length
def Book.row (B : Book) (o : Int) : List Int := B.fl.getD o.toNat []
def Book.f (B : Book) (o h : Int) : Int := (B.row o).getD h.toNat 0
def Book.off (B : Book) (o : Int) : Prop := 0 ≤ o ∧ o < (B.n : Int)
structure GoodRow (B : Book) (r : Row) : Prop where
  a : B.off r.1
  b : B.off r.2.1
  ne : r.1 ≠ r.2.1
  h0 : 0 ≤ r.2.2.1
  h1 : r.2.2.1 < r.2.2.2
  h2 : r.2.2.2 ≤ 99
structure Good (B : Book) : Prop where
  n2 : 2 ≤ B.n
  n6 : B.n ≤ 6
  rows : ∀ r ∈ B.fl, r.length = B.n
  vals : ∀ o h, B.off o → B.off h → if h = o then B.f o h = 0 else 1 ≤ B.f o h ∧ B.f o h ≤ 9
  st : ∀ r ∈ B.st, GoodRow B r
  stl : B.st.length ≤ 8
  ca : ∀ r ∈ B.ca, GoodRow B r
  cal : B.ca.length ≤ 12
  bi : ∀ h ∈ B.bi, B.off h
  bil : B.bi.length ≤ 6
/-! ### indices -/
theorem atI_of {α : Type} {xs : List α} {i : Int} (h0 : 0 ≤ i) (h1 : i < xs.length) (d : α) : atI xs i = some (xs.getD i.toNat d) := by
  obtain ⟨j, rfl⟩ : ∃ j : Nat, i = (j : Int) := ⟨i.toNat, by omega⟩
  rw [Int.toNat_natCast]
  have hj : j < xs.length := by omega
  exact atI_nat (by rw [List.getD_eq_getElem?_getD]; simp [hj])
theorem atI_map {α β : Type} (f : α → β) (xs : List α) (i : Int) : atI (xs.map f) i = (atI xs i).map f := by
  unfold atI
  rw [List.length_map]
  cases ixN xs.length i with
  | none => rfl
  | some j => simp
theorem ix_fl {B : Book} {o : Int} (h : B.off o) : ixD (.tuple (B.fl.map eInts)) o = some (eInts (B.row o)) := by
  show atI _ _ = _
  rw [atI_map, atI_of h.1 h.2 []]
  rfl
theorem row_len {B : Book} {o : Int} (g : Good B) (h : B.off o) : (B.row o).length = B.n := by
  refine g.rows _ ?_
  unfold Book.row
  have h1 := h.1
  have h2 : o < (B.fl.length : Int) := h.2
  have : o.toNat < B.fl.length := by omega
  rw [List.getD_eq_getElem?_getD, List.getElem?_eq_getElem this]
  simp
theorem ix_row {B : Book} {o h : Int} (g : Good B) (ho : B.off o) (hh : B.off h) : ixD (eInts (B.row o)) h = some (.int (B.f o h)) := by
  show atI _ _ = _
  rw [atI_map, atI_of hh.1 (by rw [row_len g ho]; exact hh.2) 0]
  rfl
theorem ed_to [Tabl] {X : Cx} {ks k1 : List SK} {e : Expr} {d d' : PyData} (h : ED X ks e k1 d) (e' : d = d') : ED X ks e k1 d' := e' ▸ h
theorem td_to [Tabl] {X : Cx} {ks k1 : List SK} {e : Expr} {b b' : Bool} (h : TD X ks e k1 b) (e' : b = b') : TD X ks e k1 b' := e' ▸ h
theorem decT {p : Prop} [Decidable p] (h : p) : decide p = true := decide_eq_true h
end Z
namespace Z
open PySem PySem.Spec L2
variable [Tabl]
section
variable {P : Program} {w : World} {K : PySem.W.Frag} {mg : Str → Option Value} {base : Heap} {T : Sta} {k : Nat} {X : Cx} {ks k1 k2 k3 : List SK} {a b e : Expr} {es : List Expr} {d da db : PyData} {ds : List PyData} {pos p tpos : Pos} {rest body orelse : List Stmt} {Φ : Po}
/-! ### loops with a word of their own -/
theorem sd_forP (c : Ctx P w K mg base T k X) {tg iter : Expr} {f : PyData → List SK → Option (List SK)} {js : List Nat} (F : Nat → List SK → Prop) (hi : ID X ks tg iter k1 ds) (hg : GD X tg f js) (h0 : F 0 k1)
    (turn : ∀ i d ls, ds[i]? = some d → F i ls → ∃ kb, f d ls = some kb ∧ SD X kb body { Φ with nx := F (i + 1), ct := F (i + 1), bk := fun _ => False })
    (fin : ∀ ls, F ds.length ls → SD X ls rest Φ) (hs : ∀ x, foldedSetIterable iter X.env x = pure x) : SD X ks (.For tg iter body [] pos :: rest) Φ := fun W σ G H D S M => by
  obtain ⟨g, pg, hg⟩ := hg
  have hp := c.po
  refine sv_of (pss_cons (ps_for hp c.calm pi_iv pg pss_sv hs) pss_sv) ?_
  refine hi W σ G H S _ fun J G2 H2 S2 g2 src => ?_
  refine for_it src.wk (fun i σ' H' => ∃ G' ls, F i ls ∧ Sts X.K W ls σ' G' H' ∧ Same G2 G') ⟨G2, _, h0, S2, Same.refl G2⟩ (fun i σ' H' _ ⟨G', ls, _, S', g'⟩ => g'.trans S'.gh) ?_ ?_
  · rintro i x σ' H' H'' hlt ⟨G', ls, fl, S', g'⟩ y
    obtain ⟨d, G3, hd, l, r⟩ := y G' g' S'.gh
    obtain ⟨kb, e, b⟩ := turn i d ls hd fl
    refine hg W σ' G3 H'' ls x d kb (S'.pure l) r e _ fun σ2 S3 _ _ => ?_
    refine b ⟨G2, W.H, W.M⟩ σ2 G3 H'' _ (S3.rebase S2.le.g (g'.trans l.g)) ⟨fun ks σ G H q S => ⟨G, ks, q, S.unbase S2.le, S.le.g⟩, fun _ _ _ _ q => q.elim, fun ks σ G H q S => ⟨G, ks, q, S.unbase S2.le, S.le.g⟩, fun ks σ G H v d q S r => M.rt ks σ G H v d q (S.unbase S2.le) r, fun ks σ G H a ds q S => M.rl ks σ G H a ds q (S.unbase S2.le), fun ks σ G H a ds es fs q S => M.rT ks σ G H a ds es fs q (S.unbase S2.le), M.exU S2.le⟩
  · rintro σ' H' ⟨G', ls, fl, S', g'⟩
    exact fin ls fl W σ' G' H' D S' M
/-- slots by the turn, and a word of the turn -/
theorem sd_forJ (c : Ctx P w K mg base T k X) {tg iter : Expr} {f : PyData → List SK → Option (List SK)} {js : List Nat} (F : Nat → List SK) (J : Nat → Prop) (hi : ID X ks tg iter k1 ds) (hg : GD X tg f js) (h0 : Wk k1 (F 0)) (j0 : J 0)
    (turn : ∀ i d, ds[i]? = some d → J i → ∃ kb, f d (F i) = some kb ∧ SD X kb body { Φ with nx := fun k => Wk k (F (i + 1)) ∧ J (i + 1), ct := fun k => Wk k (F (i + 1)) ∧ J (i + 1), bk := fun _ => False })
    (fin : J ds.length → SD X (F ds.length) rest Φ) (hs : ∀ x, foldedSetIterable iter X.env x = pure x) : SD X ks (.For tg iter body [] pos :: rest) Φ := by
  by_cases hz : ds.length = 0
  · refine sd_forP c (fun i ls => Wk ls (F i) ∧ J i ∧ (i = 0 ∨ ls = F i)) hi hg ⟨h0, j0, .inl rfl⟩ (fun i d ls hd => ?_) (fun ls hl => sd_weak hl.1 (fin hl.2.1)) hs
    have := (List.getElem?_eq_some_iff.mp hd).1
    omega
  · exact fun W σ G H D S M => by
      refine sd_forP (Φ := Φ) c (fun i ls => ls = F i ∧ J i) (k1 := F 0) (fun W σ G H S R q => hi W σ G H S R fun Jt G2 H2 S2 => q Jt G2 H2 (S2.weak h0)) hg ⟨rfl, j0⟩ (fun i d ls hd hl => ?_) (fun ls hl => ?_) hs W σ G H D S M
      · obtain ⟨rfl, hj⟩ := hl
        obtain ⟨kb, e, b⟩ := turn i d hd hj
        refine ⟨kb, e, fun W σ G H D S M => b W σ G H D S ⟨fun ks σ G H q S => M.nx (F (i + 1)) σ G H ⟨rfl, q.2⟩ (S.weak q.1), fun _ _ _ _ q => q.elim, fun ks σ G H q S => M.ct (F (i + 1)) σ G H ⟨rfl, q.2⟩ (S.weak q.1), M.rt, M.rl, M.rT, M.ex⟩⟩
      · obtain ⟨rfl, hj⟩ := hl
        exact fin hj
/-! ### a < b < c < d -/
theorem ed_chain3 {op op' op2 : CmpOp} {x y z : Bool} {e3 e4 : Expr} {dc dd : PyData} (ha : ED X ks a ks da) (hb : ED X ks b ks db) (hc : ED X ks e3 ks dc) (hd : ED X ks e4 ks dd) (h : CmpD X op da db x) (h' : CmpD X op' db dc y) (h2 : CmpD X op2 dc dd z)
    (hm : lastMarks [op, op', op2] [b, e3, e4] = false) : ED X ks (.Compare a [op, op', op2] [b, e3, e4] pos) ks (.bool (x && (y && z))) := by
  obtain ⟨r, ho, hr⟩ := h.out
  obtain ⟨r', ho', hr'⟩ := h'.out
  obtain ⟨r2, ho2, hr2⟩ := h2.out
  intro W σ G H S Q q
  refine ⟨fun pins s I => ?_⟩
  refine PyProof.Rows.Compare_chain (thn (EV.run (ha W σ G H S (fun v H1 => ∃ G1, Sts X.K W ks σ G1 H1 ∧ Same G G1 ∧ Dp X.K G1 v da) (fun v G1 H1 S1 g1 r1 => ⟨G1, S1, g1, r1⟩)) pins s I) fun u1 s1 ⟨v1, H1, I1, rv1, G1, S1, g1, d1⟩ => ?_) hm
  refine PyProof.Rows.chain_link (thn (EV.run (hb W σ G1 H1 S1 (fun v H2 => ∃ G2, Sts X.K W ks σ G2 H2 ∧ Same G1 G2 ∧ Dp X.K G2 v db) (fun v G2 H2 S2 g2 r2 => ⟨G2, S2, g2, r2⟩)) pins s1 I1) fun u2 s2 ⟨v2, H2, I2, rv2, G2, S2, g2, d2⟩ => ?_)
  refine thn (ho pins s2 σ H2 v1 v2 u1 u2 (fun v H3 => ∃ G3, Sts X.K W ks σ G3 H3 ∧ Same G2 G3 ∧ v = .bl x) I2 rv1 rv2 (hr G2 H2 v1 v2 S2.gh (Dp.mono g2 d1) d2 _ fun v G3 H3 l r3 => ⟨G3, S2.pure l, l.g, r3.bl_inv⟩)) fun c3 s3 ⟨v3, H3, I3, rv3, G3, S3, g3, e3'⟩ => ?_
  subst e3'
  cases rv3
  refine wpAny_truthy_bool ?_
  cases x with
  | false => exact PyProof.Rows.ite_ff ⟨.bl false, H3, I3, rfl, q _ G3 H3 S3 ((g1.trans g2).trans g3) (.bl _)⟩
  | true =>
    refine PyProof.Rows.ite_tt ?_
    refine PyProof.Rows.chain_link (thn (EV.run (hc W σ G3 H3 S3 (fun v H4 => ∃ G4, Sts X.K W ks σ G4 H4 ∧ Same G3 G4 ∧ Dp X.K G4 v dc) (fun v G4 H4 S4 g4 r4 => ⟨G4, S4, g4, r4⟩)) pins s3 I3) fun u4 s4 ⟨v4, H4, I4, rv4, G4, S4, g4, d4⟩ => ?_)
    refine thn (ho' pins s4 σ H4 v2 v4 u2 u4 (fun v H5 => ∃ G5, Sts X.K W ks σ G5 H5 ∧ Same G4 G5 ∧ v = .bl y) I4 rv2 rv4 (hr' G4 H4 v2 v4 S4.gh (Dp.mono (g3.trans g4) d2) d4 _ fun v G5 H5 l r5 => ⟨G5, S4.pure l, l.g, r5.bl_inv⟩)) fun c5 s5 ⟨v5, H5, I5, rv5, G5, S5, g5, e5'⟩ => ?_
    subst e5'
    cases rv5
    refine wpAny_truthy_bool ?_
    cases y with
    | false => exact PyProof.Rows.ite_ff ⟨.bl false, H5, I5, rfl, q _ G5 H5 S5 ((((g1.trans g2).trans g3).trans g4).trans g5) (.bl _)⟩
    | true =>
      refine PyProof.Rows.ite_tt ?_
      refine PyProof.Rows.chain_last (thn (EV.run (hd W σ G5 H5 S5 (fun v H6 => ∃ G6, Sts X.K W ks σ G6 H6 ∧ Same G5 G6 ∧ Dp X.K G6 v dd) (fun v G6 H6 S6 g6 r6 => ⟨G6, S6, g6, r6⟩)) pins s5 I5) fun u6 s6 ⟨v6, H6, I6, rv6, G6, S6, g6, d6⟩ => ?_)
      exact ho2 pins s6 σ H6 v4 v6 u4 u6 Q I6 rv4 rv6 (hr2 G6 H6 v4 v6 S6.gh (Dp.mono (g5.trans g6) d4) d6 _ fun v G7 H7 l r7 => q v G7 H7 (S6.pure l) ((((((g1.trans g2).trans g3).trans g4).trans g5).trans g6).trans l.g) r7)
/-! ### isinstance -/
theorem un_minus {i : Int} (h : ED X ks a k1 (.int i)) : ED X ks (.UnaryOp .USub a pos) k1 (.int (-i)) := fun W σ G H S Q q =>
  ev_of (pe_un un_neg pe_ev) (h W σ G H S _ fun v G1 H1 S1 g r => ⟨i, r.int_inv, q _ G1 H1 S1 g (.int _)⟩)
theorem shaped_ints (l : List Int) : SeqAt.shaped (.list (l.map .int)) = true := by
  have h1 : ∀ l : List Int, PyData.canLayAll0 (l.map .int) = true := by
    intro l
    induction l with
    | nil => rfl
    | cons a l ih =>
      show (PyData.canLay0 (.int a) && PyData.canLayAll0 (l.map .int)) = true
      rw [ih]
      rfl
  have h2 : ∀ l : List Int, PyData.depthAll (l.map .int) = 0 := by
    intro l
    induction l with
    | nil => rfl
    | cons a l ih =>
      show max (PyData.depth (.int a)) (PyData.depthAll (l.map .int)) = 0
      rw [ih]
      rfl
  unfold SeqAt.shaped
  have e1 : (PyData.list (l.map .int)).canLay0 = true := h1 l
  have e2 : (PyData.list (l.map .int)).depth = 1 := by
    show PyData.depthAll (l.map .int) + 1 = 1
    rw [h2]
  rw [e1, e2]
  rfl
/-! ### the drawing state, read and changed -/
section
variable {x : Str} {i : Nat} {A B : Addr} {r : Rg} {px : Pos}
/-- _law_h[0], _law_h[2] -/
theorem rng_ix (c : CtxB cq P w K mg base T k X) (hN : T.N[i]? = some x) (hv : Vis T.sc x) (hk : ks[i]? = some (.rng A B r)) (hd : (x == ("__debug__" : Str)) = false) (hcd : (x == ("__classdict__" : Str)) = false) {j : Int} {q : Int} {jj : Nat} {p2 : Pos}
    (hj : (j = 0 ∧ q = r.s) ∨ (j = 2 ∧ q = r.k)) : ED X ks (.Subscript (.Name x px) (.Constant (.int j) jj p2) pos) ks (.int q) := fun W σ G H S Q qq => by
  obtain ⟨e1, ⟨h1, h2, h3⟩, _⟩ := S.rngAt hk
  refine ev_of (pe_ix ix_list (pe_var (ix_of c hN) (vis_of c hv) hd hcd) pe_int (fun _ _ => rfl)) ⟨_, e1, A, _, j, .int q, rfl, rfl, SqL.of h1, ?_, qq _ G H S (Same.refl G) (.int _)⟩
  rcases hj with ⟨rfl, rfl⟩ | ⟨rfl, rfl⟩ <;> rfl
/-- the reading of _law_h[1] -/
theorem rng_cells (c : CtxB cq P w K mg base T k X) (hN : T.N[i]? = some x) (hv : Vis T.sc x) (hk : ks[i]? = some (.rng A B r)) (hd : (x == ("__debug__" : Str)) = false) (hcd : (x == ("__classdict__" : Str)) = false) {jj : Nat} {p2 : Pos} {W : Wd} {σ : St} {G H : Hp} (S : Sts X.K W ks σ G H) {Q : VK} (q : Q (.ref B) H) :
    EV X (.Subscript (.Name x px) (.Constant (.int 1) jj p2) pos) σ H Q := by
  obtain ⟨e1, ⟨h1, h2, h3⟩, _⟩ := S.rngAt hk
  exact ev_of (pe_ix ix_list (pe_var (ix_of c hN) (vis_of c hv) hd hcd) pe_int (fun _ _ => rfl)) ⟨_, e1, A, _, 1, .ref B, rfl, rfl, SqL.of h1, rfl, q⟩
theorem rng_len (c : CtxB cq P w K mg base T k X) (hN : T.N[i]? = some x) (hv : Vis T.sc x) (hk : ks[i]? = some (.rng A B r)) (hd : (x == ("__debug__" : Str)) = false) (hcd : (x == ("__classdict__" : Str)) = false) {jj : Nat} {p2 q1 : Pos} {pp : Pos}
    (hg : T.sc.names.lookup ("len" : Str) = some .globalImplicit) (hm : mg "len" = none) : ED X ks (.Call (.Name "len" q1) [.Subscript (.Name x px) (.Constant (.int 1) jj p2) pp] [] pos) ks (.int r.c.length) := fun W σ G H S Q qq => by
  obtain ⟨e1, ⟨h1, h2, h3⟩, _⟩ := S.rngAt hk
  refine ev_of (pe_callB call_len_seq (gl_of c hg) (by rw [c.hmg]; exact hm) PySem.boot_len (pa_cons pe_ev pa_nil)) ?_
  refine rng_cells c hN hv hk hd hcd S ?_
  exact ⟨B, _, rfl, .inl (SqL.of h2), by rw [List.length_map]; exact qq _ G H S (Same.refl G) (.int _)⟩
theorem rng_some (c : CtxB cq P w K mg base T k X) (hN : T.N[i]? = some x) (hv : Vis T.sc x) (hk : ks[i]? = some (.rng A B r)) (hd : (x == ("__debug__" : Str)) = false) (hcd : (x == ("__classdict__" : Str)) = false) {jj : Nat} {p2 pp q1 : Pos} :
    TD X ks (.Compare (.Subscript (.Name x px) (.Constant (.int 1) jj p2) pp) [.NotEq] [.List [] q1] pos) ks (!r.c.isEmpty) := fun W σ G H S Q qq => by
  obtain ⟨e1, ⟨h1, h2, h3⟩, _⟩ := S.rngAt hk
  refine tv_of (pt_cmpR (op_neD c.units) pe_ev (pe_lst pa_nil) (nomark _)) ?_
  refine rng_cells c hN hv hk hd hcd S ?_
  refine ⟨Nat.zero_le _, fun l nl => ?_⟩
  have nb : B ≠ l := ne_of_none h2 nl
  have gl : G l = none := by
    cases e : G l with
    | none => rfl
    | some u => rw [S.gh l u e] at nl; cases nl
  refine ⟨.list (r.c.map .int), .list [], .lst (SqL.of (by rw [upd_ne nb]; exact h2)) DpAll.ints, .lst (SqL.of upd_same) .nil, ?_, rfl, ?_⟩
  · exact shaped_ints r.c
  · have e : (!PyData.eqv (.list (r.c.map .int)) (.list [])) = !r.c.isEmpty := by cases r.c <;> rfl
    rw [e]
    exact ⟨_, rfl, qq G _ (S.pure (Lp.newOwn S.gh nl)) (Same.refl G)⟩
theorem rng_cell (c : CtxB cq P w K mg base T k X) (hN : T.N[i]? = some x) (hv : Vis T.sc x) (hk : ks[i]? = some (.rng A B r)) (hd : (x == ("__debug__" : Str)) = false) (hcd : (x == ("__classdict__" : Str)) = false) {jj : Nat} {p2 pp : Pos} {j q : Int}
    (hb : ED X ks b ks (.int j)) (hj : atI r.c j = some q) (hs : PlainIx b) : ED X ks (.Subscript (.Subscript (.Name x px) (.Constant (.int 1) jj p2) pp) b pos) ks (.int q) := fun W σ G H S Q qq => by
  refine ev_of (pe_ix ix_list pe_ev pe_ev hs) ?_
  refine rng_cells c hN hv hk hd hcd S ?_
  refine hb W σ G H S _ fun v G1 H1 S1 g1 r1 => ?_
  obtain ⟨e1, ⟨h1, h2, h3⟩, _⟩ := S1.rngAt hk
  rw [r1.int_inv]
  refine ⟨B, _, j, .int q, rfl, rfl, SqL.of h2, ?_, qq _ G1 H1 S1 g1 (.int _)⟩
  rw [atI_map, hj]
  rfl
/-- _law_h[0] = .., _law_h[2] = .. -/
theorem Sts.rngPut {W : Wd} {σ : St} {G H : Hp} {r2 : Rg} {o : HO} {z : Addr} (S : Sts K W ks σ G H) (hk : ks[i]? = some (.rng A B r)) (hz : z = A ∨ z = B) (h2 : RngAt (upd H z o) A B r2) : Sts K W (ks.set i (.rng A B r2)) σ G (upd H z o) := by
  obtain ⟨e1, ⟨q1, q2, q3⟩, q4, q5, _⟩ := S.rngAt hk
  have hzz : ∃ u, H z = some u := by rcases hz with e | e <;> subst e <;> exact ⟨_, ‹_›⟩
  have gz : G z = none := by rcases hz with e | e <;> subst e <;> assumption
  have plz : ∀ u, H z = some u → Pl u := fun u e => by
    rcases hz with y | y <;> subst y
    · rw [q1] at e; cases e; exact pl_lst
    · rw [q2] at e; cases e; exact pl_lst
  refine S.rngStep hk ⟨Same.refl G, fun b u e => ?_, fun b u hm _ e => ?_, fun b u e => ?_, fun _ _ e _ => e, fun b hb => ?_, S.le.tb.upd plz⟩ h2
  · have : b ≠ z := fun y => by
      have e : G b = some u := e
      rw [y, gz] at e; cases e
    rw [upd_ne this]; exact S.gh b u e
  · have : b ≠ z := fun y => hm (y ▸ hz)
    rw [upd_ne this]; exact e
  · by_cases y : b = z
    · subst y; exact ⟨_, upd_same⟩
    · exact ⟨u, by rw [upd_ne y]; exact e⟩
  · rcases (show b = A ∨ b = B from hb) with e | e <;> subst e
    · exact ⟨_, q1⟩
    · exact ⟨_, q2⟩
theorem sd_rngSet (c : CtxB cq P w K mg base T k X) (hN : T.N[i]? = some x) (hv : Vis T.sc x) (hk : k1[i]? = some (.rng A B r)) (hd : (x == ("__debug__" : Str)) = false) (hcd : (x == ("__classdict__" : Str)) = false) {j q : Int} {jj : Nat} {p2 p3 : Pos} {r2 : Rg}
    (h : ED X ks e k1 (.int q)) (hj : (j = 0 ∧ r2 = { r with s := q }) ∨ (j = 2 ∧ r2 = { r with k := q })) (qq : SD X (k1.set i (.rng A B r2)) rest Φ)
    (ha : ∀ v, assign (.Subscript (.Name x px) (.Constant (.int j) jj p2) p3) X.env v = (do
      let ov ← holding [v] (eval (.Name x px) X.env)
      let iv ← holding [v, ov] (eval (.Constant (.int j) jj p2) X.env)
      standAt p3
      holding [v, ov, iv] (setItem ov iv v)
      release [v, ov, iv] []))
    (hs : swapsWithSole [.Subscript (.Name x px) (.Constant (.int j) jj p2) p3] e pos.line X.env = pure false) (hw : swappedStores [.Subscript (.Name x px) (.Constant (.int j) jj p2) p3] e X.env = pure none)
    (h1 : (assignEach [.Subscript (.Name x px) (.Constant (.int j) jj p2) p3] X.env).map (·.2) = [assign (.Subscript (.Name x px) (.Constant (.int j) jj p2) p3) X.env]) :
    SD X ks (.Assign [.Subscript (.Name x px) (.Constant (.int j) jj p2) p3] e pos :: rest) Φ := fun W σ G H D S M => by
  refine sv_of (pss_cons (ps_asg pe_ev (pg_sub (pe_var (ix_of c hN) (vis_of c hv) hd hcd) pe_int set_list ha) hs hw h1) pss_sv) ?_
  refine h W σ G H S _ fun v G1 H1 S1 g1 r1 => ?_
  obtain ⟨e1, ⟨q1, q2, q3⟩, _⟩ := S1.rngAt hk
  rw [r1.int_inv]
  refine ⟨_, e1, ?_⟩
  rcases hj with ⟨rfl, rfl⟩ | ⟨rfl, rfl⟩
  · refine ⟨A, _, 0, 0, rfl, rfl, q1, rfl, ?_⟩
    exact qq W σ G1 _ D (S1.rngPut hk (.inl rfl) ⟨upd_same, by rw [upd_ne (Ne.symm q3)]; exact q2, q3⟩) M
  · refine ⟨A, _, 2, 2, rfl, rfl, q1, rfl, ?_⟩
    exact qq W σ G1 _ D (S1.rngPut hk (.inl rfl) ⟨upd_same, by rw [upd_ne (Ne.symm q3)]; exact q2, q3⟩) M
theorem sd_rngCell (c : CtxB cq P w K mg base T k X) (hN : T.N[i]? = some x) (hv : Vis T.sc x) (hk : ks[i]? = some (.rng A B r)) (hd : (x == ("__debug__" : Str)) = false) (hcd : (x == ("__classdict__" : Str)) = false) {j q : Int} {jj m : Nat} {p2 p3 pp : Pos}
    (h : ED X ks e ks (.int q)) (hb : ED X ks b ks (.int j)) (hj : ixN r.c.length j = some m) (qq : SD X (ks.set i (.rng A B { r with c := r.c.set m q })) rest Φ)
    (ha : ∀ v, assign (.Subscript (.Subscript (.Name x px) (.Constant (.int 1) jj p2) pp) b p3) X.env v = (do
      let ov ← holding [v] (eval (.Subscript (.Name x px) (.Constant (.int 1) jj p2) pp) X.env)
      let iv ← holding [v, ov] (eval b X.env)
      standAt p3
      holding [v, ov, iv] (setItem ov iv v)
      release [v, ov, iv] []))
    (hs : swapsWithSole [.Subscript (.Subscript (.Name x px) (.Constant (.int 1) jj p2) pp) b p3] e pos.line X.env = pure false) (hw : swappedStores [.Subscript (.Subscript (.Name x px) (.Constant (.int 1) jj p2) pp) b p3] e X.env = pure none)
    (h1 : (assignEach [.Subscript (.Subscript (.Name x px) (.Constant (.int 1) jj p2) pp) b p3] X.env).map (·.2) = [assign (.Subscript (.Subscript (.Name x px) (.Constant (.int 1) jj p2) pp) b p3) X.env]) :
    SD X ks (.Assign [.Subscript (.Subscript (.Name x px) (.Constant (.int 1) jj p2) pp) b p3] e pos :: rest) Φ := fun W σ G H D S M => by
  refine sv_of (pss_cons (ps_asg pe_ev (pg_sub pe_ev pe_ev set_list ha) hs hw h1) pss_sv) ?_
  refine h W σ G H S _ fun v G1 H1 S1 g1 r1 => ?_
  rw [r1.int_inv]
  refine rng_cells c hN hv hk hd hcd S1 ?_
  refine hb W σ G1 H1 S1 _ fun y G2 H2 S2 g2 r2 => ?_
  obtain ⟨e1, ⟨q1, q2, q3⟩, _⟩ := S2.rngAt hk
  rw [r2.int_inv]
  refine ⟨B, _, j, m, rfl, rfl, q2, by rw [List.length_map]; exact hj, ?_⟩
  refine qq W σ G2 _ D (S2.rngPut hk (.inr rfl) ⟨by rw [upd_ne q3]; exact q1, ?_, q3⟩) M
  rw [upd_same, List.map_set]
end
end
end Z
namespace Z
open PySem PySem.Spec L2
/-! ### shapes -/
structure Shp (n : Nat) (d : PyData) : Prop where
  lay : d.canLay0 = true
  dep : d.depth ≤ n
theorem Shp.int {n : Nat} (i : Int) : Shp n (.int i) := ⟨rfl, Nat.zero_le _⟩
theorem Shp.non {n : Nat} : Shp n .none := ⟨rfl, Nat.zero_le _⟩
theorem Shp.bool {n : Nat} (b : Bool) : Shp n (.bool b) := ⟨rfl, Nat.zero_le _⟩
theorem shp_all {n : Nat} : ∀ {xs : List PyData}, (∀ x ∈ xs, Shp n x) → PyData.canLayAll0 xs = true ∧ PyData.depthAll xs ≤ n
  | [], _ => ⟨rfl, by simp [PyData.depthAll]⟩
  | x :: xs, h => by
    obtain ⟨a, b⟩ := shp_all (xs := xs) fun y hy => h y (List.mem_cons_of_mem _ hy)
    obtain ⟨c, d⟩ := h x List.mem_cons_self
    refine ⟨?_, ?_⟩
    · show (x.canLay0 && PyData.canLayAll0 xs) = true
      rw [c, a]; rfl
    · show max (PyData.depth x) (PyData.depthAll xs) ≤ n
      exact Nat.max_le.mpr ⟨d, b⟩
theorem Shp.list {n : Nat} {xs : List PyData} (h : ∀ x ∈ xs, Shp n x) : Shp (n + 1) (.list xs) := ⟨(shp_all h).1, by
  show PyData.depthAll xs + 1 ≤ n + 1
  exact Nat.succ_le_succ (shp_all h).2⟩
theorem Shp.tuple {n : Nat} {xs : List PyData} (h : ∀ x ∈ xs, Shp n x) : Shp (n + 1) (.tuple xs) := ⟨(shp_all h).1, by
  show PyData.depthAll xs + 1 ≤ n + 1
  exact Nat.succ_le_succ (shp_all h).2⟩
theorem Shp.mono {n m : Nat} {d : PyData} (h : Shp n d) (l : n ≤ m) : Shp m d := ⟨h.lay, Nat.le_trans h.dep l⟩
theorem Shp.ok {n : Nat} {d : PyData} (h : Shp n d) (l : n ≤ 64) : SeqAt.shaped d = true := by
  unfold SeqAt.shaped
  rw [h.lay, decide_eq_true (Nat.le_trans h.dep l)]; rfl
theorem all1 {α : Type} {p : α → Prop} {a : α} (h : p a) : ∀ x ∈ [a], p x := fun x hx => by simp at hx; subst hx; exact h
theorem allC {α : Type} {p : α → Prop} {a : α} {l : List α} (h : p a) (h2 : ∀ x ∈ l, p x) : ∀ x ∈ a :: l, p x := fun x hx => by
  rcases List.mem_cons.mp hx with z | z
  · rw [z]; exact h
  · exact h2 x z
theorem allN {α : Type} {p : α → Prop} : ∀ x ∈ ([] : List α), p x := fun x hx => by cases hx
theorem allM {α β : Type} {p : β → Prop} {f : α → β} {l : List α} (h : ∀ a ∈ l, p (f a)) : ∀ x ∈ l.map f, p x := fun x hx => by
  obtain ⟨a, ha, e⟩ := List.mem_map.mp hx
  rw [← e]; exact h a ha
/-! ### == of data without bools is equality -/
mutual
def nb : PyData → Bool
  | .none => true
  | .bool _ => false
  | .int _ => true
  | .str _ => true
  | .list xs => nbAll xs
  | .tuple xs => nbAll xs
  | .dict _ => false
def nbAll : List PyData → Bool
  | [] => true
  | x :: xs => nb x && nbAll xs
end
mutual
theorem eqv_iff : ∀ (d e : PyData), nb d = true → nb e = true → (PyData.eqv d e = true ↔ d = e)
  | .none, e, _, he => by cases e <;> simp_all [PyData.eqv, nb]
  | .int i, e, _, he => by cases e <;> simp_all [PyData.eqv, nb]
  | .str x, e, _, he => by cases e <;> simp_all [PyData.eqv, nb]
  | .list xs, e, hd, he => by
    cases e with
    | list ys =>
      have := eqv_iffAll xs ys (by simpa [nb] using hd) (by simpa [nb] using he)
      simpa [PyData.eqv] using this
    | _ => simp_all [PyData.eqv, nb]
  | .tuple xs, e, hd, he => by
    cases e with
    | tuple ys =>
      have := eqv_iffAll xs ys (by simpa [nb] using hd) (by simpa [nb] using he)
      simpa [PyData.eqv] using this
    | _ => simp_all [PyData.eqv, nb]
  | .bool _, _, hd, _ => by simp [nb] at hd
  | .dict _, _, hd, _ => by simp [nb] at hd
theorem eqv_iffAll : ∀ (d e : List PyData), nbAll d = true → nbAll e = true → (PyData.eqvAll d e = true ↔ d = e)
  | [], e, _, _ => by cases e <;> simp [PyData.eqvAll]
  | x :: xs, e, hd, he => by
    cases e with
    | nil => simp [PyData.eqvAll]
    | cons y ys =>
      have h1 : nb x = true ∧ nbAll xs = true := by simpa [nbAll] using hd
      have h2 : nb y = true ∧ nbAll ys = true := by simpa [nbAll] using he
      have a := eqv_iff x y h1.1 h2.1
      have b := eqv_iffAll xs ys h1.2 h2.2
      simp [PyData.eqvAll, a, b]
end
theorem eqv_refl {d : PyData} (h : nb d = true) : PyData.eqv d d = true := (eqv_iff d d h h).mpr rfl
theorem eqv_ne {d e : PyData} (h : nb d = true) (h2 : nb e = true) (n : d ≠ e) : PyData.eqv d e = false := by
  cases q : PyData.eqv d e with
  | false => rfl
  | true => exact absurd ((eqv_iff d e h h2).mp q) n
theorem eqv_dec {d e : PyData} (h : nb d = true) (h2 : nb e = true) {p : Prop} [Decidable p] (i : d = e ↔ p) : PyData.eqv d e = decide p := by
  by_cases q : p
  · rw [decide_eq_true q, i.mpr q]; exact eqv_refl h2
  · rw [decide_eq_false q]; exact eqv_ne h h2 fun z => q (i.mp z)
/-! ### lists -/
theorem map_get {α : Type} {f : α → PyData} {xs : List α} {i : Nat} {d : PyData} (h : (xs.map f)[i]? = some d) : ∃ x, xs[i]? = some x ∧ d = f x := by
  rw [List.getElem?_map] at h
  cases e : xs[i]? with
  | none => rw [e] at h; cases h
  | some x => rw [e] at h; exact ⟨x, rfl, (Option.some.inj h).symm⟩
theorem rngD_inv [Tabl] {n i : Nat} {d : PyData} (h : (rngD n)[i]? = some d) : i < n ∧ d = .int (i : Int) := by
  have hi := (List.getElem?_eq_some_iff.mp h).1
  have hi : i < n := by simpa [rngD] using hi
  rw [rngD_get hi] at h
  exact ⟨hi, (Option.some.inj h).symm⟩
theorem prev_succ {α : Type} {xs : List α} {q : α → Prop} {i : Nat} {x : α} (h : ∀ (j : Nat) (y : α), j < i → xs[j]? = some y → q y) (hx : xs[i]? = some x) (hq : q x) : ∀ (j : Nat) (y : α), j < i + 1 → xs[j]? = some y → q y := fun j y hj hy => by
  rcases Nat.lt_succ_iff_lt_or_eq.mp hj with z | z
  · exact h j y z hy
  · subst z; rw [hx] at hy; cases hy; exact hq
end Z
namespace Z
open PySem PySem.Spec L2
variable [Tabl]
/-! ### drawing, as functions -/
def cellOf (r : Rg) : Int := if r.c.isEmpty = true then 0 else r.c.getD (r.k % max 1 (r.c.length : Int)).toNat 0
def nxS (r : Rg) : Int := (r.s * 48271 + cellOf r * 69621 + 11) % 2147483647
def nxR (r : Rg) (m : Int) : Rg := if 10 ^ 18 ≤ cellOf r then { r with c := r.c.set (r.k % max 1 (r.c.length : Int)).toNat (cellOf r / m) } else { s := nxS r, c := r.c, k := r.k + 1 }
def nxV (r : Rg) (m : Int) : Int := if 10 ^ 18 ≤ cellOf r then cellOf r % m else nxS r / 7 % m
theorem nxV_0 {r : Rg} {m : Int} (h : 0 < m) : 0 ≤ nxV r m := by
  unfold nxV
  split <;> exact Int.emod_nonneg _ (by omega)
theorem nxV_1 {r : Rg} {m : Int} (h : 0 < m) : nxV r m < m := by
  unfold nxV
  split <;> exact Int.emod_lt_of_pos _ h
theorem nxV_off {r : Rg} {B : Book} {m : Int} (e : m = (B.n : Int)) (h : 0 < B.n) : B.off (nxV r m) := by
  subst e
  exact ⟨nxV_0 (by omega), nxV_1 (by omega)⟩
def pick2 (a b : Int) (i : Int) : Int := if i = 0 then a else b
def pick3 (a b c : Int) (i : Int) : Int := if i = 0 then a else if i = 1 then b else c
theorem ix_pick2 {a b i : Int} (h0 : 0 ≤ i) (h1 : i < 2) : ixD (.list [.int a, .int b]) i = some (.int (pick2 a b i)) := by
  rcases (show i = 0 ∨ i = 1 by omega) with e | e <;> subst e <;> rfl
theorem ix_pick3 {a b c i : Int} (h0 : 0 ≤ i) (h1 : i < 3) : ixD (.list [.int a, .int b, .int c]) i = some (.int (pick3 a b c i)) := by
  rcases (show i = 0 ∨ i = 1 ∨ i = 2 by omega) with e | e | e <;> subst e <;> rfl
theorem pick2_in {a b i : Int} {p : Int → Prop} (ha : p a) (hb : p b) : p (pick2 a b i) := by unfold pick2; split <;> assumption
theorem pick3_in {a b c i : Int} {p : Int → Prop} (ha : p a) (hb : p b) (hc : p c) : p (pick3 a b c i) := by unfold pick3; split; · assumption
                                                                                                             · split <;> assumption
/-- n draws, each with its number -/
def iterI {α : Type} (f : Nat → Rg → α × Rg) : Nat → Rg → List α × Rg
  | 0, r => ([], r)
  | n + 1, r => ((iterI f n r).1 ++ [(f n (iterI f n r).2).1], (f n (iterI f n r).2).2)
theorem iterI_len {α : Type} (f : Nat → Rg → α × Rg) (n : Nat) (r : Rg) : (iterI f n r).1.length = n := by
  induction n with
  | zero => rfl
  | succ n ih => show ((iterI f n r).1 ++ [_]).length = n + 1; rw [List.length_append, ih]; rfl
theorem iterI_all {α : Type} {f : Nat → Rg → α × Rg} {p : Nat → α → Prop} (h : ∀ i r, p i (f i r).1) : ∀ (n : Nat) (r : Rg) (i : Nat) (x : α), (iterI f n r).1[i]? = some x → p i x
  | 0, r, i, x, e => by simp [iterI] at e
  | n + 1, r, i, x, e => by
    have hl := iterI_len f n r
    have e' : ((iterI f n r).1 ++ [(f n (iterI f n r).2).1])[i]? = some x := e
    by_cases q : i < n
    · rw [List.getElem?_append_left (by omega)] at e'
      exact iterI_all h n r i x e'
    · rw [List.getElem?_append_right (by omega)] at e'
      have hi : i = n := by
        have := (List.getElem?_eq_some_iff.mp e').1
        simp at this
        omega
      subst hi
      rw [hl, Nat.sub_self] at e'
      simp at e'
      rw [← e']
      exact h _ _
theorem iterI_mem {α : Type} {f : Nat → Rg → α × Rg} {p : α → Prop} (h : ∀ i r, p (f i r).1) (n : Nat) (r : Rg) : ∀ x ∈ (iterI f n r).1, p x := fun x hx => by
  obtain ⟨i, hi, e⟩ := List.mem_iff_getElem.mp hx
  exact iterI_all (p := fun _ => p) h n r i x (by rw [List.getElem?_eq_getElem hi, e])
def hourRow (n : Int) (_ : Nat) (r : Rg) : Row × Rg :=
  let one := nxV r n
  let r1 := nxR r n
  let bg := nxV (nxR r1 3) (pick3 20 60 90 (nxV r1 3))
  let r3 := nxR (nxR r1 3) (pick3 20 60 90 (nxV r1 3))
  let ee := nxV (nxR r3 3) (pick3 9 9 70 (nxV r3 3))
  let r5 := nxR (nxR r3 3) (pick3 9 9 70 (nxV r3 3))
  ((one, (one + 1 + nxV r5 (n - 1)) % n, bg, min 99 (bg + 1 + ee)), nxR r5 (n - 1))
def hours (n most : Int) (r : Rg) : List Row × Rg := iterI (hourRow n) (nxV r (most + 1)).toNat (nxR r (most + 1))
def flCell (k j : Nat) (r : Rg) : Int × Rg := ((1 + nxV r 9) * (if (!decide ((j : Int) = (k : Int))) = true then 1 else 0), nxR r 9)
def flights (m : Nat) (r : Rg) : List (List Int) × Rg := iterI (fun k => iterI (flCell k) m) m r
def drawM (m : Int) (_ : Nat) (r : Rg) : Int × Rg := (nxV r m, nxR r m)
def bkN (n : Int) (r : Rg) : Int := 2 + nxV r (n - 1)
def bkF (n : Int) (r : Rg) : List (List Int) × Rg := flights (bkN n r).toNat (nxR r (n - 1))
def bkS (n : Int) (r : Rg) : List Row × Rg := hours (bkN n r) (pick3 0 3 8 (nxV (bkF n r).2 3)) (nxR (bkF n r).2 3)
def bkC (n : Int) (r : Rg) : List Row × Rg := hours (bkN n r) (pick2 4 12 (nxV (bkS n r).2 2)) (nxR (bkS n r).2 2)
def bkB (n b : Int) (r : Rg) : List Int × Rg := iterI (drawM (bkN n r)) (nxV (bkC n r).2 (b + 1)).toNat (nxR (bkC n r).2 (b + 1))
def lawBook (n b : Int) (r : Rg) : Book := ⟨(bkF n r).1, (bkS n r).1, (bkC n r).1, (bkB n b r).1⟩
theorem bkN_in {n : Int} {r : Rg} (h : 2 ≤ n) : 2 ≤ bkN n r ∧ bkN n r ≤ n := by
  unfold bkN
  have h0 := nxV_0 (r := r) (m := n - 1) (by omega)
  have h1 := nxV_1 (r := r) (m := n - 1) (by omega)
  omega
theorem bk_n {n b : Int} {r : Rg} (h : 2 ≤ n) : ((lawBook n b r).n : Int) = bkN n r := by
  show (((flights (bkN n r).toNat (nxR r (n - 1))).1.length : Nat) : Int) = _
  unfold flights
  rw [iterI_len]
  have := bkN_in (r := r) h
  omega
theorem hours_len {n most : Int} {r : Rg} (hm : 0 ≤ most) : ((hours n most r).1.length : Int) ≤ most := by
  unfold hours
  rw [iterI_len]
  have h0 := nxV_0 (r := r) (m := most + 1) (by omega)
  have h1 := nxV_1 (r := r) (m := most + 1) (by omega)
  omega
theorem hours_good {B : Book} {most : Int} {r : Rg} (h2 : 2 ≤ B.n) : ∀ x ∈ (hours (B.n : Int) most r).1, GoodRow B x := by
  refine iterI_mem (fun i r => ?_) _ _
  have hn : (0 : Int) < (B.n : Int) := by omega
  have a0 := nxV_0 (r := r) hn
  have a1 := nxV_1 (r := r) hn
  show GoodRow B (hourRow (B.n : Int) i r).1
  unfold hourRow
  dsimp only
  generalize nxR r (B.n : Int) = r1
  have p1 : 0 < pick3 20 60 90 (nxV r1 3) ∧ pick3 20 60 90 (nxV r1 3) ≤ 90 := pick3_in (p := fun z => 0 < z ∧ z ≤ 90) (by decide) (by decide) (by decide)
  generalize pick3 20 60 90 (nxV r1 3) = m1 at p1
  have b0 := nxV_0 (r := nxR r1 3) p1.1
  have b1 := nxV_1 (r := nxR r1 3) p1.1
  generalize nxV (nxR r1 3) m1 = bg at b0 b1
  generalize nxR (nxR r1 3) m1 = r3
  have p2 : 0 < pick3 9 9 70 (nxV r3 3) := pick3_in (p := fun z => 0 < z) (by decide) (by decide) (by decide)
  generalize pick3 9 9 70 (nxV r3 3) = m2 at p2
  have c0 := nxV_0 (r := nxR r3 3) p2
  generalize nxV (nxR r3 3) m2 = ee at c0
  generalize nxR (nxR r3 3) m2 = r5
  have d0 := nxV_0 (r := r5) (m := (B.n : Int) - 1) (by omega)
  have d1 := nxV_1 (r := r5) (m := (B.n : Int) - 1) (by omega)
  generalize nxV r5 ((B.n : Int) - 1) = ot at d0 d1
  generalize nxV r (B.n : Int) = one at a0 a1
  refine ⟨⟨a0, a1⟩, ⟨Int.emod_nonneg _ (by omega), Int.emod_lt_of_pos _ hn⟩, fun e => ?_, b0, ?_, ?_⟩
  · have e : one = (one + 1 + ot) % (B.n : Int) := e
    by_cases q : one + 1 + ot < (B.n : Int)
    · rw [Int.emod_eq_of_lt (by omega) q] at e
      omega
    · have : (one + 1 + ot) % (B.n : Int) = one + 1 + ot - (B.n : Int) := by
        rw [← Int.sub_emod_right, Int.emod_eq_of_lt (by omega) (by omega)]
      omega
  · show bg < min 99 (bg + 1 + ee)
    omega
  · show min 99 (bg + 1 + ee) ≤ 99
    omega
theorem lawBook_good {n b : Int} {r : Rg} (h2 : 2 ≤ n) (h6 : n ≤ 6) (hb : 0 ≤ b) (hb6 : b ≤ 6) : Good (lawBook n b r) := by
  have hn := bk_n (b := b) (r := r) h2
  have hm := bkN_in (r := r) h2
  have hn2 : 2 ≤ (lawBook n b r).n := by omega
  refine ⟨hn2, by omega, ?_, ?_, ?_, ?_, ?_, ?_, ?_, ?_⟩
  · intro x hx
    have hx : x ∈ (iterI (fun k => iterI (flCell k) (bkN n r).toNat) (bkN n r).toNat (nxR r (n - 1))).1 := hx
    have := iterI_mem (p := fun (x : List Int) => x.length = (bkN n r).toNat) (fun i r' => iterI_len _ _ _) _ _ x hx
    rw [this]
    omega
  · intro o h ho hh
    obtain ⟨i, rfl⟩ : ∃ i : Nat, o = (i : Int) := ⟨o.toNat, by have := ho.1; omega⟩
    obtain ⟨j, rfl⟩ : ∃ j : Nat, h = (j : Int) := ⟨h.toNat, by have := hh.1; omega⟩
    have hi : i < (bkN n r).toNat := by have := ho.2; omega
    have hj : j < (bkN n r).toNat := by have := hh.2; omega
    have fl : (lawBook n b r).fl = (iterI (fun k => iterI (flCell k) (bkN n r).toNat) (bkN n r).toNat (nxR r (n - 1))).1 := rfl
    have cell := iterI_all (f := fun k => iterI (flCell k) (bkN n r).toNat) (p := fun k row => ∀ (j : Nat) (v : Int), row[j]? = some v → (if (j : Int) = (k : Int) then v = 0 else 1 ≤ v ∧ v ≤ 9)) (fun k r' j v hv => by
      refine iterI_all (f := flCell k) (p := fun j v => if (j : Int) = (k : Int) then v = 0 else 1 ≤ v ∧ v ≤ 9) (fun j r'' => ?_) _ r' j v hv
      have v0 := nxV_0 (r := r'') (m := 9) (by decide)
      have v1 := nxV_1 (r := r'') (m := 9) (by decide)
      show if (j : Int) = (k : Int) then (1 + nxV r'' 9) * (if (!decide ((j : Int) = (k : Int))) = true then 1 else 0) = 0 else _
      by_cases q : (j : Int) = (k : Int)
      · rw [if_pos q, decide_eq_true q]; simp
      · rw [if_neg q]
        show 1 ≤ (1 + nxV r'' 9) * (if (!decide ((j : Int) = (k : Int))) = true then 1 else 0) ∧ (1 + nxV r'' 9) * (if (!decide ((j : Int) = (k : Int))) = true then 1 else 0) ≤ 9
        rw [decide_eq_false q]
        simp
        omega) (bkN n r).toNat (nxR r (n - 1))
    have hil : i < (lawBook n b r).fl.length := by rw [fl, iterI_len]; exact hi
    have hr : (lawBook n b r).fl[i]? = some ((lawBook n b r).fl[i]) := List.getElem?_eq_getElem hil
    have c1 := cell i _ (by rw [← fl]; exact hr)
    have rl : ((lawBook n b r).fl[i]).length = (bkN n r).toNat := iterI_mem (p := fun (x : List Int) => x.length = (bkN n r).toNat) (fun i r' => iterI_len _ _ _) _ _ _ (by rw [← fl]; exact List.getElem_mem hil)
    have hv : ((lawBook n b r).fl[i])[j]? = some (((lawBook n b r).fl[i])[j]'(by omega)) := List.getElem?_eq_getElem _
    have c2 := c1 j _ hv
    have ef : (lawBook n b r).f (i : Int) (j : Int) = ((lawBook n b r).fl[i])[j]'(by omega) := by
      unfold Book.f Book.row
      rw [Int.toNat_natCast, Int.toNat_natCast, List.getD_eq_getElem?_getD, List.getD_eq_getElem?_getD, hr]
      show (((lawBook n b r).fl[i])[j]?).getD 0 = _
      rw [hv]; rfl
    rw [ef]
    exact c2
  · have := hours_good (B := lawBook n b r) (most := pick3 0 3 8 (nxV (bkF n r).2 3)) (r := nxR (bkF n r).2 3) hn2
    rw [hn] at this
    exact this
  · have : 0 ≤ pick3 0 3 8 (nxV (bkF n r).2 3) ∧ pick3 0 3 8 (nxV (bkF n r).2 3) ≤ 8 := pick3_in (p := fun z => 0 ≤ z ∧ z ≤ 8) (by decide) (by decide) (by decide)
    have h := hours_len (n := bkN n r) (r := nxR (bkF n r).2 3) this.1
    show (hours _ _ _).1.length ≤ 8
    omega
  · have := hours_good (B := lawBook n b r) (most := pick2 4 12 (nxV (bkS n r).2 2)) (r := nxR (bkS n r).2 2) hn2
    rw [hn] at this
    exact this
  · have : 0 ≤ pick2 4 12 (nxV (bkS n r).2 2) ∧ pick2 4 12 (nxV (bkS n r).2 2) ≤ 12 := pick2_in (p := fun z => 0 ≤ z ∧ z ≤ 12) (by decide) (by decide)
    have h := hours_len (n := bkN n r) (r := nxR (bkS n r).2 2) this.1
    show (hours _ _ _).1.length ≤ 12
    omega
  · refine iterI_mem (fun i r' => ?_) _ _
    show (lawBook n b r).off (nxV r' (bkN n r))
    exact nxV_off hn.symm (by omega)
  · show (iterI _ _ _).1.length ≤ 6
    rw [iterI_len]
    have h0 := nxV_0 (r := (bkC n r).2) (m := b + 1) (by omega)
    have h1 := nxV_1 (r := (bkC n r).2) (m := b + 1) (by omega)
    omega
section
variable {P : Program} {w : World} {K : PySem.W.Frag} {mg : Str → Option Value} {base : Heap} {T : Sta} {k : Nat} {X : Cx} {ks k1 k2 k3 : List SK} {a b e : Expr} {es : List Expr} {d da db : PyData} {ds : List PyData} {pos p tpos : Pos} {rest body orelse : List Stmt} {Φ : Po}
/-- a comprehension that changes nothing -/
theorem lc_filter {α : Type} (c : Ctx P w K mg base T k X) {elt tg iter : Expr} {ifs : List Expr} {scope : Scope} (own : List (Str × Nat)) {f : PyData → List SK → Option (List SK)} {js : List Nat} {xs : List α} {enc : α → PyData} (pr : α → Bool) (g : α → PyData)
    (ok : blkC T.N T.sc scope own = true) (hjs : js.all (fun j => (own.map (·.2)).contains j) = true) (hi : ID X ks tg iter k1 (xs.map enc))
    (nw : ∀ i ∈ own.map (·.2), ∃ k, k1[i]? = some k ∧ (k = .no ∨ ∃ d, k = .dat d))
    (hg : ∀ X', Ctx P w K mg base (Tb T scope) k X' → GD X' tg f js) (hz : xs.length < sizeLine)
    (turn : ∀ x ∈ xs, ∃ kb, f (enc x) (wipeK k1 (own.map (·.2))) = some kb ∧ (∀ X', Ctx P w K mg base (Tb T scope) k X' → TsD X' kb ifs kb (pr x)) ∧ Wk kb (wipeK k1 (own.map (·.2))) ∧ (pr x = true → ∀ X', Ctx P w K mg base (Tb T scope) k X' → ED X' kb elt kb (g x)))
    (hs : ∀ x, foldedSetIterable iter X.env x = pure x) : LC X ks (.ListComp elt [⟨tg, iter, ifs, 0⟩] scope pos) k1 ((xs.filter pr).map g) := by
  have key := lc_lc (pos := pos) c own (fun _ => k1) (fun i => ((xs.take i).filter pr).map g) ok hjs hi (fun i hi => by
    obtain ⟨k', h1, h2⟩ := nw i hi
    exact ⟨k', h1, h1, h2⟩) hg rfl (fun _ => rfl) (by simp) (by rw [List.length_map]; exact hz) (fun i d hd => by
    obtain ⟨x, hx, rfl⟩ := map_get hd
    obtain ⟨kb, e1, e2, e3, e4⟩ := turn x (List.mem_of_getElem? hx)
    refine ⟨kb, if pr x = true then some (g x) else none, e1, ⟨kb, pr x, e2, fun h => ⟨by rw [if_neg (by rw [h]; decide)], e3⟩, fun h => ⟨g x, kb, by rw [if_pos h], e4 h, e3⟩⟩, ?_⟩
    have ht : xs.take (i + 1) = xs.take i ++ [x] := by
      rw [List.take_succ, hx]; rfl
    rw [ht, List.filter_append, List.map_append]
    congr 1
    by_cases h : pr x = true
    · rw [if_pos h]; simp [h]
    · rw [if_neg h]; simp [h]) hs
  rw [List.length_map, List.take_length] at key
  exact key
/-- a comprehension that draws at each turn -/
theorem lc_draw {α : Type} (c : Ctx P w K mg base T k X) {elt tg iter : Expr} {scope : Scope} (own : List (Str × Nat)) (h : Nat) {A B : Addr} {r : Rg} {f : PyData → List SK → Option (List SK)} {js : List Nat} {n : Nat} (fr : Nat → Rg → α × Rg) (g : α → PyData)
    (ok : blkC T.N T.sc scope own = true) (hjs : js.all (fun j => (own.map (·.2)).contains j) = true) (hi : ID X ks tg iter k1 (rngD n)) (hk : k1[h]? = some (.rng A B r)) (hh : h ∉ own.map (·.2))
    (nw : ∀ i ∈ own.map (·.2), ∃ k, k1[i]? = some k ∧ (k = .no ∨ ∃ d, k = .dat d))
    (hg : ∀ X', Ctx P w K mg base (Tb T scope) k X' → GD X' tg f js) (hz : n < sizeLine)
    (turn : ∀ i r', i < n → ∃ kb k3, f (.int (i : Nat)) (wipeK (k1.set h (.rng A B r')) (own.map (·.2))) = some kb ∧ (∀ X', Ctx P w K mg base (Tb T scope) k X' → ED X' kb elt k3 (g (fr i r').1)) ∧ Wk k3 (wipeK (k1.set h (.rng A B (fr i r').2)) (own.map (·.2))))
    (hs : ∀ x, foldedSetIterable iter X.env x = pure x) : LC X ks (.ListComp elt [⟨tg, iter, [], 0⟩] scope pos) (k1.set h (.rng A B (iterI fr n r).2)) ((iterI fr n r).1.map g) := by
  have hset : k1.set h (.rng A B r) = k1 := by
    apply List.ext_getElem?
    intro j
    by_cases q : h = j
    · subst q; rw [List.getElem?_set_self (List.getElem?_eq_some_iff.mp hk).1, hk]
    · rw [List.getElem?_set_ne q]
  have key := lc_lc (pos := pos) c own (fun i => k1.set h (.rng A B (iterI fr i r).2)) (fun i => (iterI fr i r).1.map g) ok hjs hi (fun i hi => by
    obtain ⟨k', h1, h2⟩ := nw i hi
    refine ⟨k', h1, ?_, h2⟩
    rw [List.getElem?_set_ne (show h ≠ i from fun z => hh (by rw [z]; exact hi))]; exact h1) hg hset (fun _ => by simp) rfl (by simp [rngD]; exact hz) (fun i d hd => by
    obtain ⟨hin, rfl⟩ := rngD_inv hd
    obtain ⟨kb, k3, e1, e2, e3⟩ := turn i (iterI fr i r).2 hin
    refine ⟨kb, some (g (fr i (iterI fr i r).2).1), e1, ⟨kb, true, fun X' _ => ts_nil, (fun h => by cases h), fun _ => ⟨_, k3, rfl, e2, e3⟩⟩, ?_⟩
    show List.map g ((iterI fr i r).1 ++ [_]) = _
    rw [List.map_append]; rfl) hs
  have hl : (rngD n).length = n := by simp [rngD]
  rw [hl] at key
  exact key
theorem el_draw {α : Type} (c : Ctx P w K mg base T k X) {elt tg iter : Expr} {scope : Scope} (own : List (Str × Nat)) (h : Nat) {A B : Addr} {r : Rg} {f : PyData → List SK → Option (List SK)} {js : List Nat} {n : Nat} (fr : Nat → Rg → α × Rg) (g : α → PyData)
    (ok : blkC T.N T.sc scope own = true) (hjs : js.all (fun j => (own.map (·.2)).contains j) = true) (hi : ID X ks tg iter k1 (rngD n)) (hk : k1[h]? = some (.rng A B r)) (hh : h ∉ own.map (·.2))
    (nw : ∀ i ∈ own.map (·.2), ∃ k, k1[i]? = some k ∧ (k = .no ∨ ∃ d, k = .dat d))
    (hg : ∀ X', Ctx P w K mg base (Tb T scope) k X' → GD X' tg f js) (hz : n < sizeLine)
    (turn : ∀ i r', i < n → ∃ kb k3, f (.int (i : Nat)) (wipeK (k1.set h (.rng A B r')) (own.map (·.2))) = some kb ∧ (∀ X', Ctx P w K mg base (Tb T scope) k X' → ED X' kb elt k3 (g (fr i r').1)) ∧ Wk k3 (wipeK (k1.set h (.rng A B (fr i r').2)) (own.map (·.2))))
    (hs : ∀ x, foldedSetIterable iter X.env x = pure x) : EL X ks (.ListComp elt [⟨tg, iter, [], 0⟩] scope pos) (k1.set h (.rng A B (iterI fr n r).2)) ((iterI fr n r).1.map g) := (lc_draw c own h fr g ok hjs hi hk hh nw hg hz turn hs).el c
end
end Z
namespace Z
open PySem PySem.Spec L2
variable [Tabl]
section
variable {P : Program} {w : World} {K : PySem.W.Frag} {mg : Str → Option Value} {base : Heap} {T : Sta} {k : Nat} {X : Cx} {ks k1 k2 k3 : List SK} {a b e : Expr} {es : List Expr} {d da db : PyData} {ds : List PyData} {pos p tpos : Pos} {rest body orelse : List Stmt} {Φ : Po}
theorem SD.nxW {L L' : List SK} {rt : List SK → PyData → Prop} {rl : List SK → List PyData → Prop} {bk : List SK → Prop} {rT : List SK → List PyData → List PyData → List PyData → Prop} {ex : List SK → Value → List (Str × PyData) → Prop} {rc : List SK → SK → Prop} (e : L = L') (h : SD X ks rest ⟨fun k => Wk k L', rt, rl, bk, fun k => Wk k L', rT, ex, rc⟩) : SD X ks rest ⟨fun k => Wk k L, rt, rl, bk, fun k => Wk k L, rT, ex, rc⟩ := e ▸ h
theorem rngD_len (n : Nat) : (rngD n).length = n := by simp [rngD]
/-- what a law's call begins with -/
theorem sp_law {R : List PyData → PyData → Prop} (hR : ∀ ns : List Int, ns.length ≤ 63 → R [.list (ns.map .int)] (.bool true)) (H : Hp) (a : Addr) (ns : List Int) (hl : ns.length ≤ 63) (hT : LamX.Tabs Tabl.T H) (hS : SqL K H a (ns.map V.int)) : spP K R [.ref a] H (fun v _ => v = .bl true) fun _ _ _ => False :=
by
  classical
  refine ⟨fun b => if ∃ ps, H b = some (.tbl ps) then none else H b, [.list (ns.map .int)], .bool true, fun b u e => ?_, ⟨fun p hp => ?_, hT⟩, .cons (.lst ?_ DpAll.ints) .nil, hR ns hl, fun v G2 H2 _ r => r.bl_inv⟩
  · have e : (if ∃ ps, H b = some (.tbl ps) then none else H b) = some u := e
    split at e
    · cases e
    · exact e
  · obtain ⟨ps, h, _⟩ := hT p hp
    exact if_pos ⟨ps, h⟩
  · rcases hS with (h | ⟨o, h⟩) | h
    · refine .inl (.inl ?_)
      show (if ∃ ps, H a = some (.tbl ps) then none else H a) = _
      rw [h, if_neg (fun ⟨ps, z⟩ => by cases z)]
    · refine .inl (.inr ⟨o, ?_⟩)
      show (if ∃ ps, H a = some (.tbl ps) then none else H a) = _
      rw [h, if_neg (fun ⟨ps, z⟩ => by cases z)]
    · exact .inr h
/-- _law_h = [c, list(..), 0] -/
theorem sd_rngNew (c : CtxB cq P w K mg base T k X) (i : Nat) {x : Str} {c0 : Int} {ns : List Int} {q0 q1 q2 q3 q4 : Pos} {j0 j2 : Nat} (hi : T.N[i]? = some x) (hx : Loc T.sc x) (hf : T.fn x = true ∨ T.sc.names.lookup x = some .local) (hl : i < ks.length)
    (hg : T.sc.names.lookup ("list" : Str) = some .globalImplicit) (hm : mg "list" = none) (h : ED X ks e ks (.list (ns.map .int)))
    (hs : swapsWith (.List [.Constant (.int c0) j0 q0, .Call (.Name "list" q1) [e] [] q2, .Constant (.int 0) j2 q3] q4) (some (.Name x p)) pos.line X.env = pure false)
    (he : starEach [e] X.env = (false, eval e X.env) :: starEach [] X.env)
    (q : ∀ A B, SD X (ks.set i (.rng A B ⟨c0, ns, 0⟩)) rest Φ) : SD X ks (.Assign [.Name x p] (.List [.Constant (.int c0) j0 q0, .Call (.Name "list" q1) [e] [] q2, .Constant (.int 0) j2 q3] q4) pos :: rest) Φ := fun W σ G H D S M => by
  refine sv_of (pss_cons (ps_set (nd_of c) (ix_of c hi) (loc_of c hx) (pe_lst (pa_cons pe_int (pa_cons (pe_callTy call_list_of (gl_of c hg) (by rw [c.hmg]; exact hm) PyProof.Rows.boot_list (pa_cons pe_ev pa_nil he) (he := he)) (pa_cons pe_int pa_nil)))) hs (fn_of' c hf)) pss_sv) ?_
  refine h W σ G H S _ fun v G1 H1 S1 g1 r1 => ?_
  obtain ⟨B0, us, rfl, sq, au⟩ := r1.lst_inv
  have eu := au.ints_inv
  subst eu
  refine ⟨B0, _, rfl, .inl (S1.gh.seq sq), fun B nB => ?_⟩
  refine ⟨by show 3 ≤ sizeLine; exact Nat.le_of_ble_eq_true rfl, fun A nA => ?_⟩
  have nab : B ≠ A := ne_of_none (H := upd H1 B _) upd_same nA
  have gA : G1 A = none := by
    cases e : G1 A with
    | none => rfl
    | some u =>
      have := S1.gh A u e
      rw [upd_ne (Ne.symm nab), this] at nA; cases nA
  have gB : G1 B = none := by
    cases e : G1 B with
    | none => rfl
    | some u => rw [S1.gh B u e] at nB; cases nB
  have l1 := Lp.newOwn (o := .lst (ns.map V.int)) S1.gh nB
  have l2 := Lp.newOwn (o := .lst [.int c0, .ref B, .int 0]) l1.gh nA
  have ll := l1.trans l2
  refine q A B W _ G1 _ D (S1.put hl (S1.le.trans ll) (Same.refl _) (fun _ _ e _ => e) fun ow o f => ⟨fun j b hj hb u hu => ll.keep b u (fun z => z) hu, [A, B], ⟨rfl, rfl, upd_same, ?_, Ne.symm nab⟩, fun b hb => ?_⟩) M
  · rw [upd_ne nab]; exact upd_same
  · have wn : ∀ z, H1 z = none → (∀ j, z ∉ ow j) ∧ W.H z = none := fun z hz => by
      refine ⟨fun j hj => ?_, ?_⟩
      · obtain ⟨u, hu⟩ := o.live f j z hj
        rw [hz] at hu; cases hu
      · cases e : W.H z with
        | none => rfl
        | some u =>
          obtain ⟨u', e'⟩ := S1.le.there z u e
          rw [hz] at e'; cases e'
    rcases (show b = A ∨ b = B by simpa using hb) with z | z <;> subst z
    · have := wn b (by rw [upd_ne (Ne.symm nab)] at nA; exact nA)
      exact ⟨fun j _ => this.1 j, gA, .inl this.2⟩
    · have := wn b nB
      exact ⟨fun j _ => this.1 j, gB, .inl this.2⟩
end
end Z
namespace Z
open PySem PySem.Spec L2
/-! ### the earliest hours: plain -/
structure Edge where
  a : Int
  b : Int
  go : Int → Option Int
structure Edge.Ok (e : Edge) : Prop where
  mono : ∀ v v' t', v ≤ v' → e.go v' = some t' → ∃ t, e.go v = some t ∧ t ≤ t'
  late : ∀ v t, e.go v = some t → v < t
abbrev Dt := Int → Option Int
/-- D is nowhere later than D' -/
def NL (D D' : Dt) : Prop := ∀ o t, D' o = some t → ∃ u, D o = some u ∧ u ≤ t
theorem NL.trans {D D' D2 : Dt} (h : NL D D') (h' : NL D' D2) : NL D D2 := fun o t e => by
  obtain ⟨u, e', l⟩ := h' o t e
  obtain ⟨u', e2, l'⟩ := h o u e'
  exact ⟨u', e2, Int.le_trans l' l⟩
structure Sound (E : Edge → Prop) (bs : Int × Int → Prop) (D : Dt) : Prop where
  pos : ∀ o t, D o = some t → 0 ≤ t
  from_ : ∀ o t, D o = some t → bs (o, t) ∨ ∃ e, E e ∧ e.b = o ∧ ∃ v u, D e.a = some v ∧ e.go v = some u ∧ u ≤ t
structure Stable (E : Edge → Prop) (bs : Int × Int → Prop) (D : Dt) : Prop where
  beg : ∀ o t, bs (o, t) → ∃ u, D o = some u ∧ u ≤ t
  ed : ∀ e, E e → ∀ v t, D e.a = some v → e.go v = some t → ∃ u, D e.b = some u ∧ u ≤ t
section
variable {E E' : Edge → Prop} {bs bs' : Int × Int → Prop} {D D' : Dt}
/-- what is soundly there stays soundly there when all else comes earlier -/
theorem Sound.earlier (hE : ∀ e, E e → e.Ok) (l : NL D' D) {o t : Int} (h : bs (o, t) ∨ ∃ e, E e ∧ e.b = o ∧ ∃ v u, D e.a = some v ∧ e.go v = some u ∧ u ≤ t) : bs (o, t) ∨ ∃ e, E e ∧ e.b = o ∧ ∃ v u, D' e.a = some v ∧ e.go v = some u ∧ u ≤ t := by
  rcases h with h | ⟨e, he, hb, v, u, h1, h2, h3⟩
  · exact .inl h
  · obtain ⟨v', h4, h5⟩ := l _ _ h1
    obtain ⟨u', h6, h7⟩ := (hE e he).mono v' v u h5 h2
    exact .inr ⟨e, he, hb, v', u', h4, h6, by omega⟩
end
def better (u : Option Int) (t : Int) : Bool := match u with
  | none => true
  | some u => decide (t < u)
def upD (D : Dt) (o : Int) (t : Option Int) : Dt := fun x => if x = o then t else D x
theorem upD_at {D : Dt} {o : Int} {t : Option Int} : upD D o t o = t := if_pos rfl
theorem upD_ne {D : Dt} {o x : Int} {t : Option Int} (h : x ≠ o) : upD D o t x = D x := if_neg h
def low (D : Dt) (o t : Int) : Dt := if better (D o) t = true then upD D o (some t) else D
theorem low_le {D : Dt} {o t : Int} : NL (low D o t) D := fun x s h => by
  unfold low
  by_cases q : better (D o) t = true
  · rw [if_pos q]
    by_cases qx : x = o
    · subst qx
      rw [h] at q
      exact ⟨t, upD_at, by have : t < s := of_decide_eq_true q; omega⟩
    · exact ⟨s, by rw [upD_ne qx]; exact h, Int.le_refl _⟩
  · rw [if_neg q]; exact ⟨s, h, Int.le_refl _⟩
theorem low_inv {D : Dt} {o t x s : Int} (h : low D o t x = some s) : (x = o ∧ s = t) ∨ D x = some s := by
  unfold low at h
  split at h
  · by_cases q : x = o
    · subst q; rw [upD_at] at h; cases h; exact .inl ⟨rfl, rfl⟩
    · rw [upD_ne q] at h; exact .inr h
  · exact .inr h
section
variable {E E' : Edge → Prop} {bs bs' : Int × Int → Prop} {D D' : Dt}
theorem Sound.low (hE : ∀ e, E e → e.Ok) (S : Sound E bs D) {o t : Int} (p : 0 ≤ t) (h : bs (o, t) ∨ ∃ e, E e ∧ e.b = o ∧ ∃ v u, D e.a = some v ∧ e.go v = some u ∧ u ≤ t) : Sound E bs (low D o t) := by
  refine ⟨fun x s hs => ?_, fun x s hs => ?_⟩
  · rcases low_inv hs with ⟨_, rfl⟩ | z
    · exact p
    · exact S.pos x s z
  · rcases low_inv hs with ⟨rfl, rfl⟩ | z
    · exact Sound.earlier hE low_le h
    · exact Sound.earlier hE low_le (S.from_ x s z)
def rel (D : Dt) (e : Edge) : Dt := match D e.a with
  | none => D
  | some v => match e.go v with
    | none => D
    | some t => low D e.b t
theorem Sound.rel (hE : ∀ e, E e → e.Ok) {e : Edge} (he : E e) (S : Sound E bs D) : Sound E bs (rel D e) := by
  unfold Z.rel
  cases h : D e.a with
  | none => exact S
  | some v =>
    dsimp only
    cases h' : e.go v with
    | none => exact S
    | some t =>
      have := (hE e he).late v t h'
      have := S.pos _ _ h
      exact S.low hE (by omega) (.inr ⟨e, he, rfl, v, t, h, h', Int.le_refl _⟩)
def rnd (es : List Edge) (D : Dt) : Dt := es.foldl Z.rel D
def its (es : List Edge) : Nat → Dt → Dt
  | 0, D => D
  | k + 1, D => rnd es (its es k D)
/-! ### there is one -/
open Classical in
/-- the earliest hours -/
noncomputable def Sp (E : Edge → Prop) (bs : Int × Int → Prop) : Dt := if h : ∃ D, Sound E bs D ∧ Stable E bs D then h.choose else fun _ => none
/-! ### how many rounds do -/
end
/-! ### hours as a list -/
def oD : Option Int → PyData
  | none => .none
  | some t => .int t
def fl (n : Nat) (D : Dt) : List PyData := (List.range n).map fun (i : Nat) => oD (D (i : Int))
end Z
namespace Z
open PySem PySem.Spec L2
variable [Tabl]
section
variable {P : Program} {w : World} {K : PySem.W.Frag} {mg : Str → Option Value} {base : Heap} {T : Sta} {k : Nat} {X : Cx} {ks k1 k2 k3 : List SK} {a b e : Expr} {es : List Expr} {d da db : PyData} {ds : List PyData} {pos p tpos : Pos} {rest body orelse : List Stmt} {Φ : Po}
theorem SD.to {ls : List SK} (e : ks = ls) (h : SD X ls rest Φ) : SD X ks rest Φ := e ▸ h
/-- [g for .. in ..] -/
theorem lc_map {α : Type} (c : Ctx P w K mg base T k X) {elt tg iter : Expr} {scope : Scope} (own : List (Str × Nat)) {f : PyData → List SK → Option (List SK)} {js : List Nat} {xs : List α} {enc : α → PyData} (g : α → PyData)
    (ok : blkC T.N T.sc scope own = true) (hjs : js.all (fun j => (own.map (·.2)).contains j) = true) (hi : ID X ks tg iter k1 (xs.map enc))
    (nw : ∀ i ∈ own.map (·.2), ∃ k, k1[i]? = some k ∧ (k = .no ∨ ∃ d, k = .dat d))
    (hg : ∀ X', Ctx P w K mg base (Tb T scope) k X' → GD X' tg f js) (hz : xs.length < sizeLine)
    (turn : ∀ x ∈ xs, ∃ kb, f (enc x) (wipeK k1 (own.map (·.2))) = some kb ∧ (∀ X', Ctx P w K mg base (Tb T scope) k X' → ED X' kb elt kb (g x)) ∧ Wk kb (wipeK k1 (own.map (·.2))))
    (hs : ∀ x, foldedSetIterable iter X.env x = pure x) : LC X ks (.ListComp elt [⟨tg, iter, [], 0⟩] scope pos) k1 (xs.map g) := by
  have key := lc_filter (pos := pos) c own (xs := xs) (enc := enc) (fun _ => true) g ok hjs hi nw hg hz (fun x hx => by
    obtain ⟨kb, h1, h2, h3⟩ := turn x hx
    exact ⟨kb, h1, fun X' _ => ts_nil, h3, fun _ => h2⟩) hs
  rw [List.filter_eq_self.mpr (fun _ _ => rfl)] at key
  exact key
theorem el_map {α : Type} (c : Ctx P w K mg base T k X) {elt tg iter : Expr} {scope : Scope} (own : List (Str × Nat)) {f : PyData → List SK → Option (List SK)} {js : List Nat} {xs : List α} {enc : α → PyData} (g : α → PyData)
    (ok : blkC T.N T.sc scope own = true) (hjs : js.all (fun j => (own.map (·.2)).contains j) = true) (hi : ID X ks tg iter k1 (xs.map enc))
    (nw : ∀ i ∈ own.map (·.2), ∃ k, k1[i]? = some k ∧ (k = .no ∨ ∃ d, k = .dat d))
    (hg : ∀ X', Ctx P w K mg base (Tb T scope) k X' → GD X' tg f js) (hz : xs.length < sizeLine)
    (turn : ∀ x ∈ xs, ∃ kb, f (enc x) (wipeK k1 (own.map (·.2))) = some kb ∧ (∀ X', Ctx P w K mg base (Tb T scope) k X' → ED X' kb elt kb (g x)) ∧ Wk kb (wipeK k1 (own.map (·.2))))
    (hs : ∀ x, foldedSetIterable iter X.env x = pure x) : EL X ks (.ListComp elt [⟨tg, iter, [], 0⟩] scope pos) k1 (xs.map g) := (lc_map c own g ok hjs hi nw hg hz turn hs).el c
end
end Z
namespace Z
open PySem PySem.Spec L2
variable [Tabl]
/-! ### list + list of any lists -/
def rCatS (K : PySem.W.Frag) : R2 := fun x y H Q => ∃ l b xs zs, x = .ref l ∧ y = .ref b ∧ SqL K H l xs ∧ SqL K H b zs ∧ xs.length + zs.length ≤ sizeLine ∧ ∀ p, H p = none → Q (.ref p) (upd H p (.lst (xs ++ zs)))
theorem op_catS {X : Cx} : OpR X (binaryOp .Add) (rCatS X.K) := by
  intro pins s σ H x y v u Q I rx ry h
  obtain ⟨l, b, xs, zs, rfl, rfl, hH, hB, hz, q⟩ := h
  cases rx
  cases ry
  obtain ⟨its, r, ⟨o1, n1, g1, c1, d1, e1⟩, _⟩ := I.list hH
  obtain ⟨its2, r2, ⟨o2, n2, g2, c2, d2, e2⟩, _⟩ := I.list hB
  obtain ⟨cls, dd, data, sl⟩ := o1
  obtain ⟨cls2, dd2, data2, sl2⟩ := o2
  simp only at c1 d1 e1 c2 d2 e2
  subst c1 d1 e1 c2 d2 e2
  have e : its.toArray ++ its2.toArray = (its ++ its2).toArray := by simp
  refine PySem.concat_meets ⟨_, g1, rfl⟩ ⟨_, g2, rfl⟩ PySem.noFill_list_add PySem.seq_list_add PySem.F.slot_list_add PySem.F.entry_list_add (PySem.F.args_list_add_2 _ _) (PyProof.Rows.list_addW l b its.toArray its2.toArray n1 n2 none none sl sl2 (by rw [List.size_toArray, List.size_toArray, ← r.length, ← r2.length]; exact hz)) ⟨g1, g2, ?_⟩
  rw [e]
  exact ⟨.ref _, _, I.lnew (t' := s.toks) (r.append r2) (by rw [List.length_append]; exact hz), rfl, q _ I.fresh⟩
section
variable {P : Program} {w : World} {K : PySem.W.Frag} {mg : Str → Option Value} {base : Heap} {T : Sta} {k : Nat} {X : Cx} {ks k1 k2 k3 : List SK} {a b e : Expr} {es : List Expr} {d da db : PyData} {ds ds' : List PyData} {pos p tpos : Pos} {rest body orelse : List Stmt} {Φ : Po}
theorem el_cat (ha : ED X ks a k1 (.list ds)) (hb : ED X k1 b k2 (.list ds')) (hz : ds.length + ds'.length ≤ sizeLine) : EL X ks (.BinOp a .Add b pos) k2 (ds ++ ds') := fun W σ G H S Q q => by
  refine ev_of (pe_op op_catS pe_ev pe_ev) (ha W σ G H S _ fun v G1 H1 S1 g1 r1 => hb W σ G1 H1 S1 _ fun u G2 H2 S2 g2 r2 => ?_)
  obtain ⟨l, xs, rfl, sx, ax⟩ := r1.lst_inv
  obtain ⟨m, ys, rfl, sy, ay⟩ := r2.lst_inv
  refine ⟨l, m, xs, ys, rfl, rfl, (g2.trans S2.gh).seq sx, S2.gh.seq sy, by rw [ax.len, ay.len]; exact hz, fun p np => ?_⟩
  have gp : G2 p = none := by
    cases e : G2 p with
    | none => rfl
    | some u => rw [S2.gh p u e] at np; cases np
  exact q p G2 _ (S2.push (Lp.newOwn S2.gh np) np gp upd_same (DpAll.append (DpAll.mono g2 ax) ay)) (g1.trans g2)
theorem ed_cat (ha : ED X ks a k1 (.list ds)) (hb : ED X k1 b k2 (.list ds')) (hz : ds.length + ds'.length ≤ sizeLine) : ED X ks (.BinOp a .Add b pos) k2 (.list (ds ++ ds')) := ed_el (el_cat ha hb hz)
theorem id_to {tg iter : Expr} (h : ID X ks tg iter k1 ds) (e : ds = ds') : ID X ks tg iter k1 ds' := e ▸ h
end
end Z
namespace Z
open PySem PySem.Spec L2
/-! ### a list of our own looked at as data -/
end Z
namespace Z
open PySem PySem.Spec L2
variable [Tabl]
/-! ### sorted -/
abbrev T3 := Int × Int × Int
def cd3 (r : T3) : Int := TS.code 1000 [r.1, r.2.1, r.2.2]
end Z
namespace Z
open PySem PySem.Spec L2 RT
end Z
namespace Z
open PySem PySem.Spec L2 PyProof.Rows
/-! ### x in a tuple -/
end Z
namespace Z
open PySem PySem.Spec L2 PyProof.Rows
end Z
namespace Z
open PySem PySem.Spec L2 PyProof.Rows
end Z
namespace Z
open PySem PySem.Spec L2
/-! ### dicts of ints -/
end Z
namespace Z
open PySem PySem.Spec L2
variable [Tabl]
section
variable {P : Program} {w : World} {K : PySem.W.Frag} {mg : Str → Option Value} {base : Heap} {T : Sta} {k : Nat} {X : Cx} {ks k1 k2 k3 : List SK} {a b e : Expr} {es : List Expr} {d da db : PyData} {ds ds' el : List PyData} {pos p tpos : Pos} {rest body orelse : List Stmt} {Φ : Po}
/-! ### slots moved -/
section
variable {W : Wd} {σ : St} {G H : Hp} {i : Nat}
/-- a slot told otherwise, of the same things -/
theorem Sts.told {k0 k' : SK} {v' : Option V} (S : Sts K W ks σ G H) (hk : ks[i]? = some k0) (nr : isRng k0 = false) (h : ∀ as, Sl K G H k0 ((σ[i]?).getD none) as → Sl K G H k' v' as) : Sts K W (ks.set i k') (σ.set i v') G H := by
  obtain ⟨le, len, ow, o, f⟩ := S
  have hi := (List.getElem?_eq_some_iff.mp hk).1
  refine ⟨le, by simp [len], ow, ⟨o.dis, fun j a ha => ?_, fun j hj => o.out j (by simpa using hj)⟩, fun j kj hj => ?_⟩
  · obtain ⟨b1, c⟩ := o.mine j a ha
    refine ⟨b1, ?_⟩
    rcases c with c | ⟨c, r, e, e'⟩
    · exact .inl c
    · by_cases q : j = i
      · subst q
        rw [hk] at e
        cases e
        rw [nr] at e'
        cases e'
      · exact .inr ⟨c, r, by rw [List.getElem?_set_ne (Ne.symm q)]; exact e, e'⟩
  · by_cases q : j = i
    · subst q
      rw [List.getElem?_set_self hi] at hj
      cases hj
      rw [List.getElem?_set_self (by omega)]
      exact h _ (f j k0 hk)
    · rw [List.getElem?_set_ne (Ne.symm q)] at hj
      rw [List.getElem?_set_ne (Ne.symm q)]
      exact f j kj hj
theorem Sts.at {k' : SK} (S : Sts K W ks σ G H) (hk : ks[i]? = some k') : ∃ as, Sl K G H k' ((σ[i]?).getD none) as := let ⟨_, _, ow, _, f⟩ := S; ⟨ow i, f i _ hk⟩
theorem Sts.there (S : Sts K W ks σ G H) (hi : i < ks.length) {v : V} (h : (σ[i]?).getD none = some v) : σ[i]? = some (some v) := by
  have hl : i < σ.length := by rw [S.len]; exact hi
  rw [List.getElem?_eq_getElem hl] at h ⊢
  simpa using h
end
/-! ### a tuple that ends with a list of our own -/
end
end Z
namespace Z
open PySem PySem.Spec L2
variable [Tabl]
section
variable {P : Program} {w : World} {K : PySem.W.Frag} {mg : Str → Option Value} {base : Heap} {T : Sta} {k : Nat} {X : Cx} {ks k1 k2 k3 : List SK} {a b e : Expr} {es : List Expr} {d da db : PyData} {ds ds' : List PyData} {pos p p2 pos2 : Pos}
/-! ### slices whose parts draw -/
def cutG {α : Type} (xs : List α) (lo hi : Option Int) : List α := (xs.drop (HT.sIx xs.length 0 lo)).take (HT.sIx xs.length xs.length hi - HT.sIx xs.length 0 lo)
theorem cutD_map {α : Type} {f : α → PyData} {xs : List α} {lo hi : Option Int} : cutD (xs.map f) lo hi = (cutG xs lo hi).map f := by
  unfold cutD cutG
  rw [List.length_map, List.map_take, List.map_drop]
/-! ### such a tuple, frozen -/
end
end Z
namespace Z
open PySem PySem.Spec PyProof.Rows L2
variable [Tabl]
/-! ### defs that make lambdas: the code object is known -/
structure FunC (K : PySem.W.Frag) (x : Str) (st : Stmt) (f : Addr) (fd : FuncData) (cc : Addr) : Prop where
  ex : ∃ (oc : Value) (od : Option Addr) (kV doc pm : Value) (an : Option Addr) (ct : Value) (osl : Array (Option Value)), fd = PySem.W.fnOf x x (defArgs st) (defBody st) (defScope st) .none kV doc pm an (.ref cc) ct ∧ K.lookup f = some ⟨oc, od, .func fd, osl⟩ ∧ PySem.W.codeIn K (.ref cc) x = true
  kp : PySem.W.keepIn K (.ref f) = true
theorem fun_mkC {K : PySem.W.Frag} {x : Str} {st : Stmt} {f cc : Addr} {oc : Value} {od : Option Addr} {kV doc pm : Value} {an : Option Addr} {ct : Value} {osl : Array (Option Value)} (lk : K.lookup f = some ⟨oc, od, .func (PySem.W.fnOf x x (defArgs st) (defBody st) (defScope st) .none kV doc pm an (.ref cc) ct), osl⟩)
    (hcd : PySem.W.codeIn K (.ref cc) x = true) (kp : PySem.W.keepIn K (.ref f) = true) : FunC K x st f (PySem.W.fnOf x x (defArgs st) (defBody st) (defScope st) .none kV doc pm an (.ref cc) ct) cc := ⟨⟨_, _, _, _, _, _, _, _, rfl, lk, hcd⟩, kp⟩
/-- what a lambda's making asks of the def around it -/
structure LamIn (X : Cx) (cc tt : Addr) (nm : Str) : Prop where
  tb : LamX.TabB X.base X.mg cc tt
  code : X.env.code = .ref cc
  qual : X.env.qual ++ "<lambda>" = nm
  mem : (tt, nm) ∈ Tabl.T
  uni : ∀ p ∈ Tabl.T, p.1 = tt → p.2 = nm
section
variable {P : Program} {w : World} {K : PySem.W.Frag} {mg : Str → Option Value} {base : Heap}
theorem ok_sdC {R : List PyData → PyData → Prop} {x : Str} {st : Stmt} {N ps : List Str} {k : Nat} {f : Addr} {fd : FuncData} {cc tt : Addr} {nm : Str} (F : FunC K x st f fd cc) (TB : LamX.TabB base mg cc tt) (hq : x ++ ".<locals>." ++ "<lambda>" = nm) (hmem : (tt, nm) ∈ Tabl.T) (huni : ∀ p ∈ Tabl.T, p.1 = tt → p.2 = nm)
    (S : FnScope N ps (defScope st)) (hl : ∀ ds d, R ds d → ds.length = ps.length) (hN : ps.length ≤ N.length)
    (h : ∀ X, Ctx P w K mg base ⟨N, defScope st, fun _ => true⟩ k X → LamIn X cc tt nm → ∀ ds d, R ds d → SD X (ds.map SK.dat ++ List.replicate (N.length - ds.length) .no) (defBody st) { nx := fun _ => d = .none, rt := fun _ d' => d' = d, rl := fun _ ds' => d = .list ds' }) :
    FnOk P w K mg base CX0 (k + 1) f fd ps (spP K R) := by
  obtain ⟨oc, od, kV, doc, pm, an, ct, osl, rfl, lk, hcd⟩ := F.ex
  refine fn_of lk hcd S (fun vs H Q E ⟨G, ds, d, _, _, r, hR, _⟩ => by rw [r.len]; exact hl ds d hR) fun A outer s H vs Q E hr ⟨G, ds, d, g, tb, r, hR, q⟩ => ?_
  have S0 := start_sts (N := N) (Le.refl g tb) r (by rw [hl ds d hR]; exact hN)
  refine ⟨_, (pss_sv (X := (cxOf CX0 P w K mg base N x (defScope st) f (.ref cc) A outer s H E).nox)).nox, ?_⟩
  refine h _ (cxOf_ctx S (.ref cc) A outer s H E hr) ⟨TB, rfl, hq, hmem, huni⟩ ds d hR _ _ G H _ S0 ⟨fun ks σ G' H' e S' => ?_, fun _ _ _ _ z => z.elim, fun _ _ _ _ z => z.elim, fun ks σ G' H' v d' e S' r' => ?_, fun ks σ G' H' a ds' e S' => ?_, fun _ _ _ _ _ _ _ _ z => z.elim, ex0⟩
  · exact q .non G' H' S'.le (by rw [e]; exact .non)
  · exact q v G' H' S'.le (by rw [← e]; exact r')
  · obtain ⟨G2, S2, g2, r2⟩ := S'.popFreeze
    exact q _ G2 H' S2.le (by rw [e]; exact r2)
end
/-! ### sorted(.., key = lambda x: (x[i], x[j])) -/
end Z
namespace Z
open PySem PySem.Spec L2
end Z
namespace Z
open PySem PySem.Spec PyProof.Rows L2
end Z
namespace ZM
open PySem PySem.Spec PyProof.Rows L2
/-- t * 1 is t -/
theorem mul_one (l : Addr) (items : Array Value) (n : Nat) (dd : Option Addr) (sl : Array (Option Value)) (u : Tok) :
    Meets (Builtin.«tuple.__mul__» ⟨[.ref l, .int 1 u], []⟩) (fun _ R s => s.heap.get? l = some { cls := .type "tuple", dict := dd, data := .seq items n, slots := sl } ∧ R (.ok (.ret (Value.ref l))) s) :=
  .of_wp fun prog w A R s h => by
    obtain ⟨hp, g, d, tk, os⟩ := s
    obtain ⟨hl, h⟩ := h
    have f1 := AutoSeq1.idx_int
    have c1 : (items.isEmpty || (1 : Int) == 1) = true := by rw [show ((1 : Int) == 1) = true from rfl, Bool.or_true]
    wp_walk using wpAny_loadPart' hl
    repeat (first
      | (refine wpAny_ite_false (decide_eq_false (show ¬ (decide ((1 : Int) < -(2 ^ 63)) || decide ((1 : Int) ≥ 2 ^ 63)) = true by decide)) ?_; wp_walk using wpAny_loadPart' hl)
      | (refine wpAny_ite_true (decide_eq_true c1) ?_; wp_walk using wpAny_loadPart' hl))
    exact ⟨_, rfl, h⟩
/-- t * 0 is () -/
theorem mul_zero (l : Addr) (items : Array Value) (n : Nat) (dd : Option Addr) (sl : Array (Option Value)) (u : Tok) (c1 : (items.isEmpty || (0 : Int) == 1) = false) :
    Meets (Builtin.«tuple.__mul__» ⟨[.ref l, .int 0 u], []⟩) (fun _ R s => s.heap.get? l = some { cls := .type "tuple", dict := dd, data := .seq items n, slots := sl } ∧
      R (.ok (.ret (Value.ref s.heap.objs.size))) { s with heap := s.heap.push { cls := Value.type "tuple", data := Data.seq #[] }, toks := s.toks }) :=
  .of_wp fun prog w A R s h => by
    obtain ⟨hp, g, d, tk, os⟩ := s
    obtain ⟨hl, h⟩ := h
    have f1 := AutoSeq1.idx_int
    wp_walk using wpAny_loadPart' hl
    repeat (first
      | (refine wpAny_ite_false (decide_eq_false (show ¬ (decide ((0 : Int) < -(2 ^ 63)) || decide ((0 : Int) ≥ 2 ^ 63)) = true by decide)) ?_; wp_walk using wpAny_loadPart' hl)
      | (refine wpAny_ite_false (decide_eq_false (show ¬ _ = true by rw [c1]; decide)) ?_; wp_walk using wpAny_loadPart' hl)
      | (refine wpAny_ite_true (decide_eq_true (show (decide ((0 : Int) ≤ 0) || items.isEmpty) = true by rfl)) ?_; wp_walk using wpAny_loadPart' hl))
    exact ⟨_, rfl, h⟩
def rRep0 (K : PySem.W.Frag) : R2 := fun x y H Q => ∃ l k xs, x = .ref l ∧ y = .int k ∧ SqT K H l xs ∧ xs ≠ [] ∧ ((k = 1 ∧ Q (.ref l) H) ∨ (k = 0 ∧ ∀ p, H p = none → Q (.ref p) (upd H p (.tup []))))
section
variable {X : Cx}
theorem op_rep0 : OpR X (binaryOp .Mult) (rRep0 X.K) := by
  intro pins s σ H x y v u Q I rx ry h
  obtain ⟨l, k, xs, rfl, rfl, hT, hne, q⟩ := h
  cases rx
  obtain ⟨t, rfl⟩ := ry
  obtain ⟨its, r, ⟨⟨cls, dd, data, sl⟩, ho, hc, n, hd⟩, hs⟩ := I.tuple hT
  cases (show cls = .type "tuple" from hc)
  cases (show data = .seq its.toArray n from hd)
  have hi : its.toArray.isEmpty = false := by
    cases its with
    | nil =>
      have := r.length
      exact (hne (List.eq_nil_of_length_eq_zero this)).elim
    | cons a b => rfl
  refine wpAny_binaryOp_repeat_ref (T := "tuple") (U := "int") (by decide) ⟨_, ho, rfl⟩ (fun s' => typeIs_int s' k t) noFill_tuple_mul F.fills_int_mul F.slot_int_rmul repeat_tuple F.slot_int_index.lookup (call_meets F.slot_int_rmul (typeIs_int s k t) F.entry_int_rmul (F.args_int_rmul_2 _ _) (int_rmul_tuple k t l its.toArray n dd sl) ⟨ho, rfl, ⟨_, ho, rfl⟩, ?_⟩)
  rcases q with ⟨rfl, q⟩ | ⟨rfl, q⟩
  · exact call_meets F.slot_tuple_mul ⟨_, ho, rfl⟩ F.entry_tuple_mul (F.args_tuple_mul_2 _ _) (mul_one l its.toArray n dd sl t) ⟨ho, ⟨.ref l, H, I, rfl, q⟩⟩
  · refine call_meets F.slot_tuple_mul ⟨_, ho, rfl⟩ F.entry_tuple_mul (F.args_tuple_mul_2 _ _) (mul_zero l its.toArray n dd sl t (by rw [hi]; rfl)) ⟨ho, ?_⟩
    exact ⟨.ref s.heap.objs.size, _, I.laid (t' := s.toks) (o := .tup []) (fun b ob q => Heap.get?_push_of_some _ q) (Nat.le_refl _) ⟨Nat.zero_le _, _, .nil, IsTup.new _ _⟩, rfl, q _ (I.hok.fresh (Nat.le_refl _))⟩
end
end ZM
namespace Z
open PySem PySem.Spec L2
variable [Tabl]
section
variable {X : Cx} {d : PyData}
/-- (d,) * n -/
theorem bd_repT {n : Nat} (hn : n ≤ 1000) : BinD X .Mult (.tuple [d]) (.int (n : Int)) (.tuple (List.replicate n d)) := by
  by_cases h : 2 ≤ n
  · refine ⟨_, op_repT, fun G H x y g ha hb Q q => ?_⟩
    obtain ⟨a, vs, rfl, sa, aa⟩ := ha.tup_inv
    cases aa with
    | cons r t =>
      cases t
      rename_i v
      refine ⟨a, (n : Int), [v], rfl, hb.int_inv, Same.seqT g sa, by simp, by omega, by omega, (show 1 ≤ 1000 by decide), fun p np => ?_⟩
      have l := Lp.new (o := .tup (List.replicate ((n : Int)).toNat [v]).flatten) g np
      refine q _ _ _ l (.tup (SqT.of upd_same) ?_)
      rw [Int.toNat_natCast]
      have key : ∀ m : Nat, DpAll X.K (upd G p (.tup (List.replicate ((n : Int)).toNat [v]).flatten)) (List.replicate m [v]).flatten (List.replicate m d) := by
        intro m
        induction m with
        | zero => exact .nil
        | succ m ih => exact .cons (Dp.mono l.g r) ih
      exact key n
  · refine ⟨_, ZM.op_rep0, fun G H x y g ha hb Q q => ?_⟩
    obtain ⟨a, vs, rfl, sa, aa⟩ := ha.tup_inv
    refine ⟨a, (n : Int), vs, rfl, hb.int_inv, Same.seqT g sa, (fun z => by subst z; cases aa), ?_⟩
    have : n = 0 ∨ n = 1 := by omega
    rcases this with rfl | rfl
    · refine .inr ⟨rfl, fun p np => ?_⟩
      have l := Lp.new (o := .tup []) g np
      exact q _ _ _ l (.tup (SqT.of upd_same) .nil)
    · exact .inl ⟨rfl, q _ G H (Lp.refl g) ha⟩
end
end Z
namespace Z
open PySem PySem.Spec L2
variable [Tabl]
/-! ### instances that stay -/
section
variable {P : Program} {w : World} {K : PySem.W.Frag} {mg : Str → Option Value} {base : Heap} {T : Sta} {k : Nat} {X : Cx} {ks k1 k2 k3 : List SK} {a b e o : Expr} {es : List Expr} {d da db : PyData} {ds ds' el : List PyData} {pos p tpos apos : Pos} {rest : List Stmt} {Φ : Po} {C : Addr} {fs : List (Str × PyData)}
theorem FsD.get {G : Hp} {f : Str} : ∀ {vs : List (Str × V)} {fs : List (Str × PyData)}, FsD K G vs fs → fs.lookup f = some d → ∃ v, vs.lookup f = some v ∧ Dp K G v d
  | _, _, .nil, h => by cases h
  | (x, v) :: vs, (y, e) :: fs, .cons ⟨h1, h2⟩ t, h => by
    have h1 : x = y := h1
    subst h1
    rw [List.lookup_cons] at h ⊢
    by_cases q : (f == x) = true
    · rw [q] at h ⊢
      cases h
      exact ⟨v, rfl, h2⟩
    · have q : (f == x) = false := by simpa using q
      rw [q] at h ⊢
      exact FsD.get t h
theorem FsD.none {G : Hp} {f : Str} : ∀ {vs : List (Str × V)} {fs : List (Str × PyData)}, FsD K G vs fs → fs.lookup f = none → vs.lookup f = none
  | _, _, .nil, _ => rfl
  | (x, v) :: vs, (y, e) :: fs, .cons ⟨h1, h2⟩ t, h => by
    have h1 : x = y := h1
    subst h1
    rw [List.lookup_cons] at h ⊢
    by_cases q : (f == x) = true
    · rw [q] at h; cases h
    · have q : (f == x) = false := by simpa using q
      rw [q] at h ⊢
      exact FsD.none t h
/-! ### methods of such an instance -/
/-- a method as the written part holds it -/
structure MethAt (K : PySem.W.Frag) (C : Addr) (m qual : Str) (st : Stmt) (ps : List Str) : Prop where
  ex : ∃ f fd, Fun K m qual st f fd ∧ Meth K C m f ∧ Binds K fd ps []
end
end Z
namespace Z
open PySem PySem.Spec L2
variable [Tabl]
/-! ### instances of our own: __init__ -/
section
variable {P : Program} {w : World} {K : PySem.W.Frag} {mg : Str → Option Value} {base : Heap} {T : Sta} {k : Nat} {X : Cx} {ks k1 k2 k3 : List SK} {a b e o : Expr} {es : List Expr} {d da db : PyData} {ds ds' el : List PyData} {pos p tpos apos : Pos} {rest : List Stmt} {Φ : Po} {C : Addr} {fs : List (Str × PyData)}
def putD (f : Str) (d : PyData) : List (Str × PyData) → List (Str × PyData)
  | [] => [(f, d)]
  | (g, x) :: r => if g = f then (g, d) :: r else (g, x) :: putD f d r
theorem FsD.put {G : Hp} {f : Str} {v : V} (hv : Dp K G v d) : ∀ {vs : List (Str × V)} {fs : List (Str × PyData)}, FsD K G vs fs → FsD K G (putF f v vs) (putD f d fs)
  | _, _, .nil => .cons ⟨rfl, hv⟩ .nil
  | (x, u) :: vs, (y, e) :: fs, .cons ⟨h1, h2⟩ t => by
    have h1 : x = y := h1
    subst h1
    show FsD K G (if x = f then (x, v) :: vs else (x, u) :: putF f v vs) (if x = f then (x, d) :: fs else (x, e) :: putD f d fs)
    by_cases q : x = f
    · rw [if_pos q, if_pos q]; exact .cons ⟨rfl, hv⟩ t
    · rw [if_neg q, if_neg q]; exact .cons ⟨rfl, h2⟩ (FsD.put hv t)
theorem FsD.len {G : Hp} {vs : List (Str × V)} {fs : List (Str × PyData)} (h : FsD K G vs fs) : vs.length = fs.length := Paired.length h
theorem start_oin {G H : Hp} {N : List Str} {p dx : Addr} {vs : List V} {ds : List PyData} (g : Same G H) (tb : TbO G H) (gp : G p = none) (gd : G dx = none) (hp : H p = some (.ins C dx [])) (hd : H dx = some (.own p)) (n : p ≠ dx) (rr : DpAll K G vs ds) (hl : ds.length + 1 ≤ N.length) :
    Sts K ⟨G, H, fun a => a = p ∨ a = dx⟩ (.oin p dx C [] :: (ds.map SK.dat ++ List.replicate (N.length - (ds.length + 1)) .no)) (L2.start N (.ref p :: vs)) G H := by
  have hv := rr.len
  have e : L2.start N (.ref p :: vs) = some (.ref p) :: (vs.map some ++ List.replicate (N.length - (ds.length + 1)) none) := by
    unfold L2.start
    rw [List.map_cons, List.length_cons, hv]
    rfl
  rw [e]
  refine ⟨⟨Same.refl G, g, fun _ _ _ _ e => e, fun _ o e => ⟨o, e⟩, fun _ _ e _ => e, fun x hx => ?_, tb⟩, by simp; omega, fun i => if i = 0 then [p, dx] else [], ⟨fun i j x h h' => ?_, fun i x h => ?_, fun i hi => ?_⟩, fun i k hk => ?_⟩
  · rcases hx with z | z <;> subst z
    · exact ⟨_, hp⟩
    · exact ⟨_, hd⟩
  · by_cases q : i = 0 <;> by_cases q' : j = 0 <;> simp only [q, q', if_true, if_false] at h h' <;> first | (rw [q, q']; done) | exact absurd h List.not_mem_nil | exact absurd h' List.not_mem_nil
  · by_cases q : i = 0
    · simp only [q, if_true] at h
      have : x = p ∨ x = dx := by simpa using h
      rcases this with z | z <;> subst z
      · exact ⟨gp, .inr ⟨.inl rfl, _, by rw [q]; rfl, rfl⟩⟩
      · exact ⟨gd, .inr ⟨.inr rfl, _, by rw [q]; rfl, rfl⟩⟩
    · simp only [q, if_false] at h; cases h
  · have : i ≠ 0 := by simp at hi; omega
    simp only [this, if_false]
  · cases i with
    | zero =>
      cases hk
      exact ⟨rfl, rfl, ⟨[], hp, .nil⟩, hd, n⟩
    | succ i =>
      simp only [Nat.succ_ne_zero, if_false]
      have hk' : (ds.map SK.dat ++ List.replicate (N.length - (ds.length + 1)) .no)[i]? = some k := hk
      show Sl K G H k (((vs.map some ++ List.replicate (N.length - (ds.length + 1)) none)[i]?).getD none) []
      by_cases q : i < ds.length
      · rw [List.getElem?_append_left (by simpa using q), List.getElem?_map] at hk'
        cases e : ds[i]? with
        | none => rw [e] at hk'; cases hk'
        | some d =>
          rw [e] at hk'
          cases hk'
          obtain ⟨v, e1, e2⟩ := rr.get e
          refine ⟨rfl, v, ?_, e2⟩
          rw [List.getElem?_append_left (by simp; omega), List.getElem?_map, e1]
          rfl
      · rw [List.getElem?_append_right (by simp; omega)] at hk'
        have := List.mem_of_getElem? hk'
        rw [List.mem_replicate] at this
        rw [this.2]
        exact (show ([] : List Addr) = [] from rfl)
structure MkAt (K : PySem.W.Frag) (mg : Str → Option Value) (x : Str) (C : Addr) (qual : Str) (st : Stmt) (ps : List Str) : Prop where
  ex : ∃ f fd, Fun K "__init__" qual st f fd ∧ Mk K C f ∧ mg x = some (.ref C) ∧ Binds K fd ps []
end
end Z
namespace Z
open PySem PySem.Spec L2
variable [Tabl]
/-! ### defs that raise -/
section
variable {P : Program} {w : World} {K : PySem.W.Frag} {mg : Str → Option Value} {base : Heap} {T : Sta} {k : Nat} {X : Cx} {ks k1 k2 k3 : List SK} {a b e o : Expr} {es : List Expr} {d da db : PyData} {ds ds' el : List PyData} {pos p tpos apos : Pos} {rest body : List Stmt} {Φ : Po} {C : Addr} {fs : List (Str × PyData)} {cls : Value}
theorem EV.mono {σ : St} {H : Hp} {Q Q' : VK} (h : EV X e σ H Q) (q : ∀ v H, Q v H → Q' v H) : EV X e σ H Q' := ⟨fun pins s I => wpAny_mono (h.run pins s I) (fun u s1 ⟨v, H', I', r, z⟩ => ⟨v, H', I', r, q v H' z⟩) (fun _ _ x => x)⟩
/-- an expression that raises -/
def EX (X : Cx) (ks : List SK) (e : Expr) (ks' : List SK) (cls : Value) (fs : List (Str × PyData)) : Prop :=
  ∀ W σ G H, Sts X.K W ks σ G H → ∀ Wx : WX, Takes X Wx → (∀ G2 H2 d, Sts X.K W ks' σ G2 H2 → Same G G2 → ExF X.K G2 d fs → Wx cls d σ H2) → EV X e σ H (fun _ _ => False)
theorem sd_retX (h : EX X ks e k1 cls fs) (q : Φ.ex k1 cls fs) : SD X ks (.Return (some e) pos :: rest) Φ := fun W σ G H D S M => by
  obtain ⟨⟨Wx, tk, hx⟩, _⟩ := M.ex
  exact sv_of (pss_cons (ps_ret pe_ev) pss_sv) ((h W σ G H S Wx tk fun G2 H2 d S2 _ r => hx k1 σ G2 H2 cls d fs q S2 r).mono fun _ _ z => z.elim)
theorem sd_asgX (c : CtxB cq P w K mg base T k X) (i : Nat) {x : Str} (hi : T.N[i]? = some x) (hx : Loc T.sc x) (hf : T.fn x = true ∨ T.sc.names.lookup x = some .local) (h : EX X ks e k1 cls fs) (hs : swapsWith e (some (.Name x p)) pos.line X.env = pure false) (q : Φ.ex k1 cls fs) : SD X ks (.Assign [.Name x p] e pos :: rest) Φ := fun W σ G H D S M => by
  obtain ⟨⟨Wx, tk, hx'⟩, _⟩ := M.ex
  exact sv_of (pss_cons (ps_set (nd_of c) (ix_of c hi) (loc_of c hx) pe_ev hs (fn_of' c hf)) pss_sv) ((h W σ G H S Wx tk fun G2 H2 d S2 _ r => hx' k1 σ G2 H2 cls d fs q S2 r).mono fun _ _ z => z.elim)
/-- what a def promises that may raise -/
def spPX (K : PySem.W.Frag) (R : List PyData → PyData → Prop) (Rx : List PyData → Value → List (Str × PyData) → Prop) : L2.Sp := fun vs H Q E => ∃ G ds, Same G H ∧ TbO G H ∧ DpAll K G vs ds ∧
  ((∃ d, R ds d ∧ ∀ v G2 H2, Le (pur G H) G2 H2 → Dp K G2 v d → Q v H2) ∨ ∃ cls fs, Rx ds cls fs ∧ ∀ dx G2 H2, Le (pur G H) G2 H2 → ExF K G2 dx fs → E cls dx H2)
structure FnX (P : Program) (w : World) (K : PySem.W.Frag) (mg : Str → Option Value) (base : Heap) (x : Str) (ps : List Str) (j : Nat) (sp : L2.Sp) : Prop where
  ex : ∃ f fd, FnOk P w K mg base (L2.CX P w) j f fd ps sp ∧ mg x = some (.ref f) ∧ PySem.W.keepIn K (.ref f) = true ∧ Binds K fd ps []
theorem cxOf_ctxX {N ps : List Str} {st : Stmt} {qual : Str} {f : Addr} {k : Nat} (S : FnScope N ps (defScope st)) (cdv : Value) (A : Around) (outer : List Env) (s : Shared) (H : Hp) (E : XK) (hr : Room k (A.deeper (PyProof.Rows.envOfC qual (defScope st) s.heap.objs.size f cdv))) :
    Ctx P w K mg base ⟨N, defScope st, fun _ => true⟩ k (cxOf (L2.CX P w) P w K mg base N qual (defScope st) f cdv A outer s H E) where
  hP := rfl
  hw := rfl
  hK := rfl
  hmg := rfl
  hbase := rfl
  hN := rfl
  nd := S.nd
  hs := rfl
  calm' := fun _ => rfl
  room' := fun _ => hr
  un := Nat.lt_of_le_of_lt (Nat.add_le_add_right (Nat.le_add_right _ _) _) hr.un
  po := passes_of rfl
  fn := rfl
/-- such a context stands on its own stack -/
structure StkC (X : Cx) : Prop where
  hs : X.stack = X.env :: X.outer
  hf : X.env.frame = some X.env.locals
theorem fn_sdX {R : List PyData → PyData → Prop} {Rx : List PyData → Value → List (Str × PyData) → Prop} {x : Str} {st : Stmt} {N ps : List Str} {k : Nat} (D : DefAt K mg x st ps) (S : FnScope N ps (defScope st)) (hl : ∀ ds d, R ds d → ds.length = ps.length) (hl2 : ∀ ds cls fs, Rx ds cls fs → ds.length = ps.length) (hN : ps.length ≤ N.length)
    (h : ∀ X, Ctx P w K mg base ⟨N, defScope st, fun _ => true⟩ k X → StkC X → ∀ ds d, R ds d → SD X (ds.map SK.dat ++ List.replicate (N.length - ds.length) .no) (defBody st) { nx := fun _ => d = .none, rt := fun _ d' => d' = d, rl := fun _ ds' => d = .list ds' })
    (hx : ∀ X, Ctx P w K mg base ⟨N, defScope st, fun _ => true⟩ k X → StkC X → ∀ ds cls fs, Rx ds cls fs → SD X (ds.map SK.dat ++ List.replicate (N.length - ds.length) .no) (defBody st) { nx := fun _ => False, rt := fun _ _ => False, ex := fun _ c' fs' => c' = cls ∧ fs' = fs }) :
    FnX P w K mg base x ps (k + 1) (spPX K R Rx) := by
  obtain ⟨f, fd, F, hm, hb⟩ := D.ex
  refine ⟨f, fd, ?_, hm, F.kp, hb⟩
  refine F.okX S (fun vs H Q E ⟨G, ds, _, _, r, h⟩ => ?_) (fun cdv A outer s H vs Q E hr ⟨G, ds, g, tb, r, h'⟩ => ⟨_, pss_sv, ?_⟩)
  · rw [r.len]
    rcases h with ⟨d, h, _⟩ | ⟨c, fs, h, _⟩
    · exact hl ds d h
    · exact hl2 ds c fs h
  · rcases h' with ⟨d, hR, q⟩ | ⟨cls, fs, hR, q⟩
    · have S0 := start_sts (N := N) (Le.refl g tb) r (by rw [hl ds d hR]; exact hN)
      refine h _ (cxOf_ctxX S cdv A outer s H E hr) ⟨rfl, rfl⟩ ds d hR _ _ G H _ S0 ⟨fun ks σ G' H' e S' => ?_, fun _ _ _ _ z => z.elim, fun _ _ _ _ z => z.elim, fun ks σ G' H' v d' e S' r' => ?_, fun ks σ G' H' a ds' e S' => ?_, fun _ _ _ _ _ _ _ _ z => z.elim, ⟨⟨_, takes_of rfl rfl rfl rfl, fun _ _ _ _ _ _ _ z => z.elim⟩, fun _ _ _ _ _ _ z => z.elim⟩⟩
      · exact q .non G' H' S'.le (by rw [e]; exact .non)
      · exact q v G' H' S'.le (by rw [← e]; exact r')
      · obtain ⟨G2, S2, g2, r2⟩ := S'.popFreeze
        exact q _ G2 H' S2.le (by rw [e]; exact r2)
    · have S0 := start_sts (N := N) (Le.refl g tb) r (by rw [hl2 ds cls fs hR]; exact hN)
      refine hx _ (cxOf_ctxX S cdv A outer s H E hr) ⟨rfl, rfl⟩ ds cls fs hR _ _ G H _ S0 ⟨fun _ _ _ _ z => z.elim, fun _ _ _ _ z => z.elim, fun _ _ _ _ z => z.elim, fun _ _ _ _ _ _ z => z.elim, fun _ _ _ _ _ _ z => z.elim, fun _ _ _ _ _ _ _ _ z => z.elim, ⟨⟨_, takes_of rfl rfl rfl rfl, fun ks σ G' H' c' dx fs' e S' r' => ?_⟩, fun _ _ _ _ _ _ z => z.elim⟩⟩
      obtain ⟨rfl, rfl⟩ := e
      exact q dx G' H' S'.le r'
section
variable {x : Str} {ps : List Str} {j : Nat} {R : List PyData → PyData → Prop} {Rx : List PyData → Value → List (Str × PyData) → Prop}
/-- a call that raises -/
theorem ex_call (c : Ctx P w K mg base T k X) (F : FnX P w K mg base x ps j (spPX K R Rx)) (hj : j ≤ k) (hg : T.sc.names.lookup x = some .globalImplicit) (ha : AD X ks (e :: es) k1 ds) (hR : Rx ds cls fs) (hdb : (x == ("__debug__" : Str)) = false)
    (he : starEach (e :: es) X.env = (false, eval e X.env) :: starEach es X.env) (hpl : (backTo pos (starEach es X.env)).any (·.1) = false) : EX X ks (.Call (.Name x p) (e :: es) [] pos) k1 cls fs := fun W σ G H S Wx tk q => by
  obtain ⟨f, fd, F, hm, hk, hb⟩ := F.ex
  have h1 := c.hP
  have h2 := c.hw
  have h3 := c.hK
  have h4 := c.hmg
  have h5 := c.hbase
  subst h1 h2 h3 h4 h5
  refine ev_of (pe_callS F (c.room.mono hj) (gl_of c hg) hm hk hb (fun σ => passAt tk σ) pa_av hdb he hpl) (ha W σ G H S _ fun vs G1 H1 S1 g1 r1 => ?_)
  exact ⟨G1, ds, S1.gh, S1.le.tb, r1, .inr ⟨cls, fs, hR, fun dx G2 H2 l r2 => q G2 H2 dx (S1.step l) (g1.trans l.g) r2⟩⟩
end
/-! ### raise -/
/-- an exception class without an __init__ of its own -/
structure Exc0 (K : PySem.W.Frag) (mg : Str → Option Value) (x : Str) (C : Addr) : Prop where
  gC : mg x = some (.ref C)
  ex : ∃ B newId initId bmB, ExcBaseFacts B newId initId bmB ∧ PySem.W.excIn K C bmB newId = true
  kC : PySem.W.keepIn K (.ref C) = true
  exC : PySem.W.subIn K (.ref C) (.type "BaseException") = some true
  tyC : PySem.W.typeIn K (.ref C) = some (.type "type")
/-- raise X('m') -/
theorem sd_raise0 (c : Ctx P w K mg base T k X) {x : Str} {m : Str} {j : Nat} {p2 pos' : Pos} (E : Exc0 K mg x C) (hg : T.sc.names.lookup x = some .globalImplicit) (hdb : (x == ("__debug__" : Str)) = false) (q : Φ.ex ks (.ref C) []) :
    SD X ks (.Raise (some (.Call (.Name x p) [.Constant (.str m) j p2] [] pos)) none pos' :: rest) Φ := fun W σ G H D S M => by
  obtain ⟨⟨Wx, tk, hx⟩, _⟩ := M.ex
  obtain ⟨B, newId, initId, bmB, F, qq⟩ := E.ex
  have hK := c.hK
  subst hK
  refine sv_of (pss_cons (ps_raise c.calm tk (pmk_own F qq (by rw [c.hmg]; exact E.gC) E.kC (raises_own E.exC E.tyC) (gl_of c hg) hdb)) pss_sv) ?_
  exact hx ks σ G H (.ref C) none [] q S rfl
/-- an exception class whose __init__ sets one field -/
structure Exc1 (P : Program) (w : World) (K : PySem.W.Frag) (mg : Str → Option Value) (base : Heap) (x f : Str) (C : Addr) (j : Nat) : Prop where
  gC : mg x = some (.ref C)
  oc : OexC K C
  ini : ∃ fI fd ps, PySem.W.findIn K (.ref C) "__init__" = some (some (.ref fI)) ∧ PySem.W.typeIn K (.ref fI) = some (.type "function") ∧ Binds K fd ps [] ∧
    FnOk P w K mg base (L2.CX P w) j fI fd ps (fun vs H Q _ => ∃ a v, vs = [.ref a, v] ∧ H a = some (exo a C none) ∧ ∀ dx, H dx = none → dx ≠ a → Q .non (upd (upd H dx (exd dx [(f, v)])) a (exo a C (some dx))))
/-- the same, of the text -/
structure Exc1At (K : PySem.W.Frag) (mg : Str → Option Value) (x f : Str) (C : Addr) (qual : Str) (st : Stmt) (ps : List Str) : Prop where
  gC : mg x = some (.ref C)
  oc : OexC K C
  no : PySem.W.findIn K (.ref C) f = some none
  ini : ∃ fI fd, PySem.W.findIn K (.ref C) "__init__" = some (some (.ref fI)) ∧ PySem.W.typeIn K (.ref fI) = some (.type "function") ∧ Binds K fd ps [] ∧ Fun K "__init__" qual st fI fd
theorem exc1_of {x f y z qual : Str} {st : Stmt} {p1 p2 p3 p4 : Pos} (E : Exc1At K mg x f C qual st [y, z]) (S : FnScope [y, z] [y, z] (defScope st)) (hb : defBody st = [.Assign [.Attribute (.Name y p1) f p2] (.Name z p3) p4])
    (hy : (defScope st).names.lookup y = some .local) (hz : (defScope st).names.lookup z = some .local) (h1 : (y == ("__debug__" : Str)) = false) (h2 : (y == ("__classdict__" : Str)) = false) (h3 : (z == ("__debug__" : Str)) = false) (h4 : (z == ("__classdict__" : Str)) = false)
    (hs : ∀ env : Env, env.scope = defScope st → swapsWith (.Name z p3) (some (.Attribute (.Name y p1) f p2)) p4.line env = pure false) : Exc1 P w K mg base x f C 1 := by
  obtain ⟨gC, oc, no, fI, fd, hI, tI, hbd, F⟩ := E
  refine ⟨gC, oc, fI, fd, _, hI, tI, hbd, ?_⟩
  refine F.okX S (fun vs H Q E h => ?_) (fun cdv A outer s H vs Q E hr h => ⟨tSeq (tOst K f (tVar 0) (tVar 1)) tNext, ?_, ?_⟩)
  · obtain ⟨a, v, rfl, _⟩ := h
    rfl
  · rw [hb]
    exact pss_cons (ps_ost (pe_var rfl (.inl hy) h1 h2) (pe_var rfl (.inl hz) h3 h4) (hs _ rfl)) pss_nil
  · obtain ⟨a, v, rfl, ha, q⟩ := h
    exact ⟨v, rfl, .ref a, rfl, a, C, rfl, oc, no, .inl ⟨ha, fun dx n ne => q dx n ne⟩⟩
/-- raise X(e) -/
theorem sd_raise1 (c : Ctx P w K mg base T k X) {x f : Str} {j : Nat} {pos' : Pos} (E : Exc1 P w K mg base x f C j) (hj : j + 1 ≤ k) (hg : T.sc.names.lookup x = some .globalImplicit) (h : ED X ks e k1 d) (hdb : (x == ("__debug__" : Str)) = false)
    (he : starEach [e] X.env = (false, eval e X.env) :: starEach [] X.env) (q : Φ.ex k1 (.ref C) [(f, d)]) :
    SD X ks (.Raise (some (.Call (.Name x p) [e] [] pos)) none pos' :: rest) Φ := fun W σ G H D S M => by
  obtain ⟨⟨Wx, tk, hx⟩, _⟩ := M.ex
  obtain ⟨gC, oc, fI, fd, ps, hI, tI, hb, F⟩ := E
  have h1 := c.hP
  have h2 := c.hw
  have h3 := c.hK
  have h4 := c.hmg
  have h5 := c.hbase
  subst h1 h2 h3 h4 h5
  refine sv_of (pss_cons (ps_raise c.calm tk (pmk_oex oc hI tI F (c.room.mono hj) hb .nil passL (gl_of c hg) gC (pa_cons pe_ev pa_nil he) hdb he rfl)) pss_sv) ?_
  refine h W σ G H S _ fun v G1 H1 S1 g1 r1 => ⟨Nat.le_of_ble_eq_true rfl, fun a ha => ⟨a, v, rfl, upd_same, fun dx n ne => ⟨rfl, dx, [(f, v)], upd_same, ?_, ?_, ?_⟩⟩⟩
  · rw [upd_ne ne, upd_same]
  · rw [upd_ne ne] at n; exact n
  · have n' : H1 dx = none := by rw [upd_ne ne] at n; exact n
    have e3 : upd (del (upd (upd (upd H1 a (exo a C none)) dx (exd dx [(f, v)])) a (exo a C (some dx))) a) dx (.xd [(f, v)]) = upd H1 dx (.xd [(f, v)]) := by
      funext b
      by_cases q1 : b = dx
      · subst q1; rw [upd_same, upd_same]
      · rw [upd_ne q1, upd_ne q1]
        by_cases q2 : b = a
        · subst q2; rw [del_same, ha]
        · rw [del_ne q2, upd_ne q2, upd_ne q1, upd_ne q2]
    rw [e3]
    have l : Lp G1 H1 (upd G1 dx (.xd [(f, v)])) (upd H1 dx (.xd [(f, v)])) := Lp.new S1.gh n'
    refine hx k1 σ _ _ (.ref C) (some dx) [(f, d)] q (S1.pure l) ⟨_, upd_same, .cons ⟨rfl, Dp.mono l.g r1⟩ .nil⟩
end
end Z
namespace Z
open PySem PySem.Spec L2
variable [Tabl]
/-! ### try .. except C as e -/
section
variable {P : Program} {w : World} {K : PySem.W.Frag} {mg : Str → Option Value} {base : Heap} {T : Sta} {k : Nat} {X Y : Cx} {ks k1 k2 k3 : List SK} {b e o : Expr} {es : List Expr} {d' da db : PyData} {ds ds' el : List PyData} {pos p tpos apos : Pos} {rest body : List Stmt} {Φ : Po} {C a : Addr} {d : Option Addr} {fs : List (Str × PyData)} {cls : Value} {oe : Obj} {pn : List (Addr × Obj)} {cq : Bool}
/-- the exception that a suite holds -/
def excC (a : Addr) (d : Option Addr) (fs : List (Str × PyData)) : Cus :=
  ⟨fun K G H o as => as = [] ∧ o = some (.ref a) ∧ ExF K G d fs, false, fun K G H G2 H2 o as e ⟨x, y, z⟩ _ => ⟨x, y, z.mono e⟩, fun K G H o as ⟨x, _⟩ => by subst x; simp⟩
theorem CtxB.tr (c : Ctx P w K mg base T k X) {xe : Value → Shared → Prop} (po : PassesOwn (model X.prog X.w) X.A X.env xe) : Ctx P w K mg base T k (X.tr pn xe) := ⟨c.hP, c.hw, c.hK, c.hmg, c.hbase, c.hN, c.nd, c.hs, c.calm', c.room', c.un, po, c.fn⟩
theorem CtxB.suite (c : Ctx P w K mg base T k X) : CtxB false P w K mg base T k (X.suite a pn) := ⟨c.hP, c.hw, c.hK, c.hmg, c.hbase, c.hN, c.nd, c.hs, fun z => Bool.noConfusion z, fun z => Bool.noConfusion z, c.un, PassesOwn.never, c.fn⟩
/-! ### in the suite -/
structure ExcI (K : PySem.W.Frag) (C : Addr) : Prop where
  hcl : (PySem.W.clsIn K C).isSome = true
  hga : PySem.W.findIn K (.ref C) "__getattribute__" = some (some (.builtin "BaseException.__getattribute__"))
  hgt : PySem.W.findIn K (.ref C) "__getattr__" = some none
  hsub : PySem.W.subIn K (.ref C) (.type "BaseException") = some true
  ha : PySem.W.findIn K (.ref C) "__class__" = some (some (.builtin "object.__class__"))
  hn : PySem.W.specialIn K (.builtin "object.__class__") "__get__" = some (some (.builtin "getset_descriptor.__get__"))
  ht : PySem.W.takesIn K (.builtin "object.__class__") = some true
  hm : PySem.W.mroIn K C (.type "object") = some true
  hd : PySem.W.hasDictIn K C = true
theorem exc_inst {σ : St} {H : Hp} {s : Shared} {pins : List (Addr × Obj)} (I : Inv (Y.suite a ((a, oe) :: pn)) pins σ H s) (hz : Zc (.ref C) d oe) (hf : ∃ vs, oe.data = .fields vs) (hd : d = none ∨ ∃ dd fs, d = some dd ∧ H dd = some (.xd fs)) : ∃ od, PySem.W.InstAt s.heap a oe C od := by
  obtain ⟨ha, _⟩ := I.pin (a, oe) (List.mem_append_left _ List.mem_cons_self)
  obtain ⟨vs, hv⟩ := hf
  rcases hd with rfl | ⟨dd, fs, rfl, ea⟩
  · exact ⟨none, ha, hz.1, by unfold PySem.W.notCls; rw [hv] <;> rfl, by rw [hz.2]; trivial⟩
  · have hx : ObjOk Y.prog Y.w H s.heap dd (.xd fs) := I.hok dd _ ea
    obtain ⟨mA, hns, hr⟩ := hx
    obtain ⟨od, ho, hl⟩ := lookIn_ns hns
    exact ⟨some od, ha, hz.1, by unfold PySem.W.notCls; rw [hv] <;> rfl, by rw [hz.2]; exact ho⟩
def rIsX (K : PySem.W.Frag) (C a : Addr) (d : Option Addr) : List V → Hp → VK → Prop := fun xs H Q => ∃ (c : V) (u : Value) (b : Bool), xs = [.ref a, c] ∧ ClsV c u ∧ PySem.W.kitOne K (.ref C) u = some b ∧ (d = none ∨ ∃ dd fs, d = some dd ∧ H dd = some (.xd fs)) ∧ Q (.bl b) H
def rIsXT (K : PySem.W.Frag) (C a : Addr) (d : Option Addr) : List V → Hp → VK → Prop := fun xs H Q => ∃ (tp : Addr) (cs : List V) (us : List Value) (b : Bool), xs = [.ref a, .ref tp] ∧ H tp = some (.tup cs) ∧ Paired ClsV cs us ∧ PySem.W.kitAny K (.ref C) us = some b ∧ (d = none ∨ ∃ dd fs, d = some dd ∧ H dd = some (.xd fs)) ∧ Q (.bl b) H
theorem call_isX (E : ExcI Y.K C) (hz : Zc (.ref C) d oe) (hf : ∃ vs, oe.data = .fields vs) : CallR (Y.suite a ((a, oe) :: pn)) (.builtin "isinstance") (rIsX Y.K C a d) := by
  intro pins s σ H xs us Q I r h
  obtain ⟨c, u, b, rfl, k, e, hd, q⟩ := h
  obtain ⟨u1, u2, rfl, r1, r2⟩ := vals2 r
  have e2 := k.eq r2
  subst e2
  cases (show u1 = Value.ref a from r1)
  obtain ⟨od, J⟩ := exc_inst I hz hf hd
  exact PySem.W.kia_one (PySem.W.kitx_exc E.hcl E.hga E.hgt E.hsub E.ha E.hn E.ht E.hm) I.kIn J e (fun z => nomatch z) fun tk => ⟨.bl b, H, I.tok tk, rfl, q⟩
theorem call_isXT (E : ExcI Y.K C) (hz : Zc (.ref C) d oe) (hf : ∃ vs, oe.data = .fields vs) : CallR (Y.suite a ((a, oe) :: pn)) (.builtin "isinstance") (rIsXT Y.K C a d) := by
  intro pins s σ H xs us Q I r h
  obtain ⟨tp, cs, ws, b, rfl, hT, k, e, hd, q⟩ := h
  obtain ⟨u1, u2, rfl, r1, r2⟩ := vals2 r
  cases (show u1 = Value.ref a from r1)
  cases (show u2 = Value.ref tp from r2)
  obtain ⟨od, J⟩ := exc_inst I hz hf hd
  obtain ⟨_, its, rv, o, h1, h2, n, h3⟩ := (show ObjOk Y.prog Y.w H s.heap tp (.tup cs) from I.hok tp _ hT)
  have e3 := ClsV.all k rv
  subst e3
  obtain ⟨oc, od', dt, sl⟩ := o
  simp only at h2 h3
  subst h2 h3
  exact PySem.W.kia_tup (PySem.W.kitx_exc E.hcl E.hga E.hgt E.hsub E.ha E.hn E.ht E.hm) I.kIn J h1 e (fun z => nomatch z) fun tk => ⟨.bl b, H, I.tok tk, rfl, q⟩
/-- names of classes -/
def CsD (X : Cx) (es : List Expr) (us : List Value) : Prop := ∃ (t : TA) (vs : List V), PA X es t ∧ Paired ClsV vs us ∧ ∀ σ H Q, Q vs H → t σ H Q
theorem cs_nil : CsD X [] [] := ⟨tNil, [], pa_nil, .nil, fun _ _ _ q => q⟩
theorem cs_own (c : CtxB cq P w K mg base T k X) {y : Str} {D : Addr} {us : List Value} (hy : T.sc.names.lookup y = some .globalImplicit) (hm : mg y = some (.ref D)) (hd : (y == ("__debug__" : Str)) = false) (h : CsD X es us) (he : starEach (.Name y p :: es) X.env = (false, eval (.Name y p) X.env) :: starEach es X.env) : CsD X (.Name y p :: es) (.ref D :: us) := by
  obtain ⟨t, vs, a, b, q⟩ := h
  exact ⟨_, V.ref D :: vs, pa_cons (pe_glob (v := .ref D) (gl_of c hy) (by rw [c.hmg]; exact hm) rfl hd) a he, .cons (.own D) b, fun σ H Q z => q σ H _ z⟩
theorem cs_ty (c : CtxB cq P w K mg base T k X) {y : Str} {tn : String} {us : List Value} (hy : T.sc.names.lookup y = some .globalImplicit) (hm : mg y = none) (hv : bootBuiltins y = some (.type tn)) (hn : y ≠ "__name__") (hd : (y == ("__debug__" : Str)) = false) (h : CsD X es us) (he : starEach (.Name y p :: es) X.env = (false, eval (.Name y p) X.env) :: starEach es X.env) : CsD X (.Name y p :: es) (.type tn :: us) := by
  obtain ⟨t, vs, a, b, q⟩ := h
  exact ⟨_, V.ty tn :: vs, pa_cons (pe_bltn (v := .ty tn) (gl_of c hy) (by rw [c.hmg]; exact hm) hv rfl hn hd) a he, .cons (.ty tn) b, fun σ H Q z => q σ H _ z⟩
theorem exc_d {G H : Hp} (g : Same G H) (h : ExF K G d fs) : d = none ∨ ∃ dd fs', d = some dd ∧ H dd = some (.xd fs') := by
  cases d with
  | none => exact .inl rfl
  | some dd => obtain ⟨vs, a, _⟩ := h; exact .inr ⟨dd, vs, rfl, g _ _ a⟩
/-- isinstance(e, C) -/
theorem ed_isX (c : CtxB cq P w K mg base T k (Y.suite a ((a, oe) :: pn))) (E : ExcI K C) (hz : Zc (.ref C) d oe) (hf : ∃ vs, oe.data = .fields vs) (i : Nat) {n : Str} {u : Value} {bb : Bool} {q q1 : Pos} (hN : T.N[i]? = some n) (hv : Vis T.sc n) (hk : ks[i]? = some (.cus (excC a d fs)))
    (hg : T.sc.names.lookup ("isinstance" : Str) = some .globalImplicit) (hm : mg "isinstance" = none) (hc : CsD (Y.suite a ((a, oe) :: pn)) [b] [u]) (hb : PySem.W.kitOne K (.ref C) u = some bb) (hd : (n == ("__debug__" : Str)) = false) (hcd : (n == ("__classdict__" : Str)) = false)
    (h1 : starEach [.Name n q1, b] Y.env = (false, eval (.Name n q1) Y.env) :: starEach [b] Y.env) (hpl : (backTo pos (starEach [b] Y.env)).any (·.1) = false) :
    ED (Y.suite a ((a, oe) :: pn)) ks (.Call (.Name "isinstance" q) [.Name n q1, b] [] pos) ks (.bool bb) := fun W σ G H S Q qq => by
  obtain ⟨t, vs, pa, pv, ht⟩ := hc
  have hK : Y.K = K := c.hK
  subst hK
  refine ev_of (pe_callB (call_isX E hz hf) (gl_of c hg) (by rw [c.hmg]; exact hm) PyProof.Rows.boot_isinstance (pa_cons (pe_var (ix_of c hN) (vis_of c hv) hd hcd) pa h1) (he := h1) (hpl := hpl)) ?_
  obtain ⟨as, z⟩ := S.at hk
  obtain ⟨_, e1, r⟩ := z
  refine ⟨.ref a, S.there (List.getElem?_eq_some_iff.mp hk).1 e1, ht σ H _ ?_⟩
  cases pv with
  | cons x y =>
    cases y
    exact ⟨_, u, bb, rfl, x, hb, exc_d S.gh r, qq _ G H S (Same.refl G) (.bl bb)⟩
/-- isinstance(e, (C, ..)) -/
theorem ed_isXT (c : CtxB cq P w K mg base T k (Y.suite a ((a, oe) :: pn))) (E : ExcI K C) (hz : Zc (.ref C) d oe) (hf : ∃ vs, oe.data = .fields vs) (i : Nat) {n : Str} {us : List Value} {bb : Bool} {x1} {q q1 q2 : Pos} (hN : T.N[i]? = some n) (hv : Vis T.sc n) (hk : ks[i]? = some (.cus (excC a d fs)))
    (hg : T.sc.names.lookup ("isinstance" : Str) = some .globalImplicit) (hm : mg "isinstance" = none) (hc : CsD (Y.suite a ((a, oe) :: pn)) es us) (hl : us.length ≤ 100) (hb : PySem.W.kitAny K (.ref C) us = some bb) (hd : (n == ("__debug__" : Str)) = false) (hcd : (n == ("__classdict__" : Str)) = false)
    (h1 : starEach [.Name n q1, .Tuple es x1 q2] Y.env = (false, eval (.Name n q1) Y.env) :: starEach [.Tuple es x1 q2] Y.env) (h2 : starEach [.Tuple es x1 q2] Y.env = (false, eval (.Tuple es x1 q2) Y.env) :: starEach [] Y.env) (hpl : (backTo pos (starEach [.Tuple es x1 q2] Y.env)).any (·.1) = false) :
    ED (Y.suite a ((a, oe) :: pn)) ks (.Call (.Name "isinstance" q) [.Name n q1, .Tuple es x1 q2] [] pos) ks (.bool bb) := fun W σ G H S Q qq => by
  obtain ⟨t, vs, pa, pv, ht⟩ := hc
  have hK : Y.K = K := c.hK
  subst hK
  refine ev_of (pe_callB (call_isXT E hz hf) (gl_of c hg) (by rw [c.hmg]; exact hm) PyProof.Rows.boot_isinstance (pa_cons (pe_var (ix_of c hN) (vis_of c hv) hd hcd) (pa_cons (pe_tup pa) pa_nil h2) h1) (he := h1) (hpl := hpl)) ?_
  obtain ⟨as, z⟩ := S.at hk
  obtain ⟨_, e1, r⟩ := z
  refine ⟨.ref a, S.there (List.getElem?_eq_some_iff.mp hk).1 e1, ht σ H _ ⟨?_, fun p np => ?_⟩⟩
  · rw [Paired.length pv]
    exact Nat.le_trans hl (Nat.le_of_ble_eq_true rfl)
  · have l : Lp G H (upd G p (.tup vs)) (upd H p (.tup vs)) := Lp.new S.gh np
    exact ⟨p, vs, us, bb, rfl, upd_same, pv, hb, exc_d (S.pure l).gh (r.mono l.g), qq _ _ _ (S.pure l) l.g (.bl bb)⟩
/-- e.f -/
theorem ed_excF (c : CtxB cq P w K mg base T k (Y.suite a ((a, oe) :: pn))) (E : ExcI K C) (hz : Zc (.ref C) d oe) (hf : ∃ vs, oe.data = .fields vs) (i : Nat) {n f : Str} {q1 : Pos} (hN : T.N[i]? = some n) (hv : Vis T.sc n) (hk : ks[i]? = some (.cus (excC a d fs))) (hno : PySem.W.findIn K (.ref C) f = some none) (hl : fs.lookup f = some d')
    (hd : (n == ("__debug__" : Str)) = false) (hcd : (n == ("__classdict__" : Str)) = false) (hb : attributeBase (.Name n q1) f Y.env (eval (.Name n q1) Y.env) = eval (.Name n q1) Y.env) :
    ED (Y.suite a ((a, oe) :: pn)) ks (.Attribute (.Name n q1) f pos) ks d' := fun W σ G H S Q qq => by
  have hK : Y.K = K := c.hK
  subst hK
  refine ev_of (pe_xf ⟨E.hga, E.hgt, E.hsub, E.hd⟩ hno hz hf (pe_var (ix_of c hN) (vis_of c hv) hd hcd) hb) ?_
  obtain ⟨as, z⟩ := S.at hk
  obtain ⟨_, e1, r⟩ := z
  cases d with
  | none =>
    have r : fs = [] := r
    subst r
    cases hl
  | some dd =>
    obtain ⟨vs, a1, a2⟩ := r
    obtain ⟨v, b1, b2⟩ := a2.get hl
    exact ⟨.ref a, S.there (List.getElem?_eq_some_iff.mp hk).1 e1, rfl, rfl, dd, vs, v, rfl, S.gh _ _ a1, b1, qq v G H S (Same.refl G) b2⟩
end
end Z
namespace Z
open PySem PySem.Spec L2
/-! ### defs that are handed an instance first -/
end Z
namespace Z
open PySem PySem.Spec L2
/-! ### a list that is lent -/
end Z
namespace Z
open PySem PySem.Spec L2
variable [Tabl]
section
variable {P : Program} {w : World} {K : PySem.W.Frag} {mg : Str → Option Value} {base : Heap} {T : Sta} {k : Nat} {X : Cx} {ks k1 k2 k3 : List SK} {a b e o : Expr} {es : List Expr} {d da db : PyData} {ds ds' el cs : List PyData} {pos p tpos apos : Pos} {rest : List Stmt} {Φ : Po} {C D : Addr} {fs : List (Str × PyData)}
/-! ### is an exception of a class one of another -/
theorem kit_ref {bb : Bool} (hc : (PySem.W.clsIn K D).isSome = true) (ht : PySem.W.typeIn K (.ref D) = some (.type "type")) (hs : PySem.W.subIn K (.ref C) (.ref D) = some bb) (hr : PySem.W.subIn K (.ref C) (.ref C) = some true) : PySem.W.kitOne K (.ref C) (.ref D) = some bb := by
  unfold PySem.W.kitOne
  by_cases q : (Value.ref C == Value.ref D) = true
  · have e : C = D := Value.ref.inj (beq_iff_eq.mp q)
    subst e
    rw [hs] at hr
    cases hr
    rw [if_pos q]
  · rw [if_neg q]
    show (if ((PySem.W.clsIn K D).isSome && PySem.W.typeIn K (.ref D) == some (.type "type")) = true then PySem.W.subIn K (.ref C) (.ref D) else none) = some bb
    rw [if_pos (by rw [hc, ht]; rfl)]
    exact hs
theorem kit_ve {bb : Bool} (hs : PySem.W.subIn K (.ref C) (.type "ValueError") = some bb) : PySem.W.kitOne K (.ref C) (.type "ValueError") = some bb := by
  unfold PySem.W.kitOne
  rw [if_neg (by intro q; exact absurd (beq_iff_eq.mp q) (fun z => nomatch z))]
  show (if PySem.W.kitMeta "ValueError" = true then PySem.W.subIn K (.ref C) (.type "ValueError") else none) = some bb
  rw [if_pos (by decide +kernel)]
  exact hs
theorem kits_cons {c : Value} {us : List Value} (h : PySem.W.kitOne K (.ref C) c = some false) {bb : Bool} (hr : PySem.W.kitAny K (.ref C) us = some bb) : PySem.W.kitAny K (.ref C) (c :: us) = some bb := kitAny_cons h (fun _ => hr) (fun z => by cases z)
end
end Z
namespace Z
open PySem PySem.Spec L2
/-! ### argument lists without stars -/
/-! ### a def that draws, of which only a word is told -/
end Z
namespace Z
open PySem PySem.Spec L2
/-! ### an index into what raises -/
end Z
namespace Z
open PySem PySem.Spec L2
/-! ### texts as data -/
end Z
namespace Z
open PySem PySem.Spec L2
variable [Tabl]
/-! ### an instance of our own that changes, with a list of lists in a field -/
structure RdA where
  a : Addr
  dx : Addr
  t : Addr
  l : List Addr
def RdA.ls (A : RdA) : List Addr := A.a :: A.dx :: A.t :: A.l
structure RdS where
  row : Int
  last : Int
  told : List (List PyData)
def rdF (A : RdA) (s : RdS) : List (Str × V) := [("row", .int s.row), ("last", .int s.last), ("told", .ref A.t)]
structure RdAt (K : PySem.W.Frag) (G H : Hp) (C : Addr) (A : RdA) (s : RdS) : Prop where
  nd : A.ls.Nodup
  len : A.l.length = s.told.length
  ha : H A.a = some (.ins C A.dx (rdF A s))
  hx : H A.dx = some (.own A.a)
  ht : H A.t = some (.lst (A.l.map V.ref))
  hl : ∀ (j : Nat) (x : Addr) (ds : List PyData), A.l[j]? = some x → s.told[j]? = some ds → ∃ v, H x = some (.lst v) ∧ DpAll K G v ds
section
variable {K : PySem.W.Frag} {G H G2 H2 : Hp} {C : Addr} {A : RdA} {s : RdS}
theorem RdAt.move (r : RdAt K G H C A s) (e : Same G G2) (k : ∀ a ∈ A.ls, ∀ u, H a = some u → H2 a = some u) : RdAt K G2 H2 C A s := ⟨r.nd, r.len, k _ (by simp [RdA.ls]) _ r.ha, k _ (by simp [RdA.ls]) _ r.hx, k _ (by simp [RdA.ls]) _ r.ht, fun j x ds h1 h2 => by
  obtain ⟨v, e1, e2⟩ := r.hl j x ds h1 h2
  exact ⟨v, k x (by have := List.mem_of_getElem? h1; simp [RdA.ls, this]) _ e1, DpAll.mono e e2⟩⟩
variable {W : Wd} {ks : List SK} {σ : St} {i : Nat} {k k' : SK} {as bs : List Addr}
end
end Z
namespace Z
open PySem PySem.Spec L2
/-! ### things of our own, frozen together -/
end Z
namespace Z
open PySem PySem.Spec L2
/-! ### such an instance is made -/
end Z
namespace Z
open PySem PySem.Spec L2
variable [Tabl]
/-! ### defs that raise, by cases -/
def spO (K : PySem.W.Frag) {ι : Type} (A : ι → List PyData → Prop) (O : ι → PyData → Prop) (Ox : ι → Value → List (Str × PyData) → Prop) : L2.Sp := fun vs H Q E => ∃ G ds i, Same G H ∧ TbO G H ∧ DpAll K G vs ds ∧ A i ds ∧
  (∀ d v G2 H2, O i d → Le (pur G H) G2 H2 → Dp K G2 v d → Q v H2) ∧ ∀ cls fs dx G2 H2, Ox i cls fs → Le (pur G H) G2 H2 → ExF K G2 dx fs → E cls dx H2
section
variable {P : Program} {w : World} {K : PySem.W.Frag} {mg : Str → Option Value} {base : Heap} {T : Sta} {k : Nat} {X : Cx} {ks k1 k2 k3 : List SK} {a b e o : Expr} {es : List Expr} {d da db : PyData} {ds ds' el cs : List PyData} {pos p tpos apos : Pos} {rest : List Stmt} {Φ : Po} {x f : Str} {ι : Type} {A : ι → List PyData → Prop} {O : ι → PyData → Prop} {Ox : ι → Value → List (Str × PyData) → Prop} {ps : List Str} {j : Nat}
theorem fn_sdO {st : Stmt} {N ps : List Str} {k : Nat} (D : DefAt K mg x st ps) (S : FnScope N ps (defScope st)) (hl : ∀ i ds, A i ds → ds.length = ps.length) (hN : ps.length ≤ N.length)
    (h : ∀ X, Ctx P w K mg base ⟨N, defScope st, fun _ => true⟩ k X → StkC X → ∀ i ds, A i ds → SD X (ds.map SK.dat ++ List.replicate (N.length - ds.length) .no) (defBody st) { nx := fun _ => O i .none, rt := fun _ d' => O i d', rl := fun _ ds' => O i (.list ds'), ex := fun _ c' fs' => Ox i c' fs' }) :
    FnX P w K mg base x ps (k + 1) (spO K A O Ox) := by
  obtain ⟨f, fd, F, hm, hb⟩ := D.ex
  refine ⟨f, fd, ?_, hm, F.kp, hb⟩
  refine F.okX S (fun vs H Q E ⟨G, ds, i, _, _, r, h, _⟩ => by rw [r.len]; exact hl i ds h) (fun cdv Ar outer s H vs Q E hr ⟨G, ds, i, g, tb, r, hA, q, qx⟩ => ⟨_, pss_sv, ?_⟩)
  have S0 := start_sts (N := N) (Le.refl g tb) r (by rw [hl i ds hA]; exact hN)
  refine h _ (cxOf_ctxX S cdv Ar outer s H E hr) ⟨rfl, rfl⟩ i ds hA _ _ G H _ S0 ⟨fun ks σ G' H' e S' => ?_, fun _ _ _ _ z => z.elim, fun _ _ _ _ z => z.elim, fun ks σ G' H' v d' e S' r' => ?_, fun ks σ G' H' a ds' e S' => ?_, fun _ _ _ _ _ _ _ _ z => z.elim, ⟨⟨_, takes_of rfl rfl rfl rfl, fun ks σ G' H' c' dx fs' e S' r' => ?_⟩, fun _ _ _ _ _ _ z => z.elim⟩⟩
  · exact q .none .non G' H' e S'.le .non
  · exact q d' v G' H' e S'.le r'
  · obtain ⟨G2, S2, g2, r2⟩ := S'.popFreeze
    exact q _ _ G2 H' e S2.le r2
  · exact qx c' fs' dx G' H' e S'.le r'
/-- f(e, ..) as a statement -/
theorem sd_exprO (c : Ctx P w K mg base T k X) {i : ι} (F : FnX P w K mg base x ps j (spO K A O Ox)) (hj : j ≤ k) (hg : T.sc.names.lookup x = some .globalImplicit) (ha : AD X ks (e :: es) k1 ds) (hA : A i ds) (hO : (∃ d, O i d) → SD X k1 rest Φ) (hX : ∀ cls fs, Ox i cls fs → Φ.ex k1 cls fs) (hdb : (x == ("__debug__" : Str)) = false)
    (he : starEach (e :: es) X.env = (false, eval e X.env) :: starEach es X.env) (hpl : (backTo pos (starEach es X.env)).any (·.1) = false) {pos' : Pos} (hs : swapsWith (.Call (.Name x p) (e :: es) [] pos) none pos'.line X.env = pure false) :
    SD X ks (.Expr (.Call (.Name x p) (e :: es) [] pos) pos' :: rest) Φ := fun W σ G H D S M => by
  obtain ⟨f, fd, F, hm, hk, hb⟩ := F.ex
  have h1 := c.hP
  have h2 := c.hw
  have h3 := c.hK
  have h4 := c.hmg
  have h5 := c.hbase
  subst h1 h2 h3 h4 h5
  obtain ⟨⟨Wx, tk, hx⟩, _⟩ := M.ex
  refine sv_of (pss_cons (ps_expr (pe_callS F (c.room.mono hj) (gl_of c hg) hm hk hb (fun σ => passAt tk σ) pa_av hdb he hpl) hs) pss_sv) ?_
  refine ha W σ G H S _ fun vs G1 H1 S1 g1 r1 => ?_
  exact ⟨G1, ds, i, S1.gh, S1.le.tb, r1, hA, fun d v G2 H2 hO' l r2 => hO ⟨d, hO'⟩ W σ G2 H2 D (S1.step l) M, fun cls fs dx G2 H2 hx' l r2 => hx k1 σ G2 H2 cls dx fs (hX cls fs hx') (S1.step l) r2⟩
/-- such a def, of whose outcome more is known -/
theorem FnX.of (F : FnX P w K mg base x ps j (spO K A O Ox)) {R : List PyData → PyData → Prop} {Rx : List PyData → Value → List (Str × PyData) → Prop} (hR : ∀ ds d, R ds d → ∃ i, A i ds ∧ (∀ d', O i d' → d' = d) ∧ ∀ c f, ¬ Ox i c f)
    (hX : ∀ ds c f, Rx ds c f → ∃ i, A i ds ∧ (∀ d, ¬ O i d) ∧ ∀ c' f', Ox i c' f' → c' = c ∧ f' = f) : FnX P w K mg base x ps j (spPX K R Rx) := by
  obtain ⟨f, fd, F, hm, hk, hb⟩ := F.ex
  refine ⟨f, fd, F.imp fun vs H Q E ⟨G, ds, g, tb, r, h⟩ => ?_, hm, hk, hb⟩
  rcases h with ⟨d, h, q⟩ | ⟨c, fs, h, q⟩
  · obtain ⟨i, h1, h2, h3⟩ := hR ds d h
    exact ⟨G, ds, i, g, tb, r, h1, fun d' v G2 H2 o l r2 => q v G2 H2 l (by rw [← h2 d' o]; exact r2), fun c f _ _ _ z => absurd z (h3 c f)⟩
  · obtain ⟨i, h1, h2, h3⟩ := hX ds c fs h
    refine ⟨G, ds, i, g, tb, r, h1, fun d' v G2 H2 o => absurd o (h2 d'), fun c' f' dx G2 H2 z l r2 => ?_⟩
    obtain ⟨rfl, rfl⟩ := h3 c' f' z
    exact q dx G2 H2 l r2
end
end Z
namespace Z
open PySem PySem.Spec L2
/-! ### a new list of our own, held while more is evaluated -/
end Z
namespace ZL
open PySem PySem.Spec PyProof.Rows L2
section
variable {X : Cx} {pins : List (Addr × Obj)} {σ : L2.St} {H : Hp} {s : Shared}
/-- lam_new, with more said of what is made -/
theorem lam_newC {T : List (Addr × Str)} {cc tt : Addr} {nm : Str} {args : Arguments} {body : Expr} {scope : Scope} {pos : Pos} {E : Value → Shared → Prop} {Q : Value → Shared → Prop} (I : Inv X pins σ H s) (B : LamX.TabB X.base X.mg cc tt) (hc : X.env.code = .ref cc) (hq : X.env.qual ++ "<lambda>" = nm)
    (mem : (tt, nm) ∈ T) (uni : ∀ p ∈ T, p.1 = tt → p.2 = nm) (ok : LamX.Tabs T H) (hdef : defaultsOf args X.env = ([], [])) (hfree : ∀ y ∈ scope.names, y.2 = .free → ∃ c, X.env.cells.lookup y.1 = some c)
    (q : ∀ (f c' : Addr) (pm ctv : Value) (H1 : Hp) (s' : Shared), Inv X pins σ H1 s' → (∀ b o, b ≠ tt → H b = some o → H1 b = some o) → LamX.Tabs T H1 → H1 f = none → f ∉ frs X.stack → H1 c' = some (LamX.CodeO c' nm) →
      s'.heap.get? f = some (PySem.W.kla_obj "<lambda>" nm args body scope (cloFrom X.env.cells scope.names []) pm c' ctv) → Q (.ref f) s') :
    wpAny (model X.prog X.w) X.A (eval (.Lambda args body scope pos) X.env) Q E s := by
  subst hq
  obtain ⟨ps, tb, tr, am⟩ := ok _ mem
  have gt : s.heap.get? tt = some { cls := .none, data := .fields ps } := I.hok tt _ tb
  have bt : s.heap.BuiltinsAt X.mg tt := B.bm.keeps I.bk
  have cd := B.code.keeps I.bk
  have ns := I.mod.glob.keeps I.bk
  have out : ∀ {f : Addr}, s.heap.objs.size ≤ f → f ∉ frs X.stack := fun {f} le z => (List.mem_cons.mp (I.stkSub _ z)).elim (fun e => by
    have lt := I.lt
    rw [← e] at lt
    exact absurd le (Nat.not_le_of_lt lt)) (I.nofs le)
  refine PySem.W.kla_eval hdef ?_
  cases hit : codeAmong pos ps.toList with
  | some cv =>
    obtain ⟨c', rfl, co⟩ := am pos cv hit
    refine PySem.W.kla_makeFunctionHit (mg := X.mg) (c := cc) (P := tt) (ps := ps) (closure_ok hfree) I.ok.glob ns hc cd gt tr hit bt fun ctv h' tk hx hsz => ?_
    have kp : ∀ (o : Obj) b u, s.heap.get? b = some u → (h'.push o).get? b = some u := fun o b u e => Heap.get?_push_of_some _ (hx b u e)
    exact q h'.objs.size c' ((X.mg "__name__").getD .none) ctv H _ (I.kept (kp _)) (fun _ _ _ e => e) ok (I.hok.fresh hsz) (out hsz) co (Heap.get?_push_size _ rfl)
  | none =>
    refine PySem.W.kla_makeFunction (mg := X.mg) (c := cc) (P := tt) (ps := ps) (closure_ok hfree) I.ok.glob ns hc cd gt tr hit B.gP bt fun c' ctv h' tk hx hge hlt hrec htb => ?_
    obtain ⟨c2, oc, vs, t, ec, hoc, hd, hv⟩ := hrec
    cases ec
    have fresh : H c' = none := I.hok.fresh hge
    have sz : s.heap.objs.size ≤ h'.objs.size := Nat.le_of_lt (Nat.lt_of_le_of_lt hge hlt)
    have fr2 : ∀ {b u}, H b = some u → b ≠ c' := fun e => ne_of_none e fresh
    have J := LamX.inv_table (q := X.env.qual ++ "<lambda>") (t' := tk) (more := #[rawInt pos.line, rawInt pos.col, .ref c']) (h' := h'.push (PySem.W.kla_obj "<lambda>" (X.env.qual ++ "<lambda>") args body scope (cloFrom X.env.cells scope.names []) ((X.mg "__name__").getD .none) c' ctv)) I tb (fun b o nb e => Heap.get?_push_of_some _ (hx b o nb e)) (Heap.get?_push_of_some _ htb) hge ⟨oc, vs, t, Heap.get?_push_of_some _ hoc, hd, hv⟩
    have up : ∀ b u, b ≠ tt → H b = some u → upd (upd H tt (.tbl (ps ++ #[rawInt pos.line, rawInt pos.col, .ref c']))) c' (LamX.CodeO c' (X.env.qual ++ "<lambda>")) b = some u := fun b u nb e => by rw [upd_ne (fr2 e), upd_ne nb]; exact e
    have lt : (ps ++ #[rawInt pos.line, rawInt pos.col, .ref c']).toList = ps.toList ++ [rawInt pos.line, rawInt pos.col, .ref c'] := by simp
    have nf : upd (upd H tt (.tbl (ps ++ #[rawInt pos.line, rawInt pos.col, .ref c']))) c' (LamX.CodeO c' (X.env.qual ++ "<lambda>")) h'.objs.size = none := by
      have a1 : h'.objs.size ≠ c' := (Nat.ne_of_lt hlt).symm
      have a2 : h'.objs.size ≠ tt := fun z => absurd (Heap.lt_size gt) (Nat.not_lt_of_le (z ▸ sz))
      rw [upd_ne a1, upd_ne a2]; exact I.hok.fresh sz
    refine q h'.objs.size c' ((X.mg "__name__").getD .none) ctv _ _ J up (fun p hp => ?_) nf (out sz) upd_same (Heap.get?_push_size _ rfl)
    by_cases z : p.1 = tt
    · rw [uni p hp z, z]
      refine ⟨_, (upd_ne (fr2 tb)).trans upd_same, by rw [lt]; exact PySem.TriplesOk_snoc _ _ _ _ tr, fun p' cv e => ?_⟩
      rw [lt] at e
      rcases LamX.among_app _ tr e with y | y
      · obtain ⟨c0, e1, e2⟩ := am p' cv y
        exact ⟨c0, e1, up _ _ (fun y => by rw [y, tb] at e2; exact absurd (Option.some.inj e2).symm (LamX.codeO_ne _)) e2⟩
      · exact ⟨c', y, upd_same⟩
    · obtain ⟨qs, a1, a2, a3⟩ := ok p hp
      refine ⟨qs, up _ _ z a1, a2, fun p' cv e => ?_⟩
      obtain ⟨c0, e1, e2⟩ := a3 p' cv e
      exact ⟨c0, e1, up _ _ (fun y => by rw [y, tb] at e2; exact absurd (Option.some.inj e2).symm (LamX.codeO_ne _)) e2⟩
end
end ZL
namespace Z
open PySem PySem.Spec L2
variable [Tabl]
/-! ### a lambda handed to a def that calls it and tells how it raised -/
section
variable {P : Program} {w : World} {K : PySem.W.Frag} {mg : Str → Option Value} {base : Heap} {T : Sta} {k k' : Nat} {X : Cx} {ks k1 k2 k3 : List SK} {e o : Expr} {es : List Expr} {d da db : PyData} {ds ds' el cs : List PyData} {pos p tpos apos : Pos} {rest : List Stmt} {Φ : Po} {x a : Str} {cls : Value} {fs : List (Str × PyData)} {st : Stmt} {Ng : List Str}
def lamSta (T : Sta) (scope : Scope) : Sta := ⟨T.N, scope, fun _ => false⟩
theorem lam_ctx {cq : Bool} (c : CtxB cq P w K mg base T k' X) {A : Around} {outer : List Env} {s : Shared} {H : Hp} {E : XK} {scope : Scope} {f c' : Addr} (hr : Room k (A.deeper (LamX.lamEnv X scope s.heap.objs.size f c'))) : Ctx P w K mg base (lamSta T scope) k (LamX.lamCx X A outer s H E scope f c') where
  hP := c.hP
  hw := c.hw
  hK := c.hK
  hmg := c.hmg
  hbase := c.hbase
  hN := c.hN
  nd := c.nd
  hs := rfl
  calm' := fun _ => rfl
  room' := fun _ => hr
  un := Nat.lt_of_le_of_lt (Nat.add_le_add_right (Nat.le_add_right _ _) _) hr.un
  po := passes_of rfl
  fn := rfl
/-- what the def makes of a lambda that raises -/
def TTk (K : PySem.W.Frag) (KI : Value → List (Str × PyData) → PyData → Prop) : (XK → Hp → VK → Prop) → Hp → VK → Prop := fun tl H Q => ∃ (Rel : Hp → Hp → Prop) (cls : Value) (fs : List (Str × PyData)) (d : PyData), KI cls fs d ∧ (∀ G1 H1, Rel G1 H1 → Same G1 H1 ∧ TbO G1 H1) ∧
  (∀ Q' : VK, tl (fun c dx H' => c = cls ∧ ∃ G', Rel G' H' ∧ ExF K G' dx fs) H Q') ∧ ∀ G1 H1 v G2 H2, Rel G1 H1 → Le (pur G1 H1) G2 H2 → Dp K G2 v d → Q v H2
/-- the def calls what it got -/
def GivK (P : Program) (w : World) (K : PySem.W.Frag) (mg : Str → Option Value) (base : Heap) (Ng : List Str) (st : Stmt) (a : Str) (k : Nat) (KI : Value → List (Str × PyData) → PyData → Prop) : Prop :=
  ∀ Z : Cx, Ctx P w K mg base ⟨Ng, defScope st, fun _ => true⟩ (k + 1) Z → StkC Z → ∀ (f c' : Addr) (q : Str) (H : Hp) (D : Ends) (tl : XK → Hp → VK → Prop),
    (∀ (W : WX) (pn : List (Addr × Obj)) (xe : Value → Shared → Prop) (E : XK) (p1 p2 : Pos), Takes (Z.tr pn xe) W → (∀ cls d σ' H', E cls d H' → W cls d σ' H') → PE (Z.tr pn xe) (.Call (.Name a p1) [] [] p2) (fun σZ HZ Q => σZ[0]? = some (some (.ref f)) ∧ HZ c' = some (LamX.CodeO c' q) ∧ tl E HZ Q)) →
    H c' = some (LamX.CodeO c' q) → TTk K KI tl H D.rt → SV Z (defBody st) D (L2.start Ng [.ref f]) H
theorem giv_try (i : Nat) {n x : Str} {cv : Value} {b₀ : Stmt} {suite : List Stmt} {np p1 p2 p3 pos' : Pos} {KI : Value → List (Str × PyData) → PyData → Prop} (hb : defBody st = .Try [.Expr (.Call (.Name a p1) [] [] p2) p3] [.ExceptHandler (some (.Name x np)) (some n) (b₀ :: suite) pos'] [] [] pos :: rest) (h0 : 0 < Ng.length) (hN : Ng[i]? = some n) (hln : (defScope st).names.lookup n = some .local) (hx : (defScope st).names.lookup x = some .globalImplicit) (hdb : (x == ("__debug__" : Str)) = false) (hcv : mg x = some cv)
    (hsw : ∀ env : Env, swapsWith (.Call (.Name a p1) [] [] p2) none p3.line env = pure false)
    (hs : ∀ cls fs d, KI cls fs d → PySem.W.exmOne K cls cv = some true ∧ ∀ (Z : Cx) (a : Addr) (dx : Option Addr) (oe : Obj) (pn : List (Addr × Obj)), Zc cls dx oe → (∃ vs, oe.data = .fields vs) → CtxB false P w K mg base ⟨Ng, defScope st, fun _ => true⟩ (k + 1) (Z.suite a ((a, oe) :: pn)) →
      SD (Z.suite a ((a, oe) :: pn)) ((List.replicate Ng.length .no).set i (.cus (excC a dx fs))) (b₀ :: suite) { nx := fun _ => False, rt := fun _ d' => d' = d, rl := fun _ l => d = .list l }) : GivK P w K mg base Ng st a k KI := by
  intro Z c sk f c' q H D tl act hc h
  obtain ⟨Rel, cls, fs, d, kI, rel, htl, fin⟩ := h
  obtain ⟨ex, hsu⟩ := hs cls fs d kI
  have hi : i < Ng.length := (List.getElem?_eq_some_iff.mp hN).1
  have hZN : Z.N = Ng := c.hN
  rw [hb]
  have hK := c.hK
  subst hK
  refine sv_of (pss_cons (ps_try_as (i := i) (n := n) (c := cv) (tb := fun W' D' σ' H' => ∃ Ech : XK, (∀ cls d σ'' H'', Ech cls d H'' → W' cls d σ'' H'') ∧ σ'[0]? = some (some (.ref f)) ∧ H' c' = some (LamX.CodeO c' q) ∧ ∀ Q', tl Ech H' Q')
    (ts := fun a cls d D' σ' H' => ∀ oe pn, Zc cls d oe → (∃ vs, oe.data = .fields vs) → SV (Z.suite a ((a, oe) :: pn)) (b₀ :: suite) D' σ' H') (Wout := fun _ _ _ _ => False) sk.hs sk.hf (nd_of c) (by rw [hZN]; exact hN) (by show Z.env.scope.names.lookup n = some .local; rw [c.hs]; exact hln)
    ⟨gl_of c hx, hdb, .inl (by rw [c.hmg]; exact hcv)⟩ LamX.takes0 (fun W' pn xe tk' po => ⟨fun pins s σ H D I h => ?_⟩) (fun a oe cls d pn hz hf => ⟨fun pins s σ H D I h => (h oe pn hz hf).run pins s I⟩)) pss_sv) ?_
  · obtain ⟨Ech, hW, a1, a2, a3⟩ := h
    exact (pss_one (ps_expr (act W' pn xe Ech p1 p2 tk' hW) (hsw _))).run pins s σ H D I ⟨a1, a2, a3 _⟩
  · refine ⟨fun c dx H' => c = cls ∧ ∃ G', Rel G' H' ∧ ExF Z.K G' dx fs, fun cl0 dx σ' H' z => ?_, ?_, hc, htl⟩
    · obtain ⟨rfl, G', hR, hF⟩ := z
      refine ⟨true, ex, fun _ a na oe pn hz hf => ?_, fun z => by cases z⟩
      refine ⟨fun pins s I => ?_⟩
      have hlen : (σ'.set i (some (.ref a))).length = Ng.length := by
        have := I.len
        rw [show (Z.suite a ((a, oe) :: pn)).N = Ng from hZN] at this
        exact this
      obtain ⟨r1, r2⟩ := rel G' H' hR
      have hl2 : i < σ'.length := by rw [List.length_set] at hlen; omega
      have S : Sts Z.K (pur G' H') ((List.replicate Ng.length .no).set i (.cus (excC a dx fs))) (σ'.set i (some (.ref a))) G' H' := by
        refine ⟨Le.refl r1 r2, by rw [hlen, List.length_set, List.length_replicate], fun _ => [], ⟨fun _ _ _ h => (by cases h), fun _ _ h => (by cases h), fun _ _ => rfl⟩, fun j kk hj => ?_⟩
        by_cases z : j = i
        · subst z
          rw [List.getElem?_set_self (by rw [List.length_replicate]; exact hi)] at hj
          cases hj
          exact ⟨rfl, by rw [List.getElem?_set_self hl2]; rfl, hF⟩
        · rw [List.getElem?_set_ne (Ne.symm z)] at hj
          have := List.eq_of_mem_replicate (List.mem_of_getElem? hj)
          subst this
          exact (show ([] : List Addr) = [] from rfl)
      refine SV.run (hsu Z a dx oe pn hz hf c.suite _ _ G' H' _ S ⟨fun _ _ _ _ z => z.elim, fun _ _ _ _ z => z.elim, fun _ _ _ _ z => z.elim, fun ks σ G2 H2 v d' e S' r' => ?_, fun ks σ G2 H2 a2 l e S' => ?_, fun _ _ _ _ _ _ _ _ z => z.elim, ⟨⟨fun _ _ _ _ => False, fun u s' ⟨_, _, _, _, _, _, _, _, _, _, _, _, _, _, _, _, z⟩ => z, fun _ _ _ _ _ _ _ z => z.elim⟩, fun _ _ _ _ _ _ z => z.elim⟩⟩) pins s I
      · have e : d' = d := e
        exact fin G' H' v G2 H2 hR S'.le (by rw [← e]; exact r')
      · obtain ⟨G3, S3, g3, r3⟩ := S'.popFreeze
        have e : d = .list l := e
        exact fin G' H' _ G3 H2 hR S3.le (by rw [e]; exact r3)
    · cases Ng with
      | nil => simp at h0
      | cons y r => rfl
/-- x(lambda: e), where e raises -/
theorem ed_lamK {cc tt : Addr} {nm : Str} (c : Ctx P w K mg base T (k + 2) X) (L : LamIn X cc tt nm) {KI : Value → List (Str × PyData) → PyData → Prop} (D : DefAt K mg x st [a]) (Sg : FnScope Ng [a] (defScope st)) (h0 : Ng[0]? = some a) (hva : Vis (defScope st) a) (Gv : GivK P w K mg base Ng st a k KI)
    (hg : T.sc.names.lookup x = some .globalImplicit) {params : Arguments} {body : Expr} {scope : Scope} {lpos : Pos} (Ls : LamX.lamSB T.sc scope = true) (hdef : defaultsOf params X.env = ([], []))
    (hbind : ∀ (q : Str) (cl : List (Str × Addr)) (pm cv ctv : Value), bindArgs (PySem.W.kla_fn "<lambda>" q params body scope cl pm cv ctv) ⟨[], []⟩ = pure [])
    (hb : ∀ X', Ctx P w K mg base (lamSta T scope) k X' → EX X' ks body ks cls fs) (kI : KI cls fs d)
    (hdb : (x == ("__debug__" : Str)) = false) (hd : (a == ("__debug__" : Str)) = false) (hcd : (a == ("__classdict__" : Str)) = false) :
    ED X ks (.Call (.Name x p) [.Lambda params body scope lpos] [] pos) ks d := fun W σ G H S Q q => EV.mk fun pins s I => by
  obtain ⟨g, fd, F, hm, hbi⟩ := D.ex
  obtain ⟨oc, od, kV, doc, pm0, an, cdv, ct, osl, rfl, lk, hcd'⟩ := F.ex
  have q1 := c.hP
  have q2 := c.hw
  have q3 := c.hK
  have q4 := c.hmg
  have q5 := c.hbase
  subst q1 q2 q3 q4 q5
  have LS : LamX.LamS X.env.scope scope := by rw [c.hs]; exact LamX.lamS_by Ls
  refine wpAny_Call_Name_kw (ld_glob I (gl_of c hg) hm ?_ hdb)
  refine PySem.W.callWith_K (h₀ := X.base) I.ok.mod.kin F.kp ?_ (by rfl) (by rfl)
  show wpAny _ _ (spliced ((false, eval (.Lambda params body scope lpos) X.env) :: backTo pos (starEach [] X.env))) _ _ s
  refine Calls.spliced_cons (ZL.lam_newC I L.tb L.code L.qual L.mem L.uni S.le.tb.t hdef (LS.has I.ok) fun f c' pm ctv H1 s1 I1 kp T1 nf nfr hco ho => ?_)
  refine Calls.spliced_nil ⟨I1.kIn, ?_⟩
  obtain ⟨ps, hps⟩ := S.le.tb.at L.mem
  have hps : H tt = some (.tbl ps) := hps
  have l1 : Le (pur G H) G H1 := {
    g := Same.refl G
    gh := fun b u e => kp b u (fun z => by
      have := S.le.tb.g _ L.mem
      rw [z] at e
      rw [e] at this
      cases this) (S.gh b u e)
    keep := fun b u _ nt e => kp b u (fun z => nt ps (by
      have e : H b = some u := e
      rw [z, hps] at e
      exact (Option.some.inj e).symm)) e
    there := fun b u e => by
      by_cases z : b = tt
      · obtain ⟨ps', h', _⟩ := T1 _ L.mem
        exact ⟨_, by rw [z]; exact h'⟩
      · exact ⟨u, kp b u z e⟩
    fz := fun _ _ e _ => e
    m := fun _ z => z.elim
    tb := ⟨S.le.tb.g, T1⟩ }
  have S1 := S.step l1
  have rc : codeAny (model X.prog X.w) X.A (.call (.ref g) ⟨[.ref f], []⟩) (CR CX0 X.stack X.prog X.w H1 s1 Q E0) s1 := by
    refine LamX.run_ofS (N := Ng) (ps := [a]) (us := [.ref f]) (vs := [.ref f]) lk hcd' Sg c.room I1.env0 (hbi s1 [.ref f] I1.kIn rfl) (.cons rfl .nil) rfl fun hr' => ⟨_, (pss_sv (X := (cxOf CX0 X.prog X.w X.K X.mg X.base Ng x (defScope st) g cdv X.A X.stack s1 H1 E0).nox)).nox, ?_⟩
    refine Gv _ (cxOf_ctx Sg cdv X.A X.stack s1 H1 E0 hr') ⟨rfl, rfl⟩ f c' nm H1 _ (fun E H' Q' => ∀ (A : Around) (outer : List Env) (s2 : Shared) (H2 : Hp) (f2 c2 : Addr), Room k (A.deeper (LamX.lamEnv X scope s2.heap.objs.size f2 c2)) → EV (LamX.lamCx X A outer s2 H2 E scope f2 c2) body σ H' Q') (fun W pn xe E p1 p2 tk hW => ?_) hco ?_
    · have := L.qual
      subst this
      exact LamX.pe_act (CXg := CX0) (Eg := E0) (i := 0) (tb := fun σ2 H' Q' => ∀ (A : Around) (outer : List Env) (s2 : Shared) (H2 : Hp) (f2 c2 : Addr), Room k (A.deeper (LamX.lamEnv X scope s2.heap.objs.size f2 c2)) → EV (LamX.lamCx X A outer s2 H2 E scope f2 c2) body σ2 H' Q') I1 LS ho nf nfr (hbind _ _ _ _ _) tk hW hr' (fun A outer s2 H2 hr2 => ⟨fun pins s σ H Q I h => (h A outer s2 H2 f c' hr2).run pins s I⟩) h0 hva hd hcd
    · refine ⟨fun G' H' => Sts X.K W ks σ G' H' ∧ Same G G', cls, fs, d, kI, fun G1 H1 z => ⟨z.1.gh, z.1.le.tb⟩, fun Q' A outer s2 H2 f2 c2 hr2 => ?_, fun G1 H1 v G2 H2 z l r => q v G2 H2 (z.1.step l) (z.2.trans l.g) r⟩
      exact (hb _ (lam_ctx c hr2) W σ G H1 S1 _ (takes_of rfl rfl rfl rfl) fun G2 H2 dx S2 g2 r2 => ⟨rfl, G2, ⟨S2, g2⟩, r2⟩).mono fun _ _ z => z.elim
  refine wpAny_call (codeAny_mono rc fun r s2 hq => ?_)
  cases r with
  | error e => exact (show False from hq).elim
  | ok fl =>
    cases fl with
    | ret u => exact I1.after hq
    | next => exact False.elim hq
    | brk => exact False.elim hq
    | cont => exact False.elim hq
end
end Z
namespace Z
open PySem PySem.Spec L2
variable [Tabl]
section
variable {P : Program} {w : World} {K : PySem.W.Frag} {mg : Str → Option Value} {base : Heap} {T : Sta} {k : Nat} {X : Cx} {ks k1 k2 k3 : List SK} {a b e o : Expr} {es : List Expr} {d da db : PyData} {ds ds' el cs : List PyData} {pos p tpos apos : Pos} {rest : List Stmt} {Φ : Po} {x f : Str} {ps : List Str} {j : Nat} {C : Addr} {cls : Value} {fs : List (Str × PyData)} {Rx : List PyData → Value → List (Str × PyData) → Prop}
/-! ### defs that raise whatever they are handed -/
abbrev NoR : List PyData → PyData → Prop := fun _ _ => False
theorem fn_sdF2 {st : Stmt} {N : List Str} (D : DefAt K mg x st ps) (S : FnScope N ps (defScope st)) (hl2 : ∀ ds cls fs, Rx ds cls fs → ds.length = ps.length) (hN : ps.length ≤ N.length)
    (hx : ∀ X, Ctx P w K mg base ⟨N, defScope st, fun _ => true⟩ k X → StkC X → ∀ ds cls fs, Rx ds cls fs → SD X (ds.map SK.dat ++ List.replicate (N.length - ds.length) .no) (defBody st) { nx := fun _ => False, rt := fun _ _ => False, ex := fun _ c' fs' => c' = cls ∧ fs' = fs }) :
    FnX P w K mg base x ps (k + 1) (spPX K NoR Rx) := fn_sdX D S (fun _ _ z => z.elim) hl2 hN (fun _ _ _ _ _ z => z.elim) hx
theorem FnX.no {ι : Type} {A : ι → List PyData → Prop} {O : ι → PyData → Prop} {Ox : ι → Value → List (Str × PyData) → Prop} (F : FnX P w K mg base x ps j (spO K A O Ox)) (hX : ∀ ds c f, Rx ds c f → ∃ i, A i ds ∧ (∀ d, ¬ O i d) ∧ ∀ c' f', Ox i c' f' → c' = c ∧ f' = f) : FnX P w K mg base x ps j (spPX K NoR Rx) := F.of (fun _ _ z => z.elim) hX
/-! ### [f, g][i](e, ..) -/
theorem atI_nat {α : Type} {l : List α} {n : Nat} {v : α} (h : l[n]? = some v) : L2.atI l (n : Int) = some v := by
  have hn := (List.getElem?_eq_some_iff.mp h).1
  unfold L2.atI L2.ixN
  rw [if_pos (by omega), if_pos (by omega)]
  exact h
def FsV (X : Cx) (mg : Str → Option Value) (es : List Expr) (ys : List Str) : Prop := ∃ (t : TA) (as : List Addr), PA X es t ∧ Paired (fun y a => mg y = some (.ref a)) ys as ∧ ∀ σ H Q, Q (as.map V.ref) H → t σ H Q
theorem fs_nil : FsV X mg [] [] := ⟨tNil, [], pa_nil, .nil, fun _ _ _ q => q⟩
theorem fs_cons {y : Str} {ys : List Str} {sp : L2.Sp} (c : Ctx P w K mg base T k X) (F : FnX P w K mg base y ps j sp) (hy : T.sc.names.lookup y = some .globalImplicit) (hd : (y == ("__debug__" : Str)) = false) (h : FsV X mg es ys) (he : starEach (.Name y p :: es) X.env = (false, eval (.Name y p) X.env) :: starEach es X.env) : FsV X mg (.Name y p :: es) (y :: ys) := by
  obtain ⟨t, as, g, r, q⟩ := h
  obtain ⟨f, fd, F, hm, hk, hb⟩ := F.ex
  exact ⟨_, f :: as, pa_cons (pe_glob (v := .ref f) (gl_of c hy) (by rw [c.hmg]; exact hm) rfl hd) g he, .cons hm r, fun σ H Q z => q σ H _ z⟩
theorem fs_get {ys : List Str} {as : List Addr} {n : Nat} {y : Str} {f : Addr} (hm : mg y = some (.ref f)) (hy : ys[n]? = some y) (r : Paired (fun y a => mg y = some (.ref a)) ys as) : as[n]? = some f := by
  induction r generalizing n with
  | nil => cases hy
  | cons r1 r2 ih =>
    cases n with
    | zero =>
      cases hy
      rw [hm] at r1
      cases r1
      rfl
    | succ n => exact ih hy
theorem pe_pick {X : Cx} {CX : CXT} {f : Addr} {fd : FuncData} {sp : L2.Sp} {E : L2.St → XK} {func : Expr} {tf : TE} {t : TA} (hf : PE X func tf) (F : FnOk X.prog X.w X.K X.mg X.base CX k f fd ps sp) (hr : Room k X.A) (hk : PySem.W.keepIn X.K (.ref f) = true) (hb : Binds X.K fd ps []) (hx : ∀ σ, PassesAt CX X σ (E σ)) (ha : PA X (e :: es) t)
    (he : starEach (e :: es) X.env = (false, eval e X.env) :: starEach es X.env) (hpl : (backTo pos (starEach es X.env)).any (·.1) = false)
    (ht : eval (.Call func (e :: es) [] pos) X.env = (do callWith pos (← eval func X.env) [] (backTo pos (starEach (e :: es) X.env)) (backToKw pos (keywordEach [] X.env)))) :
    PE X (.Call func (e :: es) [] pos) (fun σ H Q => tf σ H fun v H1 => v = .ref f ∧ tCallS sp E t σ H1 Q) := by
  refine ⟨fun pins s σ H Q I h => ?_⟩
  rw [ht]
  refine wpAny_bind (thn (hf.run pins s σ H _ I h) fun u s1 hh => ?_)
  obtain ⟨v, H1, I1, rv, ev, q⟩ := hh
  subst ev
  obtain rfl : u = Value.ref f := rv
  refine PySem.W.callWith_K (h₀ := X.base) I.ok.mod.kin hk (thn (ha.run pos pins s1 σ H1 _ I1 q) fun us s2 hh => ?_) he hpl
  obtain ⟨vs, H2, I2, r, q⟩ := hh
  exact ⟨I2.kIn, run_fnS F hr hb (hx σ) I2 r q⟩
theorem ex_pick {fl : List Expr} {ys : List Str} {n : Nat} {ie : Expr} {p1 p2 : Pos} {R : List PyData → PyData → Prop} (c : Ctx P w K mg base T k X) (hf : FsV X mg fl ys) (hy : ys[n]? = some x) (F : FnX P w K mg base x ps j (spPX K R Rx)) (hj : j ≤ k) (hi : ED X ks ie k1 (.int (n : Int))) (ha : AD X k1 (e :: es) k2 ds) (hR : Rx ds cls fs) (hz : ys.length ≤ 100) (hs : PlainIx ie)
    (he : starEach (e :: es) X.env = (false, eval e X.env) :: starEach es X.env) (hpl : (backTo pos (starEach es X.env)).any (·.1) = false)
    (ht : eval (.Call (.Subscript (.List fl p1) ie p2) (e :: es) [] pos) X.env = (do callWith pos (← eval (.Subscript (.List fl p1) ie p2) X.env) [] (backTo pos (starEach (e :: es) X.env)) (backToKw pos (keywordEach [] X.env)))) :
    EX X ks (.Call (.Subscript (.List fl p1) ie p2) (e :: es) [] pos) k2 cls fs := fun W σ G H S Wx tk q => by
  obtain ⟨f, fd, F, hm, hk, hb⟩ := F.ex
  have h1 := c.hP
  have h2 := c.hw
  have h3 := c.hK
  have h4 := c.hmg
  have h5 := c.hbase
  subst h1 h2 h3 h4 h5
  obtain ⟨t, as, pa, pr, hq⟩ := hf
  have hl : as.length = ys.length := (Paired.length pr).symm
  refine ev_of (pe_pick (pe_ix ix_list (pe_lst pa) pe_ev hs) F (c.room.mono hj) hk hb (fun σ => passAt tk σ) pa_av he hpl ht) ?_
  refine hq σ H _ ⟨by rw [List.length_map, hl]; exact Nat.le_trans hz (Nat.le_of_ble_eq_true rfl), fun p np => ?_⟩
  have l : Lp G H (upd G p (.lst (as.map V.ref))) (upd H p (.lst (as.map V.ref))) := Lp.new S.gh np
  refine hi W σ _ _ (S.pure l) _ fun v G1 H1 S1 g1 r1 => ?_
  rw [r1.int_inv]
  refine ⟨p, as.map V.ref, (n : Int), .ref f, rfl, rfl, .inl (.inl (S1.gh _ _ (g1 _ _ upd_same))), atI_nat (by rw [List.getElem?_map, fs_get hm hy pr]; rfl), rfl, ?_⟩
  refine ha W σ G1 H1 S1 _ fun vs G2 H2 S2 g2 r2 => ?_
  exact ⟨G2, ds, S2.gh, S2.le.tb, r2, .inr ⟨cls, fs, hR, fun dx G3 H3 l3 r3 => q G3 H3 dx (S2.step l3) ((l.g.trans g1).trans (g2.trans l3.g)) r3⟩⟩
/-! ### classes whose __init__ raises -/
def spNX (K : PySem.W.Frag) (C : Addr) (Rx : List PyData → Value → List (Str × PyData) → Prop) : L2.Sp := fun vs H _ E => ∃ G p dx ws ds cls fs, vs = V.ref p :: ws ∧ Same G H ∧ TbO G H ∧ G p = none ∧ G dx = none ∧ H p = some (.ins C dx []) ∧ H dx = some (.own p) ∧ p ≠ dx ∧ DpAll K G ws ds ∧ Rx ds cls fs ∧
  ∀ d G2 H2, Le ⟨G, H, fun a => a = p ∨ a = dx⟩ G2 H2 → ExF K G2 d fs → E cls d H2
structure MkX (P : Program) (w : World) (K : PySem.W.Frag) (mg : Str → Option Value) (base : Heap) (x : Str) (C : Addr) (ps : List Str) (j : Nat) (sp : L2.Sp) : Prop where
  ex : ∃ f fd, FnOk P w K mg base (L2.CX P w) j f fd ps sp ∧ Mk K C f ∧ mg x = some (.ref C) ∧ Binds K fd ps []
theorem fn_sdNX {qual : Str} {st : Stmt} {N : List Str} (D : MkAt K mg x C qual st ps) (S : FnScope N ps (defScope st)) (hl : ∀ ds c f, Rx ds c f → ds.length + 1 = ps.length) (hN : ps.length ≤ N.length)
    (h : ∀ X, Ctx P w K mg base ⟨N, defScope st, fun _ => true⟩ k X → ∀ a dx ds cls fs, Rx ds cls fs → SD X (.oin a dx C [] :: (ds.map SK.dat ++ List.replicate (N.length - (ds.length + 1)) .no)) (defBody st) { nx := fun _ => False, rt := fun _ _ => False, ex := fun _ c' f' => c' = cls ∧ f' = fs }) :
    MkX P w K mg base x C ps (k + 1) (spNX K C Rx) := by
  obtain ⟨f, fd, F, hm, hx, hb⟩ := D.ex
  refine ⟨f, fd, ?_, hm, hx, hb⟩
  refine F.okX S (fun vs H Q E ⟨G, p, dx, ws, ds, cls, fs, e, _, _, _, _, _, _, _, r, hR, _⟩ => by rw [e, List.length_cons, r.len]; exact hl ds cls fs hR) (fun cdv A outer s H vs Q E hr ⟨G, p, dx, ws, ds, cls, fs, e, g, tb, gp, gd, hp, hd, n, r, hR, q⟩ => ⟨_, pss_sv, ?_⟩)
  subst e
  have S0 := start_oin (N := N) g tb gp gd hp hd n r (by rw [hl ds cls fs hR]; exact hN)
  refine h _ (cxOf_ctxX S cdv A outer s H E hr) p dx ds cls fs hR _ _ G H _ S0 ⟨fun _ _ _ _ z => z.elim, fun _ _ _ _ z => z.elim, fun _ _ _ _ z => z.elim, fun _ _ _ _ _ _ z => z.elim, fun _ _ _ _ _ _ z => z.elim, fun _ _ _ _ _ _ _ _ z => z.elim, ⟨⟨_, takes_of rfl rfl rfl rfl, fun ks σ G' H' c' d' f' e S' r' => ?_⟩, fun _ _ _ _ _ _ z => z.elim⟩⟩
  obtain ⟨rfl, rfl⟩ := e
  exact q d' G' H' S'.le r'
/-- an instance whose making raises -/
theorem pe_mkX {X : Cx} {CX : CXT} {f : Addr} {fd : FuncData} {sp : L2.Sp} {E : L2.St → XK} {t : TA} (M : Mk X.K C f) (F : FnOk X.prog X.w X.K X.mg X.base CX k f fd ps sp) (hr : Room (k + 1) X.A) (hg : Gl X x) (hm : X.mg x = some (.ref C)) (hb : Binds X.K fd ps []) (hx : ∀ σ, PassesAt CX X σ (E σ)) (ha : PA X (e :: es) t) (hdb : (x == ("__debug__" : Str)) = false)
    (he : starEach (e :: es) X.env = (false, eval e X.env) :: starEach es X.env) (hpl : (backTo pos (starEach es X.env)).any (·.1) = false) :
    PE X (.Call (.Name x p) (e :: es) [] pos) (fun σ H Q => t σ H fun vs H1 => ∀ y dx, H1 y = none → H1 dx = none → dx ≠ y → sp (.ref y :: vs) (upd (upd H1 dx (.own y)) y (.ins C dx [])) (fun _ _ => False) (E σ)) := by
  refine ⟨fun pins s σ H Q I h => wpAny_Call_Name_kw (ld_glob I hg hm (PySem.W.callWith_K (h₀ := X.base) I.ok.mod.kin M.kp (thn (ha.run pos pins s σ H _ I h) fun us s1 hh => ?_) he hpl) hdb)⟩
  obtain ⟨vs, H1, I1, r, q⟩ := hh
  refine ⟨I1.kIn, ?_⟩
  have two : H1 (s1.heap.objs.size + 1) = none ∧ H1 s1.heap.objs.size = none := ⟨I1.hok.fresh (Nat.le_succ _), I1.hok.fresh (Nat.le_refl _)⟩
  have hq := q _ _ two.1 two.2 (fun z => Nat.succ_ne_self _ z.symm)
  have r2 : Vals (V.ref (s1.heap.objs.size + 1) :: vs) (Value.ref (s1.heap.objs.size + 1) :: us) := .cons rfl r
  have I2 := Inv.made (C := C) I1
  have hl : ps.length = (Value.ref (s1.heap.objs.size + 1) :: us ++ []).length := by
    rw [List.append_nil, ← r2.length]
    exact (F.len _ _ _ _ hq).symm
  have bnd := hb _ (Value.ref (s1.heap.objs.size + 1) :: us) I2.kIn hl.symm
  rw [List.append_nil] at bnd
  refine wpAny_call (make_map (f := f) I1.kIn M.makes M.init (beq_iff_eq.mp M.fn) (codeAny_mono (F.run _ X.stack _ _ ⟨_, []⟩ _ _ _ (E σ) (hr.make C us []) (I2.env0.make C us []) bnd r2 hq) fun res s3 back => ?_))
  cases res with
  | error er => exact hx σ pins _ _ er s3 I2 back
  | ok fl =>
    cases fl with
    | ret u => exact (I2.after back).elim fun v hv => hv.elim fun H3 z => z.2.2.elim
    | _ => exact False.elim back
theorem ex_make (c : Ctx P w K mg base T k X) (F : MkX P w K mg base x C ps j (spNX K C Rx)) (hj : j + 1 ≤ k) (hg : T.sc.names.lookup x = some .globalImplicit) (ha : AD X ks (e :: es) k1 ds) (hR : Rx ds cls fs) (hdb : (x == ("__debug__" : Str)) = false)
    (he : starEach (e :: es) X.env = (false, eval e X.env) :: starEach es X.env) (hpl : (backTo pos (starEach es X.env)).any (·.1) = false) : EX X ks (.Call (.Name x p) (e :: es) [] pos) k1 cls fs := fun W σ G H S Wx tk q => by
  obtain ⟨f, fd, F, hm, hmx, hb⟩ := F.ex
  have h1 := c.hP
  have h2 := c.hw
  have h3 := c.hK
  have h4 := c.hmg
  have h5 := c.hbase
  subst h1 h2 h3 h4 h5
  refine ev_of (pe_mkX hm F (c.room.mono hj) (gl_of c hg) hmx hb (fun σ => passAt tk σ) pa_av hdb he hpl) (ha W σ G H S _ fun vs G1 H1 S1 g1 r1 => fun y dx ny nd ne => ?_)
  have gn : ∀ {b}, H1 b = none → G1 b = none := fun {b} n => by
    cases e : G1 b with
    | none => rfl
    | some u => rw [S1.gh b u e] at n; cases n
  have old : ∀ {b u}, H1 b = some u → (upd (upd H1 dx (.own y)) y (.ins C dx [])) b = some u := fun {b u} e => by rw [upd_ne (ne_of_none e ny), upd_ne (ne_of_none e nd)]; exact e
  refine ⟨G1, y, dx, vs, ds, cls, fs, rfl, fun b u e => old (S1.gh b u e), (S1.le.tb.upd (fun u e => by rw [nd] at e; cases e)).upd (fun u e => by rw [upd_ne (Ne.symm ne), ny] at e; cases e), gn ny, gn nd, upd_same, by rw [upd_ne ne, upd_same], Ne.symm ne, r1, hR, fun d G2 H2 l r => ?_⟩
  have nm : ∀ {b u}, H1 b = some u → ¬ (b = y ∨ b = dx) := fun {b u} e z => z.elim (ne_of_none e ny) (ne_of_none e nd)
  have l3 : Le (pur G1 H1) G2 H2 := {
    g := l.g
    gh := l.gh
    keep := fun b u _ nt e => l.keep b u (nm e) nt (old e)
    there := fun b u e => l.there b u (old e)
    fz := fun b u e1 e2 => l.fz b u e1 (old e2)
    m := fun _ z => z.elim
    tb := l.tb }
  exact q G2 H2 d (S1.step l3) (g1.trans l3.g) r
/-- an expression whose first part raises: o.m(..) -/
theorem ex_methO {m : Str} {pl : Sem Bool} (h : EX X ks o k1 cls fs) (ht : eval (.Call (.Attribute o m apos) es [] pos) X.env = (do
      let ov ← eval o X.env
      standAt apos.atName
      let (f, first) ← holding [ov] (getMethod ov m pl)
      callWith pos f first (backTo pos (starEach es X.env)) (backToKw pos (keywordEach [] X.env)))) : EX X ks (.Call (.Attribute o m apos) es [] pos) k1 cls fs := fun W σ G H S Wx tk q => EV.mk fun pins s I => by
  rw [ht]
  exact wpAny_bind (thn ((h W σ G H S Wx tk q).run pins s I) fun u s1 hh => hh.elim fun v hv => hv.elim fun H3 z => z.2.2.elim)
end
end Z
namespace Z
open PySem PySem.Spec L2
variable [Tabl]
/-! ### list.count, list.index of bools -/
section
variable {P : Program} {w : World} {K : PySem.W.Frag} {mg : Str → Option Value} {base : Heap} {T : Sta} {k : Nat} {X : Cx} {ks k1 k2 k3 : List SK} {a b e o : Expr} {pos p apos : Pos}
def rCntV (K : PySem.W.Frag) : V → List V → Hp → VK → Prop := fun l as H Q => ∃ (q : Addr) (zs : List V) (y : V), as = [y] ∧ l = .ref q ∧ flatV y = true ∧ zs.all flatV = true ∧ SqL K H q zs ∧ Q (.int ((zs.countP fun z => eqV z y : Nat) : Int)) H
theorem countU {y : V} : ∀ {zs : List V} {us : List Value}, Vals zs us → zs.all flatV = true → us.countP (eqU y) = zs.countP fun z => eqV z y
  | _, _, .nil, _ => rfl
  | _, _, .cons (a := z) r t, f => by
    rw [List.all_cons, Bool.and_eq_true] at f
    rw [List.countP_cons, List.countP_cons, countU t f.2, eqU_of r f.1]
theorem mt_lcntV : MtR X "list.count" (rCntV X.K) := by
  intro pins s σ H l as vl uas Q inv rl ra hh
  obtain ⟨q, zs, y, rfl, rfl, fy, fz, sq, done⟩ := hh
  cases rl
  obtain ⟨uy, rfl, ry⟩ := ra.one
  obtain ⟨is, rel, ⟨⟨kl, dct, dt, slt⟩, nn, hob, hcl, hdno, hdat⟩, hsz⟩ := inv.list sq
  simp only at hcl hdat
  subst hcl hdat
  have ec : is.toArray.toList.countP (eqU y) = zs.countP fun z => eqV z y := countU rel fz
  refine call_meets PySem.F.slot_list_count ⟨_, hob, rfl⟩ PySem.F.entry_list_count (PySem.F.args_list_count_2 _ _) (SeqAt.list_countAt q is.toArray nn dct slt uy (eqU y)) ⟨hob, fun z hz => mem_eqAt ry fy rel fz z (by simpa using hz), ?_⟩
  refine ⟨.int ((zs.countP fun z => eqV z y : Nat) : Int), H, inv.tok _, ⟨s.toks, ?_⟩, done⟩
  show Value.int ((is.toArray.toList.countP (eqU y) : Nat) : Int) s.toks = _
  rw [ec]
theorem DpAll.bools {G : Hp} : ∀ {bs : List Bool} {vs : List V}, DpAll K G vs (bs.map PyData.bool) → vs = bs.map V.bl
  | [], _, .nil => rfl
  | b :: bs, _, .cons h t => by rw [h.bl_inv, DpAll.bools t]; rfl
theorem flat_bools (bs : List Bool) : (bs.map V.bl).all flatV = true := by
  rw [List.all_map]
  exact List.all_eq_true.mpr fun _ _ => rfl
theorem ed_cntB {bs : List Bool} {b : Bool} (ho : ED X ks o k1 (.list (bs.map PyData.bool))) (he : ED X k1 e k2 (.bool b)) (hbase : attributeBase o "count" X.env (eval o X.env) = eval o X.env) (hs : starEach [e] X.env = (false, eval e X.env) :: starEach [] X.env)
    (hfew : ((backTo pos (starEach [e] X.env)).all (fun x => !x.1) && (backToKw pos (keywordEach [] X.env)).all (fun x => x.1.isSome) && decide ([e].length + ([] : List Keyword).length + (if ([] : List Keyword).isEmpty then 0 else 1) < 30)) = true) (hline : (apos.endLine == pos.line) = true) :
    ED X ks (.Call (.Attribute o "count" apos) [e] [] pos) k2 (.int (bs.count b : Nat)) := fun W σ G H S Q q => by
  refine ev_of (pe_bm PySem.F.plainAttrs_list PySem.F.slot_list_count PySem.F.type_list_count mt_lcntV pe_ev (pa_cons pe_ev pa_nil hs) (hbase := hbase) (hs := hs) (hfew := hfew) (hline := hline)) ?_
  refine ho W σ G H S _ fun v G1 H1 S1 g1 r1 => ?_
  obtain ⟨p, vs, rfl, sp, ap⟩ := r1.lst_inv
  obtain rfl := DpAll.bools ap
  refine ⟨.inl ⟨rfl, _, S1.gh.seq sp⟩, he W σ G1 H1 S1 _ fun u G2 H2 S2 g2 r2 => ?_⟩
  rw [r2.bl_inv]
  refine ⟨p, bs.map V.bl, .bl b, rfl, rfl, rfl, flat_bools bs, S2.gh.seq (g2.seq sp), ?_⟩
  rw [List.countP_map]
  exact q _ G2 H2 S2 (g1.trans g2) (.int _)
theorem ed_idxB {bs : List Bool} {b : Bool} {j : Nat} (ho : ED X ks o k1 (.list (bs.map PyData.bool))) (he : ED X k1 e k2 (.bool b)) (hj : bs[j]? = some b) (hno : ∀ m, m < j → bs[m]? ≠ some b) (hbase : attributeBase o "index" X.env (eval o X.env) = eval o X.env) (hs : starEach [e] X.env = (false, eval e X.env) :: starEach [] X.env)
    (hfew : ((backTo pos (starEach [e] X.env)).all (fun x => !x.1) && (backToKw pos (keywordEach [] X.env)).all (fun x => x.1.isSome) && decide ([e].length + ([] : List Keyword).length + (if ([] : List Keyword).isEmpty then 0 else 1) < 30)) = true) (hline : (apos.endLine == pos.line) = true) :
    ED X ks (.Call (.Attribute o "index" apos) [e] [] pos) k2 (.int (j : Nat)) := fun W σ G H S Q q => by
  refine ev_of (pe_bm PySem.F.plainAttrs_list PySem.F.slot_list_index PySem.F.type_list_index mt_index pe_ev (pa_cons pe_ev pa_nil hs) (hbase := hbase) (hs := hs) (hfew := hfew) (hline := hline)) ?_
  refine ho W σ G H S _ fun v G1 H1 S1 g1 r1 => ?_
  obtain ⟨p, vs, rfl, sp, ap⟩ := r1.lst_inv
  obtain rfl := DpAll.bools ap
  refine ⟨.inl ⟨rfl, _, S1.gh.seq sp⟩, he W σ G1 H1 S1 _ fun u G2 H2 S2 g2 r2 => ?_⟩
  rw [r2.bl_inv]
  refine ⟨p, bs.map V.bl, .bl b, j, .bl b, rfl, rfl, S2.gh.seq (g2.seq sp), rfl, flat_bools bs, by rw [List.getElem?_map, hj]; rfl, beq_self_eq_true b, fun m z hm hz => ?_, q _ G2 H2 S2 (g1.trans g2) (.int _)⟩
  rw [List.getElem?_map] at hz
  cases h : bs[m]? with
  | none => rw [h] at hz; cases hz
  | some y =>
    rw [h] at hz
    cases hz
    exact beq_eq_false_iff_ne.mpr fun e => hno m hm (by rw [h, e])
end
end Z
namespace Z
open PySem PySem.Spec L2
variable [Tabl]
section
variable {P : Program} {w : World} {K : PySem.W.Frag} {mg : Str → Option Value} {base : Heap} {T : Sta} {k : Nat} {X : Cx} {ks : List SK} {e : Expr} {pos p : Pos} {rest : List Stmt} {Φ : Po} {cq : Bool}
/-- x = e, of which only some things are known -/
theorem sd_asgE {α : Type} (k1 : α → List SK) (d : α → PyData) (pr : α → Prop) (c : CtxB cq P w K mg base T k X) (i : Nat) {x : Str} (hi : T.N[i]? = some x) (hx : Loc T.sc x) (hf : T.fn x = true ∨ T.sc.names.lookup x = some .local) (h : ∃ a, ED X ks e (k1 a) (d a) ∧ i < (k1 a).length ∧ pr a) (hs : swapsWith e (some (.Name x p)) pos.line X.env = pure false)
    (q : ∀ a, pr a → SD X ((k1 a).set i (.dat (d a))) rest Φ) : SD X ks (.Assign [.Name x p] e pos :: rest) Φ := by
  obtain ⟨a, h1, h2, h3⟩ := h
  exact sd_asg c i hi hx hf h2 h1 hs (q a h3)
end
end Z
local macro_rules | `(tactic| kspl_open vis) => `(tactic| first | exact .inl rfl | exact .inr (.inl rfl) | exact .inr (.inr rfl))
local macro_rules | `(tactic| kspl_open loc) => `(tactic| first | exact .inl rfl | exact .inr rfl)
local macro_rules | `(tactic| kspl_open bd) => `(tactic| first | exact Z.bd_add | exact Z.bd_sub | exact Z.bd_mod (by first | decide | omega) | exact Z.bd_fdiv ⟨by first | decide | omega, by first | decide | omega⟩ | exact Z.bd_mul (.inl ⟨by omega, by omega⟩) | exact Z.bd_mul (.inr ⟨by omega, by omega⟩))
local macro_rules | `(tactic| kspl_open cd) => `(tactic| first | exact Z.cd_lt | exact Z.cd_le | exact Z.cd_gt | exact Z.cd_ge | exact Z.cd_eqI | exact Z.cd_neI | exact Z.cd_isN | exact Z.cd_notN)
local macro_rules | `(tactic| kspl_open cl) => `(tactic| first | exact Z.cl_lenT | exact Z.cl_lenL | exact Z.cl_max2 (Z.CtxB.calm (by assumption)) | exact Z.cl_min2 (Z.CtxB.calm (by assumption)) | exact Z.cl_intB | exact Z.cl_tupL | exact Z.cl_lstL | exact Z.cl_lstT)
local macro_rules | `(tactic| kspl_open ix) => `(tactic| first | rfl | assumption | exact Z.ix_fl (by assumption) | exact Z.ix_row (by assumption) (by assumption) (by assumption))
namespace K
open PySem L2 Z
def top (i : Nat) : Stmt := PySem.Challenge.pw_homingpost_k14_refusals.main.body.getD i (.Pass ⟨0, 0, 0, 0⟩)
abbrev s_PostError : Stmt := top 1
abbrev s_BadBook : Stmt := top 2
abbrev s_NoOffice : Stmt := top 3
abbrev s_BadPosting : Stmt := top 4
abbrev s_NoPosting : Stmt := top 5
abbrev s_BadText : Stmt := top 6
abbrev s_need : Stmt := top 19
abbrev s_is_office : Stmt := top 20
abbrev s_need_flights : Stmt := top 21
abbrev s_need_rows : Stmt := top 22
abbrev s_need_book : Stmt := top 23
abbrev s_need_posting : Stmt := top 24
abbrev s_need_office : Stmt := top 25
abbrev s_need_letters : Stmt := top 26
abbrev s_arrivals : Stmt := top 28
abbrev s_carried : Stmt := top 29
abbrev s_by_carts : Stmt := top 30
abbrev s_all_choices : Stmt := top 31
abbrev s_choices : Stmt := top 32
abbrev s_is_barred : Stmt := top 34
abbrev s_let_go : Stmt := top 35
abbrev s_comes : Stmt := top 36
abbrev s_home_by : Stmt := top 37
abbrev s_need_begins : Stmt := top 39
abbrev s_posted : Stmt := top 40
abbrev s_spread : Stmt := top 41
abbrev s_reach : Stmt := top 42
abbrev s_flights_of : Stmt := top 43
abbrev s_flown : Stmt := top 44
abbrev s_without : Stmt := top 45
abbrev s_losses : Stmt := top 46
abbrev s_later : Stmt := top 47
abbrev s_sure : Stmt := top 48
abbrev s_comes_by : Stmt := top 49
abbrev s_first_failing : Stmt := top 50
abbrev s_kept : Stmt := top 51
abbrev s_Ground : Stmt := top 53
abbrev s_is_cut : Stmt := top 54
abbrev s_shows : Stmt := top 55
abbrev s_narrowed : Stmt := top 57
abbrev s_posting_of : Stmt := top 58
abbrev s_fewest : Stmt := top 59
abbrev s_mended : Stmt := top 61
abbrev s_begins_then : Stmt := top 62
abbrev s_place_of : Stmt := top 64
abbrev s_first_to : Stmt := top 65
abbrev s_way_to : Stmt := top 66
abbrev s_way : Stmt := top 67
abbrev s_weak : Stmt := top 68
abbrev s_latest : Stmt := top 69
abbrev s_row_of : Stmt := top 72
abbrev s_written : Stmt := top 73
abbrev s__law_next : Stmt := top 75
abbrev s__law_hours : Stmt := top 76
abbrev s__law_book : Stmt := top 77
abbrev s__law_posting : Stmt := top 78
abbrev s__law_ask : Stmt := top 80
abbrev s__law_plain : Stmt := top 81
abbrev s__law_kind : Stmt := top 82
abbrev s__law_wrong : Stmt := top 83
abbrev s_law : Stmt := top 84
def clsBody : Stmt → List Stmt
  | .ClassDef _ _ _ b .. => b
  | _ => []
abbrev s_BadBook___init__ : Stmt := (clsBody s_BadBook).getD 0 (.Pass ⟨0, 0, 0, 0⟩)
structure Exs (K : PySem.W.Frag) (mg : Str → Option Value) (aPostError aBadBook aNoOffice aBadPosting aNoPosting aBadText : Addr) : Prop where
  g_PostError : mg "PostError" = some (.ref aPostError)
  c_PostError : (PySem.W.clsIn K aPostError).isSome = true
  t_PostError : PySem.W.typeIn K (.ref aPostError) = some (.type "type")
  s_PostError : PySem.W.subIn K (.ref aPostError) (.type "BaseException") = some true
  h_PostError : PySem.W.hasDictIn K aPostError = true
  g_BadBook : mg "BadBook" = some (.ref aBadBook)
  c_BadBook : (PySem.W.clsIn K aBadBook).isSome = true
  t_BadBook : PySem.W.typeIn K (.ref aBadBook) = some (.type "type")
  s_BadBook : PySem.W.subIn K (.ref aBadBook) (.type "BaseException") = some true
  h_BadBook : PySem.W.hasDictIn K aBadBook = true
  g_NoOffice : mg "NoOffice" = some (.ref aNoOffice)
  c_NoOffice : (PySem.W.clsIn K aNoOffice).isSome = true
  t_NoOffice : PySem.W.typeIn K (.ref aNoOffice) = some (.type "type")
  s_NoOffice : PySem.W.subIn K (.ref aNoOffice) (.type "BaseException") = some true
  h_NoOffice : PySem.W.hasDictIn K aNoOffice = true
  g_BadPosting : mg "BadPosting" = some (.ref aBadPosting)
  c_BadPosting : (PySem.W.clsIn K aBadPosting).isSome = true
  t_BadPosting : PySem.W.typeIn K (.ref aBadPosting) = some (.type "type")
  s_BadPosting : PySem.W.subIn K (.ref aBadPosting) (.type "BaseException") = some true
  h_BadPosting : PySem.W.hasDictIn K aBadPosting = true
  g_NoPosting : mg "NoPosting" = some (.ref aNoPosting)
  c_NoPosting : (PySem.W.clsIn K aNoPosting).isSome = true
  t_NoPosting : PySem.W.typeIn K (.ref aNoPosting) = some (.type "type")
  s_NoPosting : PySem.W.subIn K (.ref aNoPosting) (.type "BaseException") = some true
  h_NoPosting : PySem.W.hasDictIn K aNoPosting = true
  g_BadText : mg "BadText" = some (.ref aBadText)
  c_BadText : (PySem.W.clsIn K aBadText).isSome = true
  t_BadText : PySem.W.typeIn K (.ref aBadText) = some (.type "type")
  s_BadText : PySem.W.subIn K (.ref aBadText) (.type "BaseException") = some true
  h_BadText : PySem.W.hasDictIn K aBadText = true
  p_BadBook_PostError : PySem.W.subIn K (.ref aBadBook) (.ref aPostError) = some true
  p_BadBook_BadBook : PySem.W.subIn K (.ref aBadBook) (.ref aBadBook) = some true
  p_BadBook_NoOffice : PySem.W.subIn K (.ref aBadBook) (.ref aNoOffice) = some false
  p_BadBook_BadPosting : PySem.W.subIn K (.ref aBadBook) (.ref aBadPosting) = some false
  p_BadBook_NoPosting : PySem.W.subIn K (.ref aBadBook) (.ref aNoPosting) = some false
  p_BadBook_BadText : PySem.W.subIn K (.ref aBadBook) (.ref aBadText) = some false
  v_BadBook : PySem.W.subIn K (.ref aBadBook) (.type "ValueError") = some true
  i_BadBook : ExcI K aBadBook
  x_BadBook : Exc1At K mg "BadBook" "why" aBadBook "BadBook.__init__" s_BadBook___init__ ["self", "why"]
  p_BadPosting_PostError : PySem.W.subIn K (.ref aBadPosting) (.ref aPostError) = some true
  p_BadPosting_BadBook : PySem.W.subIn K (.ref aBadPosting) (.ref aBadBook) = some false
  p_BadPosting_NoOffice : PySem.W.subIn K (.ref aBadPosting) (.ref aNoOffice) = some false
  p_BadPosting_BadPosting : PySem.W.subIn K (.ref aBadPosting) (.ref aBadPosting) = some true
  p_BadPosting_NoPosting : PySem.W.subIn K (.ref aBadPosting) (.ref aNoPosting) = some false
  p_BadPosting_BadText : PySem.W.subIn K (.ref aBadPosting) (.ref aBadText) = some false
  v_BadPosting : PySem.W.subIn K (.ref aBadPosting) (.type "ValueError") = some true
  i_BadPosting : ExcI K aBadPosting
  z_BadPosting : Exc0 K mg "BadPosting" aBadPosting
  p_NoOffice_PostError : PySem.W.subIn K (.ref aNoOffice) (.ref aPostError) = some true
  p_NoOffice_BadBook : PySem.W.subIn K (.ref aNoOffice) (.ref aBadBook) = some false
  p_NoOffice_NoOffice : PySem.W.subIn K (.ref aNoOffice) (.ref aNoOffice) = some true
  p_NoOffice_BadPosting : PySem.W.subIn K (.ref aNoOffice) (.ref aBadPosting) = some false
  p_NoOffice_NoPosting : PySem.W.subIn K (.ref aNoOffice) (.ref aNoPosting) = some false
  p_NoOffice_BadText : PySem.W.subIn K (.ref aNoOffice) (.ref aBadText) = some false
  v_NoOffice : PySem.W.subIn K (.ref aNoOffice) (.type "ValueError") = some true
  i_NoOffice : ExcI K aNoOffice
  z_NoOffice : Exc0 K mg "NoOffice" aNoOffice
abbrev s_Ground___init__ : Stmt := (clsBody s_Ground).getD 0 (.Pass ⟨0, 0, 0, 0⟩)
abbrev s_Ground_rows : Stmt := (clsBody s_Ground).getD 1 (.Pass ⟨0, 0, 0, 0⟩)
abbrev s_Ground_left : Stmt := (clsBody s_Ground).getD 2 (.Pass ⟨0, 0, 0, 0⟩)
abbrev s_Ground_is_cut : Stmt := (clsBody s_Ground).getD 3 (.Pass ⟨0, 0, 0, 0⟩)
abbrev s_Ground_has_two : Stmt := (clsBody s_Ground).getD 4 (.Pass ⟨0, 0, 0, 0⟩)
abbrev s_Ground_choosing : Stmt := (clsBody s_Ground).getD 5 (.Pass ⟨0, 0, 0, 0⟩)
abbrev s_Ground_first_with : Stmt := (clsBody s_Ground).getD 6 (.Pass ⟨0, 0, 0, 0⟩)
structure Ground_at (K : PySem.W.Frag) (mg : Str → Option Value) (C : Addr) : Prop where
  cl : L2.Cls K C
  mkd : MkAt K mg "Ground" C "Ground.__init__" s_Ground___init__ ["self", "book", "letters", "start", "gone", "now"]
  m_rows : MethAt K C "rows" "Ground.rows" s_Ground_rows ["self"]
  m_left : MethAt K C "left" "Ground.left" s_Ground_left ["self", "cut"]
  m_is_cut : MethAt K C "is_cut" "Ground.is_cut" s_Ground_is_cut ["self", "cut"]
  m_has_two : MethAt K C "has_two" "Ground.has_two" s_Ground_has_two ["self", "rows", "cut"]
  m_choosing : MethAt K C "choosing" "Ground.choosing" s_Ground_choosing ["self", "many", "bird", "rows", "cuts"]
  m_first_with : MethAt K C "first_with" "Ground.first_with" s_Ground_first_with ["self", "many", "cuts"]
  na_book : L2.NoAttr K C "book"
  na_letters : L2.NoAttr K C "letters"
  na_stands : L2.NoAttr K C "stands"
  na_free : L2.NoAttr K C "free"
class LamC where
  cc : Addr
  tt : Addr
instance tabOf [LamC] : Tabl := ⟨[(LamC.tt, "law.<locals>.<lambda>")]⟩
structure Md (K : PySem.W.Frag) (mg : Str → Option Value) : Prop where
  c_LEAST_OFFICES : ∃ t, mg "LEAST_OFFICES" = some (.int 2 t)
  c_MOST_OFFICES : ∃ t, mg "MOST_OFFICES" = some (.int 6 t)
  c_MOST_FLIGHT : ∃ t, mg "MOST_FLIGHT" = some (.int 9 t)
  c_MOST_STORMS : ∃ t, mg "MOST_STORMS" = some (.int 8 t)
  c_MOST_CARTS : ∃ t, mg "MOST_CARTS" = some (.int 12 t)
  c_MOST_BIRDS : ∃ t, mg "MOST_BIRDS" = some (.int 6 t)
  c_MOST_HOUR : ∃ t, mg "MOST_HOUR" = some (.int 99 t)
  c_FLIGHTS : ∃ t, mg "FLIGHTS" = some (.int 0 t)
  c_STORMS : ∃ t, mg "STORMS" = some (.int 1 t)
  c_CARTS : ∃ t, mg "CARTS" = some (.int 2 t)
  c_BIRDS : ∃ t, mg "BIRDS" = some (.int 3 t)
  d_need : DefAt K mg "need" s_need ["good", "why"]
  d_is_office : DefAt K mg "is_office" s_is_office ["book", "office"]
  d_need_flights : DefAt K mg "need_flights" s_need_flights ["book"]
  d_need_rows : DefAt K mg "need_rows" s_need_rows ["book", "place", "most", "why"]
  d_need_book : DefAt K mg "need_book" s_need_book ["book"]
  d_need_posting : DefAt K mg "need_posting" s_need_posting ["book", "posting"]
  d_need_office : DefAt K mg "need_office" s_need_office ["book", "office"]
  d_need_letters : DefAt K mg "need_letters" s_need_letters ["book", "letters"]
  d_arrivals : DefAt K mg "arrivals" s_arrivals ["book", "office", "now"]
  d_carried : DefAt K mg "carried" s_carried ["book", "office", "now"]
  d_by_carts : DefAt K mg "by_carts" s_by_carts ["book", "office", "other", "now"]
  d_all_choices : DefAt K mg "all_choices" s_all_choices ["book", "start", "gone", "now"]
  d_choices : DefAt K mg "choices" s_choices ["book", "start", "gone", "now"]
  d_is_barred : DefAt K mg "is_barred" s_is_barred ["book", "office", "home", "hour"]
  d_let_go : DefAt K mg "let_go" s_let_go ["book", "office", "home", "hour"]
  d_comes : DefAt K mg "comes" s_comes ["book", "office", "home", "hour"]
  d_home_by : DefAt K mg "home_by" s_home_by ["book", "office", "home", "hour"]
  d_need_begins : DefAt K mg "need_begins" s_need_begins ["book", "begins"]
  d_posted : DefAt K mg "posted" s_posted ["posting"]
  d_spread : DefAt K mg "spread" s_spread ["book", "rows", "begins"]
  d_reach : DefAt K mg "reach" s_reach ["book", "posting", "begins"]
  d_flights_of : DefAt K mg "flights_of" s_flights_of ["book", "rows", "begins"]
  d_flown : DefAt K mg "flown" s_flown ["book", "posting", "begins"]
  d_without : DefAt K mg "without" s_without ["rows", "bird"]
  d_losses : DefAt K mg "losses" s_losses ["rows"]
  d_later : DefAt K mg "later" s_later ["one", "other"]
  d_sure : DefAt K mg "sure" s_sure ["book", "posting", "begins"]
  d_comes_by : DefAt K mg "comes_by" s_comes_by ["book", "rows", "letter"]
  d_first_failing : DefAt K mg "first_failing" s_first_failing ["book", "rows", "letters"]
  d_kept : DefAt K mg "kept" s_kept ["book", "posting", "letters"]
  d_is_cut : DefAt K mg "is_cut" s_is_cut ["book", "letters", "start", "gone", "now", "cut"]
  d_shows : DefAt K mg "shows" s_shows ["book", "letters", "start", "gone", "now", "many", "cuts"]
  d_narrowed : DefAt K mg "narrowed" s_narrowed ["ground", "rows"]
  d_posting_of : DefAt K mg "posting_of" s_posting_of ["book", "rows"]
  d_fewest : DefAt K mg "fewest" s_fewest ["book", "letters", "start", "gone", "now"]
  d_mended : DefAt K mg "mended" s_mended ["book", "posting", "begins", "lost", "now"]
  d_begins_then : DefAt K mg "begins_then" s_begins_then ["book", "rows", "begins", "away", "now"]
  d_place_of : DefAt K mg "place_of" s_place_of ["rows", "bird"]
  d_first_to : DefAt K mg "first_to" s_first_to ["book", "flights", "office", "hour"]
  d_way_to : DefAt K mg "way_to" s_way_to ["book", "rows", "begins", "goal"]
  d_way : DefAt K mg "way" s_way ["book", "posting", "begins", "goal"]
  d_weak : DefAt K mg "weak" s_weak ["book", "posting", "letters"]
  d_latest : DefAt K mg "latest" s_latest ["book", "posting", "office", "goal", "due"]
  t_SORTS : ∃ (a : Addr) (o : Obj) (its : Array Value) (n : Nat), mg "SORTS" = some (.ref a) ∧ K.lookup a = some o ∧ o.cls = .type "tuple" ∧ o.dict = none ∧ o.data = .seq its n ∧ its.size ≤ sizeLine ∧ Vals (((["flights", "storm", "cart", "birds"] : List Str)).map V.str) its.toList
  d_row_of : DefAt K mg "row_of" s_row_of ["word", "numbers"]
  d_written : DefAt K mg "written" s_written ["book"]
  d__law_next : DefAt K mg "_law_next" s__law_next ["_law_h", "_law_many"]
  d__law_hours : DefAt K mg "_law_hours" s__law_hours ["_law_h", "_law_offices", "_law_most"]
  d__law_book : DefAt K mg "_law_book" s__law_book ["_law_h", "_law_offices", "_law_birds"]
  d__law_posting : DefAt K mg "_law_posting" s__law_posting ["_law_h", "_law_book_here"]
  d__law_ask : DefAt K mg "_law_ask" s__law_ask ["_law_way_of", "_law_book_here", "_law_posting_here", "_law_office"]
  d__law_plain : DefAt K mg "_law_plain" s__law_plain ["_law_way_of", "_law_book_here", "_law_office"]
  d__law_kind : DefAt K mg "_law_kind" s__law_kind ["_law_work"]
  d__law_wrong : DefAt K mg "_law_wrong" s__law_wrong ["_law_h", "_law_book_here"]
  b_enumerate : mg "enumerate" = none
  b_int : mg "int" = none
  b_isinstance : mg "isinstance" = none
  b_len : mg "len" = none
  b_list : mg "list" = none
  b_max : mg "max" = none
  b_min : mg "min" = none
  b_range : mg "range" = none
  b_reversed : mg "reversed" = none
  b_sorted : mg "sorted" = none
  b_str : mg "str" = none
  b_tuple : mg "tuple" = none
  b_zip : mg "zip" = none
  b_ValueError : mg "ValueError" = none
  exs : ∃ aPostError aBadBook aNoOffice aBadPosting aNoPosting aBadText, Exs K mg aPostError aBadBook aNoOffice aBadPosting aNoPosting aBadText
  g_Ground : ∃ C, Ground_at K mg C
end K
namespace K
open PySem L2 Z
section
variable {P : Program} {w : World} {K : PySem.W.Frag} {mg : Str → Option Value} {base : Heap} [LamC]
def R_need (ds : List PyData) (d : PyData) : Prop := ∃ b w, ds = [.bool b, w] ∧ b = true ∧ d = .none
theorem ok_need (M : Md K mg) : FnG P w K mg base "need" ["good", "why"] 1 (spP K R_need) := by
  refine fn_sd (N := ["good", "why"]) M.d_need ⟨rfl, rfl, rfl, by decide +kernel, rfl, by decide +kernel, by decide +kernel⟩ (fun ds d ⟨_, _, e, _⟩ => by rw [e]; rfl) (by decide) (fun X c ds d hR => ?_)
  obtain ⟨b, w, rfl, rfl, rfl⟩ := hR
  show SD X [.dat (.bool true), .dat w] _ _
  refine sd_if (td_not (td_val (ed_var c 0 rfl (.inl rfl) rfl rfl rfl) (fun _ => rfl))) (fun hb => ?_) (fun hb => ?_)
  · cases hb
  · exact sd_nil (sd_nil rfl)
def R_is_office (ds : List PyData) (d : PyData) : Prop := ∃ B o, ds = [eBook B, .int o] ∧ d = .bool (decide (0 ≤ o) && decide (o < (B.n : Int)))
theorem ok_is_office (M : Md K mg) : FnG P w K mg base "is_office" ["book", "office"] 1 (spP K R_is_office) := by
  refine fn_sd (N := ["book", "office"]) M.d_is_office ⟨rfl, rfl, rfl, by decide +kernel, rfl, by decide +kernel, by decide +kernel⟩ (fun ds d ⟨_, _, e, _⟩ => by rw [e]; rfl) (by decide) (fun X c ds d hR => ?_)
  obtain ⟨B, o, rfl, rfl⟩ := hR
  show SD X [.dat (eBook B), .dat (.int o)] _ _
  refine sd_ret (ed_chain ed_int (ed_var c 1 rfl (.inl rfl) rfl rfl rfl) (fun _ => (ed_callB c rfl M.b_len PySem.boot_len (ad_cons (ed_ix (ed_var c 0 rfl (.inl rfl) rfl rfl rfl) (ed_gint c rfl M.c_FLIGHTS rfl) (by kspl_open ix) (fun _ _ => rfl)) ad_nil rfl) (by kspl_open cl) (by decide) rfl rfl rfl)) (by kspl_open cd) (by kspl_open cd) (by with_unfolding_all rfl)) ?_
  show PyData.bool _ = _
  rw [List.length_map]
end
end K
namespace K
open PySem L2 Z
section
variable {P : Program} {w : World} {K : PySem.W.Frag} {mg : Str → Option Value} {base : Heap} [LamC]
/-! ### books -/
def R_need_flights (ds : List PyData) (d : PyData) : Prop := ∃ B, ds = [eBook B] ∧ Good B ∧ d = .none
theorem row_at {B : Book} {i : Nat} {r : List Int} (h : B.fl[i]? = some r) : B.row (i : Int) = r ∧ B.off (i : Int) := by
  have hi := (List.getElem?_eq_some_iff.mp h).1
  refine ⟨?_, by omega, ?_⟩
  · unfold Book.row
    rw [Int.toNat_natCast, List.getD_eq_getElem?_getD, h]; rfl
  · show ((i : Nat) : Int) < (B.fl.length : Int)
    omega
theorem f_at {B : Book} {i j : Nat} {r : List Int} {v : Int} (h : B.fl[i]? = some r) (hv : r[j]? = some v) : B.f (i : Int) (j : Int) = v := by
  unfold Book.f
  rw [(row_at h).1, Int.toNat_natCast, List.getD_eq_getElem?_getD, hv]; rfl
theorem ok_need_flights (M : Md K mg) : FnG P w K mg base "need_flights" ["book"] 2 (spP K R_need_flights) := by
  have Fneed := ok_need (P := P) (w := w) (base := base) M
  refine fn_sd (N := ["book", "rows", "office", "row", "home", "hours"]) M.d_need_flights ⟨rfl, rfl, rfl, by decide +kernel, rfl, by decide +kernel, by decide +kernel⟩ (fun ds d ⟨_, e, _⟩ => by rw [e]; rfl) (by decide) (fun X c ds d hR => ?_)
  obtain ⟨B, rfl, g, rfl⟩ := hR
  show SD X [.dat (eBook B), .no, .no, .no, .no, .no] _ _
  -- rows = book[FLIGHTS]
  refine sd_asg c 1 rfl (.inl rfl) (.inl rfl) (Nat.le_of_ble_eq_true rfl) (ed_ix (ed_var c 0 rfl (.inl rfl) rfl rfl rfl) (ed_gint c rfl M.c_FLIGHTS rfl) (by kspl_open ix) (fun _ _ => rfl)) rfl ?_
  -- need(LEAST_OFFICES <= len(rows) <= MOST_OFFICES, 'flights')
  refine sd_expr (ed_call c Fneed (by decide) rfl (ad_cons (ed_chain (ed_gint c rfl M.c_LEAST_OFFICES rfl) (ed_callB c rfl M.b_len PySem.boot_len (ad_cons (ed_var c 1 rfl (.inl rfl) rfl rfl rfl) ad_nil rfl) (by kspl_open cl) (by decide) rfl rfl rfl) (fun _ => (ed_gint c rfl M.c_MOST_OFFICES rfl)) (by kspl_open cd) (by kspl_open cd) (by with_unfolding_all rfl)) (ad_cons ed_str ad_nil rfl) rfl) ⟨_, _, rfl, ?_, rfl⟩ rfl rfl rfl) rfl ?_
  · have h1 := g.n2
    have h2 := g.n6
    rw [List.length_map, decT (show (2 : Int) ≤ (B.fl.length : Int) by show _; have : 2 ≤ B.fl.length := h1; omega), decT (show (B.fl.length : Int) ≤ 6 by have : B.fl.length ≤ 6 := h2; omega)]
    rfl
  -- for office, row in enumerate(rows):
  refine sd_for c (fun i => [.dat (eBook B), .dat (.tuple (B.fl.map eInts)), .no, .no, .no, .no]) (id_enumT c rfl M.b_enumerate (ed_var c 1 rfl (.inl rfl) rfl rfl rfl) rfl) (gd_tup c (gs_cons c 2 rfl (by kspl_open loc) (by kspl_open loc) (gs_cons c 3 rfl (by kspl_open loc) (by kspl_open loc) gs_nil rfl) rfl) rfl rfl) Wk.rfl' (fun i d hd => ?_) (sd_nil rfl) (fun _ => rfl)
  obtain ⟨d', hd', rfl⟩ := enumD_inv hd
  obtain ⟨r, hr, rfl⟩ := map_get hd'
  have rl : r.length = B.n := g.rows r (List.mem_of_getElem? hr)
  refine ⟨_, rfl, ?_⟩
  -- need(len(row) == len(rows), 'flights')
  refine sd_expr (ed_call c Fneed (by decide) rfl (ad_cons (ed_cmp (ed_callB c rfl M.b_len PySem.boot_len (ad_cons (ed_var c 3 rfl (.inl rfl) rfl rfl rfl) ad_nil rfl) (by kspl_open cl) (by decide) rfl rfl rfl) (ed_callB c rfl M.b_len PySem.boot_len (ad_cons (ed_var c 1 rfl (.inl rfl) rfl rfl rfl) ad_nil rfl) (by kspl_open cl) (by decide) rfl rfl rfl) (by kspl_open cd) (nomark _)) (ad_cons ed_str ad_nil rfl) rfl) ⟨_, _, rfl, ?_, rfl⟩ rfl rfl rfl) rfl ?_
  · rw [List.length_map, List.length_map, rl]
    exact decT rfl
  -- for home, hours in enumerate(row):
  refine sd_for c (fun j => [.dat (eBook B), .dat (.tuple (B.fl.map eInts)), .dat (.int (i : Int)), .dat (eInts r), .no, .no]) (id_enumT c rfl M.b_enumerate (ed_var c 3 rfl (.inl rfl) rfl rfl rfl) rfl) (gd_tup c (gs_cons c 4 rfl (by kspl_open loc) (by kspl_open loc) (gs_cons c 5 rfl (by kspl_open loc) (by kspl_open loc) gs_nil rfl) rfl) rfl rfl) Wk.rfl' (fun j d hd => ?_) (sd_nil ⟨.inr rfl, .inr rfl, .inl rfl, .inl rfl, .inl rfl, .inl rfl, trivial⟩) (fun _ => rfl)
  obtain ⟨d', hd'', rfl⟩ := enumD_inv hd
  obtain ⟨v, hv, rfl⟩ := map_get hd''
  refine ⟨_, rfl, ?_⟩
  have jn : j < B.n := by rw [← rl]; exact (List.getElem?_eq_some_iff.mp hv).1
  have jj : B.off (j : Int) := ⟨by omega, Int.ofNat_lt.mpr jn⟩
  have val := g.vals (i : Int) (j : Int) (row_at hr).2 jj
  rw [f_at hr hv] at val
  -- need(hours == 0 if home == office else 1 <= hours <= MOST_FLIGHT, 'flights')
  refine sd_expr (ed_call c Fneed (by decide) rfl (ad_cons (ed_if (d := .bool true) (td_cmp (ed_var c 4 rfl (.inl rfl) rfl rfl rfl) (ed_var c 2 rfl (.inl rfl) rfl rfl rfl) (by kspl_open cd) (nomark _)) (fun hb => ed_to (ed_cmp (ed_var c 5 rfl (.inl rfl) rfl rfl rfl) ed_int (by kspl_open cd) (nomark _)) ?_) (fun hb => ed_to (ed_chain ed_int (ed_var c 5 rfl (.inl rfl) rfl rfl rfl) (fun _ => (ed_gint c rfl M.c_MOST_FLIGHT rfl)) (by kspl_open cd) (by kspl_open cd) (by with_unfolding_all rfl)) ?_)) (ad_cons ed_str ad_nil rfl) rfl) ⟨_, _, rfl, rfl, rfl⟩ rfl rfl rfl) rfl ?_
  · rw [if_pos (of_decide_eq_true hb)] at val
    rw [decT val]
  · rw [if_neg (of_decide_eq_false hb)] at val
    rw [decT val.1, decT val.2]; rfl
  exact sd_nil ⟨.inr rfl, .inr rfl, .inr rfl, .inr rfl, .inl rfl, .inl rfl, trivial⟩
def R_need_rows (ds : List PyData) (d : PyData) : Prop := ∃ (B : Book) (p m : Int) (w : PyData) (l : List Row), ds = [eBook B, .int p, .int m, w] ∧ ixD (eBook B) p = some (.tuple (l.map eRow)) ∧ (l.length : Int) ≤ m ∧ (∀ r ∈ l, GoodRow B r) ∧ d = .none
theorem ok_need_rows (M : Md K mg) : FnG P w K mg base "need_rows" ["book", "place", "most", "why"] 2 (spP K R_need_rows) := by
  have Fneed := ok_need (P := P) (w := w) (base := base) M
  have Fis_office := ok_is_office (P := P) (w := w) (base := base) M
  refine fn_sd (N := ["book", "place", "most", "why", "one", "other", "begin", "end"]) M.d_need_rows ⟨rfl, rfl, rfl, by decide +kernel, rfl, by decide +kernel, by decide +kernel⟩ (fun ds d ⟨_, _, _, _, _, e, _⟩ => by rw [e]; rfl) (by decide) (fun X c ds d hR => ?_)
  obtain ⟨B, p, m, w, l, rfl, hp, hm, hl, rfl⟩ := hR
  show SD X [.dat (eBook B), .dat (.int p), .dat (.int m), .dat w, .no, .no, .no, .no] _ _
  -- need(len(book[place]) <= most, why)
  refine sd_expr (ed_call c Fneed (by decide) rfl (ad_cons (ed_cmp (ed_callB c rfl M.b_len PySem.boot_len (ad_cons (ed_ix (ed_var c 0 rfl (.inl rfl) rfl rfl rfl) (ed_var c 1 rfl (.inl rfl) rfl rfl rfl) hp (fun _ _ => rfl)) ad_nil rfl) (by kspl_open cl) (by decide) rfl rfl rfl) (ed_var c 2 rfl (.inl rfl) rfl rfl rfl) (by kspl_open cd) (nomark _)) (ad_cons (ed_var c 3 rfl (.inl rfl) rfl rfl rfl) ad_nil rfl) rfl) ⟨_, _, rfl, by rw [List.length_map]; exact decT hm, rfl⟩ rfl rfl rfl) rfl ?_
  -- for one, other, begin, end in book[place]:
  refine sd_for c (fun _ => [.dat (eBook B), .dat (.int p), .dat (.int m), .dat w, .no, .no, .no, .no]) (id_seq (ed_ix (ed_var c 0 rfl (.inl rfl) rfl rfl rfl) (ed_var c 1 rfl (.inl rfl) rfl rfl rfl) hp (fun _ _ => rfl)) rfl) (gd_tup c (gs_cons c 4 rfl (by kspl_open loc) (by kspl_open loc) (gs_cons c 5 rfl (by kspl_open loc) (by kspl_open loc) (gs_cons c 6 rfl (by kspl_open loc) (by kspl_open loc) (gs_cons c 7 rfl (by kspl_open loc) (by kspl_open loc) gs_nil rfl) rfl) rfl) rfl) rfl rfl) Wk.rfl' (fun i d hd => ?_) (sd_nil rfl) (fun _ => rfl)
  obtain ⟨r, hr, rfl⟩ := map_get hd
  have gr := hl r (List.mem_of_getElem? hr)
  refine ⟨_, rfl, ?_⟩
  -- need(is_office(book, one) and is_office(book, other) and (one != other), why)
  refine sd_expr (ed_call c Fneed (by decide) rfl (ad_cons (ed_and (ed_call c Fis_office (by decide) rfl (ad_cons (ed_var c 0 rfl (.inl rfl) rfl rfl rfl) (ad_cons (ed_var c 4 rfl (.inl rfl) rfl rfl rfl) ad_nil rfl) rfl) ⟨B, _, rfl, rfl⟩ rfl rfl rfl) (fun _ => (ed_and (ed_call c Fis_office (by decide) rfl (ad_cons (ed_var c 0 rfl (.inl rfl) rfl rfl rfl) (ad_cons (ed_var c 5 rfl (.inl rfl) rfl rfl rfl) ad_nil rfl) rfl) ⟨B, _, rfl, rfl⟩ rfl rfl rfl) (fun _ => (ed_and1 (ed_cmp (ed_var c 4 rfl (.inl rfl) rfl rfl rfl) (ed_var c 5 rfl (.inl rfl) rfl rfl rfl) (by kspl_open cd) (nomark _))))))) (ad_cons (ed_var c 3 rfl (.inl rfl) rfl rfl rfl) ad_nil rfl) rfl) ⟨_, _, rfl, ?_, rfl⟩ rfl rfl rfl) rfl ?_
  · rw [decT gr.a.1, decT gr.a.2, decT gr.b.1, decT gr.b.2, decide_eq_false gr.ne]; rfl
  -- need(0 <= begin < end <= MOST_HOUR, why)
  refine sd_expr (ed_call c Fneed (by decide) rfl (ad_cons (ed_chain3 ed_int (ed_var c 6 rfl (.inl rfl) rfl rfl rfl) (ed_var c 7 rfl (.inl rfl) rfl rfl rfl) (ed_gint c rfl M.c_MOST_HOUR rfl) (by kspl_open cd) (by kspl_open cd) (by kspl_open cd) (by with_unfolding_all rfl)) (ad_cons (ed_var c 3 rfl (.inl rfl) rfl rfl rfl) ad_nil rfl) rfl) ⟨_, _, rfl, ?_, rfl⟩ rfl rfl rfl) rfl ?_
  · rw [decT gr.h0, decT gr.h1, decT gr.h2]; rfl
  exact sd_nil ⟨.inr rfl, .inr rfl, .inr rfl, .inr rfl, .inl rfl, .inl rfl, .inl rfl, .inl rfl, trivial⟩
def R_need_book (ds : List PyData) (d : PyData) : Prop := ∃ B, ds = [eBook B] ∧ Good B ∧ d = .none
theorem ok_need_book (M : Md K mg) : FnG P w K mg base "need_book" ["book"] 3 (spP K R_need_book) := by
  have Fneed := ok_need (P := P) (w := w) (base := base) M
  have Fis_office := ok_is_office (P := P) (w := w) (base := base) M
  have Fneed_flights := ok_need_flights (P := P) (w := w) (base := base) M
  have Fneed_rows := ok_need_rows (P := P) (w := w) (base := base) M
  refine fn_sd (N := ["book", "home"]) M.d_need_book ⟨rfl, rfl, rfl, by decide +kernel, rfl, by decide +kernel, by decide +kernel⟩ (fun ds d ⟨_, e, _⟩ => by rw [e]; rfl) (by decide) (fun X c ds d hR => ?_)
  obtain ⟨B, rfl, g, rfl⟩ := hR
  show SD X [.dat (eBook B), .no] _ _
  -- need_flights(book)
  refine sd_expr (ed_call c Fneed_flights (by decide) rfl (ad_cons (ed_var c 0 rfl (.inl rfl) rfl rfl rfl) ad_nil rfl) ⟨B, rfl, g, rfl⟩ rfl rfl rfl) rfl ?_
  -- need_rows(book, STORMS, MOST_STORMS, 'storms')
  refine sd_expr (ed_call c Fneed_rows (by decide) rfl (ad_cons (ed_var c 0 rfl (.inl rfl) rfl rfl rfl) (ad_cons (ed_gint c rfl M.c_STORMS rfl) (ad_cons (ed_gint c rfl M.c_MOST_STORMS rfl) (ad_cons ed_str ad_nil rfl) rfl) rfl) rfl) ⟨B, 1, 8, _, B.st, rfl, rfl, by have := g.stl; omega, g.st, rfl⟩ rfl rfl rfl) rfl ?_
  -- need_rows(book, CARTS, MOST_CARTS, 'carts')
  refine sd_expr (ed_call c Fneed_rows (by decide) rfl (ad_cons (ed_var c 0 rfl (.inl rfl) rfl rfl rfl) (ad_cons (ed_gint c rfl M.c_CARTS rfl) (ad_cons (ed_gint c rfl M.c_MOST_CARTS rfl) (ad_cons ed_str ad_nil rfl) rfl) rfl) rfl) ⟨B, 2, 12, _, B.ca, rfl, rfl, by have := g.cal; omega, g.ca, rfl⟩ rfl rfl rfl) rfl ?_
  -- need(len(book[BIRDS]) <= MOST_BIRDS, 'birds')
  refine sd_expr (ed_call c Fneed (by decide) rfl (ad_cons (ed_cmp (ed_callB c rfl M.b_len PySem.boot_len (ad_cons (ed_ix (ed_var c 0 rfl (.inl rfl) rfl rfl rfl) (ed_gint c rfl M.c_BIRDS rfl) (by kspl_open ix) (fun _ _ => rfl)) ad_nil rfl) (by kspl_open cl) (by decide) rfl rfl rfl) (ed_gint c rfl M.c_MOST_BIRDS rfl) (by kspl_open cd) (nomark _)) (ad_cons ed_str ad_nil rfl) rfl) ⟨_, _, rfl, by rw [List.length_map]; exact decT (by have := g.bil; omega), rfl⟩ rfl rfl rfl) rfl ?_
  -- for home in book[BIRDS]:
  refine sd_for c (fun _ => [.dat (eBook B), .no]) (id_seq (ed_ix (ed_var c 0 rfl (.inl rfl) rfl rfl rfl) (ed_gint c rfl M.c_BIRDS rfl) (by kspl_open ix) (fun _ _ => rfl)) rfl) (gd_name c 1 rfl (by kspl_open loc) (by kspl_open loc)) Wk.rfl' (fun i d hd => ?_) (sd_nil rfl) (fun _ => rfl)
  obtain ⟨h, hh, rfl⟩ := map_get hd
  have gh := g.bi h (List.mem_of_getElem? hh)
  refine ⟨_, rfl, ?_⟩
  -- need(is_office(book, home), 'birds')
  refine sd_expr (ed_call c Fneed (by decide) rfl (ad_cons (ed_call c Fis_office (by decide) rfl (ad_cons (ed_var c 0 rfl (.inl rfl) rfl rfl rfl) (ad_cons (ed_var c 1 rfl (.inl rfl) rfl rfl rfl) ad_nil rfl) rfl) ⟨B, _, rfl, rfl⟩ rfl rfl rfl) (ad_cons ed_str ad_nil rfl) rfl) ⟨_, _, rfl, by rw [decT gh.1, decT gh.2]; rfl, rfl⟩ rfl rfl rfl) rfl ?_
  exact sd_nil ⟨.inr rfl, .inl rfl, trivial⟩
end
end K
namespace K
open PySem L2 Z
section
variable {P : Program} {w : World} {K : PySem.W.Frag} {mg : Str → Option Value} {base : Heap} [LamC]
/-! ### drawing -/
def R_next (r : Rg) (ds : List PyData) (r2 : Rg) (d : PyData) : Prop := ∃ m : Int, ds = [.int m] ∧ 0 < m ∧ m < 1073741824 ∧ r2 = nxR r m ∧ d = .int (nxV r m)
theorem ok_next (M : Md K mg) : FnG P w K mg base "_law_next" ["_law_h", "_law_many"] 1 (spR K R_next) := by
  refine fn_sdR (N := ["_law_h", "_law_many", "_law_at", "_law_cell"]) M.d__law_next ⟨rfl, rfl, rfl, by decide +kernel, rfl, by decide +kernel, by decide +kernel⟩ (fun r ds r2 d ⟨_, e, _⟩ => by rw [e]; rfl) (by decide) (fun X c A B r ds r2 d hR => ?_)
  obtain ⟨m, rfl, m0, m1, rfl, rfl⟩ := hR
  show SD X [.rng A B r, .dat (.int m), .no, .no] _ _
  have hm : 0 < max 1 (r.c.length : Int) := by omega
  refine sd_asg c 2 rfl (.inl rfl) (.inl rfl) (Nat.le_of_ble_eq_true rfl) (ed_bin (rng_ix (i := 0) c rfl (.inl rfl) rfl rfl rfl (.inr ⟨rfl, rfl⟩)) (ed_callB c rfl M.b_max PyProof.Rows.boot_max (ad_cons ed_int (ad_cons (rng_len (i := 0) c rfl (.inl rfl) rfl rfl rfl rfl M.b_len) ad_nil rfl) rfl) (cl_max2 c.calm) (by decide) rfl rfl rfl) (bd_mod hm)) rfl ?_
  refine sd_asg c 3 rfl (.inl rfl) (.inl rfl) (Nat.le_of_ble_eq_true rfl) (ed_if (d := .int (Z.cellOf r)) (rng_some (i := 0) c rfl (.inl rfl) rfl rfl rfl) (fun hb => rng_cell (i := 0) c rfl (.inl rfl) rfl rfl rfl (ed_var c 2 rfl (.inl rfl) rfl rfl rfl) ?_ (fun _ _ => rfl)) (fun hb => ed_to ed_int ?_)) rfl ?_
  · have hc : r.c.isEmpty = false := by cases e : r.c.isEmpty <;> simp_all
    have hl : 0 < r.c.length := by
      cases e : r.c with
      | nil => rw [e] at hc; cases hc
      | cons _ _ => simp
    unfold Z.cellOf
    rw [if_neg (by rw [hc]; decide)]
    refine atI_of (Int.emod_nonneg _ (by omega)) ?_ 0
    have := Int.emod_lt_of_pos r.k hm
    omega
  · have hc : r.c.isEmpty = true := by cases e : r.c.isEmpty <;> simp_all
    unfold Z.cellOf
    rw [if_pos hc]
  refine sd_if (td_cmp (ed_var c 3 rfl (.inl rfl) rfl rfl rfl) (ed_bin ed_int ed_int (bd_pow ⟨by decide, by decide, by decide⟩)) cd_ge (nomark _)) (fun hb => ?_) (fun hb => ?_)
  · have hb : (10 : Int) ^ 18 ≤ Z.cellOf r := of_decide_eq_true hb
    have hl : 0 < r.c.length := by
      cases e : r.c with
      | nil =>
        unfold Z.cellOf at hb
        rw [e] at hb
        have hb : (10 : Int) ^ 18 ≤ 0 := hb
        exact absurd hb (by decide)
      | cons _ _ => simp
    refine sd_rngCell (i := 0) c rfl (.inl rfl) rfl rfl rfl (ed_bin (ed_var c 3 rfl (.inl rfl) rfl rfl rfl) (ed_var c 1 rfl (.inl rfl) rfl rfl rfl) (bd_fdiv ⟨m0, m1⟩)) (ed_var c 2 rfl (.inl rfl) rfl rfl rfl) (m := (r.k % max 1 (r.c.length : Int)).toNat) ?_ ?_ (fun _ => rfl) rfl rfl rfl
    · have h0 := Int.emod_nonneg r.k (b := max 1 (r.c.length : Int)) (by omega)
      have h1 := Int.emod_lt_of_pos r.k hm
      generalize r.k % max 1 (r.c.length : Int) = z at h0 h1
      obtain ⟨j, rfl⟩ : ∃ j : Nat, z = (j : Int) := ⟨z.toNat, by omega⟩
      unfold L2.ixN; rw [if_pos (by omega), if_pos (by omega)]
    · refine sd_ret (ed_bin (ed_var c 3 rfl (.inl rfl) rfl rfl rfl) (ed_var c 1 rfl (.inl rfl) rfl rfl rfl) (bd_mod m0)) ⟨?_, ?_⟩
      · unfold nxV; rw [if_pos hb]
      · unfold nxR; rw [if_pos hb]; rfl
  · have hb : ¬ (10 : Int) ^ 18 ≤ Z.cellOf r := of_decide_eq_false hb
    refine sd_nil ?_
    refine sd_rngSet (i := 0) c rfl (.inl rfl) rfl rfl rfl (ed_bin (ed_bin (ed_bin (ed_bin (rng_ix (i := 0) c rfl (.inl rfl) rfl rfl rfl (.inl ⟨rfl, rfl⟩)) ed_int (bd_mul (.inr (by decide)))) (ed_bin (ed_var c 3 rfl (.inl rfl) rfl rfl rfl) ed_int (bd_mul (.inr (by decide)))) bd_add) ed_int bd_add) ed_int (bd_mod (by decide))) (.inl ⟨rfl, rfl⟩) ?_ (fun _ => rfl) rfl rfl rfl
    refine sd_rngSet (i := 0) c rfl (.inl rfl) rfl rfl rfl (ed_bin (rng_ix (i := 0) c rfl (.inl rfl) rfl rfl rfl (.inr ⟨rfl, rfl⟩)) ed_int bd_add) (.inr ⟨rfl, rfl⟩) ?_ (fun _ => rfl) rfl rfl rfl
    refine sd_ret (ed_bin (ed_bin (rng_ix (i := 0) c rfl (.inl rfl) rfl rfl rfl (.inl ⟨rfl, rfl⟩)) ed_int (bd_fdiv (by decide))) (ed_var c 1 rfl (.inl rfl) rfl rfl rfl) (bd_mod m0)) ⟨?_, ?_⟩
    · unfold nxV; rw [if_neg hb]; rfl
    · unfold nxR; rw [if_neg hb]; rfl
theorem p3_pos {a b c i : Int} (ha : 0 < a ∧ a < 1000) (hb : 0 < b ∧ b < 1000) (hc : 0 < c ∧ c < 1000) : 0 < pick3 a b c i ∧ pick3 a b c i < 1000 := pick3_in (p := fun z => 0 < z ∧ z < 1000) ha hb hc
def R_hours (r : Rg) (ds : List PyData) (r2 : Rg) (d : PyData) : Prop := ∃ n most : Int, ds = [.int n, .int most] ∧ 2 ≤ n ∧ n ≤ 100 ∧ 0 ≤ most ∧ most ≤ 100 ∧ r2 = (hours n most r).2 ∧ d = .tuple ((hours n most r).1.map eRow)
theorem ok_hours (M : Md K mg) : FnG P w K mg base "_law_hours" ["_law_h", "_law_offices", "_law_most"] 2 (spR K R_hours) := by
  have Fn := ok_next (P := P) (w := w) (base := base) M
  refine fn_sdR (N := ["_law_h", "_law_offices", "_law_most", "_law_found", "_law_k", "_law_one", "_law_begin", "_law_end"]) M.d__law_hours ⟨rfl, rfl, rfl, by decide +kernel, rfl, by decide +kernel, by decide +kernel⟩ (fun r ds r2 d ⟨_, _, e, _⟩ => by rw [e]; rfl) (by decide) (fun X c A B r ds r2 d hR => ?_)
  obtain ⟨n, most, rfl, n0, n1, m0, m1, rfl, rfl⟩ := hR
  show SD X [.rng A B r, .dat (.int n), .dat (.int most), .no, .no, .no, .no, .no] _ _
  have q0 := nxV_0 (r := r) (m := most + 1) (by omega)
  have q1 := nxV_1 (r := r) (m := most + 1) (by omega)
  refine sd_asgL c 3 rfl (.inl rfl) (.inl rfl) (Nat.le_of_ble_eq_true rfl) (el_lst ad_nil (Nat.le_of_ble_eq_true rfl)) rfl ?_
  refine sd_for c (fun i => [.rng A B (iterI (hourRow n) i (nxR r (most + 1))).2, .dat (.int n), .dat (.int most), .own ((iterI (hourRow n) i (nxR r (most + 1))).1.map eRow), .no, .no, .no, .no]) (id_range c rfl M.b_range (ed_callR c Fn (by decide) rfl 0 rfl (.inl rfl) rfl (ad_cons (ed_bin (ed_var c 2 rfl (.inl rfl) rfl rfl rfl) ed_int bd_add) ad_nil rfl) rfl ⟨_, rfl, by omega, by omega, rfl, rfl⟩ rfl rfl rfl rfl rfl) ⟨by omega, by omega⟩ rfl) (gd_name c 4 rfl (by kspl_open loc) (by kspl_open loc)) Wk.rfl' (fun i d hd => ?_) ?_ (fun _ => rfl)
  · obtain ⟨hi, rfl⟩ := rngD_inv hd
    refine ⟨_, rfl, ?_⟩
    have hl := iterI_len (hourRow n) i (nxR r (most + 1))
    show SD X [.rng A B (iterI (hourRow n) i (nxR r (most + 1))).2, .dat (.int n), .dat (.int most), .own ((iterI (hourRow n) i (nxR r (most + 1))).1.map eRow), .dat (.int i), .no, .no, .no] _ _
    refine SD.nxW (L' := [.rng A B (hourRow n i (iterI (hourRow n) i (nxR r (most + 1))).2).2, .dat (.int n), .dat (.int most), .own ((iterI (hourRow n) i (nxR r (most + 1))).1.map eRow ++ [eRow (hourRow n i (iterI (hourRow n) i (nxR r (most + 1))).2).1]), .no, .no, .no, .no]) ?_ ?_
    · show [_, _, _, SK.own (((iterI (hourRow n) i (nxR r (most + 1))).1 ++ [(hourRow n i (iterI (hourRow n) i (nxR r (most + 1))).2).1]).map eRow), _, _, _, _] = _
      rw [List.map_append]
      rfl
    generalize (iterI (hourRow n) i (nxR r (most + 1))).2 = s at *
    generalize (iterI (hourRow n) i (nxR r (most + 1))).1 = xs at *
    refine sd_asg c 5 rfl (.inl rfl) (.inl rfl) (Nat.le_of_ble_eq_true rfl) (ed_callR c Fn (by decide) rfl 0 rfl (.inl rfl) rfl (ad_cons (ed_var c 1 rfl (.inl rfl) rfl rfl rfl) ad_nil rfl) rfl ⟨_, rfl, by omega, by omega, rfl, rfl⟩ rfl rfl rfl rfl rfl) rfl ?_
    have p1 := p3_pos (a := 20) (b := 60) (c := 90) (i := nxV (nxR s n) 3) (by decide) (by decide) (by decide)
    refine sd_asg c 6 rfl (.inl rfl) (.inl rfl) (Nat.le_of_ble_eq_true rfl) (ed_callR c Fn (by decide) rfl 0 rfl (.inl rfl) rfl (ad_cons (ed_ix (ed_el (el_lst (ad_cons ed_int (ad_cons ed_int (ad_cons ed_int ad_nil rfl) rfl) rfl) (Nat.le_of_ble_eq_true rfl))) (ed_callR c Fn (by decide) rfl 0 rfl (.inl rfl) rfl (ad_cons ed_int ad_nil rfl) rfl ⟨_, rfl, by decide, by decide, rfl, rfl⟩ rfl rfl rfl rfl rfl) (ix_pick3 (nxV_0 (by decide)) (nxV_1 (by decide))) (fun _ _ => rfl)) ad_nil rfl) rfl ⟨_, rfl, p1.1, by have := p1.2; omega, rfl, rfl⟩ rfl rfl rfl rfl rfl) rfl ?_
    generalize eb : nxV (nxR (nxR s n) 3) (pick3 20 60 90 (nxV (nxR s n) 3)) = bg
    generalize e3 : nxR (nxR (nxR s n) 3) (pick3 20 60 90 (nxV (nxR s n) 3)) = s3
    have p2 := p3_pos (a := 9) (b := 9) (c := 70) (i := nxV s3 3) (by decide) (by decide) (by decide)
    refine sd_asg c 7 rfl (.inl rfl) (.inl rfl) (Nat.le_of_ble_eq_true rfl) (ed_callB c rfl M.b_min PyProof.Rows.boot_min (ad_cons ed_int (ad_cons (ed_bin (ed_bin (ed_var c 6 rfl (.inl rfl) rfl rfl rfl) ed_int bd_add) (ed_callR c Fn (by decide) rfl 0 rfl (.inl rfl) rfl (ad_cons (ed_ix (ed_el (el_lst (ad_cons ed_int (ad_cons ed_int (ad_cons ed_int ad_nil rfl) rfl) rfl) (Nat.le_of_ble_eq_true rfl))) (ed_callR c Fn (by decide) rfl 0 rfl (.inl rfl) rfl (ad_cons ed_int ad_nil rfl) rfl ⟨_, rfl, by decide, by decide, rfl, rfl⟩ rfl rfl rfl rfl rfl) (ix_pick3 (nxV_0 (by decide)) (nxV_1 (by decide))) (fun _ _ => rfl)) ad_nil rfl) rfl ⟨_, rfl, p2.1, by have := p2.2; omega, rfl, rfl⟩ rfl rfl rfl rfl rfl) bd_add) ad_nil rfl) rfl) (cl_min2 c.calm) (by decide) rfl rfl rfl) rfl ?_
    refine sd_append c 3 rfl (.inl rfl) (ed_tup (ad_cons (ed_var c 5 rfl (.inl rfl) rfl rfl rfl) (ad_cons (ed_bin (ed_bin (ed_bin (ed_var c 5 rfl (.inl rfl) rfl rfl rfl) ed_int bd_add) (ed_callR c Fn (by decide) rfl 0 rfl (.inl rfl) rfl (ad_cons (ed_bin (ed_var c 1 rfl (.inl rfl) rfl rfl rfl) ed_int bd_sub) ad_nil rfl) rfl ⟨_, rfl, by omega, by omega, rfl, rfl⟩ rfl rfl rfl rfl rfl) bd_add) (ed_var c 1 rfl (.inl rfl) rfl rfl rfl) (bd_mod (by omega))) (ad_cons (ed_var c 6 rfl (.inl rfl) rfl rfl rfl) (ad_cons (ed_var c 7 rfl (.inl rfl) rfl rfl rfl) ad_nil rfl) rfl) rfl) rfl) (Nat.le_of_ble_eq_true rfl)) rfl rfl ?hz ?_ rfl rfl rfl rfl rfl rfl
    · rw [List.length_map, hl]
      exact Nat.lt_of_lt_of_le (show i < 1000 by omega) (Nat.le_of_ble_eq_true rfl)
    · refine sd_nil ?_
      have hrow : hourRow n i s = ((nxV s n, (nxV s n + 1 + nxV (nxR (nxR s3 3) (pick3 9 9 70 (nxV s3 3))) (n - 1)) % n, bg, min 99 (bg + 1 + nxV (nxR s3 3) (pick3 9 9 70 (nxV s3 3)))), nxR (nxR (nxR s3 3) (pick3 9 9 70 (nxV s3 3))) (n - 1)) := by
        unfold hourRow
        dsimp only
        rw [eb, e3]
      rw [hrow]
      exact ⟨.inr rfl, .inr rfl, .inr rfl, .inr rfl, .inl rfl, .inl rfl, .inl rfl, .inl rfl, trivial⟩
  · rw [rngD_len]
    refine sd_freeze 3 rfl ?_
    exact sd_ret (ed_callT c rfl M.b_tuple PyProof.Rows.boot_tuple (ad_cons (ed_var c 3 rfl (.inl rfl) rfl rfl rfl) ad_nil rfl) cl_tupL (by decide) rfl rfl rfl) ⟨rfl, rfl⟩
def R_book (r : Rg) (ds : List PyData) (r2 : Rg) (d : PyData) : Prop := ∃ n b : Int, ds = [.int n, .int b] ∧ 2 ≤ n ∧ n ≤ 6 ∧ 0 ≤ b ∧ b ≤ 6 ∧ r2 = (bkB n b r).2 ∧ d = eBook (lawBook n b r)
theorem ok_book (M : Md K mg) : FnG P w K mg base "_law_book" ["_law_h", "_law_offices", "_law_birds"] 3 (spR K R_book) := by
  have Fn := ok_next (P := P) (w := w) (base := base) M
  have Fh := ok_hours (P := P) (w := w) (base := base) M
  refine fn_sdR (N := ["_law_h", "_law_offices", "_law_birds", "_law_many", "_law_flights", "_law_k", "_law_storms", "_law_carts", "_law_j"]) M.d__law_book ⟨rfl, rfl, rfl, by decide +kernel, rfl, by decide +kernel, by decide +kernel⟩ (fun r ds r2 d ⟨_, _, e, _⟩ => by rw [e]; rfl) (by decide) (fun X c A B r ds r2 d hR => ?_)
  obtain ⟨n, b, rfl, n0, n1, b0, b1, rfl, rfl⟩ := hR
  show SD X [.rng A B r, .dat (.int n), .dat (.int b), .no, .no, .no, .no, .no, .no] _ _
  have hm := bkN_in (r := r) n0
  refine sd_asg c 3 rfl (.inr rfl) (.inl rfl) (Nat.le_of_ble_eq_true rfl) (ed_bin ed_int (ed_callR c Fn (by decide) rfl 0 rfl (.inr (.inl rfl)) rfl (ad_cons (ed_bin (ed_var c 1 rfl (.inl rfl) rfl rfl rfl) ed_int bd_sub) ad_nil rfl) rfl ⟨_, rfl, by omega, by omega, rfl, rfl⟩ rfl rfl rfl rfl rfl) bd_add) rfl ?_
  refine sd_asgL c 4 rfl (.inl rfl) (.inl rfl) (Nat.le_of_ble_eq_true rfl) (el_lst ad_nil (Nat.le_of_ble_eq_true rfl)) rfl ?_
  refine sd_for c (fun i => [.rng A B (iterI (fun k => iterI (flCell k) (bkN n r).toNat) i (nxR r (n - 1))).2, .dat (.int n), .dat (.int b), .dat (.int (bkN n r)), .own ((iterI (fun k => iterI (flCell k) (bkN n r).toNat) i (nxR r (n - 1))).1.map eInts), .no, .no, .no, .no]) (id_range c rfl M.b_range (ed_var c 3 rfl (.inr (.inl rfl)) rfl rfl rfl) (n := bkN n r) ⟨by omega, by omega⟩ rfl) (gd_name c 5 rfl (by kspl_open loc) (by kspl_open loc)) Wk.rfl' (fun i d hd => ?_) ?_ (fun _ => rfl)
  · obtain ⟨hi, rfl⟩ := rngD_inv hd
    refine ⟨_, rfl, ?_⟩
    have hl := iterI_len (fun k => iterI (flCell k) (bkN n r).toNat) i (nxR r (n - 1))
    show SD X [.rng A B (iterI (fun k => iterI (flCell k) (bkN n r).toNat) i (nxR r (n - 1))).2, .dat (.int n), .dat (.int b), .dat (.int (bkN n r)), .own ((iterI (fun k => iterI (flCell k) (bkN n r).toNat) i (nxR r (n - 1))).1.map eInts), .dat (.int i), .no, .no, .no] _ _
    refine SD.nxW (L' := [.rng A B (iterI (flCell i) (bkN n r).toNat (iterI (fun k => iterI (flCell k) (bkN n r).toNat) i (nxR r (n - 1))).2).2, .dat (.int n), .dat (.int b), .dat (.int (bkN n r)), .own ((iterI (fun k => iterI (flCell k) (bkN n r).toNat) i (nxR r (n - 1))).1.map eInts ++ [eInts (iterI (flCell i) (bkN n r).toNat (iterI (fun k => iterI (flCell k) (bkN n r).toNat) i (nxR r (n - 1))).2).1]), .no, .no, .no, .no]) ?_ ?_
    · show [_, _, _, _, SK.own (((iterI (fun k => iterI (flCell k) (bkN n r).toNat) i (nxR r (n - 1))).1 ++ [(iterI (flCell i) (bkN n r).toNat (iterI (fun k => iterI (flCell k) (bkN n r).toNat) i (nxR r (n - 1))).2).1]).map eInts), _, _, _, _] = _
      rw [List.map_append]
      rfl
    generalize (iterI (fun k => iterI (flCell k) (bkN n r).toNat) i (nxR r (n - 1))).2 = s at *
    generalize (iterI (fun k => iterI (flCell k) (bkN n r).toNat) i (nxR r (n - 1))).1 = xs at *
    refine sd_append c 4 rfl (.inl rfl) (ed_callT c rfl M.b_tuple PyProof.Rows.boot_tuple (ad_cons (ed_el (el_draw (A := A) (B := B) (r := s) c [("_law_j", 8)] 0 (flCell i) PyData.int (by decide +kernel) rfl (id_range c rfl M.b_range (ed_var c 3 rfl (.inr (.inl rfl)) rfl rfl rfl) (n := bkN n r) ⟨by omega, by omega⟩ rfl) rfl (by decide) (all1 ⟨_, rfl, .inl rfl⟩) (fun X' c2 => gd_name c2 8 rfl (by kspl_open loc) (by kspl_open loc)) (Nat.lt_of_lt_of_le (show (bkN n r).toNat < 1000 by omega) (Nat.le_of_ble_eq_true rfl)) (fun j r' hj => ⟨_, _, rfl, fun X' c2 => (ed_bin (ed_bin ed_int (ed_callR c2 Fn (by decide) rfl 0 rfl (by kspl_open vis) rfl (ad_cons ed_int ad_nil rfl) rfl ⟨9, rfl, by decide, by decide, rfl, rfl⟩ rfl rfl rfl rfl rfl) bd_add) (ed_callT c2 rfl M.b_int PyProof.Rows.boot_int (ad_cons (ed_cmp (ed_var c2 8 rfl (by kspl_open vis) rfl rfl rfl) (ed_var c2 5 rfl (by kspl_open vis) rfl rfl rfl) cd_neI (nomark _)) ad_nil rfl) cl_intB (by decide) rfl rfl rfl) (bd_mul (.inr (by split <;> decide)))), ?wk⟩) (fun _ => rfl))) ad_nil rfl) cl_tupL (by decide) rfl rfl rfl) rfl rfl ?hz ?_ rfl rfl rfl rfl rfl rfl
    · exact ⟨.inr rfl, .inr rfl, .inr rfl, .inr rfl, .inr rfl, .inr rfl, .inr rfl, .inr rfl, .inl rfl, trivial⟩
    · rw [List.length_map, hl]
      exact Nat.lt_of_lt_of_le (show i < 1000 by omega) (Nat.le_of_ble_eq_true rfl)
    · exact sd_nil ⟨.inr rfl, .inr rfl, .inr rfl, .inr rfl, .inr rfl, .inl rfl, .inl rfl, .inl rfl, .inl rfl, trivial⟩
  · rw [rngD_len]
    show SD X [.rng A B (bkF n r).2, .dat (.int n), .dat (.int b), .dat (.int (bkN n r)), .own ((bkF n r).1.map eInts), .no, .no, .no, .no] _ _
    have p1 : 0 ≤ pick3 0 3 8 (nxV (bkF n r).2 3) ∧ pick3 0 3 8 (nxV (bkF n r).2 3) ≤ 100 := pick3_in (p := fun z => 0 ≤ z ∧ z ≤ 100) (by decide) (by decide) (by decide)
    refine sd_asg c 6 rfl (.inl rfl) (.inl rfl) (Nat.le_of_ble_eq_true rfl) (ed_callR c Fh (by decide) rfl 0 rfl (.inr (.inl rfl)) rfl (ad_cons (ed_var c 3 rfl (.inr (.inl rfl)) rfl rfl rfl) (ad_cons (ed_ix (ed_el (el_lst (ad_cons ed_int (ad_cons ed_int (ad_cons ed_int ad_nil rfl) rfl) rfl) (Nat.le_of_ble_eq_true rfl))) (ed_callR c Fn (by decide) rfl 0 rfl (.inr (.inl rfl)) rfl (ad_cons ed_int ad_nil rfl) rfl ⟨3, rfl, by decide, by decide, rfl, rfl⟩ rfl rfl rfl rfl rfl) (ix_pick3 (nxV_0 (by decide)) (nxV_1 (by decide))) (fun _ _ => rfl)) ad_nil rfl) rfl) rfl ⟨_, _, rfl, hm.1, by omega, p1.1, p1.2, rfl, rfl⟩ rfl rfl rfl rfl rfl) rfl ?_
    show SD X [.rng A B (bkS n r).2, .dat (.int n), .dat (.int b), .dat (.int (bkN n r)), .own ((bkF n r).1.map eInts), .no, .dat (.tuple ((bkS n r).1.map eRow)), .no, .no] _ _
    have p2 : 0 ≤ pick2 4 12 (nxV (bkS n r).2 2) ∧ pick2 4 12 (nxV (bkS n r).2 2) ≤ 100 := pick2_in (p := fun z => 0 ≤ z ∧ z ≤ 100) (by decide) (by decide)
    refine sd_asg c 7 rfl (.inl rfl) (.inl rfl) (Nat.le_of_ble_eq_true rfl) (ed_callR c Fh (by decide) rfl 0 rfl (.inr (.inl rfl)) rfl (ad_cons (ed_var c 3 rfl (.inr (.inl rfl)) rfl rfl rfl) (ad_cons (ed_ix (ed_el (el_lst (ad_cons ed_int (ad_cons ed_int ad_nil rfl) rfl) (Nat.le_of_ble_eq_true rfl))) (ed_callR c Fn (by decide) rfl 0 rfl (.inr (.inl rfl)) rfl (ad_cons ed_int ad_nil rfl) rfl ⟨2, rfl, by decide, by decide, rfl, rfl⟩ rfl rfl rfl rfl rfl) (ix_pick2 (nxV_0 (by decide)) (nxV_1 (by decide))) (fun _ _ => rfl)) ad_nil rfl) rfl) rfl ⟨_, _, rfl, hm.1, by omega, p2.1, p2.2, rfl, rfl⟩ rfl rfl rfl rfl rfl) rfl ?_
    refine sd_freeze 4 rfl ?_
    show SD X [.rng A B (bkC n r).2, .dat (.int n), .dat (.int b), .dat (.int (bkN n r)), .dat (.list ((bkF n r).1.map eInts)), .no, .dat (.tuple ((bkS n r).1.map eRow)), .dat (.tuple ((bkC n r).1.map eRow)), .no] _ _
    have q0 := nxV_0 (r := (bkC n r).2) (m := b + 1) (by omega)
    have q1 := nxV_1 (r := (bkC n r).2) (m := b + 1) (by omega)
    refine sd_ret (ed_tup (ad_cons (ed_callT c rfl M.b_tuple PyProof.Rows.boot_tuple (ad_cons (ed_var c 4 rfl (.inl rfl) rfl rfl rfl) ad_nil rfl) cl_tupL (by decide) rfl rfl rfl) (ad_cons (ed_var c 6 rfl (.inl rfl) rfl rfl rfl) (ad_cons (ed_var c 7 rfl (.inl rfl) rfl rfl rfl) (ad_cons (ed_callT c rfl M.b_tuple PyProof.Rows.boot_tuple (ad_cons (ed_el (el_draw (A := A) (B := B) (r := nxR (bkC n r).2 (b + 1)) c [("_law_k", 5)] 0 (drawM (bkN n r)) PyData.int (by decide +kernel) rfl (id_range c rfl M.b_range (ed_callR c Fn (by decide) rfl 0 rfl (.inr (.inl rfl)) rfl (ad_cons (ed_bin (ed_var c 2 rfl (.inl rfl) rfl rfl rfl) ed_int bd_add) ad_nil rfl) rfl ⟨_, rfl, by omega, by omega, rfl, rfl⟩ rfl rfl rfl rfl rfl) ⟨by omega, by omega⟩ rfl) rfl (by decide) (all1 ⟨_, rfl, .inl rfl⟩) (fun X' c2 => gd_name c2 5 rfl (by kspl_open loc) (by kspl_open loc)) (Nat.lt_of_lt_of_le (show (nxV (bkC n r).2 (b + 1)).toNat < 1000 by omega) (Nat.le_of_ble_eq_true rfl)) (fun j r' hj => ⟨_, _, rfl, fun X' c2 => (ed_callR c2 Fn (by decide) rfl 0 rfl (by kspl_open vis) rfl (ad_cons (ed_var c2 3 rfl (by kspl_open vis) rfl rfl rfl) ad_nil rfl) rfl ⟨_, rfl, by omega, by omega, rfl, rfl⟩ rfl rfl rfl rfl rfl), ⟨.inr rfl, .inr rfl, .inr rfl, .inr rfl, .inr rfl, .inl rfl, .inr rfl, .inr rfl, .inr rfl, trivial⟩⟩) (fun _ => rfl))) ad_nil rfl) cl_tupL (by decide) rfl rfl rfl) ad_nil rfl) rfl) rfl) rfl) (Nat.le_of_ble_eq_true rfl)) ⟨rfl, rfl⟩
end
end K
namespace K
open PySem L2 Z
section
variable {P : Program} {w : World} {K : PySem.W.Frag} {mg : Str → Option Value} {base : Heap} [LamC]
-- use Ta Tb Tc Td Te
/-! ### books refused -/
section
variable {aPostError aBadBook aNoOffice aBadPosting aNoPosting aBadText : Addr}
theorem exc_BadBook (E : Exs K mg aPostError aBadBook aNoOffice aBadPosting aNoPosting aBadText) : Exc1 P w K mg base "BadBook" "why" aBadBook 1 :=
  exc1_of E.x_BadBook ⟨rfl, rfl, rfl, by decide +kernel, rfl, by decide +kernel, by decide +kernel⟩ rfl rfl rfl rfl rfl rfl rfl (fun env _ => rfl)
abbrev whyF (w : PyData) : List (Str × PyData) := [(("why" : Str), w)]
theorem ok_needX (M : Md K mg) (E : Exs K mg aPostError aBadBook aNoOffice aBadPosting aNoPosting aBadText) : FnX P w K mg base "need" ["good", "why"] 3 (spO K (fun (i : Bool × PyData) ds => ds = [.bool i.1, i.2]) (fun i d => i.1 = true ∧ d = .none) (fun i c f => i.1 = false ∧ c = .ref aBadBook ∧ f = whyF i.2)) := by
  have Ex := exc_BadBook (P := P) (w := w) (base := base) E
  refine fn_sdO (N := ["good", "why"]) M.d_need ⟨rfl, rfl, rfl, by decide +kernel, rfl, by decide +kernel, by decide +kernel⟩ (fun i ds e => by rw [e]; rfl) (by decide) (fun X c _ i ds e => ?_)
  obtain ⟨b, wy⟩ := i
  subst e
  show SD X [.dat (.bool b), .dat wy] _ _
  refine sd_if (td_not (td_val (ed_var c 0 rfl (by kspl_open vis) rfl rfl rfl) (fun _ => rfl))) (fun hb => ?_) (fun hb => sd_nil (sd_nil ⟨by simpa using hb, rfl⟩))
  exact sd_raise1 c Ex (by decide) rfl (ed_var c 1 rfl (by kspl_open vis) rfl rfl rfl) rfl rfl ⟨by simpa using hb, rfl, rfl⟩
/-- need(e, why) as a statement -/
theorem sd_need {T : Sta} {k : Nat} {X : Cx} {ks k1 : List SK} {e we : Expr} {p pos pos' : Pos} {b : Bool} {wy : PyData} {rest : List Stmt} {Φ : Po} (M : Md K mg) (E : Exs K mg aPostError aBadBook aNoOffice aBadPosting aNoPosting aBadText) (c : Ctx P w K mg base T k X) (hk : 3 ≤ k) (hg : T.sc.names.lookup ("need" : Str) = some .globalImplicit) (ha : AD X ks [e, we] k1 [.bool b, wy])
    (h1 : b = true → SD X k1 rest Φ) (h0 : b = false → Φ.ex k1 (.ref aBadBook) (whyF wy)) (he : starEach [e, we] X.env = (false, eval e X.env) :: starEach [we] X.env) (hpl : (backTo pos (starEach [we] X.env)).any (·.1) = false)
    (hs : swapsWith (.Call (.Name "need" p) [e, we] [] pos) none pos'.line X.env = pure false) : SD X ks (.Expr (.Call (.Name "need" p) [e, we] [] pos) pos' :: rest) Φ :=
  sd_exprO c (i := (b, wy)) (ok_needX (P := P) (w := w) (base := base) M E) hk hg ha rfl (fun ⟨d, h, _⟩ => h1 h) (fun cls fs ⟨h, h2, h3⟩ => by rw [h2, h3]; exact h0 h) rfl he hpl hs
structure FlOk (B : Book) : Prop where
  n2 : 2 ≤ B.n
  n6 : B.n ≤ 6
  rows : ∀ r ∈ B.fl, r.length = B.n
  vals : ∀ (i j : Nat) (r : List Int) (v : Int), B.fl[i]? = some r → r[j]? = some v → if j = i then v = 0 else 1 ≤ v ∧ v ≤ 9
structure RwOk (B : Book) (l : List Row) (m : Int) : Prop where
  len : (l.length : Int) ≤ m
  at_ : ∀ r ∈ l, GoodRow B r
structure BiOk (B : Book) : Prop where
  len : B.bi.length ≤ 6
  at_ : ∀ h ∈ B.bi, B.off h
theorem good_of {B : Book} (f : FlOk B) (s : RwOk B B.st 8) (c : RwOk B B.ca 12) (b : BiOk B) : Good B := ⟨f.n2, f.n6, f.rows, fun o h ho hh => by
  obtain ⟨i, rfl⟩ : ∃ i : Nat, o = (i : Int) := ⟨o.toNat, by have := ho.1; omega⟩
  obtain ⟨j, rfl⟩ : ∃ j : Nat, h = (j : Int) := ⟨h.toNat, by have := hh.1; omega⟩
  have hi : i < B.fl.length := Int.ofNat_lt.mp ho.2
  have hr := List.getElem?_eq_getElem hi
  have rl := f.rows _ (List.getElem_mem hi)
  have hj : j < (B.fl[i]).length := by rw [rl]; exact Int.ofNat_lt.mp hh.2
  have hv := List.getElem?_eq_getElem hj
  have := f.vals i j _ _ hr hv
  rw [f_at hr hv]
  by_cases q : j = i
  · rw [if_pos q] at this
    rw [if_pos (by omega)]; exact this
  · rw [if_neg q] at this
    rw [if_neg (by omega)]; exact this, s.at_, by have := s.len; omega, c.at_, by have := c.len; omega, b.at_, b.len⟩
theorem good_fl {B : Book} (g : Good B) : FlOk B := ⟨g.n2, g.n6, g.rows, fun i j r v hr hv => by
  have rl := g.rows r (List.mem_of_getElem? hr)
  have hj : B.off (j : Int) := ⟨by omega, by have := (List.getElem?_eq_some_iff.mp hv).1; rw [rl] at this; exact Int.ofNat_lt.mpr this⟩
  have := g.vals (i : Int) (j : Int) (row_at hr).2 hj
  rw [f_at hr hv] at this
  by_cases q : j = i
  · rw [if_pos (by omega)] at this
    rw [if_pos q]; exact this
  · rw [if_neg (by omega)] at this
    rw [if_neg q]; exact this⟩
theorem good_bits {B : Book} (g : Good B) : FlOk B ∧ RwOk B B.st 8 ∧ RwOk B B.ca 12 ∧ BiOk B := ⟨good_fl g, ⟨by have := g.stl; omega, g.st⟩, ⟨by have := g.cal; omega, g.ca⟩, ⟨g.bil, g.bi⟩⟩
theorem ok_need_flightsX (M : Md K mg) (E : Exs K mg aPostError aBadBook aNoOffice aBadPosting aNoPosting aBadText) : FnX P w K mg base "need_flights" ["book"] 4 (spO K (fun (B : Book) ds => ds = [eBook B]) (fun B d => FlOk B ∧ d = .none) (fun B c f => ¬ FlOk B ∧ c = .ref aBadBook ∧ f = whyF (.str "flights"))) := by
  refine fn_sdO (N := ["book", "rows", "office", "row", "home", "hours"]) M.d_need_flights ⟨rfl, rfl, rfl, by decide +kernel, rfl, by decide +kernel, by decide +kernel⟩ (fun i ds e => by rw [e]; rfl) (by decide) (fun X c _ B ds e => ?_)
  subst e
  show SD X [.dat (eBook B), .no, .no, .no, .no, .no] _ _
  refine sd_asg c 1 rfl (by kspl_open loc) (.inl rfl) (Nat.le_of_ble_eq_true rfl) (ed_ix (ed_var c 0 rfl (by kspl_open vis) rfl rfl rfl) (ed_gint c rfl M.c_FLIGHTS rfl) (by kspl_open ix) (fun _ _ => rfl)) rfl ?_
  refine sd_need M E c (by decide) rfl (ad_cons (ed_chain (ed_gint c rfl M.c_LEAST_OFFICES rfl) (ed_callB c rfl M.b_len PySem.boot_len (ad_cons (ed_var c 1 rfl (by kspl_open vis) rfl rfl rfl) ad_nil rfl) (by kspl_open cl) (by decide) rfl rfl rfl) (fun _ => (ed_gint c rfl M.c_MOST_OFFICES rfl)) (by kspl_open cd) (by kspl_open cd) (by with_unfolding_all rfl)) (ad_cons ed_str ad_nil rfl) rfl) (fun hb => ?_) (fun hb => ⟨fun F => ?_, rfl, rfl⟩) rfl rfl rfl
  · rw [List.length_map] at hb
    have hb : 2 ≤ B.n ∧ B.n ≤ 6 := by
      rw [Bool.and_eq_true] at hb
      have h1 := of_decide_eq_true hb.1
      have h2 := of_decide_eq_true hb.2
      exact ⟨by show 2 ≤ B.fl.length; omega, by show B.fl.length ≤ 6; omega⟩
    show SD X [.dat (eBook B), .dat (.tuple (B.fl.map eInts)), .no, .no, .no, .no] _ _
    refine sd_forJ c (fun _ => [.dat (eBook B), .dat (.tuple (B.fl.map eInts)), .no, .no, .no, .no]) (fun n => ∀ (i : Nat) (r : List Int), i < n → B.fl[i]? = some r → r.length = B.n ∧ ∀ (j : Nat) (v : Int), r[j]? = some v → if j = i then v = 0 else 1 ≤ v ∧ v ≤ 9) (id_enumT c rfl M.b_enumerate (ed_var c 1 rfl (by kspl_open vis) rfl rfl rfl) rfl) (gd_tup c (gs_cons c 2 rfl (by kspl_open loc) (by kspl_open loc) (gs_cons c 3 rfl (by kspl_open loc) (by kspl_open loc) gs_nil rfl) rfl) rfl rfl) Wk.rfl' (fun _ _ z => absurd z (Nat.not_lt_zero _)) (fun i d hd hj => ?_) (fun hj => sd_nil ⟨⟨hb.1, hb.2, fun r hr => ?_, fun i j r v hr hv => ?_⟩, rfl⟩) (fun _ => rfl)
    · obtain ⟨d', hd', rfl⟩ := enumD_inv hd
      obtain ⟨r, hr, rfl⟩ := map_get hd'
      refine ⟨_, rfl, ?_⟩
      show SD X [.dat (eBook B), .dat (.tuple (B.fl.map eInts)), .dat (.int (i : Nat)), .dat (eInts r), .no, .no] _ _
      refine sd_need M E c (by decide) rfl (ad_cons (ed_cmp (ed_callB c rfl M.b_len PySem.boot_len (ad_cons (ed_var c 3 rfl (by kspl_open vis) rfl rfl rfl) ad_nil rfl) (by kspl_open cl) (by decide) rfl rfl rfl) (ed_callB c rfl M.b_len PySem.boot_len (ad_cons (ed_var c 1 rfl (by kspl_open vis) rfl rfl rfl) ad_nil rfl) (by kspl_open cl) (by decide) rfl rfl rfl) (by kspl_open cd) (nomark _)) (ad_cons ed_str ad_nil rfl) rfl) (fun hl => ?_) (fun hl => ⟨fun F => ?_, rfl, rfl⟩) rfl rfl rfl
      · rw [List.length_map, List.length_map] at hl
        have hl : r.length = B.n := by have := of_decide_eq_true hl; show r.length = B.fl.length; omega
        refine sd_forJ c (fun _ => [.dat (eBook B), .dat (.tuple (B.fl.map eInts)), .dat (.int (i : Nat)), .dat (eInts r), .no, .no]) (fun n => ∀ (j : Nat) (v : Int), j < n → r[j]? = some v → if j = i then v = 0 else 1 ≤ v ∧ v ≤ 9) (id_enumT c rfl M.b_enumerate (ed_var c 3 rfl (by kspl_open vis) rfl rfl rfl) rfl) (gd_tup c (gs_cons c 4 rfl (by kspl_open loc) (by kspl_open loc) (gs_cons c 5 rfl (by kspl_open loc) (by kspl_open loc) gs_nil rfl) rfl) rfl rfl) Wk.rfl' (fun _ _ z => absurd z (Nat.not_lt_zero _)) (fun j d hd hjj => ?_) (fun hjj => sd_nil ⟨⟨.inr rfl, .inr rfl, .inl rfl, .inl rfl, .inl rfl, .inl rfl, trivial⟩, fun i' r' hi' hr' => ?_⟩) (fun _ => rfl)
        · obtain ⟨d'', hd'', rfl⟩ := enumD_inv hd
          obtain ⟨v, hv, rfl⟩ := map_get hd''
          refine ⟨_, rfl, ?_⟩
          show SD X [.dat (eBook B), .dat (.tuple (B.fl.map eInts)), .dat (.int (i : Nat)), .dat (eInts r), .dat (.int (j : Nat)), .dat (.int v)] _ _
          have key : ∀ b : Bool, (b = true ↔ if j = i then v = 0 else 1 ≤ v ∧ v ≤ 9) → b = (if j = i then decide (v = 0) else decide (1 ≤ v) && decide (v ≤ 9)) := fun b h => by
            by_cases q : j = i
            · simp only [q, if_true] at h ⊢
              cases b <;> simp_all
            · simp only [q, if_false] at h ⊢
              cases b <;> simp_all
          refine sd_need M E c (by decide) rfl (b := if j = i then decide (v = 0) else decide (1 ≤ v) && decide (v ≤ 9)) (ad_cons (ed_if (d := .bool (if j = i then decide (v = 0) else decide (1 ≤ v) && decide (v ≤ 9))) (td_cmp (ed_var c 4 rfl (by kspl_open vis) rfl rfl rfl) (ed_var c 2 rfl (by kspl_open vis) rfl rfl rfl) (by kspl_open cd) (nomark _)) (fun hb => ed_to (ed_cmp (ed_var c 5 rfl (by kspl_open vis) rfl rfl rfl) ed_int (by kspl_open cd) (nomark _)) (by rw [if_pos (by have := of_decide_eq_true hb; omega)])) (fun hb => ed_to (ed_chain ed_int (ed_var c 5 rfl (by kspl_open vis) rfl rfl rfl) (fun _ => (ed_gint c rfl M.c_MOST_FLIGHT rfl)) (by kspl_open cd) (by kspl_open cd) (by with_unfolding_all rfl)) (by rw [if_neg (by have := of_decide_eq_false hb; omega)]))) (ad_cons ed_str ad_nil rfl) rfl) (fun hv' => ?_) (fun hv' => ⟨fun F => ?_, rfl, rfl⟩) rfl rfl rfl
          · refine sd_nil ⟨⟨.inr rfl, .inr rfl, .inr rfl, .inr rfl, .inl rfl, .inl rfl, trivial⟩, fun j' v' hj' hr' => ?_⟩
            rcases Nat.lt_succ_iff_lt_or_eq.mp hj' with z | z
            · exact hjj j' v' z hr'
            · subst z
              rw [hv] at hr'
              cases hr'
              by_cases q : j' = i
              · rw [if_pos q] at hv' ⊢; exact of_decide_eq_true hv'
              · rw [if_neg q, Bool.and_eq_true] at hv'
                rw [if_neg q]
                exact ⟨of_decide_eq_true hv'.1, of_decide_eq_true hv'.2⟩
          · have := F.vals i j r v hr hv
            by_cases q : j = i
            · rw [if_pos q] at hv' this
              exact absurd this (of_decide_eq_false hv')
            · rw [if_neg q] at hv' this
              rw [decT this.1, decT this.2] at hv'
              cases hv'
        · rcases Nat.lt_succ_iff_lt_or_eq.mp hi' with z | z
          · exact hj i' r' z hr'
          · subst z
            rw [hr] at hr'
            cases hr'
            refine ⟨hl, fun j v hv => hjj j v ?_ hv⟩
            rw [enumD_len, List.length_map]
            exact (List.getElem?_eq_some_iff.mp hv).1
      · rw [List.length_map, List.length_map] at hl
        have := F.rows r (List.mem_of_getElem? hr)
        exact of_decide_eq_false hl (by rw [this])
    · obtain ⟨i, hi⟩ := List.mem_iff_getElem?.mp hr
      exact (hj i r (by rw [enumD_len, List.length_map]; exact (List.getElem?_eq_some_iff.mp hi).1) hi).1
    · exact (hj i r (by rw [enumD_len, List.length_map]; exact (List.getElem?_eq_some_iff.mp hr).1) hr).2 j v hv
  · rw [List.length_map] at hb
    have h1 := F.n2
    have h2 := F.n6
    rw [decT (show (2 : Int) ≤ (B.fl.length : Int) by have : 2 ≤ B.fl.length := h1; omega), decT (show (B.fl.length : Int) ≤ 6 by have : B.fl.length ≤ 6 := h2; omega)] at hb
    cases hb
theorem ok_need_rowsX (M : Md K mg) (E : Exs K mg aPostError aBadBook aNoOffice aBadPosting aNoPosting aBadText) : FnX P w K mg base "need_rows" ["book", "place", "most", "why"] 4 (spO K (fun (i : Book × Int × Int × PyData × List Row) ds => ds = [eBook i.1, .int i.2.1, .int i.2.2.1, i.2.2.2.1] ∧ ixD (eBook i.1) i.2.1 = some (.tuple (i.2.2.2.2.map eRow))) (fun i d => RwOk i.1 i.2.2.2.2 i.2.2.1 ∧ d = .none) (fun i c f => ¬ RwOk i.1 i.2.2.2.2 i.2.2.1 ∧ c = .ref aBadBook ∧ f = whyF i.2.2.2.1)) := by
  have Fo := ok_is_office (P := P) (w := w) (base := base) M
  refine fn_sdO (N := ["book", "place", "most", "why", "one", "other", "begin", "end"]) M.d_need_rows ⟨rfl, rfl, rfl, by decide +kernel, rfl, by decide +kernel, by decide +kernel⟩ (fun i ds e => by rw [e.1]; rfl) (by decide) (fun X c _ i ds e => ?_)
  obtain ⟨B, p, m, wy, l⟩ := i
  obtain ⟨rfl, hp⟩ := e
  have hp : ixD (eBook B) p = some (.tuple (l.map eRow)) := hp
  show SD X [.dat (eBook B), .dat (.int p), .dat (.int m), .dat wy, .no, .no, .no, .no] _ _
  refine sd_need M E c (by decide) rfl (ad_cons (ed_cmp (ed_callB c rfl M.b_len PySem.boot_len (ad_cons (ed_ix (ed_var c 0 rfl (by kspl_open vis) rfl rfl rfl) (ed_var c 1 rfl (by kspl_open vis) rfl rfl rfl) hp (fun _ _ => rfl)) ad_nil rfl) (by kspl_open cl) (by decide) rfl rfl rfl) (ed_var c 2 rfl (by kspl_open vis) rfl rfl rfl) (by kspl_open cd) (nomark _)) (ad_cons (ed_var c 3 rfl (by kspl_open vis) rfl rfl rfl) ad_nil rfl) rfl) (fun hb => ?_) (fun hb => ⟨fun F => ?_, rfl, rfl⟩) rfl rfl rfl
  · rw [List.length_map] at hb
    have hb := of_decide_eq_true hb
    refine sd_forJ c (fun _ => [.dat (eBook B), .dat (.int p), .dat (.int m), .dat wy, .no, .no, .no, .no]) (fun n => ∀ (i : Nat) (r : Row), i < n → l[i]? = some r → GoodRow B r) (id_seq (ed_ix (ed_var c 0 rfl (by kspl_open vis) rfl rfl rfl) (ed_var c 1 rfl (by kspl_open vis) rfl rfl rfl) hp (fun _ _ => rfl)) rfl) (gd_tup c (gs_cons c 4 rfl (by kspl_open loc) (by kspl_open loc) (gs_cons c 5 rfl (by kspl_open loc) (by kspl_open loc) (gs_cons c 6 rfl (by kspl_open loc) (by kspl_open loc) (gs_cons c 7 rfl (by kspl_open loc) (by kspl_open loc) gs_nil rfl) rfl) rfl) rfl) rfl rfl) Wk.rfl' (fun _ _ z => absurd z (Nat.not_lt_zero _)) (fun i d hd hj => ?_) (fun hj => sd_nil ⟨⟨hb, fun r hr => ?_⟩, rfl⟩) (fun _ => rfl)
    · obtain ⟨r, hr, rfl⟩ := map_get hd
      have hm := List.mem_of_getElem? hr
      refine ⟨_, rfl, ?_⟩
      show SD X [.dat (eBook B), .dat (.int p), .dat (.int m), .dat wy, .dat (.int r.1), .dat (.int r.2.1), .dat (.int r.2.2.1), .dat (.int r.2.2.2)] _ _
      refine sd_need M E c (by decide) rfl (ad_cons (ed_and (ed_call c Fo (by decide) rfl (ad_cons (ed_var c 0 rfl (by kspl_open vis) rfl rfl rfl) (ad_cons (ed_var c 4 rfl (by kspl_open vis) rfl rfl rfl) ad_nil rfl) rfl) ⟨B, _, rfl, rfl⟩ rfl rfl rfl) (fun _ => ed_and (ed_call c Fo (by decide) rfl (ad_cons (ed_var c 0 rfl (by kspl_open vis) rfl rfl rfl) (ad_cons (ed_var c 5 rfl (by kspl_open vis) rfl rfl rfl) ad_nil rfl) rfl) ⟨B, _, rfl, rfl⟩ rfl rfl rfl) (fun _ => ed_and1 (ed_cmp (ed_var c 4 rfl (by kspl_open vis) rfl rfl rfl) (ed_var c 5 rfl (by kspl_open vis) rfl rfl rfl) (by kspl_open cd) (nomark _))))) (ad_cons (ed_var c 3 rfl (by kspl_open vis) rfl rfl rfl) ad_nil rfl) rfl) (fun h1 => ?_) (fun h1 => ⟨fun F => ?_, rfl, rfl⟩) rfl rfl rfl
      · simp only [Bool.and_eq_true, decide_eq_true_eq, Bool.not_eq_true', decide_eq_false_iff_not] at h1
        obtain ⟨⟨a1, a2⟩, ⟨b1, b2⟩, c1⟩ := h1
        refine sd_need M E c (by decide) rfl (ad_cons (ed_chain3 ed_int (ed_var c 6 rfl (by kspl_open vis) rfl rfl rfl) (ed_var c 7 rfl (by kspl_open vis) rfl rfl rfl) (ed_gint c rfl M.c_MOST_HOUR rfl) (by kspl_open cd) (by kspl_open cd) (by kspl_open cd) (by with_unfolding_all rfl)) (ad_cons (ed_var c 3 rfl (by kspl_open vis) rfl rfl rfl) ad_nil rfl) rfl) (fun h2 => ?_) (fun h2 => ⟨fun F => ?_, rfl, rfl⟩) rfl rfl rfl
        · simp only [Bool.and_eq_true, decide_eq_true_eq] at h2
          refine sd_nil ⟨⟨.inr rfl, .inr rfl, .inr rfl, .inr rfl, .inl rfl, .inl rfl, .inl rfl, .inl rfl, trivial⟩, fun i' r' hi' hr' => ?_⟩
          rcases Nat.lt_succ_iff_lt_or_eq.mp hi' with z | z
          · exact hj i' r' z hr'
          · subst z
            rw [hr] at hr'
            cases hr'
            exact ⟨⟨a1, a2⟩, ⟨b1, b2⟩, c1, h2.1, h2.2.1, h2.2.2⟩
        · have g := F.at_ r hm
          rw [decT g.h0, decT g.h1, decT g.h2] at h2
          cases h2
      · have g := F.at_ r hm
        rw [decT g.a.1, decT g.a.2, decT g.b.1, decT g.b.2, decide_eq_false g.ne] at h1
        cases h1
    · obtain ⟨i, hi⟩ := List.mem_iff_getElem?.mp hr
      exact hj i r (by rw [List.length_map]; exact (List.getElem?_eq_some_iff.mp hi).1) hi
  · rw [List.length_map] at hb
    exact of_decide_eq_false hb F.len
/-- the word of a book's first wrong -/
def whyB (B : Book) (wy : Str) : Prop := (¬ FlOk B ∧ wy = "flights") ∨ (FlOk B ∧ ¬ RwOk B B.st 8 ∧ wy = "storms") ∨ (FlOk B ∧ RwOk B B.st 8 ∧ ¬ RwOk B B.ca 12 ∧ wy = "carts") ∨ (FlOk B ∧ RwOk B B.st 8 ∧ RwOk B B.ca 12 ∧ ¬ BiOk B ∧ wy = "birds")
theorem whyB_no {B : Book} {wy : Str} (h : whyB B wy) : ¬ Good B := fun g => by
  obtain ⟨a, b, c, d⟩ := good_bits g
  rcases h with ⟨h, _⟩ | ⟨_, h, _⟩ | ⟨_, _, h, _⟩ | ⟨_, _, _, h, _⟩
  · exact h a
  · exact h b
  · exact h c
  · exact h d
theorem whyB_one {B : Book} {w1 w2 : Str} (h : whyB B w1) (h' : whyB B w2) : w1 = w2 := by
  rcases h with ⟨a, rfl⟩ | ⟨a, b, rfl⟩ | ⟨a, b, c, rfl⟩ | ⟨a, b, c, d, rfl⟩ <;> rcases h' with ⟨a', rfl⟩ | ⟨a', b', rfl⟩ | ⟨a', b', c', rfl⟩ | ⟨a', b', c', d', rfl⟩ <;> first | rfl | contradiction
theorem ok_need_bookX (M : Md K mg) (E : Exs K mg aPostError aBadBook aNoOffice aBadPosting aNoPosting aBadText) : FnX P w K mg base "need_book" ["book"] 5 (spO K (fun (B : Book) ds => ds = [eBook B]) (fun B d => Good B ∧ d = .none) (fun B c f => ∃ wy, whyB B wy ∧ c = .ref aBadBook ∧ f = whyF (.str wy))) := by
  have Fo := ok_is_office (P := P) (w := w) (base := base) M
  have Ff := ok_need_flightsX (P := P) (w := w) (base := base) M E
  have Fr := ok_need_rowsX (P := P) (w := w) (base := base) M E
  refine fn_sdO (N := ["book", "home"]) M.d_need_book ⟨rfl, rfl, rfl, by decide +kernel, rfl, by decide +kernel, by decide +kernel⟩ (fun i ds e => by rw [e]; rfl) (by decide) (fun X c _ B ds e => ?_)
  subst e
  show SD X [.dat (eBook B), .no] _ _
  refine sd_exprO c (i := B) Ff (by decide) rfl (ad_cons (ed_var c 0 rfl (by kspl_open vis) rfl rfl rfl) ad_nil rfl) rfl (fun ⟨d, hf, _⟩ => ?_) (fun cls fs z => by obtain ⟨h, h1, h2⟩ := z; exact ⟨_, .inl ⟨h, rfl⟩, h1, h2⟩) rfl rfl rfl rfl
  refine sd_exprO c (i := (B, 1, 8, .str "storms", B.st)) Fr (by decide) rfl (ad_cons (ed_var c 0 rfl (by kspl_open vis) rfl rfl rfl) (ad_cons (ed_gint c rfl M.c_STORMS rfl) (ad_cons (ed_gint c rfl M.c_MOST_STORMS rfl) (ad_cons ed_str ad_nil rfl) rfl) rfl) rfl) ⟨rfl, rfl⟩ (fun ⟨d, hs, _⟩ => ?_) (fun cls fs z => by obtain ⟨h, h1, h2⟩ := z; exact ⟨_, .inr (.inl ⟨hf, h, rfl⟩), h1, h2⟩) rfl rfl rfl rfl
  have hs : RwOk B B.st 8 := hs
  refine sd_exprO c (i := (B, 2, 12, .str "carts", B.ca)) Fr (by decide) rfl (ad_cons (ed_var c 0 rfl (by kspl_open vis) rfl rfl rfl) (ad_cons (ed_gint c rfl M.c_CARTS rfl) (ad_cons (ed_gint c rfl M.c_MOST_CARTS rfl) (ad_cons ed_str ad_nil rfl) rfl) rfl) rfl) ⟨rfl, rfl⟩ (fun ⟨d, hc, _⟩ => ?_) (fun cls fs z => by obtain ⟨h, h1, h2⟩ := z; exact ⟨_, .inr (.inr (.inl ⟨hf, hs, h, rfl⟩)), h1, h2⟩) rfl rfl rfl rfl
  have hc : RwOk B B.ca 12 := hc
  refine sd_need M E c (by decide) rfl (ad_cons (ed_cmp (ed_callB c rfl M.b_len PySem.boot_len (ad_cons (ed_ix (ed_var c 0 rfl (by kspl_open vis) rfl rfl rfl) (ed_gint c rfl M.c_BIRDS rfl) (by kspl_open ix) (fun _ _ => rfl)) ad_nil rfl) (by kspl_open cl) (by decide) rfl rfl rfl) (ed_gint c rfl M.c_MOST_BIRDS rfl) (by kspl_open cd) (nomark _)) (ad_cons ed_str ad_nil rfl) rfl) (fun hb => ?_) (fun hb => ⟨_, .inr (.inr (.inr ⟨hf, hs, hc, fun F => ?_, rfl⟩)), rfl, rfl⟩) rfl rfl rfl
  · rw [List.length_map] at hb
    have hb : B.bi.length ≤ 6 := by have := of_decide_eq_true hb; omega
    refine sd_forJ c (fun _ => [.dat (eBook B), .no]) (fun n => ∀ (i : Nat) (h : Int), i < n → B.bi[i]? = some h → B.off h) (id_seq (ed_ix (ed_var c 0 rfl (by kspl_open vis) rfl rfl rfl) (ed_gint c rfl M.c_BIRDS rfl) (by kspl_open ix) (fun _ _ => rfl)) rfl) (gd_name c 1 rfl (by kspl_open loc) (by kspl_open loc)) Wk.rfl' (fun _ _ z => absurd z (Nat.not_lt_zero _)) (fun i d hd hj => ?_) (fun hj => sd_nil ⟨good_of hf hs hc ⟨hb, fun h hh => ?_⟩, rfl⟩) (fun _ => rfl)
    · obtain ⟨h, hh, rfl⟩ := map_get hd
      refine ⟨_, rfl, ?_⟩
      show SD X [.dat (eBook B), .dat (.int h)] _ _
      refine sd_need M E c (by decide) rfl (ad_cons (ed_call c Fo (by decide) rfl (ad_cons (ed_var c 0 rfl (by kspl_open vis) rfl rfl rfl) (ad_cons (ed_var c 1 rfl (by kspl_open vis) rfl rfl rfl) ad_nil rfl) rfl) ⟨B, _, rfl, rfl⟩ rfl rfl rfl) (ad_cons ed_str ad_nil rfl) rfl) (fun h1 => ?_) (fun h1 => ⟨_, .inr (.inr (.inr ⟨hf, hs, hc, fun F => ?_, rfl⟩)), rfl, rfl⟩) rfl rfl rfl
      · simp only [Bool.and_eq_true, decide_eq_true_eq] at h1
        exact sd_nil ⟨⟨.inr rfl, .inl rfl, trivial⟩, prev_succ hj hh ⟨h1.1, h1.2⟩⟩
      · have := F.at_ h (List.mem_of_getElem? hh)
        rw [decT this.1, decT this.2] at h1
        cases h1
    · obtain ⟨i, hi⟩ := List.mem_iff_getElem?.mp hh
      exact hj i h (by rw [List.length_map]; exact (List.getElem?_eq_some_iff.mp hi).1) hi
  · rw [List.length_map] at hb
    have := F.len
    exact of_decide_eq_false hb (by omega)
end
end
end K
namespace K
open PySem L2 Z
section
variable {P : Program} {w : World} {K : PySem.W.Frag} {mg : Str → Option Value} {base : Heap} [LamC]
/-! ### postings and begins -/
def eP2 (p : Int × Int) : PyData := .tuple [.int p.1, .int p.2]
def oP : Option (Int × Int) → PyData
  | none => .none
  | some p => eP2 p
abbrev Posting := List (Option (Int × Int))
def ePost (ps : Posting) : PyData := .tuple (ps.map oP)
def _root_.Z.Book.home (B : Book) (b : Int) : Int := B.bi.getD b.toNat 0
structure GoodPost (B : Book) (ps : Posting) : Prop where
  len : ps.length = B.bi.length
  at_ : ∀ (i : Nat) o t, ps[i]? = some (some (o, t)) → B.off o ∧ o ≠ B.home (i : Int) ∧ 0 ≤ t
theorem home_off {B : Book} (g : Good B) {b : Int} (h : 0 ≤ b ∧ b < (B.bi.length : Int)) : B.off (B.home b) := by
  refine g.bi _ ?_
  have : b.toNat < B.bi.length := by omega
  unfold Z.Book.home
  rw [List.getD_eq_getElem?_getD, List.getElem?_eq_getElem this]
  simp
theorem ix_home {B : Book} {b : Int} (h : 0 ≤ b ∧ b < (B.bi.length : Int)) : ixD (eInts B.bi) b = some (.int (B.home b)) := by
  show L2.atI _ _ = _
  rw [atI_map, atI_of h.1 h.2 0]
  rfl
def R_need_posting (ds : List PyData) (d : PyData) : Prop := ∃ B ps, ds = [eBook B, ePost ps] ∧ Good B ∧ GoodPost B ps ∧ d = .none
theorem ok_need_posting (M : Md K mg) : FnG P w K mg base "need_posting" ["book", "posting"] 4 (spP K R_need_posting) := by
  have Fneed_book := ok_need_book (P := P) (w := w) (base := base) M
  have Fis_office := ok_is_office (P := P) (w := w) (base := base) M
  refine fn_sd (N := ["book", "posting", "bird", "place"]) M.d_need_posting ⟨rfl, rfl, rfl, by decide +kernel, rfl, by decide +kernel, by decide +kernel⟩ (fun ds d ⟨_, _, e, _⟩ => by rw [e]; rfl) (by decide) (fun X c ds d hR => ?_)
  obtain ⟨B, ps, rfl, g, gp, rfl⟩ := hR
  show SD X [.dat (eBook B), .dat (ePost ps), .no, .no] _ _
  refine sd_expr (ed_call c Fneed_book (by decide) rfl (ad_cons (ed_var c 0 rfl (.inl rfl) rfl rfl rfl) ad_nil rfl) ⟨B, rfl, g, rfl⟩ rfl rfl rfl) rfl ?_
  refine sd_if (td_cmp (ed_callB c rfl M.b_len PySem.boot_len (ad_cons (ed_var c 1 rfl (.inl rfl) rfl rfl rfl) ad_nil rfl) cl_lenT (by decide) rfl rfl rfl) (ed_callB c rfl M.b_len PySem.boot_len (ad_cons (ed_ix (ed_var c 0 rfl (.inl rfl) rfl rfl rfl) (ed_gint c rfl M.c_BIRDS rfl) rfl (fun _ _ => rfl)) ad_nil rfl) cl_lenT (by decide) rfl rfl rfl) cd_neI (nomark _)) (fun hb => ?_) (fun hb => ?_)
  · rw [List.length_map, List.length_map, gp.len] at hb
    simp at hb
  refine sd_nil ?_
  refine sd_for c (fun _ => [.dat (eBook B), .dat (ePost ps), .no, .no]) (id_enumT c rfl M.b_enumerate (ed_var c 1 rfl (.inl rfl) rfl rfl rfl) rfl) (gd_tup c (gs_cons c 2 rfl (by kspl_open loc) (by kspl_open loc) (gs_cons c 3 rfl (by kspl_open loc) (by kspl_open loc) gs_nil rfl) rfl) rfl rfl) Wk.rfl' (fun i d hd => ?_) (sd_nil rfl) (fun _ => rfl)
  obtain ⟨d', hd', rfl⟩ := enumD_inv hd
  obtain ⟨p, hp, rfl⟩ := map_get hd'
  refine ⟨_, rfl, ?_⟩
  have wk : ∀ d1 d2, Wk [.dat (eBook B), .dat (ePost ps), .dat d1, .dat d2] [.dat (eBook B), .dat (ePost ps), .no, .no] := fun _ _ => ⟨.inr rfl, .inr rfl, .inl rfl, .inl rfl, trivial⟩
  cases p with
  | none => exact sd_ifF (td_cmp (ed_var c 3 rfl (.inl rfl) rfl rfl rfl) ed_non cd_notN (nomark _)) (sd_nil (sd_nil (wk _ _)))
  | some ot =>
    obtain ⟨o, t⟩ := ot
    obtain ⟨ho, hn, ht⟩ := gp.at_ i o t hp
    have hi : 0 ≤ (i : Int) ∧ (i : Int) < (B.bi.length : Int) := by
      have := (List.getElem?_eq_some_iff.mp hp).1
      have := gp.len
      omega
    refine sd_ifT (td_cmp (ed_var c 3 rfl (.inl rfl) rfl rfl rfl) ed_non cd_notN (nomark _)) ?_
    refine sd_if (td_w (wd_or (td_not (td_val (ed_call c Fis_office (by decide) rfl (ad_cons (ed_var c 0 rfl (.inl rfl) rfl rfl rfl) (ad_cons (ed_ix (ed_var c 3 rfl (.inl rfl) rfl rfl rfl) ed_int rfl (fun _ _ => rfl)) ad_nil rfl) rfl) ⟨B, o, rfl, rfl⟩ rfl rfl rfl) (fun _ => rfl))) (fun _ => (wd_or (td_cmp (ed_ix (ed_var c 3 rfl (.inl rfl) rfl rfl rfl) ed_int rfl (fun _ _ => rfl)) (ed_ix (ed_ix (ed_var c 0 rfl (.inl rfl) rfl rfl rfl) (ed_gint c rfl M.c_BIRDS rfl) rfl (fun _ _ => rfl)) (ed_var c 2 rfl (.inl rfl) rfl rfl rfl) (ix_home hi) (fun _ _ => rfl)) cd_eqI (nomark _)) (fun _ => (wd_or1 (td_cmp (ed_ix (ed_var c 3 rfl (.inl rfl) rfl rfl rfl) ed_int rfl (fun _ _ => rfl)) ed_int cd_lt (nomark _)))))))) (fun hb => ?_) (fun hb => ?_)
    · rw [decT ho.1, decT ho.2, decide_eq_false hn, decide_eq_false (show ¬ t < 0 by omega)] at hb
      cases hb
    · exact sd_nil (sd_nil (sd_nil (wk _ _)))
end
end K
namespace K
open PySem L2 Z
section
variable {P : Program} {w : World} {K : PySem.W.Frag} {mg : Str → Option Value} {base : Heap} [LamC]
/-! ### the law's postings and begins -/
def postStep (B : Book) (i : Nat) (r : Rg) : Option (Int × Int) × Rg :=
  (if nxV (nxR (nxR (nxR r ((B.n : Int) - 1)) 3) (pick3 1 30 95 (nxV (nxR r ((B.n : Int) - 1)) 3))) 4 = 0 then none else some ((B.home (i : Int) + 1 + nxV r ((B.n : Int) - 1)) % (B.n : Int), nxV (nxR (nxR r ((B.n : Int) - 1)) 3) (pick3 1 30 95 (nxV (nxR r ((B.n : Int) - 1)) 3))),
    nxR (nxR (nxR (nxR r ((B.n : Int) - 1)) 3) (pick3 1 30 95 (nxV (nxR r ((B.n : Int) - 1)) 3))) 4)
def lawPost (B : Book) (r : Rg) : Posting × Rg := iterI (postStep B) B.bi.length r
theorem off_ne {n b v : Int} (h0 : 0 ≤ b) (h1 : b < n) (v0 : 0 ≤ v) (v1 : v < n - 1) : (0 ≤ (b + 1 + v) % n ∧ (b + 1 + v) % n < n) ∧ (b + 1 + v) % n ≠ b := by
  refine ⟨⟨Int.emod_nonneg _ (by omega), Int.emod_lt_of_pos _ (by omega)⟩, fun e => ?_⟩
  by_cases q : b + 1 + v < n
  · rw [Int.emod_eq_of_lt (by omega) q] at e
    omega
  · have : (b + 1 + v) % n = b + 1 + v - n := by
      rw [← Int.sub_emod_right, Int.emod_eq_of_lt (by omega) (by omega)]
    omega
theorem lawPost_at {B : Book} (g : Good B) {r : Rg} : ∀ (i : Nat) x, i < B.bi.length → (lawPost B r).1[i]? = some x → ∀ o t, x = some (o, t) → B.off o ∧ o ≠ B.home (i : Int) ∧ 0 ≤ t ∧ t ≤ 94 := fun i x hi e => by
  refine iterI_all (f := postStep B) (p := fun i x => i < B.bi.length → ∀ o t, x = some (o, t) → B.off o ∧ o ≠ B.home (i : Int) ∧ 0 ≤ t ∧ t ≤ 94) (fun i r hi o t ho => ?_) _ _ i x e hi
  unfold postStep at ho
  dsimp only at ho
  split at ho
  · cases ho
  · simp only [Option.some.injEq, Prod.mk.injEq] at ho
    have hh := home_off g (b := (i : Int)) ⟨by omega, by omega⟩
    have n2 := g.n2
    have := off_ne hh.1 hh.2 (nxV_0 (r := r) (m := (B.n : Int) - 1) (by omega)) (nxV_1 (by omega))
    have p := pick3_in (i := nxV (nxR r ((B.n : Int) - 1)) 3) (p := fun z => 0 < z ∧ z ≤ 95) (a := 1) (b := 30) (c := 95) (by decide) (by decide) (by decide)
    rw [← ho.1, ← ho.2]
    refine ⟨this.1, this.2, nxV_0 p.1, ?_⟩
    have := nxV_1 (r := nxR (nxR r ((B.n : Int) - 1)) 3) p.1
    omega
theorem lawPost_len {B : Book} {r : Rg} : (lawPost B r).1.length = B.bi.length := iterI_len _ _ _
theorem lawPost_good {B : Book} (g : Good B) {r : Rg} : GoodPost B (lawPost B r).1 := ⟨lawPost_len, fun i o t h => by
  have hi := (List.getElem?_eq_some_iff.mp h).1
  rw [lawPost_len] at hi
  obtain ⟨a, b, c, _⟩ := lawPost_at g i _ hi h o t rfl
  exact ⟨a, b, c⟩⟩
def R_law_posting (r : Rg) (ds : List PyData) (r2 : Rg) (d : PyData) : Prop := ∃ B, ds = [eBook B] ∧ Good B ∧ r2 = (lawPost B r).2 ∧ d = ePost (lawPost B r).1
theorem ok_law_posting (M : Md K mg) : FnG P w K mg base "_law_posting" ["_law_h", "_law_book_here"] 2 (spR K R_law_posting) := by
  have Fn := ok_next (P := P) (w := w) (base := base) M
  refine fn_sdR (N := ["_law_h", "_law_book_here", "_law_many", "_law_found", "_law_home", "_law_place"]) M.d__law_posting ⟨rfl, rfl, rfl, by decide +kernel, rfl, by decide +kernel, by decide +kernel⟩ (fun r ds r2 d ⟨_, e, _⟩ => by rw [e]; rfl) (by decide) (fun X c A A' r ds r2 d hR => ?_)
  obtain ⟨B, rfl, g, rfl, rfl⟩ := hR
  show SD X [.rng A A' r, .dat (eBook B), .no, .no, .no, .no] _ _
  have n2 := g.n2
  have n6 := g.n6
  refine sd_asg c 2 rfl (.inl rfl) (.inl rfl) (Nat.le_of_ble_eq_true rfl) (ed_to (ed_callB c rfl M.b_len PySem.boot_len (ad_cons (ed_ix (ed_var c 1 rfl (.inl rfl) rfl rfl rfl) ed_int rfl (fun _ _ => rfl)) ad_nil rfl) cl_lenT (by decide) rfl rfl rfl) (d' := .int (B.n : Int)) (by rw [List.length_map])) rfl ?_
  refine sd_asgL c 3 rfl (.inl rfl) (.inl rfl) (Nat.le_of_ble_eq_true rfl) (el_lst ad_nil (Nat.le_of_ble_eq_true rfl)) rfl ?_
  refine sd_for c (fun i => [.rng A A' (iterI (postStep B) i r).2, .dat (eBook B), .dat (.int (B.n : Int)), .own ((iterI (postStep B) i r).1.map oP), .no, .no]) (id_seq (ed_ix (ed_var c 1 rfl (.inl rfl) rfl rfl rfl) ed_int rfl (fun _ _ => rfl)) rfl) (gd_name c 4 rfl (by kspl_open loc) (by kspl_open loc)) Wk.rfl' (fun i d hd => ?_) ?_ (fun _ => rfl)
  · obtain ⟨h, hh, rfl⟩ := map_get hd
    have hi := (List.getElem?_eq_some_iff.mp hh).1
    have eh : h = B.home (i : Int) := by
      unfold Z.Book.home
      rw [Int.toNat_natCast, List.getD_eq_getElem?_getD, hh]; rfl
    subst eh
    refine ⟨_, rfl, ?_⟩
    have hl := iterI_len (postStep B) i r
    refine SD.nxW (L' := [.rng A A' (postStep B i (iterI (postStep B) i r).2).2, .dat (eBook B), .dat (.int (B.n : Int)), .own ((iterI (postStep B) i r).1.map oP ++ [oP (postStep B i (iterI (postStep B) i r).2).1]), .no, .no]) ?_ ?_
    · show [_, _, _, SK.own (((iterI (postStep B) i r).1 ++ [(postStep B i (iterI (postStep B) i r).2).1]).map oP), _, _] = _
      rw [List.map_append]
      rfl
    show SD X [.rng A A' (iterI (postStep B) i r).2, .dat (eBook B), .dat (.int (B.n : Int)), .own ((iterI (postStep B) i r).1.map oP), .dat (.int (B.home (i : Int))), .no] _ _
    generalize (iterI (postStep B) i r).2 = s at *
    generalize (iterI (postStep B) i r).1 = xs at *
    have p1 := p3_pos (a := 1) (b := 30) (c := 95) (i := nxV (nxR s ((B.n : Int) - 1)) 3) (by decide) (by decide) (by decide)
    refine sd_asg c 5 rfl (.inl rfl) (.inl rfl) (Nat.le_of_ble_eq_true rfl) (ed_tup (ad_cons (ed_bin (ed_bin (ed_bin (ed_var c 4 rfl (.inl rfl) rfl rfl rfl) ed_int bd_add) (ed_callR c Fn (by decide) rfl 0 rfl (.inl rfl) rfl (ad_cons (ed_bin (ed_var c 2 rfl (.inl rfl) rfl rfl rfl) ed_int bd_sub) ad_nil rfl) rfl ⟨_, rfl, by omega, by omega, rfl, rfl⟩ rfl rfl rfl rfl rfl) bd_add) (ed_var c 2 rfl (.inl rfl) rfl rfl rfl) (bd_mod (by omega))) (ad_cons (ed_callR c Fn (by decide) rfl 0 rfl (.inl rfl) rfl (ad_cons (ed_ix (ed_el (el_lst (ad_cons ed_int (ad_cons ed_int (ad_cons ed_int ad_nil rfl) rfl) rfl) (Nat.le_of_ble_eq_true rfl))) (ed_callR c Fn (by decide) rfl 0 rfl (.inl rfl) rfl (ad_cons ed_int ad_nil rfl) rfl ⟨3, rfl, by decide, by decide, rfl, rfl⟩ rfl rfl rfl rfl rfl) (ix_pick3 (nxV_0 (by decide)) (nxV_1 (by decide))) (fun _ _ => rfl)) ad_nil rfl) rfl ⟨_, rfl, p1.1, by have := p1.2; omega, rfl, rfl⟩ rfl rfl rfl rfl rfl) ad_nil rfl) rfl) (Nat.le_of_ble_eq_true rfl)) rfl ?_
    unfold postStep
    dsimp only
    generalize (B.home (i : Int) + 1 + nxV s ((B.n : Int) - 1)) % (B.n : Int) = o
    generalize nxV (nxR (nxR s ((B.n : Int) - 1)) 3) (pick3 1 30 95 (nxV (nxR s ((B.n : Int) - 1)) 3)) = t
    show SD X [.rng A A' (nxR (nxR (nxR s ((B.n : Int) - 1)) 3) (pick3 1 30 95 (nxV (nxR s ((B.n : Int) - 1)) 3))), .dat (eBook B), .dat (.int (B.n : Int)), .own (xs.map oP), .dat (.int (B.home (i : Int))), .dat (eP2 (o, t))] _ _
    generalize nxR (nxR (nxR s ((B.n : Int) - 1)) 3) (pick3 1 30 95 (nxV (nxR s ((B.n : Int) - 1)) 3)) = s3
    refine sd_append c 3 rfl (.inl rfl) (ed_if (d := oP (if nxV s3 4 = 0 then none else some (o, t))) (td_cmp (ed_callR c Fn (by decide) rfl 0 rfl (.inl rfl) rfl (ad_cons ed_int ad_nil rfl) rfl ⟨4, rfl, by decide, by decide, rfl, rfl⟩ rfl rfl rfl rfl rfl) ed_int cd_eqI (nomark _)) (fun hb => ed_to ed_non (by rw [if_pos (of_decide_eq_true hb)]; rfl)) (fun hb => ed_to (ed_var c 5 rfl (.inl rfl) rfl rfl rfl) (by rw [if_neg (of_decide_eq_false hb)]; rfl))) rfl rfl ?hz ?_ rfl rfl rfl rfl rfl rfl
    · rw [List.length_map, hl]
      exact Nat.lt_of_lt_of_le (show i < 1000 by have := g.bil; omega) (Nat.le_of_ble_eq_true rfl)
    · exact sd_nil ⟨.inr rfl, .inr rfl, .inr rfl, .inr rfl, .inl rfl, .inl rfl, trivial⟩
  · rw [List.length_map]
    refine sd_freeze 3 rfl ?_
    exact sd_ret (ed_callT c rfl M.b_tuple PyProof.Rows.boot_tuple (ad_cons (ed_var c 3 rfl (.inl rfl) rfl rfl rfl) ad_nil rfl) cl_tupL (by decide) rfl rfl rfl) ⟨rfl, rfl⟩
end
end K
namespace K
open PySem L2 Z
section
variable {P : Program} {w : World} {K : PySem.W.Frag} {mg : Str → Option Value} {base : Heap} [LamC]
-- use Ta Tb Tc Td Te Tf Tg Th
/-! ### all that are handed a book refuse it: which refusal -/
inductive Rf where
  | book (w : Str)
  | post
  | off
def Rf.cls (b p o : Addr) : Rf → Value
  | .book _ => .ref b
  | .post => .ref p
  | .off => .ref o
def Rf.fs : Rf → List (Str × PyData)
  | .book w => whyF (.str w)
  | _ => []
theorem prev_succI {α : Type} {p : Nat → α → Prop} {l : List α} {i : Nat} {x : α} (h : ∀ (j : Nat) (y : α), j < i → l[j]? = some y → p j y) (hx : l[i]? = some x) (q : p i x) : ∀ (j : Nat) (y : α), j < i + 1 → l[j]? = some y → p j y := fun j y hj hy => by
  rcases Nat.lt_succ_iff_lt_or_eq.mp hj with z | z
  · exact h j y z hy
  · subst z
    rw [hx] at hy
    cases hy
    exact q
def rfG (B : Book) (G : Prop) (r : Rf) : Prop := (∃ w, whyB B w ∧ r = .book w) ∨ (Good B ∧ ¬ G ∧ r = .off)
def rfP (B : Book) (ps : Posting) (G : Prop) (r : Rf) : Prop := (∃ w, whyB B w ∧ r = .book w) ∨ (Good B ∧ ¬ GoodPost B ps ∧ r = .post) ∨ (Good B ∧ GoodPost B ps ∧ ¬ G ∧ r = .off)
theorem rfP_one {B : Book} {ps : Posting} {G : Prop} {r' r : Rf} (h' : rfP B ps True r') (h : rfP B ps G r) : r' = r := by
  rcases h' with ⟨w', a, rfl⟩ | ⟨g, n, rfl⟩ | ⟨_, _, n, _⟩
  · rcases h with ⟨w, b, rfl⟩ | ⟨g, _⟩ | ⟨g, _⟩
    · rw [whyB_one a b]
    · exact absurd g (whyB_no a)
    · exact absurd g (whyB_no a)
  · rcases h with ⟨w, b, rfl⟩ | ⟨_, _, e⟩ | ⟨_, gp, _⟩
    · exact absurd g (whyB_no b)
    · exact e.symm
    · exact absurd gp n
  · exact absurd trivial n
section
variable {aPostError aBadBook aNoOffice aBadPosting aNoPosting aBadText : Addr}
abbrev offS (B : Book) (bs : List (Int × Int)) : Prop := ∀ p ∈ bs, B.off p.1
theorem ok_need_postingX (M : Md K mg) (E : Exs K mg aPostError aBadBook aNoOffice aBadPosting aNoPosting aBadText) : FnX P w K mg base "need_posting" ["book", "posting"] 6 (spO K (fun (i : Book × Posting) ds => ds = [eBook i.1, ePost i.2]) (fun i d => Good i.1 ∧ GoodPost i.1 i.2 ∧ d = .none) (fun i c f => ∃ r, rfP i.1 i.2 True r ∧ c = Rf.cls aBadBook aBadPosting aNoOffice r ∧ f = r.fs)) := by
  have Fb := ok_need_bookX (P := P) (w := w) (base := base) M E
  have Fo := ok_is_office (P := P) (w := w) (base := base) M
  refine fn_sdO (N := ["book", "posting", "bird", "place"]) M.d_need_posting ⟨rfl, rfl, rfl, by decide +kernel, rfl, by decide +kernel, by decide +kernel⟩ (fun i ds e => by rw [e]; rfl) (by decide) (fun X c _ i ds e => ?_)
  obtain ⟨B, ps⟩ := i
  subst e
  show SD X [.dat (eBook B), .dat (ePost ps), .no, .no] _ _
  refine sd_exprO c (i := B) Fb (by decide) rfl (ad_cons (ed_var c 0 rfl (by kspl_open vis) rfl rfl rfl) ad_nil rfl) rfl (fun ⟨d, g, _⟩ => ?_) (fun cls fs z => by obtain ⟨wy, h, h1, h2⟩ := z; exact ⟨.book wy, .inl ⟨wy, h, rfl⟩, h1, h2⟩) rfl rfl rfl rfl
  refine sd_if (td_cmp (ed_callB c rfl M.b_len PySem.boot_len (ad_cons (ed_var c 1 rfl (by kspl_open vis) rfl rfl rfl) ad_nil rfl) (by kspl_open cl) (by decide) rfl rfl rfl) (ed_callB c rfl M.b_len PySem.boot_len (ad_cons (ed_ix (ed_var c 0 rfl (by kspl_open vis) rfl rfl rfl) (ed_gint c rfl M.c_BIRDS rfl) (by kspl_open ix) (fun _ _ => rfl)) ad_nil rfl) (by kspl_open cl) (by decide) rfl rfl rfl) cd_neI (nomark _)) (fun hb => ?_) (fun hb => ?_)
  · rw [List.length_map, List.length_map] at hb
    refine sd_raise0 c E.z_BadPosting rfl rfl ⟨.post, .inr (.inl ⟨g, fun gp => ?_, rfl⟩), rfl, rfl⟩
    rw [gp.len] at hb
    simp at hb
  rw [List.length_map, List.length_map] at hb
  have hb : ps.length = B.bi.length := by simp at hb; omega
  refine sd_nil ?_
  refine sd_forJ c (fun _ => [.dat (eBook B), .dat (ePost ps), .no, .no]) (fun n => ∀ (i : Nat) (x : Option (Int × Int)), i < n → ps[i]? = some x → ∀ o t, x = some (o, t) → B.off o ∧ o ≠ B.home (i : Int) ∧ 0 ≤ t) (id_enumT c rfl M.b_enumerate (ed_var c 1 rfl (by kspl_open vis) rfl rfl rfl) rfl) (gd_tup c (gs_cons c 2 rfl (by kspl_open loc) (by kspl_open loc) (gs_cons c 3 rfl (by kspl_open loc) (by kspl_open loc) gs_nil rfl) rfl) rfl rfl) Wk.rfl' (fun _ _ z => absurd z (Nat.not_lt_zero _)) (fun i d hd hj => ?_) (fun hj => sd_nil ⟨g, ⟨hb, fun i o t h => hj i _ (by rw [enumD_len, List.length_map]; exact (List.getElem?_eq_some_iff.mp h).1) h o t rfl⟩, rfl⟩) (fun _ => rfl)
  obtain ⟨d', hd', rfl⟩ := enumD_inv hd
  obtain ⟨p, hp, rfl⟩ := map_get hd'
  refine ⟨_, rfl, ?_⟩
  cases p with
  | none => exact sd_ifF (td_cmp (ed_var c 3 rfl (by kspl_open vis) rfl rfl rfl) ed_non cd_notN (nomark _)) (sd_nil (sd_nil ⟨⟨.inr rfl, .inr rfl, .inl rfl, .inl rfl, trivial⟩, prev_succI (p := fun j x => ∀ o t, x = some (o, t) → B.off o ∧ o ≠ B.home (j : Int) ∧ 0 ≤ t) hj hp fun o t z => by cases z⟩))
  | some ot =>
    obtain ⟨o, t⟩ := ot
    have hi : 0 ≤ (i : Int) ∧ (i : Int) < (B.bi.length : Int) := by
      have := (List.getElem?_eq_some_iff.mp hp).1
      omega
    refine sd_ifT (td_cmp (ed_var c 3 rfl (by kspl_open vis) rfl rfl rfl) ed_non cd_notN (nomark _)) ?_
    show SD X [.dat (eBook B), .dat (ePost ps), .dat (.int (i : Nat)), .dat (eP2 (o, t))] _ _
    refine sd_if (td_w (wd_or (td_not (td_val (ed_call c Fo (by decide) rfl (ad_cons (ed_var c 0 rfl (by kspl_open vis) rfl rfl rfl) (ad_cons (ed_ix (ed_var c 3 rfl (by kspl_open vis) rfl rfl rfl) ed_int rfl (fun _ _ => rfl)) ad_nil rfl) rfl) ⟨B, o, rfl, rfl⟩ rfl rfl rfl) (fun _ => rfl))) (fun _ => (wd_or (td_cmp (ed_ix (ed_var c 3 rfl (by kspl_open vis) rfl rfl rfl) ed_int rfl (fun _ _ => rfl)) (ed_ix (ed_ix (ed_var c 0 rfl (by kspl_open vis) rfl rfl rfl) (ed_gint c rfl M.c_BIRDS rfl) rfl (fun _ _ => rfl)) (ed_var c 2 rfl (by kspl_open vis) rfl rfl rfl) (ix_home hi) (fun _ _ => rfl)) cd_eqI (nomark _)) (fun _ => (wd_or1 (td_cmp (ed_ix (ed_var c 3 rfl (by kspl_open vis) rfl rfl rfl) ed_int rfl (fun _ _ => rfl)) ed_int cd_lt (nomark _)))))))) (fun hb => ?_) (fun hb => ?_)
    · refine sd_raise0 c E.z_BadPosting rfl rfl ⟨.post, .inr (.inl ⟨g, fun gp => ?_, rfl⟩), rfl, rfl⟩
      obtain ⟨ho, hn, ht⟩ := gp.at_ i o t hp
      rw [decT ho.1, decT ho.2, decide_eq_false hn, decide_eq_false (show ¬ t < 0 by omega)] at hb
      cases hb
    · simp only [Bool.or_eq_false_iff, Bool.not_eq_false', Bool.and_eq_true, decide_eq_true_eq, decide_eq_false_iff_not] at hb
      obtain ⟨⟨h1, h2⟩, h3, h4⟩ := hb
      refine sd_nil (sd_nil (sd_nil ⟨⟨.inr rfl, .inr rfl, .inl rfl, .inl rfl, trivial⟩, prev_succI (p := fun j x => ∀ o t, x = some (o, t) → B.off o ∧ o ≠ B.home (j : Int) ∧ 0 ≤ t) hj hp fun o' t' z => ?_⟩))
      cases z
      exact ⟨⟨h1, h2⟩, h3, by omega⟩
/-- need_posting(b, p) as a statement -/
theorem sd_needP {T : Sta} {k : Nat} {X : Cx} {ks k1 : List SK} {e we : Expr} {p pos pos' : Pos} {B : Book} {ps : Posting} {G : Prop} {r : Rf} {rest : List Stmt} {Φ : Po} (M : Md K mg) (E : Exs K mg aPostError aBadBook aNoOffice aBadPosting aNoPosting aBadText) (c : Ctx P w K mg base T k X) (hk : 6 ≤ k) (hg : T.sc.names.lookup ("need_posting" : Str) = some .globalImplicit) (ha : AD X ks [e, we] k1 [eBook B, ePost ps]) (h : rfP B ps G r)
    (hx : Φ.ex k1 (Rf.cls aBadBook aBadPosting aNoOffice r) r.fs) (q : Good B → GoodPost B ps → ¬ G → r = .off → SD X k1 rest Φ) (he : starEach [e, we] X.env = (false, eval e X.env) :: starEach [we] X.env) (hpl : (backTo pos (starEach [we] X.env)).any (·.1) = false)
    (hs : swapsWith (.Call (.Name "need_posting" p) [e, we] [] pos) none pos'.line X.env = pure false) : SD X ks (.Expr (.Call (.Name "need_posting" p) [e, we] [] pos) pos' :: rest) Φ :=
  sd_exprO c (i := (B, ps)) (ok_need_postingX (P := P) (w := w) (base := base) M E) hk hg ha rfl (fun ⟨d, g, gp, _⟩ => by
    rcases h with ⟨w, a, _⟩ | ⟨_, n, _⟩ | ⟨_, _, n, e⟩
    · exact absurd g (whyB_no a)
    · exact absurd gp n
    · exact q g gp n e) (fun cls fs ⟨r', h', e1, e2⟩ => by
    have e := rfP_one h' h
    subst e
    rw [e1, e2]
    exact hx) rfl he hpl hs
/-- need_book(b) as a statement -/
theorem sd_needB {T : Sta} {k : Nat} {X : Cx} {ks k1 : List SK} {e : Expr} {p pos pos' : Pos} {B : Book} {G : Prop} {r : Rf} {rest : List Stmt} {Φ : Po} (M : Md K mg) (E : Exs K mg aPostError aBadBook aNoOffice aBadPosting aNoPosting aBadText) (c : Ctx P w K mg base T k X) (hk : 5 ≤ k) (hg : T.sc.names.lookup ("need_book" : Str) = some .globalImplicit) (ha : AD X ks [e] k1 [eBook B]) (h : rfG B G r)
    (hx : Φ.ex k1 (Rf.cls aBadBook aBadPosting aNoOffice r) r.fs) (q : Good B → ¬ G → r = .off → SD X k1 rest Φ) (he : starEach [e] X.env = (false, eval e X.env) :: starEach [] X.env) (hpl : (backTo pos (starEach [] X.env)).any (·.1) = false)
    (hs : swapsWith (.Call (.Name "need_book" p) [e] [] pos) none pos'.line X.env = pure false) : SD X ks (.Expr (.Call (.Name "need_book" p) [e] [] pos) pos' :: rest) Φ :=
  sd_exprO c (i := B) (ok_need_bookX (P := P) (w := w) (base := base) M E) hk hg ha rfl (fun ⟨d, g, _⟩ => by
    rcases h with ⟨w, a, _⟩ | ⟨_, n, e⟩
    · exact absurd g (whyB_no a)
    · exact q g n e) (fun cls fs ⟨wy, h', e1, e2⟩ => by
    rcases h with ⟨w, a, rfl⟩ | ⟨g, _⟩
    · rw [e1, e2, whyB_one h' a]
      exact hx
    · exact absurd g (whyB_no h')) rfl he hpl hs
theorem ok_need_officeX (M : Md K mg) (E : Exs K mg aPostError aBadBook aNoOffice aBadPosting aNoPosting aBadText) : FnX P w K mg base "need_office" ["book", "office"] 2 (spO K (fun (i : Book × Int) ds => ds = [eBook i.1, .int i.2]) (fun i d => i.1.off i.2 ∧ d = .none) (fun i c f => ¬ i.1.off i.2 ∧ c = .ref aNoOffice ∧ f = [])) := by
  have Fo := ok_is_office (P := P) (w := w) (base := base) M
  refine fn_sdO (N := ["book", "office"]) M.d_need_office ⟨rfl, rfl, rfl, by decide +kernel, rfl, by decide +kernel, by decide +kernel⟩ (fun i ds e => by rw [e]; rfl) (by decide) (fun X c _ i ds e => ?_)
  obtain ⟨B, o⟩ := i
  subst e
  show SD X [.dat (eBook B), .dat (.int o)] _ _
  refine sd_if (td_not (td_val (ed_call c Fo (by decide) rfl (ad_cons (ed_var c 0 rfl (by kspl_open vis) rfl rfl rfl) (ad_cons (ed_var c 1 rfl (by kspl_open vis) rfl rfl rfl) ad_nil rfl) rfl) ⟨B, o, rfl, rfl⟩ rfl rfl rfl) (fun _ => rfl))) (fun hb => sd_raise0 c E.z_NoOffice rfl rfl ⟨fun ho => ?_, rfl, rfl⟩) (fun hb => sd_nil (sd_nil ⟨?_, rfl⟩))
  · rw [decT ho.1, decT ho.2] at hb
    cases hb
  · simp only [Bool.not_eq_false', Bool.and_eq_true, decide_eq_true_eq] at hb
    exact hb
/-- need_office(b, o) as a statement -/
theorem sd_needO {T : Sta} {k : Nat} {X : Cx} {ks k1 : List SK} {e we : Expr} {p pos pos' : Pos} {B : Book} {o : Int} {rest : List Stmt} {Φ : Po} (M : Md K mg) (E : Exs K mg aPostError aBadBook aNoOffice aBadPosting aNoPosting aBadText) (c : Ctx P w K mg base T k X) (hk : 2 ≤ k) (hg : T.sc.names.lookup ("need_office" : Str) = some .globalImplicit) (ha : AD X ks [e, we] k1 [eBook B, .int o])
    (q : B.off o → SD X k1 rest Φ) (hx : ¬ B.off o → Φ.ex k1 (.ref aNoOffice) []) (he : starEach [e, we] X.env = (false, eval e X.env) :: starEach [we] X.env) (hpl : (backTo pos (starEach [we] X.env)).any (·.1) = false)
    (hs : swapsWith (.Call (.Name "need_office" p) [e, we] [] pos) none pos'.line X.env = pure false) : SD X ks (.Expr (.Call (.Name "need_office" p) [e, we] [] pos) pos' :: rest) Φ :=
  sd_exprO c (i := (B, o)) (ok_need_officeX (P := P) (w := w) (base := base) M E) hk hg ha rfl (fun ⟨d, h, _⟩ => q h) (fun cls fs ⟨h, h2, h3⟩ => by rw [h2, h3]; exact hx h) rfl he hpl hs
theorem ok_need_beginsX (M : Md K mg) (E : Exs K mg aPostError aBadBook aNoOffice aBadPosting aNoPosting aBadText) : FnX P w K mg base "need_begins" ["book", "begins"] 3 (spO K (fun (i : Book × List (Int × Int)) ds => ds = [eBook i.1, .tuple (i.2.map eP2)]) (fun i d => offS i.1 i.2 ∧ d = .none) (fun i c f => ¬ offS i.1 i.2 ∧ c = .ref aNoOffice ∧ f = [])) := by
  refine fn_sdO (N := ["book", "begins", "office", "hour"]) M.d_need_begins ⟨rfl, rfl, rfl, by decide +kernel, rfl, by decide +kernel, by decide +kernel⟩ (fun i ds e => by rw [e]; rfl) (by decide) (fun X c _ i ds e => ?_)
  obtain ⟨B, bs⟩ := i
  subst e
  show SD X [.dat (eBook B), .dat (.tuple (bs.map eP2)), .no, .no] _ _
  refine sd_forJ c (fun _ => [.dat (eBook B), .dat (.tuple (bs.map eP2)), .no, .no]) (fun n => ∀ (i : Nat) (p : Int × Int), i < n → bs[i]? = some p → B.off p.1) (id_seq (ed_var c 1 rfl (by kspl_open vis) rfl rfl rfl) rfl) (gd_tup c (gs_cons c 2 rfl (by kspl_open loc) (by kspl_open loc) (gs_cons c 3 rfl (by kspl_open loc) (by kspl_open loc) gs_nil rfl) rfl) rfl rfl) Wk.rfl' (fun _ _ z => absurd z (Nat.not_lt_zero _)) (fun i d hd hj => ?_) (fun hj => sd_nil ⟨fun p hp => ?_, rfl⟩) (fun _ => rfl)
  · obtain ⟨p, hp, rfl⟩ := map_get hd
    refine ⟨_, rfl, ?_⟩
    show SD X [.dat (eBook B), .dat (.tuple (bs.map eP2)), .dat (.int p.1), .dat (.int p.2)] _ _
    exact sd_needO M E c (by decide) rfl (ad_cons (ed_var c 0 rfl (by kspl_open vis) rfl rfl rfl) (ad_cons (ed_var c 2 rfl (by kspl_open vis) rfl rfl rfl) ad_nil rfl) rfl) (fun ho => sd_nil ⟨⟨.inr rfl, .inr rfl, .inl rfl, .inl rfl, trivial⟩, prev_succ hj hp ho⟩) (fun ho => ⟨fun z => ho (z p (List.mem_of_getElem? hp)), rfl, rfl⟩) rfl rfl rfl
  · obtain ⟨i, hi⟩ := List.mem_iff_getElem?.mp hp
    exact hj i p (by rw [List.length_map]; exact (List.getElem?_eq_some_iff.mp hi).1) hi
abbrev Ltx := List (Int × Int) × Int × Int
def eLx (t : Ltx) : PyData := .tuple [.tuple (t.1.map eP2), .int t.2.1, .int t.2.2]
abbrev offL (B : Book) (ls : List Ltx) : Prop := ∀ t ∈ ls, offS B t.1 ∧ B.off t.2.1
theorem ok_need_lettersX (M : Md K mg) (E : Exs K mg aPostError aBadBook aNoOffice aBadPosting aNoPosting aBadText) : FnX P w K mg base "need_letters" ["book", "letters"] 3 (spO K (fun (i : Book × List Ltx) ds => ds = [eBook i.1, .list (i.2.map eLx)]) (fun i d => offL i.1 i.2 ∧ d = .none) (fun i c f => ¬ offL i.1 i.2 ∧ c = .ref aNoOffice ∧ f = [])) := by
  refine fn_sdO (N := ["book", "letters", "begins", "goal", "due", "office", "hour"]) M.d_need_letters ⟨rfl, rfl, rfl, by decide +kernel, rfl, by decide +kernel, by decide +kernel⟩ (fun i ds e => by rw [e]; rfl) (by decide) (fun X c _ i ds e => ?_)
  obtain ⟨B, ls⟩ := i
  subst e
  show SD X [.dat (eBook B), .dat (.list (ls.map eLx)), .no, .no, .no, .no, .no] _ _
  refine sd_forJ c (fun _ => [.dat (eBook B), .dat (.list (ls.map eLx)), .no, .no, .no, .no, .no]) (fun n => ∀ (i : Nat) (t : Ltx), i < n → ls[i]? = some t → offS B t.1 ∧ B.off t.2.1) (id_seq (ed_var c 1 rfl (by kspl_open vis) rfl rfl rfl) rfl) (gd_tup c (gs_cons c 2 rfl (by kspl_open loc) (by kspl_open loc) (gs_cons c 3 rfl (by kspl_open loc) (by kspl_open loc) (gs_cons c 4 rfl (by kspl_open loc) (by kspl_open loc) gs_nil rfl) rfl) rfl) rfl rfl) Wk.rfl' (fun _ _ z => absurd z (Nat.not_lt_zero _)) (fun i d hd hj => ?_) (fun hj => sd_nil ⟨fun t ht => ?_, rfl⟩) (fun _ => rfl)
  · obtain ⟨t, ht, rfl⟩ := map_get hd
    have hm := List.mem_of_getElem? ht
    refine ⟨_, rfl, ?_⟩
    show SD X [.dat (eBook B), .dat (.list (ls.map eLx)), .dat (.tuple (t.1.map eP2)), .dat (.int t.2.1), .dat (.int t.2.2), .no, .no] _ _
    refine sd_forJ c (fun _ => [.dat (eBook B), .dat (.list (ls.map eLx)), .dat (.tuple (t.1.map eP2)), .dat (.int t.2.1), .dat (.int t.2.2), .no, .no]) (fun n => ∀ (i : Nat) (p : Int × Int), i < n → t.1[i]? = some p → B.off p.1) (id_seq (ed_var c 2 rfl (by kspl_open vis) rfl rfl rfl) rfl) (gd_tup c (gs_cons c 5 rfl (by kspl_open loc) (by kspl_open loc) (gs_cons c 6 rfl (by kspl_open loc) (by kspl_open loc) gs_nil rfl) rfl) rfl rfl) Wk.rfl' (fun _ _ z => absurd z (Nat.not_lt_zero _)) (fun j d hd hjj => ?_) (fun hjj => ?_) (fun _ => rfl)
    · obtain ⟨p, hp, rfl⟩ := map_get hd
      refine ⟨_, rfl, ?_⟩
      show SD X [.dat (eBook B), .dat (.list (ls.map eLx)), .dat (.tuple (t.1.map eP2)), .dat (.int t.2.1), .dat (.int t.2.2), .dat (.int p.1), .dat (.int p.2)] _ _
      exact sd_needO M E c (by decide) rfl (ad_cons (ed_var c 0 rfl (by kspl_open vis) rfl rfl rfl) (ad_cons (ed_var c 5 rfl (by kspl_open vis) rfl rfl rfl) ad_nil rfl) rfl) (fun ho => sd_nil ⟨⟨.inr rfl, .inr rfl, .inr rfl, .inr rfl, .inr rfl, .inl rfl, .inl rfl, trivial⟩, prev_succ hjj hp ho⟩) (fun ho => ⟨fun z => ho ((z t hm).1 p (List.mem_of_getElem? hp)), rfl, rfl⟩) rfl rfl rfl
    · refine sd_needO M E c (by decide) rfl (ad_cons (ed_var c 0 rfl (by kspl_open vis) rfl rfl rfl) (ad_cons (ed_var c 3 rfl (by kspl_open vis) rfl rfl rfl) ad_nil rfl) rfl) (fun ho => sd_nil ⟨⟨.inr rfl, .inr rfl, .inl rfl, .inl rfl, .inl rfl, .inl rfl, .inl rfl, trivial⟩, prev_succ hj ht ⟨fun p hp => ?_, ho⟩⟩) (fun ho => ⟨fun z => ho (z t hm).2, rfl, rfl⟩) rfl rfl rfl
      obtain ⟨i, hi⟩ := List.mem_iff_getElem?.mp hp
      exact hjj i p (by rw [List.length_map]; exact (List.getElem?_eq_some_iff.mp hi).1) hi
  · obtain ⟨i, hi⟩ := List.mem_iff_getElem?.mp ht
    exact hj i t (by rw [List.length_map]; exact (List.getElem?_eq_some_iff.mp hi).1) hi
/-! ### each of them -/
def R_reachX (aBadBook aBadPosting aNoOffice : Addr) (ds : List PyData) (c : Value) (f : List (Str × PyData)) : Prop := ∃ (B : Book) (ps : Posting) (bs : List (Int × Int)) (r : Rf), ds = [eBook B, ePost ps, .tuple (bs.map eP2)] ∧ rfP B ps (offS B bs) r ∧ c = Rf.cls aBadBook aBadPosting aNoOffice r ∧ f = r.fs
theorem ok_reachX (M : Md K mg) (E : Exs K mg aPostError aBadBook aNoOffice aBadPosting aNoPosting aBadText) : FnX P w K mg base "reach" ["book", "posting", "begins"] 7 (spPX K NoR (R_reachX aBadBook aBadPosting aNoOffice)) := by
  have Fg := ok_need_beginsX (P := P) (w := w) (base := base) M E
  refine fn_sdF2 (N := ["book", "posting", "begins"]) M.d_reach ⟨rfl, rfl, rfl, by decide +kernel, rfl, by decide +kernel, by decide +kernel⟩ (fun ds c f ⟨_, _, _, _, e, _⟩ => by rw [e]; rfl) (by decide) (fun X c _ ds cls fs hR => ?_)
  obtain ⟨B, ps, bs, r, rfl, hr, rfl, rfl⟩ := hR
  show SD X [.dat (eBook B), .dat (ePost ps), .dat (.tuple (bs.map eP2))] _ _
  refine sd_needP M E c (by decide) rfl (ad_cons (ed_var c 0 rfl (by kspl_open vis) rfl rfl rfl) (ad_cons (ed_var c 1 rfl (by kspl_open vis) rfl rfl rfl) ad_nil rfl) rfl) hr ⟨rfl, rfl⟩ (fun g gp n e => ?_) rfl rfl rfl
  subst e
  refine sd_exprO c (i := (B, bs)) Fg (by decide) rfl (ad_cons (ed_var c 0 rfl (by kspl_open vis) rfl rfl rfl) (ad_cons (ed_var c 2 rfl (by kspl_open vis) rfl rfl rfl) ad_nil rfl) rfl) rfl (fun ⟨d, h0, _⟩ => absurd h0 n) (fun cls fs z => by obtain ⟨_, h1, h2⟩ := z; exact ⟨h1, h2⟩) rfl rfl rfl rfl
def R_flownX (aBadBook aBadPosting aNoOffice : Addr) (ds : List PyData) (c : Value) (f : List (Str × PyData)) : Prop := ∃ (B : Book) (ps : Posting) (bs : List (Int × Int)) (r : Rf), ds = [eBook B, ePost ps, .tuple (bs.map eP2)] ∧ rfP B ps (offS B bs) r ∧ c = Rf.cls aBadBook aBadPosting aNoOffice r ∧ f = r.fs
theorem ok_flownX (M : Md K mg) (E : Exs K mg aPostError aBadBook aNoOffice aBadPosting aNoPosting aBadText) : FnX P w K mg base "flown" ["book", "posting", "begins"] 7 (spPX K NoR (R_flownX aBadBook aBadPosting aNoOffice)) := by
  have Fg := ok_need_beginsX (P := P) (w := w) (base := base) M E
  refine fn_sdF2 (N := ["book", "posting", "begins"]) M.d_flown ⟨rfl, rfl, rfl, by decide +kernel, rfl, by decide +kernel, by decide +kernel⟩ (fun ds c f ⟨_, _, _, _, e, _⟩ => by rw [e]; rfl) (by decide) (fun X c _ ds cls fs hR => ?_)
  obtain ⟨B, ps, bs, r, rfl, hr, rfl, rfl⟩ := hR
  show SD X [.dat (eBook B), .dat (ePost ps), .dat (.tuple (bs.map eP2))] _ _
  refine sd_needP M E c (by decide) rfl (ad_cons (ed_var c 0 rfl (by kspl_open vis) rfl rfl rfl) (ad_cons (ed_var c 1 rfl (by kspl_open vis) rfl rfl rfl) ad_nil rfl) rfl) hr ⟨rfl, rfl⟩ (fun g gp n e => ?_) rfl rfl rfl
  subst e
  refine sd_exprO c (i := (B, bs)) Fg (by decide) rfl (ad_cons (ed_var c 0 rfl (by kspl_open vis) rfl rfl rfl) (ad_cons (ed_var c 2 rfl (by kspl_open vis) rfl rfl rfl) ad_nil rfl) rfl) rfl (fun ⟨d, h0, _⟩ => absurd h0 n) (fun cls fs z => by obtain ⟨_, h1, h2⟩ := z; exact ⟨h1, h2⟩) rfl rfl rfl rfl
def R_sureX (aBadBook aBadPosting aNoOffice : Addr) (ds : List PyData) (c : Value) (f : List (Str × PyData)) : Prop := ∃ (B : Book) (ps : Posting) (bs : List (Int × Int)) (r : Rf), ds = [eBook B, ePost ps, .tuple (bs.map eP2)] ∧ rfP B ps (offS B bs) r ∧ c = Rf.cls aBadBook aBadPosting aNoOffice r ∧ f = r.fs
theorem ok_sureX (M : Md K mg) (E : Exs K mg aPostError aBadBook aNoOffice aBadPosting aNoPosting aBadText) : FnX P w K mg base "sure" ["book", "posting", "begins"] 7 (spPX K NoR (R_sureX aBadBook aBadPosting aNoOffice)) := by
  have Fg := ok_need_beginsX (P := P) (w := w) (base := base) M E
  refine fn_sdF2 (N := ["book", "posting", "begins", "found", "rows", "there", "one", "other"]) M.d_sure ⟨rfl, rfl, rfl, by decide +kernel, rfl, by decide +kernel, by decide +kernel⟩ (fun ds c f ⟨_, _, _, _, e, _⟩ => by rw [e]; rfl) (by decide) (fun X c _ ds cls fs hR => ?_)
  obtain ⟨B, ps, bs, r, rfl, hr, rfl, rfl⟩ := hR
  show SD X [.dat (eBook B), .dat (ePost ps), .dat (.tuple (bs.map eP2)), .no, .no, .no, .no, .no] _ _
  refine sd_needP M E c (by decide) rfl (ad_cons (ed_var c 0 rfl (by kspl_open vis) rfl rfl rfl) (ad_cons (ed_var c 1 rfl (by kspl_open vis) rfl rfl rfl) ad_nil rfl) rfl) hr ⟨rfl, rfl⟩ (fun g gp n e => ?_) rfl rfl rfl
  subst e
  refine sd_exprO c (i := (B, bs)) Fg (by decide) rfl (ad_cons (ed_var c 0 rfl (by kspl_open vis) rfl rfl rfl) (ad_cons (ed_var c 2 rfl (by kspl_open vis) rfl rfl rfl) ad_nil rfl) rfl) rfl (fun ⟨d, h0, _⟩ => absurd h0 n) (fun cls fs z => by obtain ⟨_, h1, h2⟩ := z; exact ⟨h1, h2⟩) rfl rfl rfl rfl
def R_keptX (aBadBook aBadPosting aNoOffice : Addr) (ds : List PyData) (c : Value) (f : List (Str × PyData)) : Prop := ∃ (B : Book) (ps : Posting) (ls : List Ltx) (r : Rf), ds = [eBook B, ePost ps, .list (ls.map eLx)] ∧ rfP B ps (offL B ls) r ∧ c = Rf.cls aBadBook aBadPosting aNoOffice r ∧ f = r.fs
theorem ok_keptX (M : Md K mg) (E : Exs K mg aPostError aBadBook aNoOffice aBadPosting aNoPosting aBadText) : FnX P w K mg base "kept" ["book", "posting", "letters"] 7 (spPX K NoR (R_keptX aBadBook aBadPosting aNoOffice)) := by
  have Fl := ok_need_lettersX (P := P) (w := w) (base := base) M E
  refine fn_sdF2 (N := ["book", "posting", "letters"]) M.d_kept ⟨rfl, rfl, rfl, by decide +kernel, rfl, by decide +kernel, by decide +kernel⟩ (fun ds c f ⟨_, _, _, _, e, _⟩ => by rw [e]; rfl) (by decide) (fun X c _ ds cls fs hR => ?_)
  obtain ⟨B, ps, ls, r, rfl, hr, rfl, rfl⟩ := hR
  show SD X [.dat (eBook B), .dat (ePost ps), .dat (.list (ls.map eLx))] _ _
  refine sd_needP M E c (by decide) rfl (ad_cons (ed_var c 0 rfl (by kspl_open vis) rfl rfl rfl) (ad_cons (ed_var c 1 rfl (by kspl_open vis) rfl rfl rfl) ad_nil rfl) rfl) hr ⟨rfl, rfl⟩ (fun g gp n e => ?_) rfl rfl rfl
  subst e
  refine sd_exprO c (i := (B, ls)) Fl (by decide) rfl (ad_cons (ed_var c 0 rfl (by kspl_open vis) rfl rfl rfl) (ad_cons (ed_var c 2 rfl (by kspl_open vis) rfl rfl rfl) ad_nil rfl) rfl) rfl (fun ⟨d, h0, _⟩ => absurd h0 n) (fun cls fs z => by obtain ⟨_, h1, h2⟩ := z; exact ⟨h1, h2⟩) rfl rfl rfl rfl
def R_weakX (aBadBook aBadPosting aNoOffice : Addr) (ds : List PyData) (c : Value) (f : List (Str × PyData)) : Prop := ∃ (B : Book) (ps : Posting) (ls : List Ltx) (r : Rf), ds = [eBook B, ePost ps, .list (ls.map eLx)] ∧ rfP B ps (offL B ls) r ∧ c = Rf.cls aBadBook aBadPosting aNoOffice r ∧ f = r.fs
theorem ok_weakX (M : Md K mg) (E : Exs K mg aPostError aBadBook aNoOffice aBadPosting aNoPosting aBadText) : FnX P w K mg base "weak" ["book", "posting", "letters"] 7 (spPX K NoR (R_weakX aBadBook aBadPosting aNoOffice)) := by
  have Fl := ok_need_lettersX (P := P) (w := w) (base := base) M E
  refine fn_sdF2 (N := ["book", "posting", "letters", "rows", "found", "bird", "place", "ready", "left", "letter"]) M.d_weak ⟨rfl, rfl, rfl, by decide +kernel, rfl, by decide +kernel, by decide +kernel⟩ (fun ds c f ⟨_, _, _, _, e, _⟩ => by rw [e]; rfl) (by decide) (fun X c _ ds cls fs hR => ?_)
  obtain ⟨B, ps, ls, r, rfl, hr, rfl, rfl⟩ := hR
  show SD X [.dat (eBook B), .dat (ePost ps), .dat (.list (ls.map eLx)), .no, .no, .no, .no, .no, .no, .no] _ _
  refine sd_needP M E c (by decide) rfl (ad_cons (ed_var c 0 rfl (by kspl_open vis) rfl rfl rfl) (ad_cons (ed_var c 1 rfl (by kspl_open vis) rfl rfl rfl) ad_nil rfl) rfl) hr ⟨rfl, rfl⟩ (fun g gp n e => ?_) rfl rfl rfl
  subst e
  refine sd_exprO c (i := (B, ls)) Fl (by decide) rfl (ad_cons (ed_var c 0 rfl (by kspl_open vis) rfl rfl rfl) (ad_cons (ed_var c 2 rfl (by kspl_open vis) rfl rfl rfl) ad_nil rfl) rfl) rfl (fun ⟨d, h0, _⟩ => absurd h0 n) (fun cls fs z => by obtain ⟨_, h1, h2⟩ := z; exact ⟨h1, h2⟩) rfl rfl rfl rfl
def R_wayX (aBadBook aBadPosting aNoOffice : Addr) (ds : List PyData) (c : Value) (f : List (Str × PyData)) : Prop := ∃ (B : Book) (ps : Posting) (bs : List (Int × Int)) (o : Int) (r : Rf), ds = [eBook B, ePost ps, .tuple (bs.map eP2), .int o] ∧ rfP B ps (offS B bs ∧ B.off o) r ∧ c = Rf.cls aBadBook aBadPosting aNoOffice r ∧ f = r.fs
theorem ok_wayX (M : Md K mg) (E : Exs K mg aPostError aBadBook aNoOffice aBadPosting aNoPosting aBadText) : FnX P w K mg base "way" ["book", "posting", "begins", "goal"] 7 (spPX K NoR (R_wayX aBadBook aBadPosting aNoOffice)) := by
  have Fg := ok_need_beginsX (P := P) (w := w) (base := base) M E
  refine fn_sdF2 (N := ["book", "posting", "begins", "goal", "rows"]) M.d_way ⟨rfl, rfl, rfl, by decide +kernel, rfl, by decide +kernel, by decide +kernel⟩ (fun ds c f ⟨_, _, _, _, _, e, _⟩ => by rw [e]; rfl) (by decide) (fun X c _ ds cls fs hR => ?_)
  obtain ⟨B, ps, bs, o, r, rfl, hr, rfl, rfl⟩ := hR
  show SD X [.dat (eBook B), .dat (ePost ps), .dat (.tuple (bs.map eP2)), .dat (.int o), .no] _ _
  refine sd_needP M E c (by decide) rfl (ad_cons (ed_var c 0 rfl (by kspl_open vis) rfl rfl rfl) (ad_cons (ed_var c 1 rfl (by kspl_open vis) rfl rfl rfl) ad_nil rfl) rfl) hr ⟨rfl, rfl⟩ (fun g gp n e => ?_) rfl rfl rfl
  subst e
  refine sd_exprO c (i := (B, bs)) Fg (by decide) rfl (ad_cons (ed_var c 0 rfl (by kspl_open vis) rfl rfl rfl) (ad_cons (ed_var c 2 rfl (by kspl_open vis) rfl rfl rfl) ad_nil rfl) rfl) rfl (fun ⟨d, h0, _⟩ => ?_) (fun cls fs z => by obtain ⟨_, h1, h2⟩ := z; exact ⟨h1, h2⟩) rfl rfl rfl rfl
  refine sd_needO M E c (by decide) rfl (ad_cons (ed_var c 0 rfl (by kspl_open vis) rfl rfl rfl) (ad_cons (ed_var c 3 rfl (by kspl_open vis) rfl rfl rfl) ad_nil rfl) rfl) (fun h1 => absurd ⟨h0, h1⟩ n) (fun _ => ⟨rfl, rfl⟩) rfl rfl rfl
def R_latestX (aBadBook aBadPosting aNoOffice : Addr) (ds : List PyData) (c : Value) (f : List (Str × PyData)) : Prop := ∃ (B : Book) (ps : Posting) (o1 o2 : Int) (due : PyData) (r : Rf), ds = [eBook B, ePost ps, .int o1, .int o2, due] ∧ rfP B ps (B.off o1 ∧ B.off o2) r ∧ c = Rf.cls aBadBook aBadPosting aNoOffice r ∧ f = r.fs
theorem ok_latestX (M : Md K mg) (E : Exs K mg aPostError aBadBook aNoOffice aBadPosting aNoPosting aBadText) : FnX P w K mg base "latest" ["book", "posting", "office", "goal", "due"] 7 (spPX K NoR (R_latestX aBadBook aBadPosting aNoOffice)) := by
  refine fn_sdF2 (N := ["book", "posting", "office", "goal", "due", "rows", "low", "high", "middle"]) M.d_latest ⟨rfl, rfl, rfl, by decide +kernel, rfl, by decide +kernel, by decide +kernel⟩ (fun ds c f ⟨_, _, _, _, _, _, e, _⟩ => by rw [e]; rfl) (by decide) (fun X c _ ds cls fs hR => ?_)
  obtain ⟨B, ps, o1, o2, due, r, rfl, hr, rfl, rfl⟩ := hR
  show SD X [.dat (eBook B), .dat (ePost ps), .dat (.int o1), .dat (.int o2), .dat (due), .no, .no, .no, .no] _ _
  refine sd_needP M E c (by decide) rfl (ad_cons (ed_var c 0 rfl (by kspl_open vis) rfl rfl rfl) (ad_cons (ed_var c 1 rfl (by kspl_open vis) rfl rfl rfl) ad_nil rfl) rfl) hr ⟨rfl, rfl⟩ (fun g gp n e => ?_) rfl rfl rfl
  subst e
  refine sd_needO M E c (by decide) rfl (ad_cons (ed_var c 0 rfl (by kspl_open vis) rfl rfl rfl) (ad_cons (ed_var c 2 rfl (by kspl_open vis) rfl rfl rfl) ad_nil rfl) rfl) (fun h0 => ?_) (fun _ => ⟨rfl, rfl⟩) rfl rfl rfl
  refine sd_needO M E c (by decide) rfl (ad_cons (ed_var c 0 rfl (by kspl_open vis) rfl rfl rfl) (ad_cons (ed_var c 3 rfl (by kspl_open vis) rfl rfl rfl) ad_nil rfl) rfl) (fun h1 => absurd ⟨h0, h1⟩ n) (fun _ => ⟨rfl, rfl⟩) rfl rfl rfl
def R_mendedX (aBadBook aBadPosting aNoOffice : Addr) (ds : List PyData) (c : Value) (f : List (Str × PyData)) : Prop := ∃ (B : Book) (ps : Posting) (bs : List (Int × Int)) (lost now : PyData) (r : Rf), ds = [eBook B, ePost ps, .tuple (bs.map eP2), lost, now] ∧ rfP B ps (offS B bs) r ∧ c = Rf.cls aBadBook aBadPosting aNoOffice r ∧ f = r.fs
theorem ok_mendedX (M : Md K mg) (E : Exs K mg aPostError aBadBook aNoOffice aBadPosting aNoPosting aBadText) : FnX P w K mg base "mended" ["book", "posting", "begins", "lost", "now"] 7 (spPX K NoR (R_mendedX aBadBook aBadPosting aNoOffice)) := by
  have Fg := ok_need_beginsX (P := P) (w := w) (base := base) M E
  refine fn_sdF2 (N := ["book", "posting", "begins", "lost", "now", "rows", "away", "gone", "start", "row", "flight", "bird", "place"]) M.d_mended ⟨rfl, rfl, rfl, by decide +kernel, rfl, by decide +kernel, by decide +kernel⟩ (fun ds c f ⟨_, _, _, _, _, _, e, _⟩ => by rw [e]; rfl) (by decide) (fun X c _ ds cls fs hR => ?_)
  obtain ⟨B, ps, bs, lost, now, r, rfl, hr, rfl, rfl⟩ := hR
  show SD X [.dat (eBook B), .dat (ePost ps), .dat (.tuple (bs.map eP2)), .dat (lost), .dat (now), .no, .no, .no, .no, .no, .no, .no, .no] _ _
  refine sd_needP M E c (by decide) rfl (ad_cons (ed_var c 0 rfl (by kspl_open vis) rfl rfl rfl) (ad_cons (ed_var c 1 rfl (by kspl_open vis) rfl rfl rfl) ad_nil rfl) rfl) hr ⟨rfl, rfl⟩ (fun g gp n e => ?_) rfl rfl rfl
  subst e
  refine sd_exprO c (i := (B, bs)) Fg (by decide) rfl (ad_cons (ed_var c 0 rfl (by kspl_open vis) rfl rfl rfl) (ad_cons (ed_var c 2 rfl (by kspl_open vis) rfl rfl rfl) ad_nil rfl) rfl) rfl (fun ⟨d, h0, _⟩ => absurd h0 n) (fun cls fs z => by obtain ⟨_, h1, h2⟩ := z; exact ⟨h1, h2⟩) rfl rfl rfl rfl
def R_home_byX (aBadBook aBadPosting aNoOffice : Addr) (ds : List PyData) (c : Value) (f : List (Str × PyData)) : Prop := ∃ (B : Book) (o1 o2 : Int) (hour : PyData) (r : Rf), ds = [eBook B, .int o1, .int o2, hour] ∧ rfG B (B.off o1 ∧ B.off o2) r ∧ c = Rf.cls aBadBook aBadPosting aNoOffice r ∧ f = r.fs
theorem ok_home_byX (M : Md K mg) (E : Exs K mg aPostError aBadBook aNoOffice aBadPosting aNoPosting aBadText) : FnX P w K mg base "home_by" ["book", "office", "home", "hour"] 7 (spPX K NoR (R_home_byX aBadBook aBadPosting aNoOffice)) := by
  refine fn_sdF2 (N := ["book", "office", "home", "hour"]) M.d_home_by ⟨rfl, rfl, rfl, by decide +kernel, rfl, by decide +kernel, by decide +kernel⟩ (fun ds c f ⟨_, _, _, _, _, e, _⟩ => by rw [e]; rfl) (by decide) (fun X c _ ds cls fs hR => ?_)
  obtain ⟨B, o1, o2, hour, r, rfl, hr, rfl, rfl⟩ := hR
  show SD X [.dat (eBook B), .dat (.int o1), .dat (.int o2), .dat (hour)] _ _
  refine sd_needB M E c (by decide) rfl (ad_cons (ed_var c 0 rfl (by kspl_open vis) rfl rfl rfl) ad_nil rfl) hr ⟨rfl, rfl⟩ (fun g n e => ?_) rfl rfl rfl
  subst e
  refine sd_needO M E c (by decide) rfl (ad_cons (ed_var c 0 rfl (by kspl_open vis) rfl rfl rfl) (ad_cons (ed_var c 1 rfl (by kspl_open vis) rfl rfl rfl) ad_nil rfl) rfl) (fun h0 => ?_) (fun _ => ⟨rfl, rfl⟩) rfl rfl rfl
  refine sd_needO M E c (by decide) rfl (ad_cons (ed_var c 0 rfl (by kspl_open vis) rfl rfl rfl) (ad_cons (ed_var c 2 rfl (by kspl_open vis) rfl rfl rfl) ad_nil rfl) rfl) (fun h1 => absurd ⟨h0, h1⟩ n) (fun _ => ⟨rfl, rfl⟩) rfl rfl rfl
def R_carriedX (aBadBook aBadPosting aNoOffice : Addr) (ds : List PyData) (c : Value) (f : List (Str × PyData)) : Prop := ∃ (B : Book) (o : Int) (now : PyData) (r : Rf), ds = [eBook B, .int o, now] ∧ rfG B (B.off o) r ∧ c = Rf.cls aBadBook aBadPosting aNoOffice r ∧ f = r.fs
theorem ok_carriedX (M : Md K mg) (E : Exs K mg aPostError aBadBook aNoOffice aBadPosting aNoPosting aBadText) : FnX P w K mg base "carried" ["book", "office", "now"] 7 (spPX K NoR (R_carriedX aBadBook aBadPosting aNoOffice)) := by
  refine fn_sdF2 (N := ["book", "office", "now"]) M.d_carried ⟨rfl, rfl, rfl, by decide +kernel, rfl, by decide +kernel, by decide +kernel⟩ (fun ds c f ⟨_, _, _, _, e, _⟩ => by rw [e]; rfl) (by decide) (fun X c _ ds cls fs hR => ?_)
  obtain ⟨B, o, now, r, rfl, hr, rfl, rfl⟩ := hR
  show SD X [.dat (eBook B), .dat (.int o), .dat (now)] _ _
  refine sd_needB M E c (by decide) rfl (ad_cons (ed_var c 0 rfl (by kspl_open vis) rfl rfl rfl) ad_nil rfl) hr ⟨rfl, rfl⟩ (fun g n e => ?_) rfl rfl rfl
  subst e
  refine sd_needO M E c (by decide) rfl (ad_cons (ed_var c 0 rfl (by kspl_open vis) rfl rfl rfl) (ad_cons (ed_var c 1 rfl (by kspl_open vis) rfl rfl rfl) ad_nil rfl) rfl) (fun h0 => absurd h0 n) (fun _ => ⟨rfl, rfl⟩) rfl rfl rfl
def R_by_cartsX (aBadBook aBadPosting aNoOffice : Addr) (ds : List PyData) (c : Value) (f : List (Str × PyData)) : Prop := ∃ (B : Book) (o1 o2 : Int) (now : PyData) (r : Rf), ds = [eBook B, .int o1, .int o2, now] ∧ rfG B (B.off o1 ∧ B.off o2) r ∧ c = Rf.cls aBadBook aBadPosting aNoOffice r ∧ f = r.fs
theorem ok_by_cartsX (M : Md K mg) (E : Exs K mg aPostError aBadBook aNoOffice aBadPosting aNoPosting aBadText) : FnX P w K mg base "by_carts" ["book", "office", "other", "now"] 7 (spPX K NoR (R_by_cartsX aBadBook aBadPosting aNoOffice)) := by
  refine fn_sdF2 (N := ["book", "office", "other", "now", "hours", "last", "found"]) M.d_by_carts ⟨rfl, rfl, rfl, by decide +kernel, rfl, by decide +kernel, by decide +kernel⟩ (fun ds c f ⟨_, _, _, _, _, e, _⟩ => by rw [e]; rfl) (by decide) (fun X c _ ds cls fs hR => ?_)
  obtain ⟨B, o1, o2, now, r, rfl, hr, rfl, rfl⟩ := hR
  show SD X [.dat (eBook B), .dat (.int o1), .dat (.int o2), .dat (now), .no, .no, .no] _ _
  refine sd_needB M E c (by decide) rfl (ad_cons (ed_var c 0 rfl (by kspl_open vis) rfl rfl rfl) ad_nil rfl) hr ⟨rfl, rfl⟩ (fun g n e => ?_) rfl rfl rfl
  subst e
  refine sd_needO M E c (by decide) rfl (ad_cons (ed_var c 0 rfl (by kspl_open vis) rfl rfl rfl) (ad_cons (ed_var c 1 rfl (by kspl_open vis) rfl rfl rfl) ad_nil rfl) rfl) (fun h0 => ?_) (fun _ => ⟨rfl, rfl⟩) rfl rfl rfl
  refine sd_needO M E c (by decide) rfl (ad_cons (ed_var c 0 rfl (by kspl_open vis) rfl rfl rfl) (ad_cons (ed_var c 2 rfl (by kspl_open vis) rfl rfl rfl) ad_nil rfl) rfl) (fun h1 => absurd ⟨h0, h1⟩ n) (fun _ => ⟨rfl, rfl⟩) rfl rfl rfl
def R_choicesX (aBadBook aBadPosting aNoOffice : Addr) (ds : List PyData) (c : Value) (f : List (Str × PyData)) : Prop := ∃ (B : Book) (ps : Posting) (gone now : PyData) (r : Rf), ds = [eBook B, ePost ps, gone, now] ∧ rfP B ps (True) r ∧ c = Rf.cls aBadBook aBadPosting aNoOffice r ∧ f = r.fs
theorem ok_choicesX (M : Md K mg) (E : Exs K mg aPostError aBadBook aNoOffice aBadPosting aNoPosting aBadText) : FnX P w K mg base "choices" ["book", "start", "gone", "now"] 7 (spPX K NoR (R_choicesX aBadBook aBadPosting aNoOffice)) := by
  refine fn_sdF2 (N := ["book", "start", "gone", "now"]) M.d_choices ⟨rfl, rfl, rfl, by decide +kernel, rfl, by decide +kernel, by decide +kernel⟩ (fun ds c f ⟨_, _, _, _, _, e, _⟩ => by rw [e]; rfl) (by decide) (fun X c _ ds cls fs hR => ?_)
  obtain ⟨B, ps, gone, now, r, rfl, hr, rfl, rfl⟩ := hR
  show SD X [.dat (eBook B), .dat (ePost ps), .dat (gone), .dat (now)] _ _
  refine sd_needP M E c (by decide) rfl (ad_cons (ed_var c 0 rfl (by kspl_open vis) rfl rfl rfl) (ad_cons (ed_var c 1 rfl (by kspl_open vis) rfl rfl rfl) ad_nil rfl) rfl) hr ⟨rfl, rfl⟩ (fun g gp n e => ?_) rfl rfl rfl
  exact absurd trivial n
def R_writtenX (aBadBook aBadPosting aNoOffice : Addr) (ds : List PyData) (c : Value) (f : List (Str × PyData)) : Prop := ∃ (B : Book)  (r : Rf), ds = [eBook B] ∧ rfG B (True) r ∧ c = Rf.cls aBadBook aBadPosting aNoOffice r ∧ f = r.fs
theorem ok_writtenX (M : Md K mg) (E : Exs K mg aPostError aBadBook aNoOffice aBadPosting aNoPosting aBadText) : FnX P w K mg base "written" ["book"] 7 (spPX K NoR (R_writtenX aBadBook aBadPosting aNoOffice)) := by
  refine fn_sdF2 (N := ["book", "rows", "sort", "told", "one"]) M.d_written ⟨rfl, rfl, rfl, by decide +kernel, rfl, by decide +kernel, by decide +kernel⟩ (fun ds c f ⟨_, _, e, _⟩ => by rw [e]; rfl) (by decide) (fun X c _ ds cls fs hR => ?_)
  obtain ⟨B, r, rfl, hr, rfl, rfl⟩ := hR
  show SD X [.dat (eBook B), .no, .no, .no, .no] _ _
  refine sd_needB M E c (by decide) rfl (ad_cons (ed_var c 0 rfl (by kspl_open vis) rfl rfl rfl) ad_nil rfl) hr ⟨rfl, rfl⟩ (fun g n e => ?_) rfl rfl rfl
  exact absurd trivial n
def R_need_bookX (aBadBook aBadPosting aNoOffice : Addr) (ds : List PyData) (c : Value) (f : List (Str × PyData)) : Prop := ∃ (B : Book) (r : Rf), ds = [eBook B] ∧ rfG B True r ∧ c = Rf.cls aBadBook aBadPosting aNoOffice r ∧ f = r.fs
theorem ok_need_bookXX (M : Md K mg) (E : Exs K mg aPostError aBadBook aNoOffice aBadPosting aNoPosting aBadText) : FnX P w K mg base "need_book" ["book"] 5 (spPX K NoR (R_need_bookX aBadBook aBadPosting aNoOffice)) := by
  refine (ok_need_bookX (P := P) (w := w) (base := base) M E).no (fun ds c f ⟨B, r, e, h, h1, h2⟩ => ⟨B, e, fun d ⟨g, _⟩ => ?_, fun c' f' ⟨wy, a, e1, e2⟩ => ?_⟩)
  · rcases h with ⟨w, a, _⟩ | ⟨_, n, _⟩
    · exact whyB_no a g
    · exact n trivial
  · rcases h with ⟨w, b, rfl⟩ | ⟨_, n, _⟩
    · rw [e1, e2, h1, h2, whyB_one a b]
      exact ⟨rfl, rfl⟩
    · exact absurd trivial n
def R_need_postingX (aBadBook aBadPosting aNoOffice : Addr) (ds : List PyData) (c : Value) (f : List (Str × PyData)) : Prop := ∃ (B : Book) (ps : Posting) (r : Rf), ds = [eBook B, ePost ps] ∧ rfP B ps True r ∧ c = Rf.cls aBadBook aBadPosting aNoOffice r ∧ f = r.fs
theorem ok_need_postingXX (M : Md K mg) (E : Exs K mg aPostError aBadBook aNoOffice aBadPosting aNoPosting aBadText) : FnX P w K mg base "need_posting" ["book", "posting"] 6 (spPX K NoR (R_need_postingX aBadBook aBadPosting aNoOffice)) := by
  refine (ok_need_postingX (P := P) (w := w) (base := base) M E).no (fun ds c f ⟨B, ps, r, e, h, h1, h2⟩ => ⟨(B, ps), e, fun d ⟨g, gp, _⟩ => ?_, fun c' f' ⟨r', a, e1, e2⟩ => ?_⟩)
  · rcases h with ⟨w, a, _⟩ | ⟨_, n, _⟩ | ⟨_, _, n, _⟩
    · exact whyB_no a g
    · exact n gp
    · exact n trivial
  · rw [e1, e2, h1, h2, rfP_one a h]
    exact ⟨rfl, rfl⟩
/-! ### Ground -/
def R_mk_groundX (aBadBook aBadPosting aNoOffice : Addr) (ds : List PyData) (c : Value) (f : List (Str × PyData)) : Prop := ∃ (B : Book) (ls : List Ltx) (ps : Posting) (gone now : PyData) (r : Rf), ds = [eBook B, .list (ls.map eLx), ePost ps, gone, now] ∧ rfP B ps (offL B ls) r ∧ c = Rf.cls aBadBook aBadPosting aNoOffice r ∧ f = r.fs
theorem ok_mk_groundX {C : Addr} (M : Md K mg) (E : Exs K mg aPostError aBadBook aNoOffice aBadPosting aNoPosting aBadText) (g : Ground_at K mg C) : MkX P w K mg base "Ground" C ["self", "book", "letters", "start", "gone", "now"] 7 (spNX K C (R_mk_groundX aBadBook aBadPosting aNoOffice)) := by
  have Fl := ok_need_lettersX (P := P) (w := w) (base := base) M E
  refine fn_sdNX (N := ["self", "book", "letters", "start", "gone", "now"]) g.mkd ⟨rfl, rfl, rfl, by decide +kernel, rfl, by decide +kernel, by decide +kernel⟩ (fun ds c f ⟨_, _, _, _, _, _, e, _⟩ => by rw [e]; rfl) (by decide) (fun X c a dx ds cls fs hR => ?_)
  obtain ⟨B, ls, ps, gone, now, r, rfl, hr, rfl, rfl⟩ := hR
  show SD X [.oin a dx C [], .dat (eBook B), .dat (.list (ls.map eLx)), .dat (ePost ps), .dat gone, .dat now] _ _
  refine sd_needP M E c (by decide) rfl (ad_cons (ed_var c 1 rfl (by kspl_open vis) rfl rfl rfl) (ad_cons (ed_var c 3 rfl (by kspl_open vis) rfl rfl rfl) ad_nil rfl) rfl) hr ⟨rfl, rfl⟩ (fun g gp n e => ?_) rfl rfl rfl
  subst e
  exact sd_exprO c (i := (B, ls)) Fl (by decide) rfl (ad_cons (ed_var c 1 rfl (by kspl_open vis) rfl rfl rfl) (ad_cons (ed_var c 2 rfl (by kspl_open vis) rfl rfl rfl) ad_nil rfl) rfl) rfl (fun ⟨d, h0, _⟩ => absurd h0 n) (fun cls fs z => by obtain ⟨_, h1, h2⟩ := z; exact ⟨h1, h2⟩) rfl rfl rfl rfl
def R_is_cutX (aBadBook aBadPosting aNoOffice : Addr) (ds : List PyData) (c : Value) (f : List (Str × PyData)) : Prop := ∃ (B : Book) (ls : List Ltx) (ps : Posting) (gone now cut : PyData) (r : Rf), ds = [eBook B, .list (ls.map eLx), ePost ps, gone, now, cut] ∧ rfP B ps (offL B ls) r ∧ c = Rf.cls aBadBook aBadPosting aNoOffice r ∧ f = r.fs
theorem ok_is_cutX {C : Addr} (M : Md K mg) (E : Exs K mg aPostError aBadBook aNoOffice aBadPosting aNoPosting aBadText) (g : Ground_at K mg C) : FnX P w K mg base "is_cut" ["book", "letters", "start", "gone", "now", "cut"] 9 (spPX K NoR (R_is_cutX aBadBook aBadPosting aNoOffice)) := by
  have Fm := ok_mk_groundX (P := P) (w := w) (base := base) M E g
  refine fn_sdF2 (N := ["book", "letters", "start", "gone", "now", "cut"]) M.d_is_cut ⟨rfl, rfl, rfl, by decide +kernel, rfl, by decide +kernel, by decide +kernel⟩ (fun ds c f ⟨_, _, _, _, _, _, _, e, _⟩ => by rw [e]; rfl) (by decide) (fun X c _ ds cls fs hR => ?_)
  obtain ⟨B, ls, ps, gone, now, cut, r, rfl, hr, rfl, rfl⟩ := hR
  show SD X [.dat (eBook B), .dat (.list (ls.map eLx)), .dat (ePost ps), .dat (gone), .dat (now), .dat (cut)] _ _
  exact sd_retX (ex_methO (ex_make c Fm (by decide) rfl (ad_cons (ed_var c 0 rfl (by kspl_open vis) rfl rfl rfl) (ad_cons (ed_var c 1 rfl (by kspl_open vis) rfl rfl rfl) (ad_cons (ed_var c 2 rfl (by kspl_open vis) rfl rfl rfl) (ad_cons (ed_var c 3 rfl (by kspl_open vis) rfl rfl rfl) (ad_cons (ed_var c 4 rfl (by kspl_open vis) rfl rfl rfl) ad_nil rfl) rfl) rfl) rfl) rfl) ⟨B, ls, ps, gone, now, r, rfl, hr, rfl, rfl⟩ rfl rfl rfl) rfl) ⟨rfl, rfl⟩
def R_showsX (aBadBook aBadPosting aNoOffice : Addr) (ds : List PyData) (c : Value) (f : List (Str × PyData)) : Prop := ∃ (B : Book) (ls : List Ltx) (ps : Posting) (gone now many cuts : PyData) (r : Rf), ds = [eBook B, .list (ls.map eLx), ePost ps, gone, now, many, cuts] ∧ rfP B ps (offL B ls) r ∧ c = Rf.cls aBadBook aBadPosting aNoOffice r ∧ f = r.fs
theorem ok_showsX {C : Addr} (M : Md K mg) (E : Exs K mg aPostError aBadBook aNoOffice aBadPosting aNoPosting aBadText) (g : Ground_at K mg C) : FnX P w K mg base "shows" ["book", "letters", "start", "gone", "now", "many", "cuts"] 9 (spPX K NoR (R_showsX aBadBook aBadPosting aNoOffice)) := by
  have Fm := ok_mk_groundX (P := P) (w := w) (base := base) M E g
  refine fn_sdF2 (N := ["book", "letters", "start", "gone", "now", "many", "cuts", "ground", "cut"]) M.d_shows ⟨rfl, rfl, rfl, by decide +kernel, rfl, by decide +kernel, by decide +kernel⟩ (fun ds c f ⟨_, _, _, _, _, _, _, _, e, _⟩ => by rw [e]; rfl) (by decide) (fun X c _ ds cls fs hR => ?_)
  obtain ⟨B, ls, ps, gone, now, many, cuts, r, rfl, hr, rfl, rfl⟩ := hR
  show SD X [.dat (eBook B), .dat (.list (ls.map eLx)), .dat (ePost ps), .dat (gone), .dat (now), .dat (many), .dat (cuts), .no, .no] _ _
  exact sd_asgX c 7 rfl (by kspl_open loc) (.inl rfl) (ex_make c Fm (by decide) rfl (ad_cons (ed_var c 0 rfl (by kspl_open vis) rfl rfl rfl) (ad_cons (ed_var c 1 rfl (by kspl_open vis) rfl rfl rfl) (ad_cons (ed_var c 2 rfl (by kspl_open vis) rfl rfl rfl) (ad_cons (ed_var c 3 rfl (by kspl_open vis) rfl rfl rfl) (ad_cons (ed_var c 4 rfl (by kspl_open vis) rfl rfl rfl) ad_nil rfl) rfl) rfl) rfl) rfl) ⟨B, ls, ps, gone, now, r, rfl, hr, rfl, rfl⟩ rfl rfl rfl) rfl ⟨rfl, rfl⟩
def R_fewestX (aBadBook aBadPosting aNoOffice : Addr) (ds : List PyData) (c : Value) (f : List (Str × PyData)) : Prop := ∃ (B : Book) (ls : List Ltx) (ps : Posting) (gone now : PyData) (r : Rf), ds = [eBook B, .list (ls.map eLx), ePost ps, gone, now] ∧ rfP B ps (offL B ls) r ∧ c = Rf.cls aBadBook aBadPosting aNoOffice r ∧ f = r.fs
theorem ok_fewestX {C : Addr} (M : Md K mg) (E : Exs K mg aPostError aBadBook aNoOffice aBadPosting aNoPosting aBadText) (g : Ground_at K mg C) : FnX P w K mg base "fewest" ["book", "letters", "start", "gone", "now"] 9 (spPX K NoR (R_fewestX aBadBook aBadPosting aNoOffice)) := by
  have Fm := ok_mk_groundX (P := P) (w := w) (base := base) M E g
  refine fn_sdF2 (N := ["book", "letters", "start", "gone", "now", "ground", "cuts", "many", "rows", "failing"]) M.d_fewest ⟨rfl, rfl, rfl, by decide +kernel, rfl, by decide +kernel, by decide +kernel⟩ (fun ds c f ⟨_, _, _, _, _, _, e, _⟩ => by rw [e]; rfl) (by decide) (fun X c _ ds cls fs hR => ?_)
  obtain ⟨B, ls, ps, gone, now, r, rfl, hr, rfl, rfl⟩ := hR
  show SD X [.dat (eBook B), .dat (.list (ls.map eLx)), .dat (ePost ps), .dat (gone), .dat (now), .no, .no, .no, .no, .no] _ _
  exact sd_asgX c 5 rfl (by kspl_open loc) (.inl rfl) (ex_make c Fm (by decide) rfl (ad_cons (ed_var c 0 rfl (by kspl_open vis) rfl rfl rfl) (ad_cons (ed_var c 1 rfl (by kspl_open vis) rfl rfl rfl) (ad_cons (ed_var c 2 rfl (by kspl_open vis) rfl rfl rfl) (ad_cons (ed_var c 3 rfl (by kspl_open vis) rfl rfl rfl) (ad_cons (ed_var c 4 rfl (by kspl_open vis) rfl rfl rfl) ad_nil rfl) rfl) rfl) rfl) rfl) ⟨B, ls, ps, gone, now, r, rfl, hr, rfl, rfl⟩ rfl rfl rfl) rfl ⟨rfl, rfl⟩
end
end
end K
namespace K
open PySem L2 Z
section
variable {P : Program} {w : World} {K : PySem.W.Frag} {mg : Str → Option Value} {base : Heap} [LamC]
-- use Ta Tb Tc Td Te Tf Tg Th
/-! ### what the law asks -/
theorem rfP_to {B : Book} {ps : Posting} {G : Prop} {r : Rf} (h : rfP B ps False r) (q : r = .off → ¬ G) : rfP B ps G r := by
  rcases h with h | h | ⟨a, b, _, e⟩
  · exact .inl h
  · exact .inr (.inl h)
  · exact .inr (.inr ⟨a, b, q e, e⟩)
theorem rfG_to {B : Book} {G : Prop} {r : Rf} (h : rfG B False r) (q : r = .off → ¬ G) : rfG B G r := by
  rcases h with h | ⟨a, _, e⟩
  · exact .inl h
  · exact .inr ⟨a, q e, e⟩
def askB (n : Nat) (o : Int) : List (Int × Int) := List.replicate (n % 4) (0, 0) ++ [(o, 0)]
def askL (n : Nat) (o : Int) : Ltx := if n % 2 = 0 then (askB n o, 0, 5) else ([(0, 0)], o, 5)
theorem askB_no {B : Book} {n : Nat} {o : Int} (h : ¬ B.off o) : ¬ offS B (askB n o) := fun z => h (z (o, 0) (by unfold askB; simp))
theorem askL_no {B : Book} {n : Nat} {o : Int} (h : ¬ B.off o) : ¬ offL B [askL n o] := fun z => by
  have := z _ (List.mem_singleton.mpr rfl)
  unfold askL at this
  by_cases q : n % 2 = 0
  · rw [if_pos q] at this
    exact askB_no h this.1
  · rw [if_neg q] at this
    exact h this.2
section
variable {aPostError aBadBook aNoOffice aBadPosting aNoPosting aBadText : Addr}
def R_law_askX (aBadBook aBadPosting aNoOffice : Addr) (ds : List PyData) (c : Value) (f : List (Str × PyData)) : Prop := ∃ (n : Nat) (B : Book) (ps : Posting) (o : Int) (r : Rf), ds = [.int (n : Int), eBook B, ePost ps, .int o] ∧ n < 13 ∧ rfP B ps False r ∧ (r = .off → ¬ B.off o) ∧ c = Rf.cls aBadBook aBadPosting aNoOffice r ∧ f = r.fs
theorem ok_law_askX {C : Addr} (M : Md K mg) (E : Exs K mg aPostError aBadBook aNoOffice aBadPosting aNoPosting aBadText) (g : Ground_at K mg C) : FnX P w K mg base "_law_ask" ["_law_way_of", "_law_book_here", "_law_posting_here", "_law_office"] 10 (spPX K NoR (R_law_askX aBadBook aBadPosting aNoOffice)) := by
  have Freach := ok_reachX (P := P) (w := w) (base := base) M E
  have Fflown := ok_flownX (P := P) (w := w) (base := base) M E
  have Fsure := ok_sureX (P := P) (w := w) (base := base) M E
  have Fkept := ok_keptX (P := P) (w := w) (base := base) M E
  have Fweak := ok_weakX (P := P) (w := w) (base := base) M E
  have Fway := ok_wayX (P := P) (w := w) (base := base) M E
  have Flatest := ok_latestX (P := P) (w := w) (base := base) M E
  have Fmended := ok_mendedX (P := P) (w := w) (base := base) M E
  have Fcut := ok_is_cutX (P := P) (w := w) (base := base) M E g
  have Fshows := ok_showsX (P := P) (w := w) (base := base) M E g
  have Ffewest := ok_fewestX (P := P) (w := w) (base := base) M E g
  refine fn_sdF2 (N := ["_law_way_of", "_law_book_here", "_law_posting_here", "_law_office", "_law_begins_here", "_law_letters"]) M.d__law_ask ⟨rfl, rfl, rfl, by decide +kernel, rfl, by decide +kernel, by decide +kernel⟩ (fun ds c f ⟨_, _, _, _, _, e, _⟩ => by rw [e]; rfl) (by decide) (fun X c _ ds cls fs hR => ?_)
  obtain ⟨n, B, ps, o, r, rfl, hn, hr, ho, rfl, rfl⟩ := hR
  show SD X [.dat (.int (n : Int)), .dat (eBook B), .dat (ePost ps), .dat (.int o), .no, .no] _ _
  refine sd_asg c 4 rfl (by kspl_open loc) (.inl rfl) (Nat.le_of_ble_eq_true rfl) (ed_to (ed_bin (ed_bin (ed_tup (ad_cons (ed_tup (ad_cons ed_int (ad_cons ed_int ad_nil rfl) rfl) (Nat.le_of_ble_eq_true rfl)) ad_nil rfl) (Nat.le_of_ble_eq_true rfl)) (ed_to (ed_bin (ed_var c 0 rfl (by kspl_open vis) rfl rfl rfl) ed_int (bd_mod (by decide))) (show PyData.int ((n : Int) % 4) = .int ((n % 4 : Nat) : Int) by rw [Int.natCast_emod]; rfl)) (bd_repT (by omega))) (ed_tup (ad_cons (ed_tup (ad_cons (ed_var c 3 rfl (by kspl_open vis) rfl rfl rfl) (ad_cons ed_int ad_nil rfl) rfl) (Nat.le_of_ble_eq_true rfl)) ad_nil rfl) (Nat.le_of_ble_eq_true rfl)) (bd_catT (by rw [List.length_replicate]; exact Nat.le_trans (show _ ≤ 1000 by simp; omega) (Nat.le_of_ble_eq_true rfl)))) (show _ = PyData.tuple ((askB n o).map eP2) by unfold askB; rw [List.map_append, List.map_replicate]; rfl)) rfl ?_
  show SD X [.dat (.int (n : Int)), .dat (eBook B), .dat (ePost ps), .dat (.int o), .dat (.tuple ((askB n o).map eP2)), .no] _ _
  refine sd_asg c 5 rfl (by kspl_open loc) (.inl rfl) (Nat.le_of_ble_eq_true rfl) (ed_if (d := .list ([askL n o].map eLx)) (td_cmp (ed_bin (ed_var c 0 rfl (by kspl_open vis) rfl rfl rfl) ed_int (bd_mod (by decide))) ed_int cd_eqI (nomark _)) (fun hb => ed_to (ed_el (el_lst (ad_cons (ed_tup (ad_cons (ed_var c 4 rfl (by kspl_open vis) rfl rfl rfl) (ad_cons ed_int (ad_cons ed_int ad_nil rfl) rfl) rfl) (Nat.le_of_ble_eq_true rfl)) ad_nil rfl) (Nat.le_of_ble_eq_true rfl))) ?_) (fun hb => ed_to (ed_el (el_lst (ad_cons (ed_tup (ad_cons (ed_tup (ad_cons (ed_tup (ad_cons ed_int (ad_cons ed_int ad_nil rfl) rfl) (Nat.le_of_ble_eq_true rfl)) ad_nil rfl) (Nat.le_of_ble_eq_true rfl)) (ad_cons (ed_var c 3 rfl (by kspl_open vis) rfl rfl rfl) (ad_cons ed_int ad_nil rfl) rfl) rfl) (Nat.le_of_ble_eq_true rfl)) ad_nil rfl) (Nat.le_of_ble_eq_true rfl))) ?_)) rfl ?_
  · have hb := of_decide_eq_true hb
    unfold askL
    rw [if_pos (by omega)]
    rfl
  · have hb := of_decide_eq_false hb
    unfold askL
    rw [if_neg (by omega)]
    rfl
  show SD X [.dat (.int (n : Int)), .dat (eBook B), .dat (ePost ps), .dat (.int o), .dat (.tuple ((askB n o).map eP2)), .dat (.list ([askL n o].map eLx))] _ _
  have hB := rfP_to (G := offS B (askB n o)) hr (fun e => askB_no (ho e))
  have hL := rfP_to (G := offL B [askL n o]) hr (fun e => askL_no (ho e))
  refine sd_if (td_cmp (ed_var c 0 rfl (by kspl_open vis) rfl rfl rfl) ed_int (by kspl_open cd) (nomark _)) (fun hb => ?_) (fun hb => sd_nil ?_)
  · have hb := of_decide_eq_true hb
    have fv : ∀ q1 q2 q3 : Pos, FsV X mg [.Name "reach" q1, .Name "flown" q2, .Name "sure" q3] ["reach", "flown", "sure"] := fun _ _ _ => fs_cons c Freach rfl rfl (fs_cons c Fflown rfl rfl (fs_cons c Fsure rfl rfl fs_nil rfl) rfl) rfl
    obtain rfl | rfl | rfl : n = 0 ∨ n = 1 ∨ n = 2 := by omega
    · exact sd_retX (ex_pick c (fv _ _ _) rfl Freach (by decide) (ed_var c 0 rfl (by kspl_open vis) rfl rfl rfl) (ad_cons (ed_var c 1 rfl (by kspl_open vis) rfl rfl rfl) (ad_cons (ed_var c 2 rfl (by kspl_open vis) rfl rfl rfl) (ad_cons (ed_var c 4 rfl (by kspl_open vis) rfl rfl rfl) ad_nil rfl) rfl) rfl) ⟨B, ps, _, r, rfl, hB, rfl, rfl⟩ (by decide) (fun _ _ => rfl) rfl rfl rfl) ⟨rfl, rfl⟩
    · exact sd_retX (ex_pick c (fv _ _ _) rfl Fflown (by decide) (ed_var c 0 rfl (by kspl_open vis) rfl rfl rfl) (ad_cons (ed_var c 1 rfl (by kspl_open vis) rfl rfl rfl) (ad_cons (ed_var c 2 rfl (by kspl_open vis) rfl rfl rfl) (ad_cons (ed_var c 4 rfl (by kspl_open vis) rfl rfl rfl) ad_nil rfl) rfl) rfl) ⟨B, ps, _, r, rfl, hB, rfl, rfl⟩ (by decide) (fun _ _ => rfl) rfl rfl rfl) ⟨rfl, rfl⟩
    · exact sd_retX (ex_pick c (fv _ _ _) rfl Fsure (by decide) (ed_var c 0 rfl (by kspl_open vis) rfl rfl rfl) (ad_cons (ed_var c 1 rfl (by kspl_open vis) rfl rfl rfl) (ad_cons (ed_var c 2 rfl (by kspl_open vis) rfl rfl rfl) (ad_cons (ed_var c 4 rfl (by kspl_open vis) rfl rfl rfl) ad_nil rfl) rfl) rfl) ⟨B, ps, _, r, rfl, hB, rfl, rfl⟩ (by decide) (fun _ _ => rfl) rfl rfl rfl) ⟨rfl, rfl⟩
  have n1 := of_decide_eq_false hb
  refine sd_if (td_cmp (ed_var c 0 rfl (by kspl_open vis) rfl rfl rfl) ed_int (by kspl_open cd) (nomark _)) (fun hb => ?_) (fun hb => sd_nil ?_)
  · have hb := of_decide_eq_true hb
    have fv : ∀ q1 q2 : Pos, FsV X mg [.Name "kept" q1, .Name "weak" q2] ["kept", "weak"] := fun _ _ => fs_cons c Fkept rfl rfl (fs_cons c Fweak rfl rfl fs_nil rfl) rfl
    obtain rfl | rfl : n = 3 ∨ n = 4 := by omega
    · exact sd_retX (ex_pick (n := 0) c (fv _ _) rfl Fkept (by decide) (ed_to (ed_bin (ed_var c 0 rfl (by kspl_open vis) rfl rfl rfl) ed_int bd_sub) rfl) (ad_cons (ed_var c 1 rfl (by kspl_open vis) rfl rfl rfl) (ad_cons (ed_var c 2 rfl (by kspl_open vis) rfl rfl rfl) (ad_cons (ed_var c 5 rfl (by kspl_open vis) rfl rfl rfl) ad_nil rfl) rfl) rfl) ⟨B, ps, _, r, rfl, hL, rfl, rfl⟩ (by decide) (fun _ _ => rfl) rfl rfl rfl) ⟨rfl, rfl⟩
    · exact sd_retX (ex_pick (n := 1) c (fv _ _) rfl Fweak (by decide) (ed_to (ed_bin (ed_var c 0 rfl (by kspl_open vis) rfl rfl rfl) ed_int bd_sub) rfl) (ad_cons (ed_var c 1 rfl (by kspl_open vis) rfl rfl rfl) (ad_cons (ed_var c 2 rfl (by kspl_open vis) rfl rfl rfl) (ad_cons (ed_var c 5 rfl (by kspl_open vis) rfl rfl rfl) ad_nil rfl) rfl) rfl) ⟨B, ps, _, r, rfl, hL, rfl, rfl⟩ (by decide) (fun _ _ => rfl) rfl rfl rfl) ⟨rfl, rfl⟩
  have n2 := of_decide_eq_false hb
  refine sd_if (td_cmp (ed_var c 0 rfl (by kspl_open vis) rfl rfl rfl) ed_int (by kspl_open cd) (nomark _)) (fun hb => ?_) (fun hb => sd_nil ?_)
  · exact sd_retX (ex_call c Fway (by decide) rfl (ad_cons (ed_var c 1 rfl (by kspl_open vis) rfl rfl rfl) (ad_cons (ed_var c 2 rfl (by kspl_open vis) rfl rfl rfl) (ad_cons (ed_var c 4 rfl (by kspl_open vis) rfl rfl rfl) (ad_cons ed_int ad_nil rfl) rfl) rfl) rfl) ⟨B, ps, _, 0, r, rfl, rfP_to hr (fun e z => askB_no (ho e) z.1), rfl, rfl⟩ rfl rfl rfl) ⟨rfl, rfl⟩
  have n3 := of_decide_eq_false hb
  refine sd_if (td_cmp (ed_var c 0 rfl (by kspl_open vis) rfl rfl rfl) ed_int (by kspl_open cd) (nomark _)) (fun hb => ?_) (fun hb => sd_nil ?_)
  · exact sd_retX (ex_call c Fway (by decide) rfl (ad_cons (ed_var c 1 rfl (by kspl_open vis) rfl rfl rfl) (ad_cons (ed_var c 2 rfl (by kspl_open vis) rfl rfl rfl) (ad_cons (ed_tup (ad_cons (ed_tup (ad_cons ed_int (ad_cons ed_int ad_nil rfl) rfl) (Nat.le_of_ble_eq_true rfl)) ad_nil rfl) (Nat.le_of_ble_eq_true rfl)) (ad_cons (ed_var c 3 rfl (by kspl_open vis) rfl rfl rfl) ad_nil rfl) rfl) rfl) rfl) ⟨B, ps, [(0, 0)], o, r, rfl, rfP_to hr (fun e z => ho e z.2), rfl, rfl⟩ rfl rfl rfl) ⟨rfl, rfl⟩
  have n4 := of_decide_eq_false hb
  refine sd_if (td_cmp (ed_var c 0 rfl (by kspl_open vis) rfl rfl rfl) ed_int (by kspl_open cd) (nomark _)) (fun hb => ?_) (fun hb => sd_nil ?_)
  · have hb := of_decide_eq_true hb
    obtain rfl | rfl : n = 7 ∨ n = 8 := by omega
    · exact sd_retX (ex_call c Flatest (by decide) rfl (ad_cons (ed_var c 1 rfl (by kspl_open vis) rfl rfl rfl) (ad_cons (ed_var c 2 rfl (by kspl_open vis) rfl rfl rfl) (ad_cons (ed_ix (ed_el (el_lst (ad_cons (ed_var c 3 rfl (by kspl_open vis) rfl rfl rfl) (ad_cons ed_int ad_nil rfl) rfl) (Nat.le_of_ble_eq_true rfl))) (ed_bin (ed_var c 0 rfl (by kspl_open vis) rfl rfl rfl) ed_int bd_sub) rfl (fun _ _ => rfl)) (ad_cons (ed_ix (ed_el (el_lst (ad_cons ed_int (ad_cons (ed_var c 3 rfl (by kspl_open vis) rfl rfl rfl) ad_nil rfl) rfl) (Nat.le_of_ble_eq_true rfl))) (ed_bin (ed_var c 0 rfl (by kspl_open vis) rfl rfl rfl) ed_int bd_sub) rfl (fun _ _ => rfl)) (ad_cons ed_int ad_nil rfl) rfl) rfl) rfl) rfl) ⟨B, ps, o, 0, .int 9, r, rfl, rfP_to hr (fun e z => ho e z.1), rfl, rfl⟩ rfl rfl rfl) ⟨rfl, rfl⟩
    · exact sd_retX (ex_call c Flatest (by decide) rfl (ad_cons (ed_var c 1 rfl (by kspl_open vis) rfl rfl rfl) (ad_cons (ed_var c 2 rfl (by kspl_open vis) rfl rfl rfl) (ad_cons (ed_ix (ed_el (el_lst (ad_cons (ed_var c 3 rfl (by kspl_open vis) rfl rfl rfl) (ad_cons ed_int ad_nil rfl) rfl) (Nat.le_of_ble_eq_true rfl))) (ed_bin (ed_var c 0 rfl (by kspl_open vis) rfl rfl rfl) ed_int bd_sub) rfl (fun _ _ => rfl)) (ad_cons (ed_ix (ed_el (el_lst (ad_cons ed_int (ad_cons (ed_var c 3 rfl (by kspl_open vis) rfl rfl rfl) ad_nil rfl) rfl) (Nat.le_of_ble_eq_true rfl))) (ed_bin (ed_var c 0 rfl (by kspl_open vis) rfl rfl rfl) ed_int bd_sub) rfl (fun _ _ => rfl)) (ad_cons ed_int ad_nil rfl) rfl) rfl) rfl) rfl) ⟨B, ps, 0, o, .int 9, r, rfl, rfP_to hr (fun e z => ho e z.2), rfl, rfl⟩ rfl rfl rfl) ⟨rfl, rfl⟩
  refine sd_if (td_cmp (ed_var c 0 rfl (by kspl_open vis) rfl rfl rfl) ed_int (by kspl_open cd) (nomark _)) (fun hb => ?_) (fun hb => sd_nil ?_)
  · exact sd_retX (ex_call c Fmended (by decide) rfl (ad_cons (ed_var c 1 rfl (by kspl_open vis) rfl rfl rfl) (ad_cons (ed_var c 2 rfl (by kspl_open vis) rfl rfl rfl) (ad_cons (ed_var c 4 rfl (by kspl_open vis) rfl rfl rfl) (ad_cons (ed_el (el_lst ad_nil (Nat.le_of_ble_eq_true rfl))) (ad_cons ed_int ad_nil rfl) rfl) rfl) rfl) rfl) ⟨B, ps, _, .list [], .int 5, r, rfl, hB, rfl, rfl⟩ rfl rfl rfl) ⟨rfl, rfl⟩
  refine sd_if (td_cmp (ed_var c 0 rfl (by kspl_open vis) rfl rfl rfl) ed_int (by kspl_open cd) (nomark _)) (fun hb => ?_) (fun hb => sd_nil ?_)
  · exact sd_retX (ex_call c Fcut (by decide) rfl (ad_cons (ed_var c 1 rfl (by kspl_open vis) rfl rfl rfl) (ad_cons (ed_var c 5 rfl (by kspl_open vis) rfl rfl rfl) (ad_cons (ed_var c 2 rfl (by kspl_open vis) rfl rfl rfl) (ad_cons (ed_el (el_lst ad_nil (Nat.le_of_ble_eq_true rfl))) (ad_cons ed_int (ad_cons (ed_el (el_lst ad_nil (Nat.le_of_ble_eq_true rfl))) ad_nil rfl) rfl) rfl) rfl) rfl) rfl) ⟨B, [askL n o], ps, .list [], .int 0, .list [], r, rfl, hL, rfl, rfl⟩ rfl rfl rfl) ⟨rfl, rfl⟩
  refine sd_if (td_cmp (ed_var c 0 rfl (by kspl_open vis) rfl rfl rfl) ed_int (by kspl_open cd) (nomark _)) (fun hb => ?_) (fun hb => sd_nil ?_)
  · exact sd_retX (ex_call c Fshows (by decide) rfl (ad_cons (ed_var c 1 rfl (by kspl_open vis) rfl rfl rfl) (ad_cons (ed_var c 5 rfl (by kspl_open vis) rfl rfl rfl) (ad_cons (ed_var c 2 rfl (by kspl_open vis) rfl rfl rfl) (ad_cons (ed_el (el_lst ad_nil (Nat.le_of_ble_eq_true rfl))) (ad_cons ed_int (ad_cons ed_int (ad_cons (ed_el (el_lst ad_nil (Nat.le_of_ble_eq_true rfl))) ad_nil rfl) rfl) rfl) rfl) rfl) rfl) rfl) ⟨B, [askL n o], ps, .list [], .int 0, .int 0, .list [], r, rfl, hL, rfl, rfl⟩ rfl rfl rfl) ⟨rfl, rfl⟩
  exact sd_retX (ex_call c Ffewest (by decide) rfl (ad_cons (ed_var c 1 rfl (by kspl_open vis) rfl rfl rfl) (ad_cons (ed_var c 5 rfl (by kspl_open vis) rfl rfl rfl) (ad_cons (ed_var c 2 rfl (by kspl_open vis) rfl rfl rfl) (ad_cons (ed_el (el_lst ad_nil (Nat.le_of_ble_eq_true rfl))) (ad_cons ed_int ad_nil rfl) rfl) rfl) rfl) rfl) ⟨B, [askL n o], ps, .list [], .int 0, r, rfl, hL, rfl, rfl⟩ rfl rfl rfl) ⟨rfl, rfl⟩
def R_law_plainX (aBadBook aBadPosting aNoOffice : Addr) (ds : List PyData) (c : Value) (f : List (Str × PyData)) : Prop := ∃ (n : Nat) (B : Book) (o : Int) (r : Rf), ds = [.int (n : Int), eBook B, .int o] ∧ n < 7 ∧ rfG B False r ∧ (r = .off → ¬ B.off o ∧ 2 ≤ n) ∧ c = Rf.cls aBadBook aBadPosting aNoOffice r ∧ f = r.fs
theorem ok_law_plainX (M : Md K mg) (E : Exs K mg aPostError aBadBook aNoOffice aBadPosting aNoPosting aBadText) : FnX P w K mg base "_law_plain" ["_law_way_of", "_law_book_here", "_law_office"] 8 (spPX K NoR (R_law_plainX aBadBook aBadPosting aNoOffice)) := by
  have Fbook := ok_need_bookXX (P := P) (w := w) (base := base) M E
  have Fwritten := ok_writtenX (P := P) (w := w) (base := base) M E
  have Fhome := ok_home_byX (P := P) (w := w) (base := base) M E
  have Fcarried := ok_carriedX (P := P) (w := w) (base := base) M E
  have Fby := ok_by_cartsX (P := P) (w := w) (base := base) M E
  refine fn_sdF2 (N := ["_law_way_of", "_law_book_here", "_law_office"]) M.d__law_plain ⟨rfl, rfl, rfl, by decide +kernel, rfl, by decide +kernel, by decide +kernel⟩ (fun ds c f ⟨_, _, _, _, e, _⟩ => by rw [e]; rfl) (by decide) (fun X c _ ds cls fs hR => ?_)
  obtain ⟨n, B, o, r, rfl, hn, hr, ho, rfl, rfl⟩ := hR
  show SD X [.dat (.int (n : Int)), .dat (eBook B), .dat (.int o)] _ _
  refine sd_if (td_cmp (ed_var c 0 rfl (by kspl_open vis) rfl rfl rfl) ed_int (by kspl_open cd) (nomark _)) (fun hb => ?_) (fun hb => sd_nil ?_)
  · have hb := of_decide_eq_true hb
    have fv : ∀ q1 q2 : Pos, FsV X mg [.Name "need_book" q1, .Name "written" q2] ["need_book", "written"] := fun _ _ => fs_cons c Fbook rfl rfl (fs_cons c Fwritten rfl rfl fs_nil rfl) rfl
    have hT := rfG_to (G := True) hr (fun e => absurd (ho e).2 (by omega))
    obtain rfl | rfl : n = 0 ∨ n = 1 := by omega
    · exact sd_retX (ex_pick c (fv _ _) rfl Fbook (by decide) (ed_var c 0 rfl (by kspl_open vis) rfl rfl rfl) (ad_cons (ed_var c 1 rfl (by kspl_open vis) rfl rfl rfl) ad_nil rfl) ⟨B, r, rfl, hT, rfl, rfl⟩ (by decide) (fun _ _ => rfl) rfl rfl rfl) ⟨rfl, rfl⟩
    · exact sd_retX (ex_pick c (fv _ _) rfl Fwritten (by decide) (ed_var c 0 rfl (by kspl_open vis) rfl rfl rfl) (ad_cons (ed_var c 1 rfl (by kspl_open vis) rfl rfl rfl) ad_nil rfl) ⟨B, r, rfl, hT, rfl, rfl⟩ (by decide) (fun _ _ => rfl) rfl rfl rfl) ⟨rfl, rfl⟩
  have n1 := of_decide_eq_false hb
  refine sd_if (td_cmp (ed_var c 0 rfl (by kspl_open vis) rfl rfl rfl) ed_int (by kspl_open cd) (nomark _)) (fun hb => ?_) (fun hb => sd_nil ?_)
  · exact sd_retX (ex_call c Fhome (by decide) rfl (ad_cons (ed_var c 1 rfl (by kspl_open vis) rfl rfl rfl) (ad_cons (ed_var c 2 rfl (by kspl_open vis) rfl rfl rfl) (ad_cons ed_int (ad_cons ed_int ad_nil rfl) rfl) rfl) rfl) ⟨B, o, 0, .int 5, r, rfl, rfG_to hr (fun e z => (ho e).1 z.1), rfl, rfl⟩ rfl rfl rfl) ⟨rfl, rfl⟩
  have n2 := of_decide_eq_false hb
  refine sd_if (td_cmp (ed_var c 0 rfl (by kspl_open vis) rfl rfl rfl) ed_int (by kspl_open cd) (nomark _)) (fun hb => ?_) (fun hb => sd_nil ?_)
  · exact sd_retX (ex_call c Fhome (by decide) rfl (ad_cons (ed_var c 1 rfl (by kspl_open vis) rfl rfl rfl) (ad_cons ed_int (ad_cons (ed_var c 2 rfl (by kspl_open vis) rfl rfl rfl) (ad_cons ed_int ad_nil rfl) rfl) rfl) rfl) ⟨B, 0, o, .int 5, r, rfl, rfG_to hr (fun e z => (ho e).1 z.2), rfl, rfl⟩ rfl rfl rfl) ⟨rfl, rfl⟩
  have n3 := of_decide_eq_false hb
  refine sd_if (td_cmp (ed_var c 0 rfl (by kspl_open vis) rfl rfl rfl) ed_int (by kspl_open cd) (nomark _)) (fun hb => ?_) (fun hb => sd_nil ?_)
  · exact sd_retX (ex_call c Fcarried (by decide) rfl (ad_cons (ed_var c 1 rfl (by kspl_open vis) rfl rfl rfl) (ad_cons (ed_var c 2 rfl (by kspl_open vis) rfl rfl rfl) (ad_cons ed_int ad_nil rfl) rfl) rfl) ⟨B, o, .int 5, r, rfl, rfG_to hr (fun e z => (ho e).1 z), rfl, rfl⟩ rfl rfl rfl) ⟨rfl, rfl⟩
  have n4 := of_decide_eq_false hb
  obtain rfl | rfl : n = 5 ∨ n = 6 := by omega
  · exact sd_retX (ex_call c Fby (by decide) rfl (ad_cons (ed_var c 1 rfl (by kspl_open vis) rfl rfl rfl) (ad_cons (ed_ix (ed_el (el_lst (ad_cons (ed_var c 2 rfl (by kspl_open vis) rfl rfl rfl) (ad_cons ed_int ad_nil rfl) rfl) (Nat.le_of_ble_eq_true rfl))) (ed_bin (ed_var c 0 rfl (by kspl_open vis) rfl rfl rfl) ed_int bd_sub) rfl (fun _ _ => rfl)) (ad_cons (ed_ix (ed_el (el_lst (ad_cons ed_int (ad_cons (ed_var c 2 rfl (by kspl_open vis) rfl rfl rfl) ad_nil rfl) rfl) (Nat.le_of_ble_eq_true rfl))) (ed_bin (ed_var c 0 rfl (by kspl_open vis) rfl rfl rfl) ed_int bd_sub) rfl (fun _ _ => rfl)) (ad_cons ed_int ad_nil rfl) rfl) rfl) rfl) ⟨B, o, 0, .int 5, r, rfl, rfG_to hr (fun e z => (ho e).1 z.1), rfl, rfl⟩ rfl rfl rfl) ⟨rfl, rfl⟩
  · exact sd_retX (ex_call c Fby (by decide) rfl (ad_cons (ed_var c 1 rfl (by kspl_open vis) rfl rfl rfl) (ad_cons (ed_ix (ed_el (el_lst (ad_cons (ed_var c 2 rfl (by kspl_open vis) rfl rfl rfl) (ad_cons ed_int ad_nil rfl) rfl) (Nat.le_of_ble_eq_true rfl))) (ed_bin (ed_var c 0 rfl (by kspl_open vis) rfl rfl rfl) ed_int bd_sub) rfl (fun _ _ => rfl)) (ad_cons (ed_ix (ed_el (el_lst (ad_cons ed_int (ad_cons (ed_var c 2 rfl (by kspl_open vis) rfl rfl rfl) ad_nil rfl) rfl) (Nat.le_of_ble_eq_true rfl))) (ed_bin (ed_var c 0 rfl (by kspl_open vis) rfl rfl rfl) ed_int bd_sub) rfl (fun _ _ => rfl)) (ad_cons ed_int ad_nil rfl) rfl) rfl) rfl) ⟨B, 0, o, .int 5, r, rfl, rfG_to hr (fun e z => (ho e).1 z.2), rfl, rfl⟩ rfl rfl rfl) ⟨rfl, rfl⟩
end
end
end K
namespace K
open PySem L2 Z
section
variable {P : Program} {w : World} {K : PySem.W.Frag} {mg : Str → Option Value} {base : Heap} [LamC]
-- use Ta Tb Tc Td Te Tf Tg Th Ti
/-! ### which refusal it is -/
def Rf.word : Rf → Str
  | .book w => w
  | .post => "posting"
  | .off => "office"
theorem bootVET : bootBuiltins ("ValueError" : Str) = some (.type "ValueError") := PyProof.Rows.Boot.«ValueError»
section
variable {aPostError aBadBook aNoOffice aBadPosting aNoPosting aBadText : Addr}
def KIx (aBadBook aBadPosting aNoOffice : Addr) (cls : Value) (fs : List (Str × PyData)) (d : PyData) : Prop := ∃ r : Rf, cls = r.cls aBadBook aBadPosting aNoOffice ∧ fs = r.fs ∧ d = .str r.word
theorem ok_law_kind (M : Md K mg) (E : Exs K mg aPostError aBadBook aNoOffice aBadPosting aNoPosting aBadText) (k : Nat) : GivK P w K mg base ["_law_work", "e", "_law_kinds"] s__law_kind "_law_work" k (KIx aBadBook aBadPosting aNoOffice) := by
  refine giv_try 1 (x := "PostError") (n := "e") rfl (by decide) rfl rfl rfl rfl E.g_PostError (fun env => rfl) (fun cls fs d ki => ?_)
  obtain ⟨r, rfl, rfl, rfl⟩ := ki
  cases r with
  | book wy =>
    refine ⟨PySem.W.exm_ref E.s_PostError E.h_PostError E.t_PostError E.p_BadBook_PostError, fun Z a d oe pn hz hf c3 => ?_⟩
    have r := E.p_BadBook_BadBook
    show SD (Z.suite a ((a, oe) :: pn)) [.no, .cus (excC a d [(("why" : Str), PyData.str wy)]), .no] _ _
    refine sd_asgL c3 2 rfl (by kspl_open loc) (.inl rfl) (Nat.le_of_ble_eq_true rfl) (el_lst (ad_cons (ed_isX c3 E.i_BadBook hz hf 1 rfl (.inl rfl) rfl rfl M.b_isinstance (cs_own c3 rfl E.g_BadBook rfl cs_nil rfl) (kit_ref E.c_BadBook E.t_BadBook E.p_BadBook_BadBook r) rfl rfl rfl rfl) (ad_cons (ed_isX c3 E.i_BadBook hz hf 1 rfl (.inl rfl) rfl rfl M.b_isinstance (cs_own c3 rfl E.g_BadPosting rfl cs_nil rfl) (kit_ref E.c_BadPosting E.t_BadPosting E.p_BadBook_BadPosting r) rfl rfl rfl rfl) (ad_cons (ed_isX c3 E.i_BadBook hz hf 1 rfl (.inl rfl) rfl rfl M.b_isinstance (cs_own c3 rfl E.g_NoOffice rfl cs_nil rfl) (kit_ref E.c_NoOffice E.t_NoOffice E.p_BadBook_NoOffice r) rfl rfl rfl rfl) ad_nil rfl) rfl) rfl) (Nat.le_of_ble_eq_true rfl)) rfl ?_
    refine sd_freeze 2 rfl ?_
    show SD (Z.suite a ((a, oe) :: pn)) [.no, .cus (excC a d [(("why" : Str), PyData.str wy)]), .dat (.list (List.map PyData.bool [true, false, false]))] _ _
    refine sd_ifF (td_w (wd_or (x := false) (y := false) (td_val (ed_isXT c3 E.i_BadBook hz hf 1 rfl (.inl rfl) rfl rfl M.b_isinstance (cs_own c3 rfl E.g_BadText rfl (cs_own c3 rfl E.g_NoPosting rfl cs_nil rfl) rfl) (Nat.le_of_ble_eq_true rfl) (kits_cons (kit_ref E.c_BadText E.t_BadText E.p_BadBook_BadText r) (kits_cons (kit_ref E.c_NoPosting E.t_NoPosting E.p_BadBook_NoPosting r) kitAny_nil)) rfl rfl rfl rfl rfl) (fun _ => rfl)) (fun _ => wd_or (x := false) (y := false) (td_to (td_cmp (ed_cntB (ed_var c3 2 rfl (by kspl_open vis) rfl rfl rfl) ed_bl rfl rfl rfl rfl) ed_int cd_neI (nomark _)) (by decide)) (fun _ => wd_or1 (td_not (td_val (ed_isX c3 E.i_BadBook hz hf 1 rfl (.inl rfl) rfl rfl M.b_isinstance (cs_ty c3 rfl M.b_ValueError bootVET (by decide) rfl cs_nil rfl) (kit_ve E.v_BadBook) rfl rfl rfl rfl) (fun _ => rfl))))))) (sd_nil ?_)
    exact sd_ret (ed_if (td_val (ed_isX c3 E.i_BadBook hz hf 1 rfl (.inl rfl) rfl rfl M.b_isinstance (cs_own c3 rfl E.g_BadBook rfl cs_nil rfl) (kit_ref E.c_BadBook E.t_BadBook E.p_BadBook_BadBook r) rfl rfl rfl rfl) (fun _ => rfl)) (fun _ => ed_excF c3 E.i_BadBook hz hf 1 rfl (.inl rfl) rfl E.x_BadBook.no rfl rfl rfl rfl) (fun z => by cases z)) rfl
  | post =>
    refine ⟨PySem.W.exm_ref E.s_PostError E.h_PostError E.t_PostError E.p_BadPosting_PostError, fun Z a d oe pn hz hf c3 => ?_⟩
    have r := E.p_BadPosting_BadPosting
    show SD (Z.suite a ((a, oe) :: pn)) [.no, .cus (excC a d []), .no] _ _
    refine sd_asgL c3 2 rfl (by kspl_open loc) (.inl rfl) (Nat.le_of_ble_eq_true rfl) (el_lst (ad_cons (ed_isX c3 E.i_BadPosting hz hf 1 rfl (.inl rfl) rfl rfl M.b_isinstance (cs_own c3 rfl E.g_BadBook rfl cs_nil rfl) (kit_ref E.c_BadBook E.t_BadBook E.p_BadPosting_BadBook r) rfl rfl rfl rfl) (ad_cons (ed_isX c3 E.i_BadPosting hz hf 1 rfl (.inl rfl) rfl rfl M.b_isinstance (cs_own c3 rfl E.g_BadPosting rfl cs_nil rfl) (kit_ref E.c_BadPosting E.t_BadPosting E.p_BadPosting_BadPosting r) rfl rfl rfl rfl) (ad_cons (ed_isX c3 E.i_BadPosting hz hf 1 rfl (.inl rfl) rfl rfl M.b_isinstance (cs_own c3 rfl E.g_NoOffice rfl cs_nil rfl) (kit_ref E.c_NoOffice E.t_NoOffice E.p_BadPosting_NoOffice r) rfl rfl rfl rfl) ad_nil rfl) rfl) rfl) (Nat.le_of_ble_eq_true rfl)) rfl ?_
    refine sd_freeze 2 rfl ?_
    show SD (Z.suite a ((a, oe) :: pn)) [.no, .cus (excC a d []), .dat (.list (List.map PyData.bool [false, true, false]))] _ _
    refine sd_ifF (td_w (wd_or (x := false) (y := false) (td_val (ed_isXT c3 E.i_BadPosting hz hf 1 rfl (.inl rfl) rfl rfl M.b_isinstance (cs_own c3 rfl E.g_BadText rfl (cs_own c3 rfl E.g_NoPosting rfl cs_nil rfl) rfl) (Nat.le_of_ble_eq_true rfl) (kits_cons (kit_ref E.c_BadText E.t_BadText E.p_BadPosting_BadText r) (kits_cons (kit_ref E.c_NoPosting E.t_NoPosting E.p_BadPosting_NoPosting r) kitAny_nil)) rfl rfl rfl rfl rfl) (fun _ => rfl)) (fun _ => wd_or (x := false) (y := false) (td_to (td_cmp (ed_cntB (ed_var c3 2 rfl (by kspl_open vis) rfl rfl rfl) ed_bl rfl rfl rfl rfl) ed_int cd_neI (nomark _)) (by decide)) (fun _ => wd_or1 (td_not (td_val (ed_isX c3 E.i_BadPosting hz hf 1 rfl (.inl rfl) rfl rfl M.b_isinstance (cs_ty c3 rfl M.b_ValueError bootVET (by decide) rfl cs_nil rfl) (kit_ve E.v_BadPosting) rfl rfl rfl rfl) (fun _ => rfl))))))) (sd_nil ?_)
    exact sd_ret (ed_if (td_val (ed_isX c3 E.i_BadPosting hz hf 1 rfl (.inl rfl) rfl rfl M.b_isinstance (cs_own c3 rfl E.g_BadBook rfl cs_nil rfl) (kit_ref E.c_BadBook E.t_BadBook E.p_BadPosting_BadBook r) rfl rfl rfl rfl) (fun _ => rfl)) (fun z => by cases z) (fun _ => ed_ix (ed_el (el_lst (ad_cons ed_str (ad_cons ed_str (ad_cons ed_str ad_nil rfl) rfl) rfl) (Nat.le_of_ble_eq_true rfl))) (ed_idxB (j := 1) (ed_var c3 2 rfl (by kspl_open vis) rfl rfl rfl) ed_bl rfl (by decide) rfl rfl rfl rfl) rfl (fun _ _ => rfl))) rfl
  | off =>
    refine ⟨PySem.W.exm_ref E.s_PostError E.h_PostError E.t_PostError E.p_NoOffice_PostError, fun Z a d oe pn hz hf c3 => ?_⟩
    have r := E.p_NoOffice_NoOffice
    show SD (Z.suite a ((a, oe) :: pn)) [.no, .cus (excC a d []), .no] _ _
    refine sd_asgL c3 2 rfl (by kspl_open loc) (.inl rfl) (Nat.le_of_ble_eq_true rfl) (el_lst (ad_cons (ed_isX c3 E.i_NoOffice hz hf 1 rfl (.inl rfl) rfl rfl M.b_isinstance (cs_own c3 rfl E.g_BadBook rfl cs_nil rfl) (kit_ref E.c_BadBook E.t_BadBook E.p_NoOffice_BadBook r) rfl rfl rfl rfl) (ad_cons (ed_isX c3 E.i_NoOffice hz hf 1 rfl (.inl rfl) rfl rfl M.b_isinstance (cs_own c3 rfl E.g_BadPosting rfl cs_nil rfl) (kit_ref E.c_BadPosting E.t_BadPosting E.p_NoOffice_BadPosting r) rfl rfl rfl rfl) (ad_cons (ed_isX c3 E.i_NoOffice hz hf 1 rfl (.inl rfl) rfl rfl M.b_isinstance (cs_own c3 rfl E.g_NoOffice rfl cs_nil rfl) (kit_ref E.c_NoOffice E.t_NoOffice E.p_NoOffice_NoOffice r) rfl rfl rfl rfl) ad_nil rfl) rfl) rfl) (Nat.le_of_ble_eq_true rfl)) rfl ?_
    refine sd_freeze 2 rfl ?_
    show SD (Z.suite a ((a, oe) :: pn)) [.no, .cus (excC a d []), .dat (.list (List.map PyData.bool [false, false, true]))] _ _
    refine sd_ifF (td_w (wd_or (x := false) (y := false) (td_val (ed_isXT c3 E.i_NoOffice hz hf 1 rfl (.inl rfl) rfl rfl M.b_isinstance (cs_own c3 rfl E.g_BadText rfl (cs_own c3 rfl E.g_NoPosting rfl cs_nil rfl) rfl) (Nat.le_of_ble_eq_true rfl) (kits_cons (kit_ref E.c_BadText E.t_BadText E.p_NoOffice_BadText r) (kits_cons (kit_ref E.c_NoPosting E.t_NoPosting E.p_NoOffice_NoPosting r) kitAny_nil)) rfl rfl rfl rfl rfl) (fun _ => rfl)) (fun _ => wd_or (x := false) (y := false) (td_to (td_cmp (ed_cntB (ed_var c3 2 rfl (by kspl_open vis) rfl rfl rfl) ed_bl rfl rfl rfl rfl) ed_int cd_neI (nomark _)) (by decide)) (fun _ => wd_or1 (td_not (td_val (ed_isX c3 E.i_NoOffice hz hf 1 rfl (.inl rfl) rfl rfl M.b_isinstance (cs_ty c3 rfl M.b_ValueError bootVET (by decide) rfl cs_nil rfl) (kit_ve E.v_NoOffice) rfl rfl rfl rfl) (fun _ => rfl))))))) (sd_nil ?_)
    exact sd_ret (ed_if (td_val (ed_isX c3 E.i_NoOffice hz hf 1 rfl (.inl rfl) rfl rfl M.b_isinstance (cs_own c3 rfl E.g_BadBook rfl cs_nil rfl) (kit_ref E.c_BadBook E.t_BadBook E.p_NoOffice_BadBook r) rfl rfl rfl rfl) (fun _ => rfl)) (fun z => by cases z) (fun _ => ed_ix (ed_el (el_lst (ad_cons ed_str (ad_cons ed_str (ad_cons ed_str ad_nil rfl) rfl) rfl) (Nat.le_of_ble_eq_true rfl))) (ed_idxB (j := 2) (ed_var c3 2 rfl (by kspl_open vis) rfl rfl rfl) ed_bl rfl (by decide) rfl rfl rfl rfl) rfl (fun _ _ => rfl))) rfl
end
end
end K
namespace K
open PySem L2 Z
section
variable {P : Program} {w : World} {K : PySem.W.Frag} {mg : Str → Option Value} {base : Heap} [LamC]
-- use Ta Tb Tc Td Te Tf Tg Th Ti
/-! ### the law's wrong books -/
theorem cd_take {α : Type} {f : α → PyData} {l : List α} (k : Nat) : cutD (l.map f) none (some (k : Int)) = (l.take k).map f := by
  rw [cutD_map]
  unfold cutG
  rw [HT.sIx_none, HT.sIx_nat, List.drop_zero, Nat.sub_zero]
  by_cases h : k ≤ l.length
  · rw [Nat.min_eq_left h]
  · rw [Nat.min_eq_right (by omega), List.take_of_length_le (by omega), List.take_of_length_le (by omega)]
theorem cd_drop1 {α : Type} {f : α → PyData} {l : List α} : cutD (l.map f) (some 1) none = (l.drop 1).map f := by
  rw [cutD_map]
  unfold cutG
  rw [show HT.sIx l.length 0 (some 1) = min 1 l.length from HT.sIx_nat _ _ 1, HT.sIx_none]
  cases l with
  | nil => rfl
  | cons a l => rw [List.length_cons, Nat.min_eq_left (by omega), List.take_of_length_le (by simp)]
theorem cd_m1 {α : Type} {f : α → PyData} {l : List α} : cutD (l.map f) none (some (-1)) = l.dropLast.map f := by
  rw [cutD_map]
  unfold cutG
  have e : HT.sIx l.length l.length (some (-1)) = l.length - 1 := by
    show (if (-1 : Int) < 0 then ((-1 : Int) + (l.length : Int)).toNat else min (-1 : Int).toNat l.length) = _
    rw [if_pos (by decide)]
    omega
  rw [HT.sIx_none, List.drop_zero, Nat.sub_zero, e, ← List.dropLast_eq_take]
theorem ix_last {α : Type} {f : α → PyData} {l : List α} (d : α) (h : l ≠ []) : atI (l.map f) (-1) = some (f (l.getLastD d)) := by
  rw [atI_map]
  have hl : 0 < l.length := List.length_pos_iff.mpr h
  unfold atI ixN
  rw [if_neg (by decide), if_pos (by omega)]
  show ((l[(-1 + (l.length : Int)).toNat]?)).map f = _
  rw [show (-1 + (l.length : Int)).toNat = l.length - 1 by omega, List.getLastD_eq_getLast?, List.getLast?_eq_getElem?, List.getElem?_eq_getElem (by omega)]
  rfl
theorem ix_two {a b : PyData} {i : Int} (h0 : 0 ≤ i) (h1 : i < 2) : ixD (.list [a, b]) i = some (if i = 0 then a else b) := by
  rcases (show i = 0 ∨ i = 1 by omega) with e | e <;> subst e <;> rfl
theorem ix_three {a b c : PyData} {i : Int} (h0 : 0 ≤ i) (h1 : i < 3) : ixD (.list [a, b, c]) i = some (if i = 0 then a else if i = 1 then b else c) := by
  rcases (show i = 0 ∨ i = 1 ∨ i = 2 by omega) with e | e | e <;> subst e <;> rfl
def bads (n far : Int) : List Row := [(0, n + far, 1, 2), (-1, 0, 1, 2), (0, 0, 1, 2), (0, 1, 5, 5), (1, 0, 6, 5), (0, 1, -1, 5), (0, 1, 5, 100 + far)]
def bad7 (n far i : Int) : Row := (bads n far).getD i.toNat (0, 0, 1, 2)
def altA (fl : List (List Int)) : List (List (List Int)) := [fl.take 1, fl ++ fl.take 1, fl.dropLast ++ [(fl.getLastD []).dropLast], List.replicate 7 (List.replicate 7 0)]
def altB (fl : List (List Int)) (far : Int) : List (List (List Int)) := [(1 :: (fl.headD []).drop 1) :: fl.drop 1, ((fl.headD []).dropLast ++ [10 + far]) :: fl.drop 1]
def altC (fl : List (List Int)) : List (List Int) := ((fl.headD []).dropLast ++ [0]) :: fl.drop 1
def alts (fl : List (List Int)) (far : Int) : List (List (List Int)) := altA fl ++ altB fl far ++ [altC fl]
def wrong0 (B : Book) (far : Int) (r : Rg) : Book := ⟨(alts B.fl far).getD (nxV r 7).toNat [], List.replicate (nxV (nxR r 7) 2).toNat (0, 0, 0, 0), B.ca, B.bi⟩
def wrong1 (B : Book) (bad : Row) (r : Rg) : Book := ⟨B.fl, if nxV r 2 = 0 then List.replicate 9 (0, 1, 2, 3) else B.st.take 7 ++ [bad], if nxV (nxR r 2) 2 = 0 then B.ca else [bad], B.bi⟩
def wrong2 (B : Book) (bad : Row) (r : Rg) : Book := ⟨B.fl, B.st, if nxV r 2 = 0 then List.replicate 13 (0, 1, 2, 3) else B.ca.take 11 ++ [bad], if nxV (nxR r 2) 2 = 0 then B.bi else [99]⟩
def wrong3 (B : Book) (far : Int) (r : Rg) : Book := ⟨B.fl, B.st, B.ca, if nxV r 3 = 0 then List.replicate 7 0 else if nxV r 3 = 1 then B.bi.take 5 ++ [(B.n : Int) + far] else [-1]⟩
def wrongOf (B : Book) (far w : Int) (r : Rg) : (Book × Str) × Rg :=
  if w = 0 then ((wrong0 B far r, "flights"), nxR (nxR r 7) 2)
  else if w = 1 then ((wrong1 B (bad7 B.n far (nxV r 7)) (nxR r 7), "storms"), nxR (nxR (nxR r 7) 2) 2)
  else if w = 2 then ((wrong2 B (bad7 B.n far (nxV r 7)) (nxR r 7), "carts"), nxR (nxR (nxR r 7) 2) 2)
  else ((wrong3 B far (nxR r 7), "birds"), nxR (nxR r 7) 3)
def lawWrong (B : Book) (r : Rg) : (Book × Str) × Rg := wrongOf B (nxV r 99) (nxV (nxR r 99) 4) (nxR (nxR r 99) 4)
theorem bad_no {fl : List (List Int)} {st ca : List Row} {bi : List Int} {far i : Int} (hf : 0 ≤ far) (h0 : 0 ≤ i) (h1 : i < 7) : ¬ GoodRow ⟨fl, st, ca, bi⟩ (bad7 (fl.length : Int) far i) := fun g => by
  obtain rfl | rfl | rfl | rfl | rfl | rfl | rfl : i = 0 ∨ i = 1 ∨ i = 2 ∨ i = 3 ∨ i = 4 ∨ i = 5 ∨ i = 6 := by omega
  · have h : (fl.length : Int) + far < (fl.length : Int) := g.b.2
    omega
  · exact absurd (show (0 : Int) ≤ -1 from g.a.1) (by decide)
  · exact g.ne rfl
  · exact absurd (show (5 : Int) < 5 from g.h1) (by decide)
  · exact absurd (show (6 : Int) < 5 from g.h1) (by decide)
  · exact absurd (show (0 : Int) ≤ -1 from g.h0) (by decide)
  · have h : 100 + far ≤ 99 := g.h2
    omega
theorem alts_no {B : Book} (g : Good B) {far : Int} (hf : 0 ≤ far) {st ca : List Row} {bi : List Int} {f : List (List Int)} (h : f ∈ alts B.fl far) : ¬ FlOk ⟨f, st, ca, bi⟩ := fun F => by
  have n2 : 2 ≤ B.fl.length := g.n2
  have rw_ := g.rows
  have nn : B.n = B.fl.length := rfl
  rw [nn] at rw_
  obtain ⟨a, b, t, e⟩ : ∃ a b t, B.fl = a :: b :: t := by
    match h : B.fl with
    | [] => rw [h] at n2; simp at n2
    | [a] => rw [h] at n2; simp at n2
    | a :: b :: t => exact ⟨a, b, t, rfl⟩
  have la : a.length = B.fl.length := rw_ a (by rw [e]; simp)
  rw [e] at h rw_ la n2
  simp only [alts, altA, altB, altC, List.append_assoc, List.mem_append, List.mem_cons, List.not_mem_nil, or_false] at h
  have F2 : 2 ≤ f.length := F.n2
  have F6 : f.length ≤ 6 := F.n6
  have Fr : ∀ r ∈ f, r.length = f.length := F.rows
  have Fv : ∀ (i j : Nat) (r : List Int) (v : Int), f[i]? = some r → r[j]? = some v → if j = i then v = 0 else 1 ≤ v ∧ v ≤ 9 := F.vals
  have last : ∀ x : Int, (a.dropLast ++ [x])[a.length - 1]? = some x := fun x => by
    rw [List.getElem?_append_right (by simp), List.length_dropLast, Nat.sub_self]
    rfl
  have l1 : ¬ a.length - 1 = 0 := by rw [la]; simp
  rcases h with ((rfl | rfl | rfl | rfl) | (rfl | rfl) | rfl)
  · simp at F2
  · have := Fr a (by simp)
    rw [la] at this
    simp at this
  · have := Fr ((((a :: b :: t).getLastD [])).dropLast) (by simp)
    have lm : (a :: b :: t).getLastD [] ∈ (a :: b :: t) := by
      rw [List.getLastD_eq_getLast?, List.getLast?_eq_getLast (by simp), Option.getD_some]
      exact List.getLast_mem _
    have := rw_ _ lm
    simp at *
    omega
  · rw [List.length_replicate] at F6
    omega
  · have := Fv 0 0 _ 1 rfl rfl
    simp at this
  · have := Fv 0 (a.length - 1) _ (10 + far) rfl (last _)
    rw [if_neg l1] at this
    omega
  · have := Fv 0 (a.length - 1) _ 0 rfl (last _)
    rw [if_neg l1] at this
    omega
theorem wrong_why {B : Book} (g : Good B) {far w : Int} (hf : 0 ≤ far) {r : Rg} : whyB (wrongOf B far w r).1.1 (wrongOf B far w r).1.2 := by
  have i0 := nxV_0 (r := r) (m := 7) (by decide)
  have i1 := nxV_1 (r := r) (m := 7) (by decide)
  have gf := good_fl g
  obtain ⟨_, gs, gc, _⟩ := good_bits g
  have fk : ∀ st ca bi, FlOk ⟨B.fl, st, ca, bi⟩ := fun _ _ _ => ⟨gf.n2, gf.n6, gf.rows, gf.vals⟩
  have rk : ∀ {x : Row} st ca bi, GoodRow B x → GoodRow ⟨B.fl, st, ca, bi⟩ x := fun _ _ _ h => ⟨h.a, h.b, h.ne, h.h0, h.h1, h.h2⟩
  unfold wrongOf
  split
  · refine .inl ⟨alts_no g hf ?_, rfl⟩
    have hl : (nxV r 7).toNat < (alts B.fl far).length := by show _ < 7; omega
    rw [List.getD_eq_getElem?_getD, List.getElem?_eq_getElem hl]
    exact List.getElem_mem hl
  · split
    · refine .inr (.inl ⟨fk _ _ _, fun R => ?_, rfl⟩)
      have R1 := R.len
      have R2 := R.at_
      unfold wrong1 at R1 R2
      dsimp only at R1 R2
      by_cases q : nxV (nxR r 7) 2 = 0
      · rw [if_pos q] at R1
        simp at R1
      · rw [if_neg q] at R2
        exact bad_no hf i0 i1 (R2 _ (List.mem_append_right _ (List.mem_singleton.mpr rfl)))
    · split
      · refine .inr (.inr (.inl ⟨fk _ _ _, ⟨gs.len, fun x hx => rk _ _ _ (gs.at_ x hx)⟩, fun R => ?_, rfl⟩))
        have R1 := R.len
        have R2 := R.at_
        unfold wrong2 at R1 R2
        dsimp only at R1 R2
        by_cases q : nxV (nxR r 7) 2 = 0
        · rw [if_pos q] at R1
          simp at R1
        · rw [if_neg q] at R2
          exact bad_no hf i0 i1 (R2 _ (List.mem_append_right _ (List.mem_singleton.mpr rfl)))
      · refine .inr (.inr (.inr ⟨fk _ _ _, ⟨gs.len, fun x hx => rk _ _ _ (gs.at_ x hx)⟩, ⟨gc.len, fun x hx => rk _ _ _ (gc.at_ x hx)⟩, fun R => ?_, rfl⟩))
        have R1 := R.len
        have R2 := R.at_
        unfold wrong3 at R1 R2
        dsimp only at R1 R2
        by_cases q : nxV (nxR r 7) 3 = 0
        · rw [if_pos q] at R1
          simp at R1
        · rw [if_neg q] at R2
          by_cases q2 : nxV (nxR r 7) 3 = 1
          · rw [if_pos q2] at R2
            have := (R2 _ (List.mem_append_right _ (List.mem_singleton.mpr rfl))).2
            have : (B.n : Int) + far < (B.n : Int) := this
            omega
          · rw [if_neg q2] at R2
            exact absurd (show (0 : Int) ≤ -1 from (R2 _ (List.mem_singleton.mpr rfl)).1) (by decide)
end
end K
namespace K
open PySem L2 Z
section
variable {P : Program} {w : World} {K : PySem.W.Frag} {mg : Str → Option Value} {base : Heap} [LamC]
-- use Ta Tb Tc Td Te Tf Tg Th Ti
/-! ### the walk of _law_wrong -/
theorem szl {n : Nat} (h : n ≤ 1000) : n ≤ sizeLine := Nat.le_trans h (Nat.le_of_ble_eq_true rfl)
def eWr (p : Book × Str) : PyData := .tuple [eBook p.1, .str p.2]
theorem ite_tup {α : Type} {f : α → PyData} {p : Prop} [Decidable p] {a b : List α} : (if p then PyData.tuple (a.map f) else .tuple (b.map f)) = .tuple ((if p then a else b).map f) := by split <;> rfl
def eFl (f : List (List Int)) : PyData := .tuple (f.map eInts)
def R_law_wrong (r : Rg) (ds : List PyData) (r2 : Rg) (d : PyData) : Prop := ∃ B, ds = [eBook B] ∧ Good B ∧ r2 = (lawWrong B r).2 ∧ d = eWr (lawWrong B r).1
theorem ok_law_wrong (M : Md K mg) : FnG P w K mg base "_law_wrong" ["_law_h", "_law_book_here"] 2 (spR K R_law_wrong) := by
  have Fn := ok_next (P := P) (w := w) (base := base) M
  refine fn_sdR (N := ["_law_h", "_law_book_here", "_law_flights", "_law_storms", "_law_carts", "_law_birds", "_law_many", "_law_far", "_law_way_of", "_law_rows", "_law_bad", "_law_wrong_here"]) M.d__law_wrong ⟨rfl, rfl, rfl, by decide +kernel, rfl, by decide +kernel, by decide +kernel⟩ (fun r ds r2 d ⟨_, e, _⟩ => by rw [e]; rfl) (by decide) (fun X c A A' r ds r2 d hR => ?_)
  obtain ⟨B, rfl, g, rfl, rfl⟩ := hR
  show SD X [.rng A A' r, .dat (eBook B), .no, .no, .no, .no, .no, .no, .no, .no, .no, .no] _ _
  refine sd_unpack c (ed_var c 1 rfl (by kspl_open vis) rfl rfl rfl) (gd_tup c (gs_cons c 2 rfl (by kspl_open loc) (by kspl_open loc) (gs_cons c 3 rfl (by kspl_open loc) (by kspl_open loc) (gs_cons c 4 rfl (by kspl_open loc) (by kspl_open loc) (gs_cons c 5 rfl (by kspl_open loc) (by kspl_open loc) gs_nil rfl) rfl) rfl) rfl) rfl rfl) rfl rfl rfl rfl ?_
  show SD X [.rng A A' r, .dat (eBook B), .dat (.tuple (B.fl.map eInts)), .dat (.tuple (B.st.map eRow)), .dat (.tuple (B.ca.map eRow)), .dat (eInts B.bi), .no, .no, .no, .no, .no, .no] _ _
  refine sd_asg c 6 rfl (by kspl_open loc) (.inl rfl) (Nat.le_of_ble_eq_true rfl) (ed_to (d' := .int (B.n : Int)) (ed_callB c rfl M.b_len PySem.boot_len (ad_cons (ed_var c 2 rfl (by kspl_open vis) rfl rfl rfl) ad_nil rfl) (by kspl_open cl) (by decide) rfl rfl rfl) (by rw [List.length_map])) rfl ?_
  refine sd_asg c 7 rfl (by kspl_open loc) (.inl rfl) (Nat.le_of_ble_eq_true rfl) (ed_callR c Fn (by decide) rfl 0 rfl (by kspl_open vis) rfl (ad_cons ed_int ad_nil rfl) rfl ⟨99, rfl, by decide, by decide, rfl, rfl⟩ rfl rfl rfl rfl rfl) rfl ?_
  refine sd_asg c 8 rfl (by kspl_open loc) (.inl rfl) (Nat.le_of_ble_eq_true rfl) (ed_callR c Fn (by decide) rfl 0 rfl (by kspl_open vis) rfl (ad_cons ed_int ad_nil rfl) rfl ⟨4, rfl, by decide, by decide, rfl, rfl⟩ rfl rfl rfl rfl rfl) rfl ?_
  unfold lawWrong
  have f0 := nxV_0 (r := r) (m := 99) (by decide)
  have f1 := nxV_1 (r := r) (m := 99) (by decide)
  have w0 := nxV_0 (r := nxR r 99) (m := 4) (by decide)
  have w1 := nxV_1 (r := nxR r 99) (m := 4) (by decide)
  generalize nxV r 99 = far at *
  generalize nxV (nxR r 99) 4 = wy at *
  generalize nxR (nxR r 99) 4 = r at *
  have n2 : 2 ≤ B.fl.length := g.n2
  have n6 : B.fl.length ≤ 6 := g.n6
  have stl := g.stl
  have cal := g.cal
  have bil := g.bil
  have nn : B.n = B.fl.length := rfl
  have rl : ∀ x ∈ B.fl, x.length ≤ 6 := fun x hx => by rw [g.rows x hx]; exact g.n6
  have hne : B.fl ≠ [] := fun z => by rw [z] at n2; simp at n2
  have ll : (B.fl.getLastD []).length ≤ 6 := by
    refine rl _ ?_
    rw [List.getLastD_eq_getLast?, List.getLast?_eq_getLast hne, Option.getD_some]
    exact List.getLast_mem _
  have lh : (B.fl.headD []).length ≤ 6 := by
    cases h : B.fl with
    | nil => exact absurd h hne
    | cons a l => exact rl a (by rw [h]; simp)
  have ih : ixD (.tuple (B.fl.map eInts)) 0 = some (eInts (B.fl.headD [])) := by
    show atI (B.fl.map eInts) 0 = _
    rw [atI_map, atI_of (by decide) (by omega) []]
    cases h : B.fl with
    | nil => exact absurd h hne
    | cons a l => rfl
  have il : ixD (.tuple (B.fl.map eInts)) (-1) = some (eInts (B.fl.getLastD [])) := ix_last [] hne
  have i0 := nxV_0 (r := r) (m := 7) (by decide)
  have i1 := nxV_1 (r := r) (m := 7) (by decide)
  have j0 := nxV_0 (r := nxR r 7) (m := 2) (by decide)
  have j1 := nxV_1 (r := nxR r 7) (m := 2) (by decide)
  have k0 := nxV_0 (r := nxR (nxR r 7) 2) (m := 2) (by decide)
  have k1 := nxV_1 (r := nxR (nxR r 7) 2) (m := 2) (by decide)
  have t0 := nxV_0 (r := nxR r 7) (m := 3) (by decide)
  have t1 := nxV_1 (r := nxR r 7) (m := 3) (by decide)
  show SD X [.rng A A' r, .dat (eBook B), .dat (.tuple (B.fl.map eInts)), .dat (.tuple (B.st.map eRow)), .dat (.tuple (B.ca.map eRow)), .dat (eInts B.bi), .dat (.int (B.n : Int)), .dat (.int far), .dat (.int wy), .no, .no, .no] _ _
  refine sd_if (td_cmp (ed_var c 8 rfl (by kspl_open vis) rfl rfl rfl) ed_int (by kspl_open cd) (nomark _)) (fun hb => ?_) (fun hb => sd_nil ?_)
  · have hb := of_decide_eq_true hb
    refine sd_asgL c 9 rfl (by kspl_open loc) (.inl rfl) (Nat.le_of_ble_eq_true rfl) (el_lst (k1 := [.rng A A' r, .dat (eBook B), .dat (.tuple (B.fl.map eInts)), .dat (.tuple (B.st.map eRow)), .dat (.tuple (B.ca.map eRow)), .dat (eInts B.bi), .dat (.int (B.n : Int)), .dat (.int far), .dat (.int wy), .no, .no, .no]) (ds := (altA B.fl).map eFl) ?A1 (by show 4 ≤ sizeLine; exact szl (by decide))) rfl ?_
    case A1 =>
      refine ad_cons (d := eFl (B.fl.take 1)) (ed_to (ed_slT (ed_var c 2 rfl (by kspl_open vis) rfl rfl rfl) po_no (po_yes ed_int)) (congrArg PyData.tuple (cd_take 1))) ?B1 rfl
      refine ad_cons (d := eFl (B.fl ++ B.fl.take 1)) (ed_to (ed_bin (ed_var c 2 rfl (by kspl_open vis) rfl rfl rfl) (ed_to (ed_slT (ed_var c 2 rfl (by kspl_open vis) rfl rfl rfl) po_no (po_yes ed_int)) (congrArg PyData.tuple (cd_take 1))) (bd_catT (szl (by simp only [List.length_map, List.length_drop, List.length_take, List.length_dropLast, List.length_cons, List.length_nil, List.length_append]; omega)))) (by rw [eFl, List.map_append])) ?B2 rfl
      refine ad_cons (d := eFl (B.fl.dropLast ++ [(B.fl.getLastD []).dropLast])) (ed_to (ed_bin (ed_to (ed_slT (ed_var c 2 rfl (by kspl_open vis) rfl rfl rfl) po_no (po_yes (un_minus ed_int))) (congrArg PyData.tuple cd_m1)) (ed_tup (ad_cons (ed_to (d' := eInts (B.fl.getLastD []).dropLast) (ed_slT (ed_ix (ed_var c 2 rfl (by kspl_open vis) rfl rfl rfl) (un_minus ed_int) il (fun _ _ => rfl)) po_no (po_yes (un_minus ed_int))) (congrArg PyData.tuple cd_m1)) ad_nil rfl) (Nat.le_of_ble_eq_true rfl)) (bd_catT (szl (by simp only [List.length_map, List.length_drop, List.length_take, List.length_dropLast, List.length_cons, List.length_nil, List.length_append]; omega)))) (by rw [eFl, List.map_append]; rfl)) ?B3 rfl
      exact ad_cons (d := eFl (List.replicate 7 (List.replicate 7 0))) (ed_to (ed_bin (ed_tup (ad_cons (ed_bin (ed_tup (ad_cons ed_int ad_nil rfl) (Nat.le_of_ble_eq_true rfl)) ed_int (bd_repT (n := 7) (by decide))) ad_nil rfl) (Nat.le_of_ble_eq_true rfl)) ed_int (bd_repT (n := 7) (by decide))) rfl) ad_nil rfl
    refine sd_freeze 9 rfl ?_
    refine sd_asgL c 9 rfl (by kspl_open loc) (.inl rfl) (Nat.le_of_ble_eq_true rfl) (el_cat (ed_var c 9 rfl (by kspl_open vis) rfl rfl rfl) (ed_el (el_lst (k1 := [.rng A A' r, .dat (eBook B), .dat (.tuple (B.fl.map eInts)), .dat (.tuple (B.st.map eRow)), .dat (.tuple (B.ca.map eRow)), .dat (eInts B.bi), .dat (.int (B.n : Int)), .dat (.int far), .dat (.int wy), .dat (.list ((altA B.fl).map eFl)), .no, .no]) (ds := (altB B.fl far).map eFl) ?A2 (by show 2 ≤ sizeLine; exact szl (by decide)))) (szl (show 4 + 2 ≤ 1000 by decide))) rfl ?_
    case A2 =>
      refine ad_cons (d := eFl ((1 :: (B.fl.headD []).drop 1) :: B.fl.drop 1)) (ed_to (ed_bin (ed_tup (ad_cons (ed_bin (ed_tup (ad_cons ed_int ad_nil rfl) (Nat.le_of_ble_eq_true rfl)) (ed_to (ed_slT (ed_ix (ed_var c 2 rfl (by kspl_open vis) rfl rfl rfl) ed_int ih (fun _ _ => rfl)) (po_yes ed_int) po_no) (congrArg PyData.tuple cd_drop1)) (bd_catT (szl (by simp only [List.length_map, List.length_drop, List.length_take, List.length_dropLast, List.length_cons, List.length_nil, List.length_append]; omega)))) ad_nil rfl) (Nat.le_of_ble_eq_true rfl)) (ed_to (ed_slT (ed_var c 2 rfl (by kspl_open vis) rfl rfl rfl) (po_yes ed_int) po_no) (congrArg PyData.tuple cd_drop1)) (bd_catT (szl (by simp only [List.length_map, List.length_drop, List.length_take, List.length_dropLast, List.length_cons, List.length_nil, List.length_append]; omega)))) rfl) ?B4 rfl
      exact ad_cons (d := eFl (((B.fl.headD []).dropLast ++ [10 + far]) :: B.fl.drop 1)) (ed_to (ed_bin (ed_tup (ad_cons (ed_bin (ed_to (ed_slT (ed_ix (ed_var c 2 rfl (by kspl_open vis) rfl rfl rfl) ed_int ih (fun _ _ => rfl)) po_no (po_yes (un_minus ed_int))) (congrArg PyData.tuple cd_m1)) (ed_tup (ad_cons (ed_bin ed_int (ed_var c 7 rfl (by kspl_open vis) rfl rfl rfl) bd_add) ad_nil rfl) (Nat.le_of_ble_eq_true rfl)) (bd_catT (szl (by simp only [List.length_map, List.length_drop, List.length_take, List.length_dropLast, List.length_cons, List.length_nil, List.length_append]; omega)))) ad_nil rfl) (Nat.le_of_ble_eq_true rfl)) (ed_to (ed_slT (ed_var c 2 rfl (by kspl_open vis) rfl rfl rfl) (po_yes ed_int) po_no) (congrArg PyData.tuple cd_drop1)) (bd_catT (szl (by simp only [List.length_map, List.length_drop, List.length_take, List.length_dropLast, List.length_cons, List.length_nil, List.length_append]; omega)))) (by
        show PyData.tuple ([.tuple ((B.fl.headD []).dropLast.map PyData.int ++ [.int (10 + far)])] ++ (B.fl.drop 1).map eInts) = .tuple (eInts _ :: (B.fl.drop 1).map eInts)
        unfold eInts
        rw [List.map_append]
        rfl)) ad_nil rfl
    refine sd_append c 9 rfl (by kspl_open vis) (ed_to (d' := eFl (altC B.fl)) (ed_bin (ed_tup (ad_cons (ed_bin (ed_to (ed_slT (ed_ix (ed_var c 2 rfl (by kspl_open vis) rfl rfl rfl) ed_int ih (fun _ _ => rfl)) po_no (po_yes (un_minus ed_int))) (congrArg PyData.tuple cd_m1)) (ed_tup (ad_cons ed_int ad_nil rfl) (Nat.le_of_ble_eq_true rfl)) (bd_catT (szl (by simp only [List.length_map, List.length_drop, List.length_take, List.length_dropLast, List.length_cons, List.length_nil, List.length_append]; omega)))) ad_nil rfl) (Nat.le_of_ble_eq_true rfl)) (ed_to (ed_slT (ed_var c 2 rfl (by kspl_open vis) rfl rfl rfl) (po_yes ed_int) po_no) (congrArg PyData.tuple cd_drop1)) (bd_catT (szl (by simp only [List.length_map, List.length_drop, List.length_take, List.length_dropLast, List.length_cons, List.length_nil, List.length_append]; omega)))) (by
        show PyData.tuple ([.tuple ((B.fl.headD []).dropLast.map PyData.int ++ [.int 0])] ++ (B.fl.drop 1).map eInts) = .tuple (eInts _ :: (B.fl.drop 1).map eInts)
        unfold eInts
        rw [List.map_append]
        rfl)) rfl rfl (by show 6 < sizeLine; exact Nat.lt_of_lt_of_le (show 6 < 1000 by decide) (Nat.le_of_ble_eq_true rfl)) ?_ rfl rfl rfl rfl rfl rfl
    refine SD.to (ls := [.rng A A' r, .dat (eBook B), .dat (.tuple (B.fl.map eInts)), .dat (.tuple (B.st.map eRow)), .dat (.tuple (B.ca.map eRow)), .dat (eInts B.bi), .dat (.int (B.n : Int)), .dat (.int far), .dat (.int wy), .own ((alts B.fl far).map eFl), .no, .no]) rfl ?_
    refine sd_ret (k1 := [.rng A A' (nxR (nxR r 7) 2), .dat (eBook B), .dat (.tuple (B.fl.map eInts)), .dat (.tuple (B.st.map eRow)), .dat (.tuple (B.ca.map eRow)), .dat (eInts B.bi), .dat (.int (B.n : Int)), .dat (.int far), .dat (.int wy), .own ((alts B.fl far).map eFl), .no, .no]) (d := .tuple [.tuple [eFl ((alts B.fl far).getD (nxV r 7).toNat []), .tuple (List.replicate (nxV (nxR r 7) 2).toNat (.tuple [.int 0, .int 0, .int 0, .int 0])), .tuple (B.ca.map eRow), eInts B.bi], .str "flights"]) (ed_tup (ad_cons (ed_tup (k1 := [.rng A A' (nxR (nxR r 7) 2), .dat (eBook B), .dat (.tuple (B.fl.map eInts)), .dat (.tuple (B.st.map eRow)), .dat (.tuple (B.ca.map eRow)), .dat (eInts B.bi), .dat (.int (B.n : Int)), .dat (.int far), .dat (.int wy), .own ((alts B.fl far).map eFl), .no, .no]) ?A3 (Nat.le_of_ble_eq_true rfl)) (ad_cons ed_str ad_nil rfl) rfl) (Nat.le_of_ble_eq_true rfl)) ?_
    case A3 =>
      refine ad_cons (own_ix c 9 rfl (by kspl_open vis) (ed_callR c Fn (by decide) rfl 0 rfl (by kspl_open vis) rfl (ad_cons ed_int ad_nil rfl) rfl ⟨7, rfl, by decide, by decide, rfl, rfl⟩ rfl rfl rfl rfl rfl) rfl (by rw [atI_map, atI_of i0 (by show _ < ((7 : Nat) : Int); omega) []]; rfl) (fun _ _ => rfl) rfl rfl rfl) ?B5 rfl
      exact ad_cons (ed_bin (ed_tup (ad_cons (ed_tup (ad_cons ed_int (ad_cons ed_int (ad_cons ed_int (ad_cons ed_int ad_nil rfl) rfl) rfl) rfl) (Nat.le_of_ble_eq_true rfl)) ad_nil rfl) (Nat.le_of_ble_eq_true rfl)) (ed_to (ed_callR c Fn (by decide) rfl 0 rfl (by kspl_open vis) rfl (ad_cons ed_int ad_nil rfl) rfl ⟨2, rfl, by decide, by decide, rfl, rfl⟩ rfl rfl rfl rfl rfl) (show PyData.int (nxV (nxR r 7) 2) = .int (((nxV (nxR r 7) 2).toNat : Nat) : Int) by rw [Int.toNat_of_nonneg j0])) (bd_repT (by omega))) (ad_cons (ed_var c 4 rfl (by kspl_open vis) rfl rfl rfl) (ad_cons (ed_var c 5 rfl (by kspl_open vis) rfl rfl rfl) ad_nil rfl) rfl) rfl
    refine ⟨?_, ?_⟩
    · unfold wrongOf
      rw [if_pos hb]
      show _ = eWr (wrong0 B far r, "flights")
      unfold eWr wrong0 eBook
      rw [List.map_replicate]
      rfl
    · unfold wrongOf
      rw [if_pos hb]
      rfl
  have hw := of_decide_eq_false hb
  refine sd_asg c 10 rfl (by kspl_open loc) (.inl rfl) (Nat.le_of_ble_eq_true rfl) (ed_el (el_lst (k1 := [.rng A A' r, .dat (eBook B), .dat (.tuple (B.fl.map eInts)), .dat (.tuple (B.st.map eRow)), .dat (.tuple (B.ca.map eRow)), .dat (eInts B.bi), .dat (.int (B.n : Int)), .dat (.int far), .dat (.int wy), .no, .no, .no]) (ds := ((bads B.n far).take 6).map eRow) ?A4 (by show 6 ≤ sizeLine; exact szl (by decide)))) rfl ?_
  case A4 =>
    refine ad_cons (d := eRow (0, (B.n : Int) + far, 1, 2)) (ed_tup (ad_cons ed_int (ad_cons (ed_bin (ed_var c 6 rfl (by kspl_open vis) rfl rfl rfl) (ed_var c 7 rfl (by kspl_open vis) rfl rfl rfl) bd_add) (ad_cons ed_int (ad_cons ed_int ad_nil rfl) rfl) rfl) rfl) (Nat.le_of_ble_eq_true rfl)) ?C1 rfl
    refine ad_cons (d := eRow (-1, 0, 1, 2)) (ed_tup (ad_cons (un_minus ed_int) (ad_cons ed_int (ad_cons ed_int (ad_cons ed_int ad_nil rfl) rfl) rfl) rfl) (Nat.le_of_ble_eq_true rfl)) ?C2 rfl
    refine ad_cons (d := eRow (0, 0, 1, 2)) (ed_tup (ad_cons ed_int (ad_cons ed_int (ad_cons ed_int (ad_cons ed_int ad_nil rfl) rfl) rfl) rfl) (Nat.le_of_ble_eq_true rfl)) ?C3 rfl
    refine ad_cons (d := eRow (0, 1, 5, 5)) (ed_tup (ad_cons ed_int (ad_cons ed_int (ad_cons ed_int (ad_cons ed_int ad_nil rfl) rfl) rfl) rfl) (Nat.le_of_ble_eq_true rfl)) ?C4 rfl
    refine ad_cons (d := eRow (1, 0, 6, 5)) (ed_tup (ad_cons ed_int (ad_cons ed_int (ad_cons ed_int (ad_cons ed_int ad_nil rfl) rfl) rfl) rfl) (Nat.le_of_ble_eq_true rfl)) ?C5 rfl
    exact ad_cons (d := eRow (0, 1, -1, 5)) (ed_tup (ad_cons ed_int (ad_cons ed_int (ad_cons (un_minus ed_int) (ad_cons ed_int ad_nil rfl) rfl) rfl) rfl) (Nat.le_of_ble_eq_true rfl)) ad_nil rfl
  refine sd_asg c 10 rfl (by kspl_open loc) (.inl rfl) (Nat.le_of_ble_eq_true rfl) (ed_ix (d := eRow (bad7 B.n far (nxV r 7))) (ed_to (d' := .list ((bads B.n far).map eRow)) (ed_cat (ed_var c 10 rfl (by kspl_open vis) rfl rfl rfl) (ed_el (el_lst (ad_cons (d := eRow (0, 1, 5, 100 + far)) (ed_tup (ad_cons ed_int (ad_cons ed_int (ad_cons ed_int (ad_cons (ed_bin ed_int (ed_var c 7 rfl (by kspl_open vis) rfl rfl rfl) bd_add) ad_nil rfl) rfl) rfl) rfl) (Nat.le_of_ble_eq_true rfl)) ad_nil rfl) (Nat.le_of_ble_eq_true rfl))) (szl (show 6 + 1 ≤ 1000 by decide))) rfl) (ed_callR c Fn (by decide) rfl 0 rfl (by kspl_open vis) rfl (ad_cons ed_int ad_nil rfl) rfl ⟨7, rfl, by decide, by decide, rfl, rfl⟩ rfl rfl rfl rfl rfl) (by show atI ((bads B.n far).map eRow) _ = _; rw [atI_map, atI_of i0 (by show _ < ((7 : Nat) : Int); omega) (0, 0, 1, 2)]; rfl) (fun _ _ => rfl)) rfl ?_
  unfold wrongOf
  rw [if_neg hw]
  generalize bad7 B.n far (nxV r 7) = bad
  generalize nxR r 7 = r at *
  show SD X [.rng A A' r, .dat (eBook B), .dat (.tuple (B.fl.map eInts)), .dat (.tuple (B.st.map eRow)), .dat (.tuple (B.ca.map eRow)), .dat (eInts B.bi), .dat (.int (B.n : Int)), .dat (.int far), .dat (.int wy), .no, .dat (eRow bad), .no] _ _
  refine sd_if (td_cmp (ed_var c 8 rfl (by kspl_open vis) rfl rfl rfl) ed_int (by kspl_open cd) (nomark _)) (fun hb => ?_) (fun hb => sd_nil ?_)
  · have hb := of_decide_eq_true hb
    refine sd_asg c 11 rfl (by kspl_open loc) (.inl rfl) (Nat.le_of_ble_eq_true rfl) (ed_to (d' := .tuple ((wrong1 B bad r).st.map eRow)) (ed_ix (ed_el (el_lst (k1 := [.rng A A' r, .dat (eBook B), .dat (.tuple (B.fl.map eInts)), .dat (.tuple (B.st.map eRow)), .dat (.tuple (B.ca.map eRow)), .dat (eInts B.bi), .dat (.int (B.n : Int)), .dat (.int far), .dat (.int wy), .no, .dat (eRow bad), .no]) (ds := [.tuple ((List.replicate 9 (0, 1, 2, 3)).map eRow), .tuple ((B.st.take 7 ++ [bad]).map eRow)]) ?A5 (Nat.le_of_ble_eq_true rfl))) (ed_callR c Fn (by decide) rfl 0 rfl (by kspl_open vis) rfl (ad_cons ed_int ad_nil rfl) rfl ⟨2, rfl, by decide, by decide, rfl, rfl⟩ rfl rfl rfl rfl rfl) (ix_two j0 j1) (fun _ _ => rfl)) ite_tup) rfl ?_
    case A5 =>
      refine ad_cons (ed_to (ed_bin (ed_tup (ad_cons (ed_tup (ad_cons ed_int (ad_cons ed_int (ad_cons ed_int (ad_cons ed_int ad_nil rfl) rfl) rfl) rfl) (Nat.le_of_ble_eq_true rfl)) ad_nil rfl) (Nat.le_of_ble_eq_true rfl)) ed_int (bd_repT (n := 9) (by decide))) rfl) ?D1 rfl
      exact ad_cons (ed_to (ed_bin (ed_to (ed_slT (ed_var c 3 rfl (by kspl_open vis) rfl rfl rfl) po_no (po_yes ed_int)) (congrArg PyData.tuple (cd_take 7))) (ed_tup (ad_cons (ed_var c 10 rfl (by kspl_open vis) rfl rfl rfl) ad_nil rfl) (Nat.le_of_ble_eq_true rfl)) (bd_catT (szl (by simp only [List.length_map, List.length_drop, List.length_take, List.length_dropLast, List.length_cons, List.length_nil, List.length_append]; omega)))) (by rw [List.map_append]; rfl)) ad_nil rfl
    refine sd_ret (k1 := [.rng A A' (nxR (nxR r 2) 2), .dat (eBook B), .dat (.tuple (B.fl.map eInts)), .dat (.tuple (B.st.map eRow)), .dat (.tuple (B.ca.map eRow)), .dat (eInts B.bi), .dat (.int (B.n : Int)), .dat (.int far), .dat (.int wy), .no, .dat (eRow bad), .dat (.tuple ((wrong1 B bad r).st.map eRow))]) (d := eWr (wrong1 B bad r, "storms")) (ed_tup (ad_cons (ed_tup (k1 := [.rng A A' (nxR (nxR r 2) 2), .dat (eBook B), .dat (.tuple (B.fl.map eInts)), .dat (.tuple (B.st.map eRow)), .dat (.tuple (B.ca.map eRow)), .dat (eInts B.bi), .dat (.int (B.n : Int)), .dat (.int far), .dat (.int wy), .no, .dat (eRow bad), .dat (.tuple ((wrong1 B bad r).st.map eRow))]) ?A6 (Nat.le_of_ble_eq_true rfl)) (ad_cons ed_str ad_nil rfl) rfl) (Nat.le_of_ble_eq_true rfl)) ?_
    case A6 =>
      refine ad_cons (ed_var c 2 rfl (by kspl_open vis) rfl rfl rfl) (ad_cons (ed_var c 11 rfl (by kspl_open vis) rfl rfl rfl) (ad_cons (d := .tuple ((wrong1 B bad r).ca.map eRow)) (ed_to (ed_ix (ed_el (el_lst (ds := [.tuple (B.ca.map eRow), .tuple ([bad].map eRow)]) (ad_cons (ed_var c 4 rfl (by kspl_open vis) rfl rfl rfl) (ad_cons (ed_tup (ad_cons (ed_var c 10 rfl (by kspl_open vis) rfl rfl rfl) ad_nil rfl) (Nat.le_of_ble_eq_true rfl)) ad_nil rfl) rfl) (Nat.le_of_ble_eq_true rfl))) (ed_callR c Fn (by decide) rfl 0 rfl (by kspl_open vis) rfl (ad_cons ed_int ad_nil rfl) rfl ⟨2, rfl, by decide, by decide, rfl, rfl⟩ rfl rfl rfl rfl rfl) (ix_two k0 k1) (fun _ _ => rfl)) ite_tup) (ad_cons (ed_var c 5 rfl (by kspl_open vis) rfl rfl rfl) ad_nil rfl) rfl) rfl) rfl
    rw [if_pos hb]
    exact ⟨rfl, rfl⟩
  have hv := of_decide_eq_false hb
  rw [if_neg hv]
  refine sd_if (td_cmp (ed_var c 8 rfl (by kspl_open vis) rfl rfl rfl) ed_int (by kspl_open cd) (nomark _)) (fun hb => ?_) (fun hb => sd_nil ?_)
  · have hb := of_decide_eq_true hb
    refine sd_asg c 11 rfl (by kspl_open loc) (.inl rfl) (Nat.le_of_ble_eq_true rfl) (ed_to (d' := .tuple ((wrong2 B bad r).ca.map eRow)) (ed_ix (ed_el (el_lst (k1 := [.rng A A' r, .dat (eBook B), .dat (.tuple (B.fl.map eInts)), .dat (.tuple (B.st.map eRow)), .dat (.tuple (B.ca.map eRow)), .dat (eInts B.bi), .dat (.int (B.n : Int)), .dat (.int far), .dat (.int wy), .no, .dat (eRow bad), .no]) (ds := [.tuple ((List.replicate 13 (0, 1, 2, 3)).map eRow), .tuple ((B.ca.take 11 ++ [bad]).map eRow)]) ?A7 (Nat.le_of_ble_eq_true rfl))) (ed_callR c Fn (by decide) rfl 0 rfl (by kspl_open vis) rfl (ad_cons ed_int ad_nil rfl) rfl ⟨2, rfl, by decide, by decide, rfl, rfl⟩ rfl rfl rfl rfl rfl) (ix_two j0 j1) (fun _ _ => rfl)) ite_tup) rfl ?_
    case A7 =>
      refine ad_cons (ed_to (ed_bin (ed_tup (ad_cons (ed_tup (ad_cons ed_int (ad_cons ed_int (ad_cons ed_int (ad_cons ed_int ad_nil rfl) rfl) rfl) rfl) (Nat.le_of_ble_eq_true rfl)) ad_nil rfl) (Nat.le_of_ble_eq_true rfl)) ed_int (bd_repT (n := 13) (by decide))) rfl) ?D2 rfl
      exact ad_cons (ed_to (ed_bin (ed_to (ed_slT (ed_var c 4 rfl (by kspl_open vis) rfl rfl rfl) po_no (po_yes ed_int)) (congrArg PyData.tuple (cd_take 11))) (ed_tup (ad_cons (ed_var c 10 rfl (by kspl_open vis) rfl rfl rfl) ad_nil rfl) (Nat.le_of_ble_eq_true rfl)) (bd_catT (szl (by simp only [List.length_map, List.length_drop, List.length_take, List.length_dropLast, List.length_cons, List.length_nil, List.length_append]; omega)))) (by rw [List.map_append]; rfl)) ad_nil rfl
    refine sd_ret (k1 := [.rng A A' (nxR (nxR r 2) 2), .dat (eBook B), .dat (.tuple (B.fl.map eInts)), .dat (.tuple (B.st.map eRow)), .dat (.tuple (B.ca.map eRow)), .dat (eInts B.bi), .dat (.int (B.n : Int)), .dat (.int far), .dat (.int wy), .no, .dat (eRow bad), .dat (.tuple ((wrong2 B bad r).ca.map eRow))]) (d := eWr (wrong2 B bad r, "carts")) (ed_tup (ad_cons (ed_tup (k1 := [.rng A A' (nxR (nxR r 2) 2), .dat (eBook B), .dat (.tuple (B.fl.map eInts)), .dat (.tuple (B.st.map eRow)), .dat (.tuple (B.ca.map eRow)), .dat (eInts B.bi), .dat (.int (B.n : Int)), .dat (.int far), .dat (.int wy), .no, .dat (eRow bad), .dat (.tuple ((wrong2 B bad r).ca.map eRow))]) ?A8 (Nat.le_of_ble_eq_true rfl)) (ad_cons ed_str ad_nil rfl) rfl) (Nat.le_of_ble_eq_true rfl)) ?_
    case A8 =>
      refine ad_cons (ed_var c 2 rfl (by kspl_open vis) rfl rfl rfl) (ad_cons (ed_var c 3 rfl (by kspl_open vis) rfl rfl rfl) (ad_cons (ed_var c 11 rfl (by kspl_open vis) rfl rfl rfl) (ad_cons (d := eInts (wrong2 B bad r).bi) (ed_to (ed_ix (ed_el (el_lst (ds := [.tuple (B.bi.map .int), .tuple (([99] : List Int).map .int)]) (ad_cons (ed_var c 5 rfl (by kspl_open vis) rfl rfl rfl) (ad_cons (ed_tup (ad_cons ed_int ad_nil rfl) (Nat.le_of_ble_eq_true rfl)) ad_nil rfl) rfl) (Nat.le_of_ble_eq_true rfl))) (ed_callR c Fn (by decide) rfl 0 rfl (by kspl_open vis) rfl (ad_cons ed_int ad_nil rfl) rfl ⟨2, rfl, by decide, by decide, rfl, rfl⟩ rfl rfl rfl rfl rfl) (ix_two k0 k1) (fun _ _ => rfl)) ite_tup) ad_nil rfl) rfl) rfl) rfl
    rw [if_pos hb]
    exact ⟨rfl, rfl⟩
  have hu := of_decide_eq_false hb
  rw [if_neg hu]
  refine sd_ret (k1 := [.rng A A' (nxR r 3), .dat (eBook B), .dat (.tuple (B.fl.map eInts)), .dat (.tuple (B.st.map eRow)), .dat (.tuple (B.ca.map eRow)), .dat (eInts B.bi), .dat (.int (B.n : Int)), .dat (.int far), .dat (.int wy), .no, .dat (eRow bad), .no]) (d := eWr (wrong3 B far r, "birds")) (ed_tup (ad_cons (ed_tup (k1 := [.rng A A' (nxR r 3), .dat (eBook B), .dat (.tuple (B.fl.map eInts)), .dat (.tuple (B.st.map eRow)), .dat (.tuple (B.ca.map eRow)), .dat (eInts B.bi), .dat (.int (B.n : Int)), .dat (.int far), .dat (.int wy), .no, .dat (eRow bad), .no]) ?A9 (Nat.le_of_ble_eq_true rfl)) (ad_cons ed_str ad_nil rfl) rfl) (Nat.le_of_ble_eq_true rfl)) ?_
  case A9 =>
    refine ad_cons (ed_var c 2 rfl (by kspl_open vis) rfl rfl rfl) (ad_cons (ed_var c 3 rfl (by kspl_open vis) rfl rfl rfl) (ad_cons (ed_var c 4 rfl (by kspl_open vis) rfl rfl rfl) (ad_cons (d := eInts (wrong3 B far r).bi) (ed_to (ed_ix (ed_el (el_lst (k1 := [.rng A A' r, .dat (eBook B), .dat (.tuple (B.fl.map eInts)), .dat (.tuple (B.st.map eRow)), .dat (.tuple (B.ca.map eRow)), .dat (eInts B.bi), .dat (.int (B.n : Int)), .dat (.int far), .dat (.int wy), .no, .dat (eRow bad), .no]) (ds := [.tuple ((List.replicate 7 (0 : Int)).map .int), .tuple ((B.bi.take 5 ++ [(B.n : Int) + far]).map .int), .tuple (([-1] : List Int).map .int)]) ?A10 (Nat.le_of_ble_eq_true rfl))) (ed_callR c Fn (by decide) rfl 0 rfl (by kspl_open vis) rfl (ad_cons ed_int ad_nil rfl) rfl ⟨3, rfl, by decide, by decide, rfl, rfl⟩ rfl rfl rfl rfl rfl) (ix_three t0 t1) (fun _ _ => rfl)) ?E1) ad_nil rfl) rfl) rfl) rfl
    case E1 =>
      unfold wrong3 eInts
      dsimp only
      split
      · rfl
      · split <;> rfl
    case A10 =>
      refine ad_cons (ed_to (ed_bin (ed_tup (ad_cons ed_int ad_nil rfl) (Nat.le_of_ble_eq_true rfl)) ed_int (bd_repT (n := 7) (by decide))) rfl) ?F1 rfl
      refine ad_cons (ed_to (ed_bin (ed_to (ed_slT (ed_var c 5 rfl (by kspl_open vis) rfl rfl rfl) po_no (po_yes ed_int)) (congrArg PyData.tuple (cd_take 5))) (ed_tup (ad_cons (ed_bin (ed_var c 6 rfl (by kspl_open vis) rfl rfl rfl) (ed_var c 7 rfl (by kspl_open vis) rfl rfl rfl) bd_add) ad_nil rfl) (Nat.le_of_ble_eq_true rfl)) (bd_catT (szl (by simp only [List.length_map, List.length_take, List.length_cons, List.length_nil]; omega)))) (by rw [List.map_append]; rfl)) ?F2 rfl
      exact ad_cons (ed_tup (ad_cons (un_minus ed_int) ad_nil rfl) (Nat.le_of_ble_eq_true rfl)) ad_nil rfl
  exact ⟨rfl, rfl⟩
end
end K
namespace K
open PySem L2 Z
section
variable {P : Program} {w : World} {K : PySem.W.Frag} {mg : Str → Option Value} {base : Heap} [LamC]
-- use Ta Tb Tc Td Te Tf Tg Th Ti
/-! ### postings that are none, the great book, words -/
section
variable {B : Book} {ps : Posting} {far : Int}
theorem home_at {i : Nat} (h : i < B.bi.length) : (B.bi ++ [0]).getD i 0 = B.home (i : Int) := by
  unfold Z.Book.home
  rw [Int.toNat_natCast, List.getD_eq_getElem?_getD, List.getD_eq_getElem?_getD, List.getElem?_append_left h]
theorem odd_len {qs : Posting} (h : qs.length ≠ B.bi.length) : ¬ GoodPost B qs := fun g => h g.len
theorem odd_at {qs : Posting} {i : Nat} {o t : Int} (hq : qs[i]? = some (some (o, t))) (h : ¬ B.off o ∨ o = B.home (i : Int) ∨ t < 0) : ¬ GoodPost B qs := fun g => by
  obtain ⟨a, b, c⟩ := g.at_ i o t hq
  rcases h with h | h | h
  · exact h a
  · exact b h
  · omega
/-- the law's odd postings -/
def odds (B : Book) (ps : Posting) (far : Int) (at_ : Nat) : List Posting :=
  [ps ++ [none], some (far, 0) :: ps.drop 1, some ((B.bi ++ [0]).getD 0 0, 0) :: ps.drop 1, some (1 - min 1 ((B.bi ++ [0]).getD 0 0), -1) :: ps.drop 1, ps.take at_ ++ [some ((B.bi ++ [0]).getD at_ 0, 0)] ++ ps.drop (at_ + 1), ps.take at_ ++ [some (far, 0)] ++ ps.drop (at_ + 1)]
theorem odds_no (gp : GoodPost B ps) (hf : ¬ B.off far) (hn : ps ≠ []) {at_ : Nat} (ha : at_ ≤ ps.length) {qs : Posting} (h : qs ∈ odds B ps far at_) : ¬ GoodPost B qs := by
  have hl := gp.len
  have h0 : 0 < ps.length := List.length_pos_iff.mpr hn
  have mid : ∀ x : Option (Int × Int), at_ < ps.length → (ps.take at_ ++ [x] ++ ps.drop (at_ + 1))[at_]? = some x := fun x h => by
    rw [List.append_assoc, List.getElem?_append_right (by rw [List.length_take]; omega), List.length_take, Nat.min_eq_left (by omega), Nat.sub_self]
    rfl
  have lon : ∀ x : Option (Int × Int), ¬ at_ < ps.length → (ps.take at_ ++ [x] ++ ps.drop (at_ + 1)).length ≠ B.bi.length := fun x h => by
    simp
    omega
  simp only [odds, List.mem_cons, List.not_mem_nil, or_false] at h
  rcases h with rfl | rfl | rfl | rfl | rfl | rfl
  · exact odd_len (by simp; omega)
  · exact odd_at (i := 0) rfl (.inl hf)
  · exact odd_at (i := 0) rfl (.inr (.inl (home_at (by omega))))
  · exact odd_at (i := 0) rfl (.inr (.inr (by decide)))
  · by_cases q : at_ < ps.length
    · exact odd_at (mid _ q) (.inr (.inl (home_at (by omega))))
    · exact odd_len (lon _ q)
  · by_cases q : at_ < ps.length
    · exact odd_at (mid _ q) (.inl hf)
    · exact odd_len (lon _ q)
theorem odd_nil (gp : GoodPost B []) : ¬ GoodPost B [some (0, 0)] := odd_len (by have := gp.len; simp at this; simp; omega)
end
def greatRow (k : Int) : List Int := List.replicate k.toNat 1 ++ [0] ++ List.replicate (5 - k).toNat 9
def great : Book := ⟨[0, 1, 2, 3, 4, 5].map greatRow, List.replicate 8 (0, 1, 0, 99), List.replicate 12 (5, 0, 98, 99), [0, 5, 5, 5, 5, 5]⟩
theorem great_good : Good great where
  n2 := by decide
  n6 := by decide
  rows := by decide
  vals := fun o h ho hh => by
    have e : great.n = 6 := rfl
    have o0 := ho.1
    have o1 := ho.2
    have h0 := hh.1
    have h1 := hh.2
    rw [e] at o1 h1
    have a : o = 0 ∨ o = 1 ∨ o = 2 ∨ o = 3 ∨ o = 4 ∨ o = 5 := by omega
    have b : h = 0 ∨ h = 1 ∨ h = 2 ∨ h = 3 ∨ h = 4 ∨ h = 5 := by omega
    rcases a with rfl | rfl | rfl | rfl | rfl | rfl <;> rcases b with rfl | rfl | rfl | rfl | rfl | rfl <;> decide
  st := fun r hr => by
    rw [List.eq_of_mem_replicate hr]
    exact ⟨⟨by decide, by decide⟩, ⟨by decide, by decide⟩, by decide, by decide, by decide, by decide⟩
  stl := by decide
  ca := fun r hr => by
    rw [List.eq_of_mem_replicate hr]
    exact ⟨⟨by decide, by decide⟩, ⟨by decide, by decide⟩, by decide, by decide, by decide, by decide⟩
  cal := by decide
  bi := fun h hh => by
    have : h = 0 ∨ h = 5 := by simp [great] at hh; omega
    rcases this with rfl | rfl <;> exact ⟨by decide, by decide⟩
  bil := by decide
def greatPs : Posting := some (5, 0) :: List.replicate 5 none
theorem great_post : GoodPost great greatPs := ⟨rfl, fun i o t h => by
  match i, h with
  | 0, h =>
    cases h
    exact ⟨⟨by decide, by decide⟩, by decide, by decide⟩
  | i + 1, h =>
    have h : (List.replicate 5 (none : Option (Int × Int)))[i]? = some (some (o, t)) := h
    have := List.eq_of_mem_replicate (List.mem_of_getElem? h)
    cases this⟩
def okW (x : Str) : Prop := ∀ c ∈ x.cps.toList, c < 1114112
theorem shp_wd {n : Nat} {x : Str} (h : okW x) : Shp n (.str x) := ⟨by
  show x.cps.all _ = true
  rw [← Array.all_toList]
  exact List.all_eq_true.mpr fun c hc => decide_eq_true (h c hc), by simp [PyData.depth]⟩
theorem eqv_wd (a b : Str) : PyData.eqv (.str a) (.str b) = decide (a = b) := eqv_dec rfl rfl ⟨fun h => by cases h; rfl, fun h => by rw [h]⟩
theorem why_ok {B : Book} {x : Str} (h : whyB B x) : okW x := by
  rcases h with ⟨_, rfl⟩ | ⟨_, _, rfl⟩ | ⟨_, _, _, rfl⟩ | ⟨_, _, _, _, rfl⟩ <;> (unfold okW; decide)
theorem post_ok : okW "posting" := by unfold okW; decide
theorem off_ok : okW "office" := by unfold okW; decide
theorem great_k {k : Int} (h : k ∈ ([0, 1, 2, 3, 4, 5] : List Int)) : 0 ≤ k ∧ k ≤ 5 := by
  simp only [List.mem_cons, List.not_mem_nil, or_false] at h
  omega
theorem cd_drop {α : Type} {f : α → PyData} {l : List α} (k : Nat) : cutD (l.map f) (some (k : Int)) none = (l.drop k).map f := by
  rw [cutD_map]
  unfold cutG
  rw [HT.sIx_none, HT.sIx_nat]
  by_cases h : k ≤ l.length
  · rw [Nat.min_eq_left h, List.take_of_length_le (by rw [List.length_drop]; exact Nat.le_refl _)]
  · rw [Nat.min_eq_right (by omega), Nat.sub_self, List.take_zero, List.drop_eq_nil_of_le (by omega)]
theorem shp_post (ps : Posting) : Shp 2 (ePost ps) := .tuple (allM fun x _ => by
  cases x with
  | none => exact .non
  | some p => exact .tuple (allC (.int _) (allC (.int _) allN)))
end
end K
namespace K
open PySem L2 Z
section
variable {P : Program} {w : World} {K : PySem.W.Frag} {mg : Str → Option Value} {base : Heap} [LamC]
-- use Ta Tb Tc Td Te Tf Tg Th Ti Tj
/-! ### the law -/
def R_law (ds : List PyData) (d : PyData) : Prop := ∃ ns : List Int, ds = [.list (ns.map .int)] ∧ ns.length ≤ 63 ∧ d = .bool true
theorem ite_int {p : Prop} [Decidable p] {a b : Int} : (if p then PyData.int a else .int b) = .int (if p then a else b) := by split <;> rfl
theorem ok_law (M : Md K mg) {f : Addr} {fd : FuncData} (F : FunC K "law" s_law f fd LamC.cc) (TB : LamX.TabB base mg LamC.cc LamC.tt) : L2.FnOk P w K mg base L2.CX0 13 f fd ["_law_script"] (spP K R_law) := by
  obtain ⟨aPostError, aBadBook, aNoOffice, aBadPosting, aNoPosting, aBadText, E⟩ := M.exs
  obtain ⟨C, gr⟩ := M.g_Ground
  have Fn := ok_next (P := P) (w := w) (base := base) M
  have Fb := ok_book (P := P) (w := w) (base := base) M
  have Fp := ok_law_posting (P := P) (w := w) (base := base) M
  have Fw := ok_law_wrong (P := P) (w := w) (base := base) M
  have Fask := ok_law_askX (P := P) (w := w) (base := base) M E gr
  have Fplain := ok_law_plainX (P := P) (w := w) (base := base) M E
  have Fch := ok_choicesX (P := P) (w := w) (base := base) M E
  have Fpo := ok_need_postingXX (P := P) (w := w) (base := base) M E
  have Fnb := ok_need_book (P := P) (w := w) (base := base) M
  have Fnp := ok_need_posting (P := P) (w := w) (base := base) M

  refine ok_sdC (N := ["_law_script", "_law_h", "_law_book_here", "_law_posting_here", "_law_far", "_law_home", "_law_odd", "_law_at", "_law_bad", "_law_wrong_here", "_law_why", "_law_way_of", "_law_rows", "_law_great", "_law_k"]) F TB rfl (List.mem_singleton.mpr rfl) (fun p hp _ => by rw [List.mem_singleton.mp (show p ∈ [_] from hp)]; rfl) ⟨rfl, rfl, rfl, by decide +kernel, rfl, by decide +kernel, by decide +kernel⟩ (fun ds d ⟨_, e, _⟩ => by rw [e]; rfl) (by decide) (fun X c L ds d hR => ?_)
  obtain ⟨ns, rfl, hl, rfl⟩ := hR
  show SD X [.dat (.list (ns.map .int)), .no, .no, .no, .no, .no, .no, .no, .no, .no, .no, .no, .no, .no, .no] _ _
  refine sd_rngNew c 1 rfl (by kspl_open loc) (.inl rfl) (Nat.le_of_ble_eq_true rfl) rfl M.b_list (ed_var c 0 rfl (by kspl_open vis) rfl rfl rfl) rfl rfl (fun A A' => ?_)
  generalize (⟨61, ns, 0⟩ : Rg) = r0
  have g := lawBook_good (n := 6) (b := 6) (r := r0) (by decide) (by decide) (by decide) (by decide)
  refine sd_asg c 2 rfl (by kspl_open loc) (.inl rfl) (Nat.le_of_ble_eq_true rfl) (ed_callR c Fb (by decide) rfl 1 rfl (by kspl_open vis) rfl (ad_cons ed_int (ad_cons ed_int ad_nil rfl) rfl) rfl ⟨6, 6, rfl, by decide, by decide, by decide, by decide, rfl, rfl⟩ rfl rfl rfl rfl rfl) rfl ?_
  show SD X [.dat (.list (ns.map .int)), .rng A A' ((bkB 6 6 r0).2), .dat (eBook (lawBook 6 6 r0)), .no, .no, .no, .no, .no, .no, .no, .no, .no, .no, .no, .no] _ _
  generalize lawBook 6 6 r0 = B at g ⊢
  generalize (bkB 6 6 r0).2 = r1
  have n2 := g.n2
  have n6 := g.n6
  have bil := g.bil
  refine sd_asg c 3 rfl (by kspl_open loc) (.inl rfl) (Nat.le_of_ble_eq_true rfl) (ed_callR c Fp (by decide) rfl 1 rfl (by kspl_open vis) rfl (ad_cons (ed_var c 2 rfl (by kspl_open vis) rfl rfl rfl) ad_nil rfl) rfl ⟨B, rfl, g, rfl, rfl⟩ rfl rfl rfl rfl rfl) rfl ?_
  have gp := lawPost_good g (r := r1)
  show SD X [.dat (.list (ns.map .int)), .rng A A' ((lawPost B r1).2), .dat (eBook B), .dat (ePost (lawPost B r1).1), .no, .no, .no, .no, .no, .no, .no, .no, .no, .no, .no] _ _
  generalize (lawPost B r1).1 = ps at gp ⊢
  generalize (lawPost B r1).2 = r2
  have pl := gp.len
  have a0 := nxV_0 (r := r2) (m := 99) (by decide)
  have b0 := nxV_0 (r := nxR r2 99) (m := 99) (by decide)
  have c0 := nxV_0 (r := nxR (nxR r2 99) 99) (m := 2) (by decide)
  have c1 := nxV_1 (r := nxR (nxR r2 99) 99) (m := 2) (by decide)
  have hfar : ¬ B.off (if nxV (nxR (nxR r2 99) 99) 2 = 0 then (B.n : Int) + nxV r2 99 else -1 - nxV (nxR r2 99) 99) := fun z => by
    have z0 := z.1
    have z1 := z.2
    by_cases q : nxV (nxR (nxR r2 99) 99) 2 = 0
    · rw [if_pos q] at z1
      have : (B.n : Int) + nxV r2 99 < (B.n : Int) := z1
      omega
    · rw [if_neg q] at z0
      omega
  refine sd_asg c 4 rfl (by kspl_open loc) (.inl rfl) (Nat.le_of_ble_eq_true rfl) (ed_to (d' := .int (if nxV (nxR (nxR r2 99) 99) 2 = 0 then (B.n : Int) + nxV r2 99 else -1 - nxV (nxR r2 99) 99)) (ed_ix (ed_el (el_lst (ad_cons (ed_bin (ed_to (d' := .int (B.n : Int)) (ed_callB c rfl M.b_len PySem.boot_len (ad_cons (ed_ix (ed_var c 2 rfl (by kspl_open vis) rfl rfl rfl) ed_int rfl (fun _ _ => rfl)) ad_nil rfl) (by kspl_open cl) (by decide) rfl rfl rfl) (by rw [List.length_map])) (ed_callR c Fn (by decide) rfl 1 rfl (by kspl_open vis) rfl (ad_cons ed_int ad_nil rfl) rfl ⟨99, rfl, by decide, by decide, rfl, rfl⟩ rfl rfl rfl rfl rfl) bd_add) (ad_cons (ed_bin (un_minus ed_int) (ed_callR c Fn (by decide) rfl 1 rfl (by kspl_open vis) rfl (ad_cons ed_int ad_nil rfl) rfl ⟨99, rfl, by decide, by decide, rfl, rfl⟩ rfl rfl rfl rfl rfl) bd_sub) ad_nil rfl) rfl) (Nat.le_of_ble_eq_true rfl))) (ed_callR c Fn (by decide) rfl 1 rfl (by kspl_open vis) rfl (ad_cons ed_int ad_nil rfl) rfl ⟨2, rfl, by decide, by decide, rfl, rfl⟩ rfl rfl rfl rfl rfl) (ix_two c0 c1) (fun _ _ => rfl)) ite_int) rfl ?_
  generalize (if nxV (nxR (nxR r2 99) 99) 2 = 0 then (B.n : Int) + nxV r2 99 else -1 - nxV (nxR r2 99) 99) = far at hfar ⊢
  generalize nxR (nxR (nxR r2 99) 99) 2 = r3
  have ibi : ∀ j : Nat, j ≤ B.bi.length → ixD (.tuple (B.bi.map .int ++ [.int 0])) (j : Int) = some (.int ((B.bi ++ [0]).getD j 0)) := fun j hj => by
    rw [show B.bi.map PyData.int ++ [.int 0] = (B.bi ++ [0]).map .int by rw [List.map_append]; rfl]
    show atI ((B.bi ++ [0]).map PyData.int) _ = _
    rw [atI_map, atI_of (by omega) (by rw [List.length_append, List.length_singleton]; omega) 0, Int.toNat_natCast]
    rfl
  refine sd_asg c 5 rfl (by kspl_open loc) (.inl rfl) (Nat.le_of_ble_eq_true rfl) (ed_ix (ed_bin (ed_ix (ed_var c 2 rfl (by kspl_open vis) rfl rfl rfl) ed_int rfl (fun _ _ => rfl)) (ed_tup (ad_cons ed_int ad_nil rfl) (Nat.le_of_ble_eq_true rfl)) (bd_catT (szl (by simp only [List.length_map, List.length_cons, List.length_nil]; omega)))) ed_int (ibi 0 (Nat.zero_le _)) (fun _ _ => rfl)) rfl ?_
  show SD X [.dat (.list (ns.map .int)), .rng A A' (r3), .dat (eBook B), .dat (ePost ps), .dat (.int far), .dat (.int ((B.bi ++ [0]).getD 0 0)), .no, .no, .no, .no, .no, .no, .no, .no, .no] _ _
  refine sd_asgL c 6 rfl (by kspl_open loc) (.inl rfl) (Nat.le_of_ble_eq_true rfl) (el_lst (k1 := [.dat (.list (ns.map .int)), .rng A A' (r3), .dat (eBook B), .dat (ePost ps), .dat (.int far), .dat (.int ((B.bi ++ [0]).getD 0 0)), .no, .no, .no, .no, .no, .no, .no, .no, .no]) (ds := [ps ++ [none], some (far, 0) :: ps.drop 1, some ((B.bi ++ [0]).getD 0 0, 0) :: ps.drop 1].map ePost) ?A1 (szl (show 3 ≤ 1000 by decide))) rfl ?_
  case A1 =>
    refine ad_cons (ed_to (ed_bin (ed_var c 3 rfl (by kspl_open vis) rfl rfl rfl) (ed_tup (ad_cons ed_non ad_nil rfl) (Nat.le_of_ble_eq_true rfl)) (bd_catT (szl (by simp only [List.length_map, List.length_drop, List.length_take, List.length_cons, List.length_nil, List.length_append]; omega)))) (by unfold ePost; rw [List.map_append]; rfl)) ?B1 rfl
    refine ad_cons (ed_to (ed_bin (ed_tup (ad_cons (ed_tup (ad_cons (ed_var c 4 rfl (by kspl_open vis) rfl rfl rfl) (ad_cons ed_int ad_nil rfl) rfl) (Nat.le_of_ble_eq_true rfl)) ad_nil rfl) (Nat.le_of_ble_eq_true rfl)) (ed_to (ed_slT (ed_var c 3 rfl (by kspl_open vis) rfl rfl rfl) (po_yes ed_int) po_no) (congrArg PyData.tuple cd_drop1)) (bd_catT (szl (by simp only [List.length_map, List.length_drop, List.length_take, List.length_cons, List.length_nil, List.length_append]; omega)))) rfl) ?B2 rfl
    exact ad_cons (ed_to (ed_bin (ed_tup (ad_cons (ed_tup (ad_cons (ed_var c 5 rfl (by kspl_open vis) rfl rfl rfl) (ad_cons ed_int ad_nil rfl) rfl) (Nat.le_of_ble_eq_true rfl)) ad_nil rfl) (Nat.le_of_ble_eq_true rfl)) (ed_to (ed_slT (ed_var c 3 rfl (by kspl_open vis) rfl rfl rfl) (po_yes ed_int) po_no) (congrArg PyData.tuple cd_drop1)) (bd_catT (szl (by simp only [List.length_map, List.length_drop, List.length_take, List.length_cons, List.length_nil, List.length_append]; omega)))) rfl) ad_nil rfl
  refine sd_append c 6 rfl (by kspl_open vis) (ed_to (d' := ePost (some (1 - min 1 ((B.bi ++ [0]).getD 0 0), -1) :: ps.drop 1)) (ed_bin (ed_tup (ad_cons (ed_tup (ad_cons (ed_bin ed_int (ed_callB c rfl M.b_min PyProof.Rows.boot_min (ad_cons ed_int (ad_cons (ed_var c 5 rfl (by kspl_open vis) rfl rfl rfl) ad_nil rfl) rfl) (cl_min2 c.calm) (by decide) rfl rfl rfl) bd_sub) (ad_cons (un_minus ed_int) ad_nil rfl) rfl) (Nat.le_of_ble_eq_true rfl)) ad_nil rfl) (Nat.le_of_ble_eq_true rfl)) (ed_to (ed_slT (ed_var c 3 rfl (by kspl_open vis) rfl rfl rfl) (po_yes ed_int) po_no) (congrArg PyData.tuple cd_drop1)) (bd_catT (szl (by simp only [List.length_map, List.length_drop, List.length_take, List.length_cons, List.length_nil, List.length_append]; omega)))) rfl) rfl rfl (Nat.lt_of_lt_of_le (show 3 < 1000 by decide) (Nat.le_of_ble_eq_true rfl)) ?_ rfl rfl rfl rfl rfl rfl
  have t0 := nxV_0 (r := r3) (m := (ps.length : Int) + 1) (by omega)
  have t1 := nxV_1 (r := r3) (m := (ps.length : Int) + 1) (by omega)
  refine sd_asg c 7 rfl (by kspl_open loc) (.inl rfl) (Nat.le_of_ble_eq_true rfl) (ed_callR c Fn (by decide) rfl 1 rfl (by kspl_open vis) rfl (ad_cons (ed_to (d' := .int ((ps.length : Int) + 1)) (ed_bin (ed_callB c rfl M.b_len PySem.boot_len (ad_cons (ed_var c 3 rfl (by kspl_open vis) rfl rfl rfl) ad_nil rfl) (by kspl_open cl) (by decide) rfl rfl rfl) ed_int bd_add) (by rw [List.length_map])) ad_nil rfl) rfl ⟨_, rfl, by omega, by omega, rfl, rfl⟩ rfl rfl rfl rfl rfl) rfl ?_
  obtain ⟨at_, hat⟩ : ∃ n : Nat, nxV r3 ((ps.length : Int) + 1) = (n : Int) := ⟨(nxV r3 ((ps.length : Int) + 1)).toNat, by omega⟩
  rw [hat] at t0 t1 ⊢
  generalize nxR r3 ((ps.length : Int) + 1) = r4
  have hal : at_ ≤ ps.length := by omega
  show SD X [.dat (.list (ns.map .int)), .rng A A' (r4), .dat (eBook B), .dat (ePost ps), .dat (.int far), .dat (.int ((B.bi ++ [0]).getD 0 0)), .own ([ps ++ [none], some (far, 0) :: ps.drop 1, some ((B.bi ++ [0]).getD 0 0, 0) :: ps.drop 1, some (1 - min 1 ((B.bi ++ [0]).getD 0 0), -1) :: ps.drop 1].map ePost), .dat (.int (at_ : Int)), .no, .no, .no, .no, .no, .no, .no] _ _
  refine sd_append c 6 rfl (by kspl_open vis) (ed_to (d' := ePost (ps.take at_ ++ [some ((B.bi ++ [0]).getD at_ 0, 0)] ++ ps.drop (at_ + 1))) (ed_bin (ed_bin (ed_to (ed_slT (ed_var c 3 rfl (by kspl_open vis) rfl rfl rfl) po_no (po_yes (ed_var c 7 rfl (by kspl_open vis) rfl rfl rfl))) (congrArg PyData.tuple (cd_take at_))) (ed_tup (ad_cons (ed_tup (ad_cons (ed_ix (ed_bin (ed_ix (ed_var c 2 rfl (by kspl_open vis) rfl rfl rfl) ed_int rfl (fun _ _ => rfl)) (ed_tup (ad_cons ed_int ad_nil rfl) (Nat.le_of_ble_eq_true rfl)) (bd_catT (szl (by simp only [List.length_map, List.length_cons, List.length_nil]; omega)))) (ed_var c 7 rfl (by kspl_open vis) rfl rfl rfl) (ibi at_ (by omega)) (fun _ _ => rfl)) (ad_cons ed_int ad_nil rfl) rfl) (Nat.le_of_ble_eq_true rfl)) ad_nil rfl) (Nat.le_of_ble_eq_true rfl)) (bd_catT (szl (by simp only [List.length_map, List.length_drop, List.length_take, List.length_cons, List.length_nil, List.length_append]; omega)))) (ed_to (ed_slT (ed_var c 3 rfl (by kspl_open vis) rfl rfl rfl) (po_yes (ed_to (d' := .int ((at_ + 1 : Nat) : Int)) (ed_bin (ed_var c 7 rfl (by kspl_open vis) rfl rfl rfl) ed_int bd_add) (by rw [Int.natCast_add]; rfl))) po_no) (congrArg PyData.tuple (cd_drop (at_ + 1)))) (bd_catT (szl (by simp only [List.length_map, List.length_drop, List.length_take, List.length_cons, List.length_nil, List.length_append]; omega)))) (by unfold ePost; rw [List.map_append, List.map_append]; rfl)) rfl rfl (Nat.lt_of_lt_of_le (show 4 < 1000 by decide) (Nat.le_of_ble_eq_true rfl)) ?_ rfl rfl rfl rfl rfl rfl
  refine sd_append c 6 rfl (by kspl_open vis) (ed_to (d' := ePost (ps.take at_ ++ [some (far, 0)] ++ ps.drop (at_ + 1))) (ed_bin (ed_bin (ed_to (ed_slT (ed_var c 3 rfl (by kspl_open vis) rfl rfl rfl) po_no (po_yes (ed_var c 7 rfl (by kspl_open vis) rfl rfl rfl))) (congrArg PyData.tuple (cd_take at_))) (ed_tup (ad_cons (ed_tup (ad_cons (ed_var c 4 rfl (by kspl_open vis) rfl rfl rfl) (ad_cons ed_int ad_nil rfl) rfl) (Nat.le_of_ble_eq_true rfl)) ad_nil rfl) (Nat.le_of_ble_eq_true rfl)) (bd_catT (szl (by simp only [List.length_map, List.length_drop, List.length_take, List.length_cons, List.length_nil, List.length_append]; omega)))) (ed_to (ed_slT (ed_var c 3 rfl (by kspl_open vis) rfl rfl rfl) (po_yes (ed_to (d' := .int ((at_ + 1 : Nat) : Int)) (ed_bin (ed_var c 7 rfl (by kspl_open vis) rfl rfl rfl) ed_int bd_add) (by rw [Int.natCast_add]; rfl))) po_no) (congrArg PyData.tuple (cd_drop (at_ + 1)))) (bd_catT (szl (by simp only [List.length_map, List.length_drop, List.length_take, List.length_cons, List.length_nil, List.length_append]; omega)))) (by unfold ePost; rw [List.map_append, List.map_append]; rfl)) rfl rfl (Nat.lt_of_lt_of_le (show 5 < 1000 by decide) (Nat.le_of_ble_eq_true rfl)) ?_ rfl rfl rfl rfl rfl rfl
  show SD X [.dat (.list (ns.map .int)), .rng A A' (r4), .dat (eBook B), .dat (ePost ps), .dat (.int far), .dat (.int ((B.bi ++ [0]).getD 0 0)), .own ((odds B ps far at_).map ePost), .dat (.int (at_ : Int)), .no, .no, .no, .no, .no, .no, .no] _ _
  refine sd_asgE (α := Rg × Posting) (fun a => [.dat (.list (ns.map .int)), .rng A A' (a.1), .dat (eBook B), .dat (ePost ps), .dat (.int far), .dat (.int ((B.bi ++ [0]).getD 0 0)), .own ((odds B ps far at_).map ePost), .dat (.int (at_ : Int)), .no, .no, .no, .no, .no, .no, .no]) (fun a => ePost a.2) (fun a => ¬ GoodPost B a.2) c 8 rfl (by kspl_open loc) (.inl rfl) ?E rfl (fun a hbad => ?_)
  case E =>
    by_cases q : ps = []
    · refine ⟨(r4, [some (0, 0)]), ed_if (x := false) (td_to (td_cmp (ed_var c 3 rfl (by kspl_open vis) rfl rfl rfl) (ed_tup ad_nil (Nat.le_of_ble_eq_true rfl)) (cd_neD c (Shp.ok (n := 2) (shp_post _) (by decide)) (Shp.ok (n := 1) (.tuple allN) (by decide))) (nomark _)) (by rw [q]; rfl)) (fun z => by cases z) (fun _ => ed_tup (ad_cons (ed_tup (ad_cons ed_int (ad_cons ed_int ad_nil rfl) rfl) (Nat.le_of_ble_eq_true rfl)) ad_nil rfl) (Nat.le_of_ble_eq_true rfl)), Nat.le_of_ble_eq_true rfl, by subst q; exact odd_nil gp⟩
    · have i0 := nxV_0 (r := r4) (m := 6) (by decide)
      have i1 := nxV_1 (r := r4) (m := 6) (by decide)
      have hlo : (nxV r4 6).toNat < (odds B ps far at_).length := by show _ < 6; omega
      refine ⟨(nxR r4 6, (odds B ps far at_).getD (nxV r4 6).toNat []), ed_if (x := true) (td_to (td_cmp (ed_var c 3 rfl (by kspl_open vis) rfl rfl rfl) (ed_tup ad_nil (Nat.le_of_ble_eq_true rfl)) (cd_neD c (Shp.ok (n := 2) (shp_post _) (by decide)) (Shp.ok (n := 1) (.tuple allN) (by decide))) (nomark _)) (by
        cases h : ps with
        | nil => exact absurd h q
        | cons x l => rfl)) (fun _ => own_ix c 6 rfl (by kspl_open vis) (ed_callR c Fn (by decide) rfl 1 rfl (by kspl_open vis) rfl (ad_cons ed_int ad_nil rfl) rfl ⟨6, rfl, by decide, by decide, rfl, rfl⟩ rfl rfl rfl rfl rfl) rfl (by rw [atI_map, atI_of i0 (by show _ < ((6 : Nat) : Int); omega) []]; rfl) (fun _ _ => rfl) rfl rfl rfl) (fun z => by cases z), Nat.le_of_ble_eq_true rfl, odds_no gp hfar q hal ?_⟩
      rw [List.getD_eq_getElem?_getD, List.getElem?_eq_getElem hlo]
      exact List.getElem_mem hlo
  obtain ⟨r5, bad⟩ := a
  have hbad : ¬ GoodPost B bad := hbad
  show SD X [.dat (.list (ns.map .int)), .rng A A' (r5), .dat (eBook B), .dat (ePost ps), .dat (.int far), .dat (.int ((B.bi ++ [0]).getD 0 0)), .own ((odds B ps far at_).map ePost), .dat (.int (at_ : Int)), .dat (ePost bad), .no, .no, .no, .no, .no, .no] _ _
  refine sd_unpack c (ed_callR c Fw (by decide) rfl 1 rfl (by kspl_open vis) rfl (ad_cons (ed_var c 2 rfl (by kspl_open vis) rfl rfl rfl) ad_nil rfl) rfl ⟨B, rfl, g, rfl, rfl⟩ rfl rfl rfl rfl rfl) (gd_tup c (gs_cons c 9 rfl (by kspl_open loc) (by kspl_open loc) (gs_cons c 10 rfl (by kspl_open loc) (by kspl_open loc) gs_nil rfl) rfl) rfl rfl) rfl rfl rfl rfl ?_
  have hw := wrong_why g (w := nxV (nxR r5 99) 4) (nxV_0 (r := r5) (m := 99) (by decide)) (r := nxR (nxR r5 99) 4)
  show SD X [.dat (.list (ns.map .int)), .rng A A' ((lawWrong B r5).2), .dat (eBook B), .dat (ePost ps), .dat (.int far), .dat (.int ((B.bi ++ [0]).getD 0 0)), .own ((odds B ps far at_).map ePost), .dat (.int (at_ : Int)), .dat (ePost bad), .dat (eBook (lawWrong B r5).1.1), .dat (.str (lawWrong B r5).1.2), .no, .no, .no, .no] _ _
  have hw : whyB (lawWrong B r5).1.1 (lawWrong B r5).1.2 := hw
  generalize (lawWrong B r5).1.1 = BW at hw ⊢
  generalize (lawWrong B r5).1.2 = wy at hw ⊢
  generalize (lawWrong B r5).2 = r6
  have wok := why_ok hw
  have q1 : rfP BW bad False (.book wy) := .inl ⟨wy, hw, rfl⟩
  have q2 : rfP B bad False .post := .inr (.inl ⟨g, hbad, rfl⟩)
  have q3 : rfP B ps False .off := .inr (.inr ⟨g, gp, fun z => z, rfl⟩)
  have q4 : rfG BW False (.book wy) := .inl ⟨wy, hw, rfl⟩
  have q5 : rfG B False .off := .inr ⟨g, fun z => z, rfl⟩
  show SD X [.dat (.list (ns.map .int)), .rng A A' (r6), .dat (eBook B), .dat (ePost ps), .dat (.int far), .dat (.int ((B.bi ++ [0]).getD 0 0)), .own ((odds B ps far at_).map ePost), .dat (.int (at_ : Int)), .dat (ePost bad), .dat (eBook BW), .dat (.str wy), .no, .no, .no, .no] _ _
  refine sd_for c (fun _ => [.dat (.list (ns.map .int)), .rng A A' (r6), .dat (eBook B), .dat (ePost ps), .dat (.int far), .dat (.int ((B.bi ++ [0]).getD 0 0)), .own ((odds B ps far at_).map ePost), .dat (.int (at_ : Int)), .dat (ePost bad), .dat (eBook BW), .dat (.str wy), .no, .no, .no, .no]) (id_range c rfl M.b_range ed_int (by decide) rfl) (gd_name c 11 rfl (by kspl_open loc) (by kspl_open loc)) Wk.rfl' (fun i d hd => ?_) ?_ (fun _ => rfl)
  · obtain ⟨hi, rfl⟩ := rngD_inv hd
    have hi : i < 13 := hi
    refine ⟨_, rfl, ?_⟩
    show SD X [.dat (.list (ns.map .int)), .rng A A' (r6), .dat (eBook B), .dat (ePost ps), .dat (.int far), .dat (.int ((B.bi ++ [0]).getD 0 0)), .own ((odds B ps far at_).map ePost), .dat (.int (at_ : Int)), .dat (ePost bad), .dat (eBook BW), .dat (.str wy), .dat (.int (i : Nat)), .no, .no, .no] _ _
    refine sd_ifF (td_to (td_cmp (ed_lamK (k := 10) c L M.d__law_kind (Ng := ["_law_work", "e", "_law_kinds"]) ⟨rfl, rfl, rfl, by decide +kernel, rfl, by decide +kernel, by decide +kernel⟩ rfl (.inl rfl) (ok_law_kind M E 10) rfl (by decide +kernel) rfl (fun _ _ _ _ _ => rfl) (fun X' c2 => ex_call c2 Fask (by decide) rfl (ad_cons (ed_var c2 11 rfl (by kspl_open vis) rfl rfl rfl) (ad_cons (ed_var c2 9 rfl (by kspl_open vis) rfl rfl rfl) (ad_cons (ed_var c2 8 rfl (by kspl_open vis) rfl rfl rfl) (ad_cons (ed_var c2 4 rfl (by kspl_open vis) rfl rfl rfl) ad_nil rfl) rfl) rfl) rfl) ⟨i, BW, bad, far, .book wy, rfl, hi, q1, fun z => (by cases z), rfl, rfl⟩ rfl rfl rfl) ⟨.book wy, rfl, rfl, rfl⟩ rfl rfl rfl) (ed_var c 10 rfl (by kspl_open vis) rfl rfl rfl) (cd_neD c (Shp.ok (n := 1) (shp_wd wok) (by decide)) (Shp.ok (n := 1) (shp_wd wok) (by decide))) (nomark _)) (show (!PyData.eqv (.str wy) (.str wy)) = false by rw [eqv_wd, decide_eq_true rfl]; rfl)) (sd_nil ?_)
    refine sd_ifF (td_to (td_cmp (ed_lamK (k := 10) c L M.d__law_kind (Ng := ["_law_work", "e", "_law_kinds"]) ⟨rfl, rfl, rfl, by decide +kernel, rfl, by decide +kernel, by decide +kernel⟩ rfl (.inl rfl) (ok_law_kind M E 10) rfl (by decide +kernel) rfl (fun _ _ _ _ _ => rfl) (fun X' c2 => ex_call c2 Fask (by decide) rfl (ad_cons (ed_var c2 11 rfl (by kspl_open vis) rfl rfl rfl) (ad_cons (ed_var c2 2 rfl (by kspl_open vis) rfl rfl rfl) (ad_cons (ed_var c2 8 rfl (by kspl_open vis) rfl rfl rfl) (ad_cons (ed_var c2 4 rfl (by kspl_open vis) rfl rfl rfl) ad_nil rfl) rfl) rfl) rfl) ⟨i, B, bad, far, .post, rfl, hi, q2, fun z => (by cases z), rfl, rfl⟩ rfl rfl rfl) ⟨.post, rfl, rfl, rfl⟩ rfl rfl rfl) ed_str (cd_neD c (Shp.ok (n := 1) (shp_wd post_ok) (by decide)) (Shp.ok (n := 1) (shp_wd post_ok) (by decide))) (nomark _)) (show (!PyData.eqv (.str "posting") (.str "posting")) = false by rw [eqv_wd, decide_eq_true rfl]; rfl)) (sd_nil ?_)
    refine sd_ifF (td_to (td_cmp (ed_lamK (k := 10) c L M.d__law_kind (Ng := ["_law_work", "e", "_law_kinds"]) ⟨rfl, rfl, rfl, by decide +kernel, rfl, by decide +kernel, by decide +kernel⟩ rfl (.inl rfl) (ok_law_kind M E 10) rfl (by decide +kernel) rfl (fun _ _ _ _ _ => rfl) (fun X' c2 => ex_call c2 Fask (by decide) rfl (ad_cons (ed_var c2 11 rfl (by kspl_open vis) rfl rfl rfl) (ad_cons (ed_var c2 2 rfl (by kspl_open vis) rfl rfl rfl) (ad_cons (ed_var c2 3 rfl (by kspl_open vis) rfl rfl rfl) (ad_cons (ed_var c2 4 rfl (by kspl_open vis) rfl rfl rfl) ad_nil rfl) rfl) rfl) rfl) ⟨i, B, ps, far, .off, rfl, hi, q3, fun _ => hfar, rfl, rfl⟩ rfl rfl rfl) ⟨.off, rfl, rfl, rfl⟩ rfl rfl rfl) ed_str (cd_neD c (Shp.ok (n := 1) (shp_wd off_ok) (by decide)) (Shp.ok (n := 1) (shp_wd off_ok) (by decide))) (nomark _)) (show (!PyData.eqv (.str "office") (.str "office")) = false by rw [eqv_wd, decide_eq_true rfl]; rfl)) (sd_nil ?_)
    exact sd_nil ⟨.inr rfl, .inr rfl, .inr rfl, .inr rfl, .inr rfl, .inr rfl, .inr rfl, .inr rfl, .inr rfl, .inr rfl, .inr rfl, .inl rfl, .inr rfl, .inr rfl, .inr rfl, trivial⟩
  refine sd_for c (fun _ => [.dat (.list (ns.map .int)), .rng A A' (r6), .dat (eBook B), .dat (ePost ps), .dat (.int far), .dat (.int ((B.bi ++ [0]).getD 0 0)), .own ((odds B ps far at_).map ePost), .dat (.int (at_ : Int)), .dat (ePost bad), .dat (eBook BW), .dat (.str wy), .no, .no, .no, .no]) (id_range c rfl M.b_range ed_int (by decide) rfl) (gd_name c 11 rfl (by kspl_open loc) (by kspl_open loc)) Wk.rfl' (fun i d hd => ?_) ?_ (fun _ => rfl)
  · obtain ⟨hi, rfl⟩ := rngD_inv hd
    have hi : i < 7 := hi
    refine ⟨_, rfl, ?_⟩
    show SD X [.dat (.list (ns.map .int)), .rng A A' (r6), .dat (eBook B), .dat (ePost ps), .dat (.int far), .dat (.int ((B.bi ++ [0]).getD 0 0)), .own ((odds B ps far at_).map ePost), .dat (.int (at_ : Int)), .dat (ePost bad), .dat (eBook BW), .dat (.str wy), .dat (.int (i : Nat)), .no, .no, .no] _ _
    refine sd_ifF (td_to (td_cmp (ed_lamK (k := 10) c L M.d__law_kind (Ng := ["_law_work", "e", "_law_kinds"]) ⟨rfl, rfl, rfl, by decide +kernel, rfl, by decide +kernel, by decide +kernel⟩ rfl (.inl rfl) (ok_law_kind M E 10) rfl (by decide +kernel) rfl (fun _ _ _ _ _ => rfl) (fun X' c2 => ex_call c2 Fplain (by decide) rfl (ad_cons (ed_var c2 11 rfl (by kspl_open vis) rfl rfl rfl) (ad_cons (ed_var c2 9 rfl (by kspl_open vis) rfl rfl rfl) (ad_cons (ed_var c2 4 rfl (by kspl_open vis) rfl rfl rfl) ad_nil rfl) rfl) rfl) ⟨i, BW, far, .book wy, rfl, hi, q4, fun z => (by cases z), rfl, rfl⟩ rfl rfl rfl) ⟨.book wy, rfl, rfl, rfl⟩ rfl rfl rfl) (ed_var c 10 rfl (by kspl_open vis) rfl rfl rfl) (cd_neD c (Shp.ok (n := 1) (shp_wd wok) (by decide)) (Shp.ok (n := 1) (shp_wd wok) (by decide))) (nomark _)) (show (!PyData.eqv (.str wy) (.str wy)) = false by rw [eqv_wd, decide_eq_true rfl]; rfl)) (sd_nil ?_)
    refine sd_ifF (td_to (td_w (wd_and (x := decide ((1 : Int) < (i : Nat))) (y := false) (td_to (td_cmp (ed_var c 11 rfl (by kspl_open vis) rfl rfl rfl) ed_int (by kspl_open cd) (nomark _)) rfl) (fun hx => wd_and1 (td_to (td_cmp (ed_lamK (k := 10) c L M.d__law_kind (Ng := ["_law_work", "e", "_law_kinds"]) ⟨rfl, rfl, rfl, by decide +kernel, rfl, by decide +kernel, by decide +kernel⟩ rfl (.inl rfl) (ok_law_kind M E 10) rfl (by decide +kernel) rfl (fun _ _ _ _ _ => rfl) (fun X' c2 => ex_call c2 Fplain (by decide) rfl (ad_cons (ed_var c2 11 rfl (by kspl_open vis) rfl rfl rfl) (ad_cons (ed_var c2 2 rfl (by kspl_open vis) rfl rfl rfl) (ad_cons (ed_var c2 4 rfl (by kspl_open vis) rfl rfl rfl) ad_nil rfl) rfl) rfl) ⟨i, B, far, .off, rfl, hi, q5, fun _ => ⟨hfar, by have := of_decide_eq_true hx; omega⟩, rfl, rfl⟩ rfl rfl rfl) ⟨.off, rfl, rfl, rfl⟩ rfl rfl rfl) ed_str (cd_neD c (Shp.ok (n := 1) (shp_wd off_ok) (by decide)) (Shp.ok (n := 1) (shp_wd off_ok) (by decide))) (nomark _)) (show (!PyData.eqv (.str "office") (.str "office")) = false by rw [eqv_wd, decide_eq_true rfl]; rfl))))) (Bool.and_false _)) (sd_nil ?_)
    exact sd_nil ⟨.inr rfl, .inr rfl, .inr rfl, .inr rfl, .inr rfl, .inr rfl, .inr rfl, .inr rfl, .inr rfl, .inr rfl, .inr rfl, .inl rfl, .inr rfl, .inr rfl, .inr rfl, trivial⟩
  refine sd_ifF (td_to (td_cmp (ed_lamK (k := 10) c L M.d__law_kind (Ng := ["_law_work", "e", "_law_kinds"]) ⟨rfl, rfl, rfl, by decide +kernel, rfl, by decide +kernel, by decide +kernel⟩ rfl (.inl rfl) (ok_law_kind M E 10) rfl (by decide +kernel) rfl (fun _ _ _ _ _ => rfl) (fun X' c2 => ex_call c2 Fch (by decide) rfl (ad_cons (ed_var c2 2 rfl (by kspl_open vis) rfl rfl rfl) (ad_cons (ed_var c2 8 rfl (by kspl_open vis) rfl rfl rfl) (ad_cons (ed_el (el_lst ad_nil (Nat.le_of_ble_eq_true rfl))) (ad_cons ed_int ad_nil rfl) rfl) rfl) rfl) ⟨B, bad, .list [], .int 0, .post, rfl, .inr (.inl ⟨g, hbad, rfl⟩), rfl, rfl⟩ rfl rfl rfl) ⟨.post, rfl, rfl, rfl⟩ rfl rfl rfl) ed_str (cd_neD c (Shp.ok (n := 1) (shp_wd post_ok) (by decide)) (Shp.ok (n := 1) (shp_wd post_ok) (by decide))) (nomark _)) (show (!PyData.eqv (.str "posting") (.str "posting")) = false by rw [eqv_wd, decide_eq_true rfl]; rfl)) (sd_nil ?_)
  refine sd_ifF (td_to (td_cmp (ed_lamK (k := 10) c L M.d__law_kind (Ng := ["_law_work", "e", "_law_kinds"]) ⟨rfl, rfl, rfl, by decide +kernel, rfl, by decide +kernel, by decide +kernel⟩ rfl (.inl rfl) (ok_law_kind M E 10) rfl (by decide +kernel) rfl (fun _ _ _ _ _ => rfl) (fun X' c2 => ex_call c2 Fpo (by decide) rfl (ad_cons (ed_var c2 9 rfl (by kspl_open vis) rfl rfl rfl) (ad_cons (ed_var c2 8 rfl (by kspl_open vis) rfl rfl rfl) ad_nil rfl) rfl) ⟨BW, bad, .book wy, rfl, .inl ⟨wy, hw, rfl⟩, rfl, rfl⟩ rfl rfl rfl) ⟨.book wy, rfl, rfl, rfl⟩ rfl rfl rfl) (ed_var c 10 rfl (by kspl_open vis) rfl rfl rfl) (cd_neD c (Shp.ok (n := 1) (shp_wd wok) (by decide)) (Shp.ok (n := 1) (shp_wd wok) (by decide))) (nomark _)) (show (!PyData.eqv (.str wy) (.str wy)) = false by rw [eqv_wd, decide_eq_true rfl]; rfl)) (sd_nil ?_)
  refine sd_asg c 12 rfl (by kspl_open loc) (.inl rfl) (Nat.le_of_ble_eq_true rfl) (ed_callT c rfl M.b_tuple PyProof.Rows.boot_tuple (ad_cons (ed_el (el_map c [("_law_k", 14)] (xs := [0, 1, 2, 3, 4, 5]) (enc := PyData.int) (fun k => eInts (greatRow k)) (by decide +kernel) rfl (id_to (id_range c rfl M.b_range ed_int (by decide) rfl) rfl) (all1 ⟨_, rfl, .inl rfl⟩) (fun X' c2 => (gd_name c2 14 rfl (by kspl_open loc) (by kspl_open loc))) (Nat.lt_of_lt_of_le (show 6 < 1000 by decide) (Nat.le_of_ble_eq_true rfl)) (fun k hk => ⟨_, rfl, fun X' c2 => (ed_to (ed_bin (ed_bin (ed_bin (ed_tup (ad_cons ed_int ad_nil rfl) (Nat.le_of_ble_eq_true rfl)) (ed_to (d' := .int ((k.toNat : Nat) : Int)) (ed_var c2 14 rfl (by kspl_open vis) rfl rfl rfl) (by rw [Int.toNat_of_nonneg (great_k hk).1])) (bd_repT (by have := (great_k hk).2; omega))) (ed_tup (ad_cons ed_int ad_nil rfl) (Nat.le_of_ble_eq_true rfl)) (bd_catT (szl (by rw [List.length_replicate]; have := (great_k hk).2; simp; omega)))) (ed_bin (ed_tup (ad_cons ed_int ad_nil rfl) (Nat.le_of_ble_eq_true rfl)) (ed_to (d' := .int (((5 - k).toNat : Nat) : Int)) (ed_bin ed_int (ed_var c2 14 rfl (by kspl_open vis) rfl rfl rfl) bd_sub) (by rw [Int.toNat_of_nonneg (by have := (great_k hk).2; omega)])) (bd_repT (by have := (great_k hk).1; omega))) (bd_catT (szl (by rw [List.length_append, List.length_replicate, List.length_replicate]; have := great_k hk; simp; omega)))) (by unfold eInts greatRow; rw [List.map_append, List.map_append, List.map_replicate, List.map_replicate]; rfl)), ⟨.inr rfl, .inr rfl, .inr rfl, .inr rfl, .inr rfl, .inr rfl, .inr rfl, .inr rfl, .inr rfl, .inr rfl, .inr rfl, .inr rfl, .inr rfl, .inr rfl, .inl rfl, trivial⟩⟩) (fun _ => rfl))) ad_nil rfl) cl_tupL (by decide) rfl rfl rfl) rfl ?_
  refine sd_asg c 13 rfl (by kspl_open loc) (.inl rfl) (Nat.le_of_ble_eq_true rfl) (ed_to (d' := .tuple [.tuple (great.fl.map eInts), .tuple (great.st.map eRow)]) (ed_tup (ad_cons (ed_var c 12 rfl (by kspl_open vis) rfl rfl rfl) (ad_cons (ed_bin (ed_tup (ad_cons (ed_tup (ad_cons ed_int (ad_cons ed_int (ad_cons ed_int (ad_cons ed_int ad_nil rfl) rfl) rfl) rfl) (Nat.le_of_ble_eq_true rfl)) ad_nil rfl) (Nat.le_of_ble_eq_true rfl)) ed_int (bd_repT (n := 8) (by decide))) ad_nil rfl) rfl) (Nat.le_of_ble_eq_true rfl)) rfl) rfl ?_
  refine sd_asg c 13 rfl (by kspl_open loc) (.inl rfl) (Nat.le_of_ble_eq_true rfl) (ed_to (d' := eBook great) (ed_bin (ed_var c 13 rfl (by kspl_open vis) rfl rfl rfl) (ed_tup (ad_cons (ed_bin (ed_tup (ad_cons (ed_tup (ad_cons ed_int (ad_cons ed_int (ad_cons ed_int (ad_cons ed_int ad_nil rfl) rfl) rfl) rfl) (Nat.le_of_ble_eq_true rfl)) ad_nil rfl) (Nat.le_of_ble_eq_true rfl)) ed_int (bd_repT (n := 12) (by decide))) (ad_cons (ed_tup (ad_cons ed_int (ad_cons ed_int (ad_cons ed_int (ad_cons ed_int (ad_cons ed_int (ad_cons ed_int ad_nil rfl) rfl) rfl) rfl) rfl) rfl) (Nat.le_of_ble_eq_true rfl)) ad_nil rfl) rfl) (Nat.le_of_ble_eq_true rfl)) (bd_catT (szl (show 2 + 2 ≤ 1000 by decide)))) rfl) rfl ?_
  exact sd_ret (ed_to (ed_and (x := true) (y := true) (ed_to (ed_cmp (ed_call c Fnb (by decide) rfl (ad_cons (ed_var c 13 rfl (by kspl_open vis) rfl rfl rfl) ad_nil rfl) ⟨great, rfl, great_good, rfl⟩ rfl rfl rfl) ed_non cd_isN (nomark _)) rfl) (fun _ => ed_and1 (ed_to (ed_cmp (ed_call c Fnp (by decide) rfl (ad_cons (ed_var c 13 rfl (by kspl_open vis) rfl rfl rfl) (ad_cons (ed_to (d' := ePost greatPs) (ed_bin (ed_tup (ad_cons (ed_tup (ad_cons ed_int (ad_cons ed_int ad_nil rfl) rfl) (Nat.le_of_ble_eq_true rfl)) ad_nil rfl) (Nat.le_of_ble_eq_true rfl)) (ed_bin (ed_tup (ad_cons ed_non ad_nil rfl) (Nat.le_of_ble_eq_true rfl)) ed_int (bd_repT (n := 5) (by decide))) (bd_catT (szl (show 1 + 5 ≤ 1000 by decide)))) rfl) ad_nil rfl) rfl) ⟨great, greatPs, rfl, great_good, great_post, rfl⟩ rfl rfl rfl) ed_non cd_isN (nomark _)) rfl))) rfl) rfl
theorem law_R (ns : List Int) (h : ns.length ≤ 63) : R_law [.list (ns.map .int)] (.bool true) := ⟨ns, rfl, h, rfl⟩
end
end K
namespace K
open PySem L2 Z
theorem walk {l : PySem.W.OpenLaw} {q : Program} {loose : List Str} {XP : (Str → Option Value) → Heap → Prop} {YP : World → Heap → Prop} {d : DefRec} {K : Params → PySem.W.Frag} {ts : List Addr} (hn : l.most = some 63) (hdf : d.params.defaults = [])
    (hY : ∀ (w : World) (h : Heap), YP w h → (K w.params).In h ∧ ∀ P ∈ ts, h.get? P = some (PySem.W.tabObj #[]))
    (F : ∀ (w : World) (mg : Str → Option Value) (fa : Addr) (h : Heap), (K w.params).In h → h.Ns mainGlobals mg → mg d.name = some (.ref fa) →
      ∃ L : LamC, L.tt ∈ ts ∧ PySem.W.codeHdIn (K w.params) L.cc L.tt = true ∧ (K w.params).lookup L.tt = none ∧ Md (K w.params) mg ∧ ∃ f fd, FunC (K w.params) "law" s_law f fd LamC.cc ∧ mg "law" = some (.ref f) ∧ (∀ (s : Shared) (v : Value), BindsTo s fd ⟨[v], []⟩ [("_law_script", v)])) (hx : d.name = "law") :
    PySem.W.WalkO q loose XP YP l.row.toRowW d [] (fun f vs => PySem.call f vs) :=
  LamX.walk_ofTs (n := 63) (k := 13) (x := "_law_script") (CX := fun _ => L2.CX0) hn (by decide) hdf ⟨rfl, by decide, by decide⟩ (fun w h Y => (hY w h Y).1) (fun w mg fa h Y X G hm => by
    obtain ⟨L, h1, h2, h3, M, f, fd, Fu, hf, hb⟩ := F w mg fa h X G hm
    rw [hx, hf] at hm
    cases hm
    have hT := (hY w h Y).2 _ h1
    exact ⟨fd, [(L.cc, L.tt)], spP (K w.params) R_law, fun p hp => by rw [List.mem_singleton.mp hp]; exact hT, fun p hp => by rw [List.mem_singleton.mp hp]; exact h3, fun p hp => by rw [List.mem_singleton.mp hp]; exact PySem.W.codeHd_of_K X h2, hb,
      fun H a ns hl _ hP hS => sp_law law_R H a ns hl (fun p hp => by rw [List.mem_singleton.mp (show p ∈ [_] from hp)]; exact LamX.TabS.nil (hP _ (List.mem_singleton.mpr rfl))) hS, fun base _ _ TB => ok_law M Fu (TB _ (List.mem_singleton.mpr rfl))⟩) fun _ _ _ _ _ z => z
section
variable {K : PySem.W.Frag}
theorem md_mk {h : Heap} {mg : Str → Option Value} (X : K.In h) (G : h.Ns mainGlobals mg)
    {f0 f1 f2 f3 f4 f5 f6 f7 f8 f9 f10 f11 f12 f13 f14 f15 f16 f17 f18 f19 f20 f21 f22 f23 f24 f25 f26 f27 f28 f29 f30 f31 f32 f33 f34 f35 f36 f37 f38 f39 f40 f41 f42 f43 f44 f45 f46 f47 f48 f49 f50 f51 f52 f53 : Addr} {od0 an0 od1 an1 od2 an2 od3 an3 od4 an4 od5 an5 od6 an6 od7 an7 od8 an8 od9 an9 od10 an10 od11 an11 od12 an12 od13 an13 od14 an14 od15 an15 od16 an16 od17 an17 od18 an18 od19 an19 od20 an20 od21 an21 od22 an22 od23 an23 od24 an24 od25 an25 od26 an26 od27 an27 od28 an28 od29 an29 od30 an30 od31 an31 od32 an32 od33 an33 od34 an34 od35 an35 od36 an36 od37 an37 od38 an38 od39 an39 od40 an40 od41 an41 od42 an42 od43 an43 od44 an44 od45 an45 od46 an46 od47 an47 od48 an48 od49 an49 od50 an50 od51 an51 od52 an52 od53 an53 : Option Addr} {sl0 sl1 sl2 sl3 sl4 sl5 sl6 sl7 sl8 sl9 sl10 sl11 sl12 sl13 sl14 sl15 sl16 sl17 sl18 sl19 sl20 sl21 sl22 sl23 sl24 sl25 sl26 sl27 sl28 sl29 sl30 sl31 sl32 sl33 sl34 sl35 sl36 sl37 sl38 sl39 sl40 sl41 sl42 sl43 sl44 sl45 sl46 sl47 sl48 sl49 sl50 sl51 sl52 sl53 : Array (Option Value)} {oc0 kV0 dc0 pm0 ct0 cd0 oc1 kV1 dc1 pm1 ct1 cd1 oc2 kV2 dc2 pm2 ct2 cd2 oc3 kV3 dc3 pm3 ct3 cd3 oc4 kV4 dc4 pm4 ct4 cd4 oc5 kV5 dc5 pm5 ct5 cd5 oc6 kV6 dc6 pm6 ct6 cd6 oc7 kV7 dc7 pm7 ct7 cd7 oc8 kV8 dc8 pm8 ct8 cd8 oc9 kV9 dc9 pm9 ct9 cd9 oc10 kV10 dc10 pm10 ct10 cd10 oc11 kV11 dc11 pm11 ct11 cd11 oc12 kV12 dc12 pm12 ct12 cd12 oc13 kV13 dc13 pm13 ct13 cd13 oc14 kV14 dc14 pm14 ct14 cd14 oc15 kV15 dc15 pm15 ct15 cd15 oc16 kV16 dc16 pm16 ct16 cd16 oc17 kV17 dc17 pm17 ct17 cd17 oc18 kV18 dc18 pm18 ct18 cd18 oc19 kV19 dc19 pm19 ct19 cd19 oc20 kV20 dc20 pm20 ct20 cd20 oc21 kV21 dc21 pm21 ct21 cd21 oc22 kV22 dc22 pm22 ct22 cd22 oc23 kV23 dc23 pm23 ct23 cd23 oc24 kV24 dc24 pm24 ct24 cd24 oc25 kV25 dc25 pm25 ct25 cd25 oc26 kV26 dc26 pm26 ct26 cd26 oc27 kV27 dc27 pm27 ct27 cd27 oc28 kV28 dc28 pm28 ct28 cd28 oc29 kV29 dc29 pm29 ct29 cd29 oc30 kV30 dc30 pm30 ct30 cd30 oc31 kV31 dc31 pm31 ct31 cd31 oc32 kV32 dc32 pm32 ct32 cd32 oc33 kV33 dc33 pm33 ct33 cd33 oc34 kV34 dc34 pm34 ct34 cd34 oc35 kV35 dc35 pm35 ct35 cd35 oc36 kV36 dc36 pm36 ct36 cd36 oc37 kV37 dc37 pm37 ct37 cd37 oc38 kV38 dc38 pm38 ct38 cd38 oc39 kV39 dc39 pm39 ct39 cd39 oc40 kV40 dc40 pm40 ct40 cd40 oc41 kV41 dc41 pm41 ct41 cd41 oc42 kV42 dc42 pm42 ct42 cd42 oc43 kV43 dc43 pm43 ct43 cd43 oc44 kV44 dc44 pm44 ct44 cd44 oc45 kV45 dc45 pm45 ct45 cd45 oc46 kV46 dc46 pm46 ct46 cd46 oc47 kV47 dc47 pm47 ct47 cd47 oc48 kV48 dc48 pm48 ct48 cd48 oc49 kV49 dc49 pm49 ct49 cd49 oc50 kV50 dc50 pm50 ct50 cd50 oc51 kV51 dc51 pm51 ct51 cd51 oc52 kV52 dc52 pm52 ct52 cd52 oc53 kV53 dc53 pm53 ct53 : Value} {cc tt : Addr} {ts : List Addr}
    (a0 : PySem.W.nsIn K mainGlobals "need" = some (some (.ref f0))) (l0 : K.lookup f0 = some ⟨oc0, od0, .func (PySem.W.fnOf "need" "need" (defArgs s_need) (defBody s_need) (defScope s_need) .none kV0 dc0 pm0 an0 cd0 ct0), sl0⟩) (c0 : PySem.W.codeIn K cd0 "need" = true) (k0 : PySem.W.keepIn K (.ref f0) = true)
    (a1 : PySem.W.nsIn K mainGlobals "is_office" = some (some (.ref f1))) (l1 : K.lookup f1 = some ⟨oc1, od1, .func (PySem.W.fnOf "is_office" "is_office" (defArgs s_is_office) (defBody s_is_office) (defScope s_is_office) .none kV1 dc1 pm1 an1 cd1 ct1), sl1⟩) (c1 : PySem.W.codeIn K cd1 "is_office" = true) (k1 : PySem.W.keepIn K (.ref f1) = true)
    (a2 : PySem.W.nsIn K mainGlobals "need_flights" = some (some (.ref f2))) (l2 : K.lookup f2 = some ⟨oc2, od2, .func (PySem.W.fnOf "need_flights" "need_flights" (defArgs s_need_flights) (defBody s_need_flights) (defScope s_need_flights) .none kV2 dc2 pm2 an2 cd2 ct2), sl2⟩) (c2 : PySem.W.codeIn K cd2 "need_flights" = true) (k2 : PySem.W.keepIn K (.ref f2) = true)
    (a3 : PySem.W.nsIn K mainGlobals "need_rows" = some (some (.ref f3))) (l3 : K.lookup f3 = some ⟨oc3, od3, .func (PySem.W.fnOf "need_rows" "need_rows" (defArgs s_need_rows) (defBody s_need_rows) (defScope s_need_rows) .none kV3 dc3 pm3 an3 cd3 ct3), sl3⟩) (c3 : PySem.W.codeIn K cd3 "need_rows" = true) (k3 : PySem.W.keepIn K (.ref f3) = true)
    (a4 : PySem.W.nsIn K mainGlobals "need_book" = some (some (.ref f4))) (l4 : K.lookup f4 = some ⟨oc4, od4, .func (PySem.W.fnOf "need_book" "need_book" (defArgs s_need_book) (defBody s_need_book) (defScope s_need_book) .none kV4 dc4 pm4 an4 cd4 ct4), sl4⟩) (c4 : PySem.W.codeIn K cd4 "need_book" = true) (k4 : PySem.W.keepIn K (.ref f4) = true)
    (a5 : PySem.W.nsIn K mainGlobals "need_posting" = some (some (.ref f5))) (l5 : K.lookup f5 = some ⟨oc5, od5, .func (PySem.W.fnOf "need_posting" "need_posting" (defArgs s_need_posting) (defBody s_need_posting) (defScope s_need_posting) .none kV5 dc5 pm5 an5 cd5 ct5), sl5⟩) (c5 : PySem.W.codeIn K cd5 "need_posting" = true) (k5 : PySem.W.keepIn K (.ref f5) = true)
    (a6 : PySem.W.nsIn K mainGlobals "need_office" = some (some (.ref f6))) (l6 : K.lookup f6 = some ⟨oc6, od6, .func (PySem.W.fnOf "need_office" "need_office" (defArgs s_need_office) (defBody s_need_office) (defScope s_need_office) .none kV6 dc6 pm6 an6 cd6 ct6), sl6⟩) (c6 : PySem.W.codeIn K cd6 "need_office" = true) (k6 : PySem.W.keepIn K (.ref f6) = true)
    (a7 : PySem.W.nsIn K mainGlobals "need_letters" = some (some (.ref f7))) (l7 : K.lookup f7 = some ⟨oc7, od7, .func (PySem.W.fnOf "need_letters" "need_letters" (defArgs s_need_letters) (defBody s_need_letters) (defScope s_need_letters) .none kV7 dc7 pm7 an7 cd7 ct7), sl7⟩) (c7 : PySem.W.codeIn K cd7 "need_letters" = true) (k7 : PySem.W.keepIn K (.ref f7) = true)
    (a8 : PySem.W.nsIn K mainGlobals "arrivals" = some (some (.ref f8))) (l8 : K.lookup f8 = some ⟨oc8, od8, .func (PySem.W.fnOf "arrivals" "arrivals" (defArgs s_arrivals) (defBody s_arrivals) (defScope s_arrivals) .none kV8 dc8 pm8 an8 cd8 ct8), sl8⟩) (c8 : PySem.W.codeIn K cd8 "arrivals" = true) (k8 : PySem.W.keepIn K (.ref f8) = true)
    (a9 : PySem.W.nsIn K mainGlobals "carried" = some (some (.ref f9))) (l9 : K.lookup f9 = some ⟨oc9, od9, .func (PySem.W.fnOf "carried" "carried" (defArgs s_carried) (defBody s_carried) (defScope s_carried) .none kV9 dc9 pm9 an9 cd9 ct9), sl9⟩) (c9 : PySem.W.codeIn K cd9 "carried" = true) (k9 : PySem.W.keepIn K (.ref f9) = true)
    (a10 : PySem.W.nsIn K mainGlobals "by_carts" = some (some (.ref f10))) (l10 : K.lookup f10 = some ⟨oc10, od10, .func (PySem.W.fnOf "by_carts" "by_carts" (defArgs s_by_carts) (defBody s_by_carts) (defScope s_by_carts) .none kV10 dc10 pm10 an10 cd10 ct10), sl10⟩) (c10 : PySem.W.codeIn K cd10 "by_carts" = true) (k10 : PySem.W.keepIn K (.ref f10) = true)
    (a11 : PySem.W.nsIn K mainGlobals "all_choices" = some (some (.ref f11))) (l11 : K.lookup f11 = some ⟨oc11, od11, .func (PySem.W.fnOf "all_choices" "all_choices" (defArgs s_all_choices) (defBody s_all_choices) (defScope s_all_choices) .none kV11 dc11 pm11 an11 cd11 ct11), sl11⟩) (c11 : PySem.W.codeIn K cd11 "all_choices" = true) (k11 : PySem.W.keepIn K (.ref f11) = true)
    (a12 : PySem.W.nsIn K mainGlobals "choices" = some (some (.ref f12))) (l12 : K.lookup f12 = some ⟨oc12, od12, .func (PySem.W.fnOf "choices" "choices" (defArgs s_choices) (defBody s_choices) (defScope s_choices) .none kV12 dc12 pm12 an12 cd12 ct12), sl12⟩) (c12 : PySem.W.codeIn K cd12 "choices" = true) (k12 : PySem.W.keepIn K (.ref f12) = true)
    (a13 : PySem.W.nsIn K mainGlobals "is_barred" = some (some (.ref f13))) (l13 : K.lookup f13 = some ⟨oc13, od13, .func (PySem.W.fnOf "is_barred" "is_barred" (defArgs s_is_barred) (defBody s_is_barred) (defScope s_is_barred) .none kV13 dc13 pm13 an13 cd13 ct13), sl13⟩) (c13 : PySem.W.codeIn K cd13 "is_barred" = true) (k13 : PySem.W.keepIn K (.ref f13) = true)
    (a14 : PySem.W.nsIn K mainGlobals "let_go" = some (some (.ref f14))) (l14 : K.lookup f14 = some ⟨oc14, od14, .func (PySem.W.fnOf "let_go" "let_go" (defArgs s_let_go) (defBody s_let_go) (defScope s_let_go) .none kV14 dc14 pm14 an14 cd14 ct14), sl14⟩) (c14 : PySem.W.codeIn K cd14 "let_go" = true) (k14 : PySem.W.keepIn K (.ref f14) = true)
    (a15 : PySem.W.nsIn K mainGlobals "comes" = some (some (.ref f15))) (l15 : K.lookup f15 = some ⟨oc15, od15, .func (PySem.W.fnOf "comes" "comes" (defArgs s_comes) (defBody s_comes) (defScope s_comes) .none kV15 dc15 pm15 an15 cd15 ct15), sl15⟩) (c15 : PySem.W.codeIn K cd15 "comes" = true) (k15 : PySem.W.keepIn K (.ref f15) = true)
    (a16 : PySem.W.nsIn K mainGlobals "home_by" = some (some (.ref f16))) (l16 : K.lookup f16 = some ⟨oc16, od16, .func (PySem.W.fnOf "home_by" "home_by" (defArgs s_home_by) (defBody s_home_by) (defScope s_home_by) .none kV16 dc16 pm16 an16 cd16 ct16), sl16⟩) (c16 : PySem.W.codeIn K cd16 "home_by" = true) (k16 : PySem.W.keepIn K (.ref f16) = true)
    (a17 : PySem.W.nsIn K mainGlobals "need_begins" = some (some (.ref f17))) (l17 : K.lookup f17 = some ⟨oc17, od17, .func (PySem.W.fnOf "need_begins" "need_begins" (defArgs s_need_begins) (defBody s_need_begins) (defScope s_need_begins) .none kV17 dc17 pm17 an17 cd17 ct17), sl17⟩) (c17 : PySem.W.codeIn K cd17 "need_begins" = true) (k17 : PySem.W.keepIn K (.ref f17) = true)
    (a18 : PySem.W.nsIn K mainGlobals "posted" = some (some (.ref f18))) (l18 : K.lookup f18 = some ⟨oc18, od18, .func (PySem.W.fnOf "posted" "posted" (defArgs s_posted) (defBody s_posted) (defScope s_posted) .none kV18 dc18 pm18 an18 cd18 ct18), sl18⟩) (c18 : PySem.W.codeIn K cd18 "posted" = true) (k18 : PySem.W.keepIn K (.ref f18) = true)
    (a19 : PySem.W.nsIn K mainGlobals "spread" = some (some (.ref f19))) (l19 : K.lookup f19 = some ⟨oc19, od19, .func (PySem.W.fnOf "spread" "spread" (defArgs s_spread) (defBody s_spread) (defScope s_spread) .none kV19 dc19 pm19 an19 cd19 ct19), sl19⟩) (c19 : PySem.W.codeIn K cd19 "spread" = true) (k19 : PySem.W.keepIn K (.ref f19) = true)
    (a20 : PySem.W.nsIn K mainGlobals "reach" = some (some (.ref f20))) (l20 : K.lookup f20 = some ⟨oc20, od20, .func (PySem.W.fnOf "reach" "reach" (defArgs s_reach) (defBody s_reach) (defScope s_reach) .none kV20 dc20 pm20 an20 cd20 ct20), sl20⟩) (c20 : PySem.W.codeIn K cd20 "reach" = true) (k20 : PySem.W.keepIn K (.ref f20) = true)
    (a21 : PySem.W.nsIn K mainGlobals "flights_of" = some (some (.ref f21))) (l21 : K.lookup f21 = some ⟨oc21, od21, .func (PySem.W.fnOf "flights_of" "flights_of" (defArgs s_flights_of) (defBody s_flights_of) (defScope s_flights_of) .none kV21 dc21 pm21 an21 cd21 ct21), sl21⟩) (c21 : PySem.W.codeIn K cd21 "flights_of" = true) (k21 : PySem.W.keepIn K (.ref f21) = true)
    (a22 : PySem.W.nsIn K mainGlobals "flown" = some (some (.ref f22))) (l22 : K.lookup f22 = some ⟨oc22, od22, .func (PySem.W.fnOf "flown" "flown" (defArgs s_flown) (defBody s_flown) (defScope s_flown) .none kV22 dc22 pm22 an22 cd22 ct22), sl22⟩) (c22 : PySem.W.codeIn K cd22 "flown" = true) (k22 : PySem.W.keepIn K (.ref f22) = true)
    (a23 : PySem.W.nsIn K mainGlobals "without" = some (some (.ref f23))) (l23 : K.lookup f23 = some ⟨oc23, od23, .func (PySem.W.fnOf "without" "without" (defArgs s_without) (defBody s_without) (defScope s_without) .none kV23 dc23 pm23 an23 cd23 ct23), sl23⟩) (c23 : PySem.W.codeIn K cd23 "without" = true) (k23 : PySem.W.keepIn K (.ref f23) = true)
    (a24 : PySem.W.nsIn K mainGlobals "losses" = some (some (.ref f24))) (l24 : K.lookup f24 = some ⟨oc24, od24, .func (PySem.W.fnOf "losses" "losses" (defArgs s_losses) (defBody s_losses) (defScope s_losses) .none kV24 dc24 pm24 an24 cd24 ct24), sl24⟩) (c24 : PySem.W.codeIn K cd24 "losses" = true) (k24 : PySem.W.keepIn K (.ref f24) = true)
    (a25 : PySem.W.nsIn K mainGlobals "later" = some (some (.ref f25))) (l25 : K.lookup f25 = some ⟨oc25, od25, .func (PySem.W.fnOf "later" "later" (defArgs s_later) (defBody s_later) (defScope s_later) .none kV25 dc25 pm25 an25 cd25 ct25), sl25⟩) (c25 : PySem.W.codeIn K cd25 "later" = true) (k25 : PySem.W.keepIn K (.ref f25) = true)
    (a26 : PySem.W.nsIn K mainGlobals "sure" = some (some (.ref f26))) (l26 : K.lookup f26 = some ⟨oc26, od26, .func (PySem.W.fnOf "sure" "sure" (defArgs s_sure) (defBody s_sure) (defScope s_sure) .none kV26 dc26 pm26 an26 cd26 ct26), sl26⟩) (c26 : PySem.W.codeIn K cd26 "sure" = true) (k26 : PySem.W.keepIn K (.ref f26) = true)
    (a27 : PySem.W.nsIn K mainGlobals "comes_by" = some (some (.ref f27))) (l27 : K.lookup f27 = some ⟨oc27, od27, .func (PySem.W.fnOf "comes_by" "comes_by" (defArgs s_comes_by) (defBody s_comes_by) (defScope s_comes_by) .none kV27 dc27 pm27 an27 cd27 ct27), sl27⟩) (c27 : PySem.W.codeIn K cd27 "comes_by" = true) (k27 : PySem.W.keepIn K (.ref f27) = true)
    (a28 : PySem.W.nsIn K mainGlobals "first_failing" = some (some (.ref f28))) (l28 : K.lookup f28 = some ⟨oc28, od28, .func (PySem.W.fnOf "first_failing" "first_failing" (defArgs s_first_failing) (defBody s_first_failing) (defScope s_first_failing) .none kV28 dc28 pm28 an28 cd28 ct28), sl28⟩) (c28 : PySem.W.codeIn K cd28 "first_failing" = true) (k28 : PySem.W.keepIn K (.ref f28) = true)
    (a29 : PySem.W.nsIn K mainGlobals "kept" = some (some (.ref f29))) (l29 : K.lookup f29 = some ⟨oc29, od29, .func (PySem.W.fnOf "kept" "kept" (defArgs s_kept) (defBody s_kept) (defScope s_kept) .none kV29 dc29 pm29 an29 cd29 ct29), sl29⟩) (c29 : PySem.W.codeIn K cd29 "kept" = true) (k29 : PySem.W.keepIn K (.ref f29) = true)
    (a30 : PySem.W.nsIn K mainGlobals "is_cut" = some (some (.ref f30))) (l30 : K.lookup f30 = some ⟨oc30, od30, .func (PySem.W.fnOf "is_cut" "is_cut" (defArgs s_is_cut) (defBody s_is_cut) (defScope s_is_cut) .none kV30 dc30 pm30 an30 cd30 ct30), sl30⟩) (c30 : PySem.W.codeIn K cd30 "is_cut" = true) (k30 : PySem.W.keepIn K (.ref f30) = true)
    (a31 : PySem.W.nsIn K mainGlobals "shows" = some (some (.ref f31))) (l31 : K.lookup f31 = some ⟨oc31, od31, .func (PySem.W.fnOf "shows" "shows" (defArgs s_shows) (defBody s_shows) (defScope s_shows) .none kV31 dc31 pm31 an31 cd31 ct31), sl31⟩) (c31 : PySem.W.codeIn K cd31 "shows" = true) (k31 : PySem.W.keepIn K (.ref f31) = true)
    (a32 : PySem.W.nsIn K mainGlobals "narrowed" = some (some (.ref f32))) (l32 : K.lookup f32 = some ⟨oc32, od32, .func (PySem.W.fnOf "narrowed" "narrowed" (defArgs s_narrowed) (defBody s_narrowed) (defScope s_narrowed) .none kV32 dc32 pm32 an32 cd32 ct32), sl32⟩) (c32 : PySem.W.codeIn K cd32 "narrowed" = true) (k32 : PySem.W.keepIn K (.ref f32) = true)
    (a33 : PySem.W.nsIn K mainGlobals "posting_of" = some (some (.ref f33))) (l33 : K.lookup f33 = some ⟨oc33, od33, .func (PySem.W.fnOf "posting_of" "posting_of" (defArgs s_posting_of) (defBody s_posting_of) (defScope s_posting_of) .none kV33 dc33 pm33 an33 cd33 ct33), sl33⟩) (c33 : PySem.W.codeIn K cd33 "posting_of" = true) (k33 : PySem.W.keepIn K (.ref f33) = true)
    (a34 : PySem.W.nsIn K mainGlobals "fewest" = some (some (.ref f34))) (l34 : K.lookup f34 = some ⟨oc34, od34, .func (PySem.W.fnOf "fewest" "fewest" (defArgs s_fewest) (defBody s_fewest) (defScope s_fewest) .none kV34 dc34 pm34 an34 cd34 ct34), sl34⟩) (c34 : PySem.W.codeIn K cd34 "fewest" = true) (k34 : PySem.W.keepIn K (.ref f34) = true)
    (a35 : PySem.W.nsIn K mainGlobals "mended" = some (some (.ref f35))) (l35 : K.lookup f35 = some ⟨oc35, od35, .func (PySem.W.fnOf "mended" "mended" (defArgs s_mended) (defBody s_mended) (defScope s_mended) .none kV35 dc35 pm35 an35 cd35 ct35), sl35⟩) (c35 : PySem.W.codeIn K cd35 "mended" = true) (k35 : PySem.W.keepIn K (.ref f35) = true)
    (a36 : PySem.W.nsIn K mainGlobals "begins_then" = some (some (.ref f36))) (l36 : K.lookup f36 = some ⟨oc36, od36, .func (PySem.W.fnOf "begins_then" "begins_then" (defArgs s_begins_then) (defBody s_begins_then) (defScope s_begins_then) .none kV36 dc36 pm36 an36 cd36 ct36), sl36⟩) (c36 : PySem.W.codeIn K cd36 "begins_then" = true) (k36 : PySem.W.keepIn K (.ref f36) = true)
    (a37 : PySem.W.nsIn K mainGlobals "place_of" = some (some (.ref f37))) (l37 : K.lookup f37 = some ⟨oc37, od37, .func (PySem.W.fnOf "place_of" "place_of" (defArgs s_place_of) (defBody s_place_of) (defScope s_place_of) .none kV37 dc37 pm37 an37 cd37 ct37), sl37⟩) (c37 : PySem.W.codeIn K cd37 "place_of" = true) (k37 : PySem.W.keepIn K (.ref f37) = true)
    (a38 : PySem.W.nsIn K mainGlobals "first_to" = some (some (.ref f38))) (l38 : K.lookup f38 = some ⟨oc38, od38, .func (PySem.W.fnOf "first_to" "first_to" (defArgs s_first_to) (defBody s_first_to) (defScope s_first_to) .none kV38 dc38 pm38 an38 cd38 ct38), sl38⟩) (c38 : PySem.W.codeIn K cd38 "first_to" = true) (k38 : PySem.W.keepIn K (.ref f38) = true)
    (a39 : PySem.W.nsIn K mainGlobals "way_to" = some (some (.ref f39))) (l39 : K.lookup f39 = some ⟨oc39, od39, .func (PySem.W.fnOf "way_to" "way_to" (defArgs s_way_to) (defBody s_way_to) (defScope s_way_to) .none kV39 dc39 pm39 an39 cd39 ct39), sl39⟩) (c39 : PySem.W.codeIn K cd39 "way_to" = true) (k39 : PySem.W.keepIn K (.ref f39) = true)
    (a40 : PySem.W.nsIn K mainGlobals "way" = some (some (.ref f40))) (l40 : K.lookup f40 = some ⟨oc40, od40, .func (PySem.W.fnOf "way" "way" (defArgs s_way) (defBody s_way) (defScope s_way) .none kV40 dc40 pm40 an40 cd40 ct40), sl40⟩) (c40 : PySem.W.codeIn K cd40 "way" = true) (k40 : PySem.W.keepIn K (.ref f40) = true)
    (a41 : PySem.W.nsIn K mainGlobals "weak" = some (some (.ref f41))) (l41 : K.lookup f41 = some ⟨oc41, od41, .func (PySem.W.fnOf "weak" "weak" (defArgs s_weak) (defBody s_weak) (defScope s_weak) .none kV41 dc41 pm41 an41 cd41 ct41), sl41⟩) (c41 : PySem.W.codeIn K cd41 "weak" = true) (k41 : PySem.W.keepIn K (.ref f41) = true)
    (a42 : PySem.W.nsIn K mainGlobals "latest" = some (some (.ref f42))) (l42 : K.lookup f42 = some ⟨oc42, od42, .func (PySem.W.fnOf "latest" "latest" (defArgs s_latest) (defBody s_latest) (defScope s_latest) .none kV42 dc42 pm42 an42 cd42 ct42), sl42⟩) (c42 : PySem.W.codeIn K cd42 "latest" = true) (k42 : PySem.W.keepIn K (.ref f42) = true)
    (a43 : PySem.W.nsIn K mainGlobals "row_of" = some (some (.ref f43))) (l43 : K.lookup f43 = some ⟨oc43, od43, .func (PySem.W.fnOf "row_of" "row_of" (defArgs s_row_of) (defBody s_row_of) (defScope s_row_of) .none kV43 dc43 pm43 an43 cd43 ct43), sl43⟩) (c43 : PySem.W.codeIn K cd43 "row_of" = true) (k43 : PySem.W.keepIn K (.ref f43) = true)
    (a44 : PySem.W.nsIn K mainGlobals "written" = some (some (.ref f44))) (l44 : K.lookup f44 = some ⟨oc44, od44, .func (PySem.W.fnOf "written" "written" (defArgs s_written) (defBody s_written) (defScope s_written) .none kV44 dc44 pm44 an44 cd44 ct44), sl44⟩) (c44 : PySem.W.codeIn K cd44 "written" = true) (k44 : PySem.W.keepIn K (.ref f44) = true)
    (a45 : PySem.W.nsIn K mainGlobals "_law_next" = some (some (.ref f45))) (l45 : K.lookup f45 = some ⟨oc45, od45, .func (PySem.W.fnOf "_law_next" "_law_next" (defArgs s__law_next) (defBody s__law_next) (defScope s__law_next) .none kV45 dc45 pm45 an45 cd45 ct45), sl45⟩) (c45 : PySem.W.codeIn K cd45 "_law_next" = true) (k45 : PySem.W.keepIn K (.ref f45) = true)
    (a46 : PySem.W.nsIn K mainGlobals "_law_hours" = some (some (.ref f46))) (l46 : K.lookup f46 = some ⟨oc46, od46, .func (PySem.W.fnOf "_law_hours" "_law_hours" (defArgs s__law_hours) (defBody s__law_hours) (defScope s__law_hours) .none kV46 dc46 pm46 an46 cd46 ct46), sl46⟩) (c46 : PySem.W.codeIn K cd46 "_law_hours" = true) (k46 : PySem.W.keepIn K (.ref f46) = true)
    (a47 : PySem.W.nsIn K mainGlobals "_law_book" = some (some (.ref f47))) (l47 : K.lookup f47 = some ⟨oc47, od47, .func (PySem.W.fnOf "_law_book" "_law_book" (defArgs s__law_book) (defBody s__law_book) (defScope s__law_book) .none kV47 dc47 pm47 an47 cd47 ct47), sl47⟩) (c47 : PySem.W.codeIn K cd47 "_law_book" = true) (k47 : PySem.W.keepIn K (.ref f47) = true)
    (a48 : PySem.W.nsIn K mainGlobals "_law_posting" = some (some (.ref f48))) (l48 : K.lookup f48 = some ⟨oc48, od48, .func (PySem.W.fnOf "_law_posting" "_law_posting" (defArgs s__law_posting) (defBody s__law_posting) (defScope s__law_posting) .none kV48 dc48 pm48 an48 cd48 ct48), sl48⟩) (c48 : PySem.W.codeIn K cd48 "_law_posting" = true) (k48 : PySem.W.keepIn K (.ref f48) = true)
    (a49 : PySem.W.nsIn K mainGlobals "_law_ask" = some (some (.ref f49))) (l49 : K.lookup f49 = some ⟨oc49, od49, .func (PySem.W.fnOf "_law_ask" "_law_ask" (defArgs s__law_ask) (defBody s__law_ask) (defScope s__law_ask) .none kV49 dc49 pm49 an49 cd49 ct49), sl49⟩) (c49 : PySem.W.codeIn K cd49 "_law_ask" = true) (k49 : PySem.W.keepIn K (.ref f49) = true)
    (a50 : PySem.W.nsIn K mainGlobals "_law_plain" = some (some (.ref f50))) (l50 : K.lookup f50 = some ⟨oc50, od50, .func (PySem.W.fnOf "_law_plain" "_law_plain" (defArgs s__law_plain) (defBody s__law_plain) (defScope s__law_plain) .none kV50 dc50 pm50 an50 cd50 ct50), sl50⟩) (c50 : PySem.W.codeIn K cd50 "_law_plain" = true) (k50 : PySem.W.keepIn K (.ref f50) = true)
    (a51 : PySem.W.nsIn K mainGlobals "_law_kind" = some (some (.ref f51))) (l51 : K.lookup f51 = some ⟨oc51, od51, .func (PySem.W.fnOf "_law_kind" "_law_kind" (defArgs s__law_kind) (defBody s__law_kind) (defScope s__law_kind) .none kV51 dc51 pm51 an51 cd51 ct51), sl51⟩) (c51 : PySem.W.codeIn K cd51 "_law_kind" = true) (k51 : PySem.W.keepIn K (.ref f51) = true)
    (a52 : PySem.W.nsIn K mainGlobals "_law_wrong" = some (some (.ref f52))) (l52 : K.lookup f52 = some ⟨oc52, od52, .func (PySem.W.fnOf "_law_wrong" "_law_wrong" (defArgs s__law_wrong) (defBody s__law_wrong) (defScope s__law_wrong) .none kV52 dc52 pm52 an52 cd52 ct52), sl52⟩) (c52 : PySem.W.codeIn K cd52 "_law_wrong" = true) (k52 : PySem.W.keepIn K (.ref f52) = true)
    (a53 : PySem.W.nsIn K mainGlobals "law" = some (some (.ref f53))) (l53 : K.lookup f53 = some ⟨oc53, od53, .func (PySem.W.fnOf "law" "law" (defArgs s_law) (defBody s_law) (defScope s_law) .none kV53 dc53 pm53 an53 (.ref cc) ct53), sl53⟩) (c53 : PySem.W.codeIn K (.ref cc) "law" = true) (k53 : PySem.W.keepIn K (.ref f53) = true)
    (n0 : ∃ t, PySem.W.nsIn K mainGlobals "LEAST_OFFICES" = some (some (.int 2 t)))
    (n1 : ∃ t, PySem.W.nsIn K mainGlobals "MOST_OFFICES" = some (some (.int 6 t)))
    (n2 : ∃ t, PySem.W.nsIn K mainGlobals "MOST_FLIGHT" = some (some (.int 9 t)))
    (n3 : ∃ t, PySem.W.nsIn K mainGlobals "MOST_STORMS" = some (some (.int 8 t)))
    (n4 : ∃ t, PySem.W.nsIn K mainGlobals "MOST_CARTS" = some (some (.int 12 t)))
    (n5 : ∃ t, PySem.W.nsIn K mainGlobals "MOST_BIRDS" = some (some (.int 6 t)))
    (n6 : ∃ t, PySem.W.nsIn K mainGlobals "MOST_HOUR" = some (some (.int 99 t)))
    (n7 : ∃ t, PySem.W.nsIn K mainGlobals "FLIGHTS" = some (some (.int 0 t)))
    (n8 : ∃ t, PySem.W.nsIn K mainGlobals "STORMS" = some (some (.int 1 t)))
    (n9 : ∃ t, PySem.W.nsIn K mainGlobals "CARTS" = some (some (.int 2 t)))
    (n10 : ∃ t, PySem.W.nsIn K mainGlobals "BIRDS" = some (some (.int 3 t)))
    {tp0 : Addr} {tu0_0 tu0_1 tu0_2 tu0_3 : Tok} {tn0 : Nat} {tsl0 : Array (Option Value)} (ta0 : PySem.W.nsIn K mainGlobals "SORTS" = some (some (.ref tp0))) (tb0 : K.lookup tp0 = some ⟨.type "tuple", none, .seq #[.str "flights" tu0_0, .str "storm" tu0_1, .str "cart" tu0_2, .str "birds" tu0_3] tn0, tsl0⟩)
    (z0 : PySem.W.nsIn K mainGlobals "enumerate" = some none)
    (z1 : PySem.W.nsIn K mainGlobals "int" = some none)
    (z2 : PySem.W.nsIn K mainGlobals "isinstance" = some none)
    (z3 : PySem.W.nsIn K mainGlobals "len" = some none)
    (z4 : PySem.W.nsIn K mainGlobals "list" = some none)
    (z5 : PySem.W.nsIn K mainGlobals "max" = some none)
    (z6 : PySem.W.nsIn K mainGlobals "min" = some none)
    (z7 : PySem.W.nsIn K mainGlobals "range" = some none)
    (z8 : PySem.W.nsIn K mainGlobals "reversed" = some none)
    (z9 : PySem.W.nsIn K mainGlobals "sorted" = some none)
    (z10 : PySem.W.nsIn K mainGlobals "str" = some none)
    (z11 : PySem.W.nsIn K mainGlobals "tuple" = some none)
    (z12 : PySem.W.nsIn K mainGlobals "zip" = some none)
    {C0 : Addr} {gf0_0 gf0_1 gf0_2 gf0_3 gf0_4 gf0_5 gf0_6 : Addr} {god0_0 gan0_0 god0_1 gan0_1 god0_2 gan0_2 god0_3 gan0_3 god0_4 gan0_4 god0_5 gan0_5 god0_6 gan0_6 : Option Addr} {gsl0_0 gsl0_1 gsl0_2 gsl0_3 gsl0_4 gsl0_5 gsl0_6 : Array (Option Value)} {goc0_0 gkV0_0 gdc0_0 gpm0_0 gct0_0 gcd0_0 goc0_1 gkV0_1 gdc0_1 gpm0_1 gct0_1 gcd0_1 goc0_2 gkV0_2 gdc0_2 gpm0_2 gct0_2 gcd0_2 goc0_3 gkV0_3 gdc0_3 gpm0_3 gct0_3 gcd0_3 goc0_4 gkV0_4 gdc0_4 gpm0_4 gct0_4 gcd0_4 goc0_5 gkV0_5 gdc0_5 gpm0_5 gct0_5 gcd0_5 goc0_6 gkV0_6 gdc0_6 gpm0_6 gct0_6 gcd0_6 : Value}
    (ga0 : PySem.W.nsIn K mainGlobals "Ground" = some (some (.ref C0))) (gpg0 : PySem.W.plainGet K C0 Str.empty = true) (ghd0 : PySem.W.hasDictIn K C0 = true) (gpo0 : PySem.W.plainOver K C0 = true) (gsa0 : PySem.W.findIn K (.ref C0) "__setattr__" = some (some (.builtin "object.__setattr__"))) (gmk0 : PySem.W.makesIn K C0 = true) (gkp0 : PySem.W.keepIn K (.ref C0) = true)
    (gfi0_0 : PySem.W.findIn K (.ref C0) "__init__" = some (some (.ref gf0_0))) (gfn0_0 : PySem.W.isFn K (.ref gf0_0) = true) (glk0_0 : K.lookup gf0_0 = some ⟨goc0_0, god0_0, .func (PySem.W.fnOf "__init__" "Ground.__init__" (defArgs s_Ground___init__) (defBody s_Ground___init__) (defScope s_Ground___init__) .none gkV0_0 gdc0_0 gpm0_0 gan0_0 gcd0_0 gct0_0), gsl0_0⟩) (gco0_0 : PySem.W.codeIn K gcd0_0 "Ground.__init__" = true) (gkk0_0 : PySem.W.keepIn K (.ref gf0_0) = true)
    (gfi0_1 : PySem.W.findIn K (.ref C0) "rows" = some (some (.ref gf0_1))) (gfn0_1 : PySem.W.isFn K (.ref gf0_1) = true) (glk0_1 : K.lookup gf0_1 = some ⟨goc0_1, god0_1, .func (PySem.W.fnOf "rows" "Ground.rows" (defArgs s_Ground_rows) (defBody s_Ground_rows) (defScope s_Ground_rows) .none gkV0_1 gdc0_1 gpm0_1 gan0_1 gcd0_1 gct0_1), gsl0_1⟩) (gco0_1 : PySem.W.codeIn K gcd0_1 "Ground.rows" = true) (gkk0_1 : PySem.W.keepIn K (.ref gf0_1) = true)
    (gfi0_2 : PySem.W.findIn K (.ref C0) "left" = some (some (.ref gf0_2))) (gfn0_2 : PySem.W.isFn K (.ref gf0_2) = true) (glk0_2 : K.lookup gf0_2 = some ⟨goc0_2, god0_2, .func (PySem.W.fnOf "left" "Ground.left" (defArgs s_Ground_left) (defBody s_Ground_left) (defScope s_Ground_left) .none gkV0_2 gdc0_2 gpm0_2 gan0_2 gcd0_2 gct0_2), gsl0_2⟩) (gco0_2 : PySem.W.codeIn K gcd0_2 "Ground.left" = true) (gkk0_2 : PySem.W.keepIn K (.ref gf0_2) = true)
    (gfi0_3 : PySem.W.findIn K (.ref C0) "is_cut" = some (some (.ref gf0_3))) (gfn0_3 : PySem.W.isFn K (.ref gf0_3) = true) (glk0_3 : K.lookup gf0_3 = some ⟨goc0_3, god0_3, .func (PySem.W.fnOf "is_cut" "Ground.is_cut" (defArgs s_Ground_is_cut) (defBody s_Ground_is_cut) (defScope s_Ground_is_cut) .none gkV0_3 gdc0_3 gpm0_3 gan0_3 gcd0_3 gct0_3), gsl0_3⟩) (gco0_3 : PySem.W.codeIn K gcd0_3 "Ground.is_cut" = true) (gkk0_3 : PySem.W.keepIn K (.ref gf0_3) = true)
    (gfi0_4 : PySem.W.findIn K (.ref C0) "has_two" = some (some (.ref gf0_4))) (gfn0_4 : PySem.W.isFn K (.ref gf0_4) = true) (glk0_4 : K.lookup gf0_4 = some ⟨goc0_4, god0_4, .func (PySem.W.fnOf "has_two" "Ground.has_two" (defArgs s_Ground_has_two) (defBody s_Ground_has_two) (defScope s_Ground_has_two) .none gkV0_4 gdc0_4 gpm0_4 gan0_4 gcd0_4 gct0_4), gsl0_4⟩) (gco0_4 : PySem.W.codeIn K gcd0_4 "Ground.has_two" = true) (gkk0_4 : PySem.W.keepIn K (.ref gf0_4) = true)
    (gfi0_5 : PySem.W.findIn K (.ref C0) "choosing" = some (some (.ref gf0_5))) (gfn0_5 : PySem.W.isFn K (.ref gf0_5) = true) (glk0_5 : K.lookup gf0_5 = some ⟨goc0_5, god0_5, .func (PySem.W.fnOf "choosing" "Ground.choosing" (defArgs s_Ground_choosing) (defBody s_Ground_choosing) (defScope s_Ground_choosing) .none gkV0_5 gdc0_5 gpm0_5 gan0_5 gcd0_5 gct0_5), gsl0_5⟩) (gco0_5 : PySem.W.codeIn K gcd0_5 "Ground.choosing" = true) (gkk0_5 : PySem.W.keepIn K (.ref gf0_5) = true)
    (gfi0_6 : PySem.W.findIn K (.ref C0) "first_with" = some (some (.ref gf0_6))) (gfn0_6 : PySem.W.isFn K (.ref gf0_6) = true) (glk0_6 : K.lookup gf0_6 = some ⟨goc0_6, god0_6, .func (PySem.W.fnOf "first_with" "Ground.first_with" (defArgs s_Ground_first_with) (defBody s_Ground_first_with) (defScope s_Ground_first_with) .none gkV0_6 gdc0_6 gpm0_6 gan0_6 gcd0_6 gct0_6), gsl0_6⟩) (gco0_6 : PySem.W.codeIn K gcd0_6 "Ground.first_with" = true) (gkk0_6 : PySem.W.keepIn K (.ref gf0_6) = true)
    (gna0_book : PySem.W.findIn K (.ref C0) "book" = some none)
    (gna0_letters : PySem.W.findIn K (.ref C0) "letters" = some none)
    (gna0_stands : PySem.W.findIn K (.ref C0) "stands" = some none)
    (gna0_free : PySem.W.findIn K (.ref C0) "free" = some none)
    {aPostError aBadBook aNoOffice aBadPosting aNoPosting aBadText : Addr}
    (xg_PostError : PySem.W.nsIn K mainGlobals "PostError" = some (some (.ref aPostError)))
    (xc_PostError : PySem.W.isClsIn K aPostError = true)
    (xt_PostError : PySem.W.typeIn K (.ref aPostError) = some (.type "type"))
    (xs_PostError : PySem.W.subIn K (.ref aPostError) (.type "BaseException") = some true)
    (xh_PostError : PySem.W.hasDictIn K aPostError = true)
    (xg_BadBook : PySem.W.nsIn K mainGlobals "BadBook" = some (some (.ref aBadBook)))
    (xc_BadBook : PySem.W.isClsIn K aBadBook = true)
    (xt_BadBook : PySem.W.typeIn K (.ref aBadBook) = some (.type "type"))
    (xs_BadBook : PySem.W.subIn K (.ref aBadBook) (.type "BaseException") = some true)
    (xh_BadBook : PySem.W.hasDictIn K aBadBook = true)
    (xg_NoOffice : PySem.W.nsIn K mainGlobals "NoOffice" = some (some (.ref aNoOffice)))
    (xc_NoOffice : PySem.W.isClsIn K aNoOffice = true)
    (xt_NoOffice : PySem.W.typeIn K (.ref aNoOffice) = some (.type "type"))
    (xs_NoOffice : PySem.W.subIn K (.ref aNoOffice) (.type "BaseException") = some true)
    (xh_NoOffice : PySem.W.hasDictIn K aNoOffice = true)
    (xg_BadPosting : PySem.W.nsIn K mainGlobals "BadPosting" = some (some (.ref aBadPosting)))
    (xc_BadPosting : PySem.W.isClsIn K aBadPosting = true)
    (xt_BadPosting : PySem.W.typeIn K (.ref aBadPosting) = some (.type "type"))
    (xs_BadPosting : PySem.W.subIn K (.ref aBadPosting) (.type "BaseException") = some true)
    (xh_BadPosting : PySem.W.hasDictIn K aBadPosting = true)
    (xg_NoPosting : PySem.W.nsIn K mainGlobals "NoPosting" = some (some (.ref aNoPosting)))
    (xc_NoPosting : PySem.W.isClsIn K aNoPosting = true)
    (xt_NoPosting : PySem.W.typeIn K (.ref aNoPosting) = some (.type "type"))
    (xs_NoPosting : PySem.W.subIn K (.ref aNoPosting) (.type "BaseException") = some true)
    (xh_NoPosting : PySem.W.hasDictIn K aNoPosting = true)
    (xg_BadText : PySem.W.nsIn K mainGlobals "BadText" = some (some (.ref aBadText)))
    (xc_BadText : PySem.W.isClsIn K aBadText = true)
    (xt_BadText : PySem.W.typeIn K (.ref aBadText) = some (.type "type"))
    (xs_BadText : PySem.W.subIn K (.ref aBadText) (.type "BaseException") = some true)
    (xh_BadText : PySem.W.hasDictIn K aBadText = true)
    (xp_BadBook_PostError : PySem.W.subIn K (.ref aBadBook) (.ref aPostError) = some true)
    (xp_BadBook_BadBook : PySem.W.subIn K (.ref aBadBook) (.ref aBadBook) = some true)
    (xp_BadBook_NoOffice : PySem.W.subIn K (.ref aBadBook) (.ref aNoOffice) = some false)
    (xp_BadBook_BadPosting : PySem.W.subIn K (.ref aBadBook) (.ref aBadPosting) = some false)
    (xp_BadBook_NoPosting : PySem.W.subIn K (.ref aBadBook) (.ref aNoPosting) = some false)
    (xp_BadBook_BadText : PySem.W.subIn K (.ref aBadBook) (.ref aBadText) = some false)
    (xv_BadBook : PySem.W.subIn K (.ref aBadBook) (.type "ValueError") = some true)
    (xiA_BadBook : PySem.W.findIn K (.ref aBadBook) "__getattribute__" = some (some (.builtin "BaseException.__getattribute__")))
    (xiB_BadBook : PySem.W.findIn K (.ref aBadBook) "__getattr__" = some none)
    (xiC_BadBook : PySem.W.findIn K (.ref aBadBook) "__class__" = some (some (.builtin "object.__class__")))
    (xiD_BadBook : PySem.W.specialIn K (.builtin "object.__class__") "__get__" = some (some (.builtin "getset_descriptor.__get__")))
    (xiE_BadBook : PySem.W.takesIn K (.builtin "object.__class__") = some true)
    (xiF_BadBook : PySem.W.mroIn K aBadBook (.type "object") = some true)
    (xkC_BadBook : PySem.W.keepIn K (.ref aBadBook) = true)
    {nm_BadBook q_BadBook : Str} {N_BadBook : Addr} {bs_BadBook : List Value} {sn_BadBook : List Str} {su_BadBook : List Value} {ab_BadBook : Bool} {co_BadBook : Option Bool} {dd_BadBook : Option Addr} {k0_BadBook k1_BadBook k2_BadBook k3_BadBook k5_BadBook : Option Value} {xf_BadBook : Addr} {xod_BadBook xan_BadBook : Option Addr} {xsl_BadBook : Array (Option Value)} {xoc_BadBook xkV_BadBook xdc_BadBook xpm_BadBook xcd_BadBook xct_BadBook : Value}
    (xl_BadBook : K.lookup aBadBook = some (excClassObj nm_BadBook q_BadBook aBadBook N_BadBook bs_BadBook [.ref aPostError, .type "ValueError", .type "Exception", .type "BaseException", .type "object"] true sn_BadBook su_BadBook ab_BadBook co_BadBook dd_BadBook k0_BadBook k1_BadBook k2_BadBook k3_BadBook k5_BadBook "ValueError.__new__"))
    (xsa_BadBook : PySem.W.findIn K (.ref aBadBook) "__setattr__" = some (some (.builtin "object.__setattr__")))
    (xno_BadBook : PySem.W.findIn K (.ref aBadBook) "why" = some none)
    (xI_BadBook : PySem.W.findIn K (.ref aBadBook) "__init__" = some (some (.ref xf_BadBook)))
    (xtI_BadBook : PySem.W.typeIn K (.ref xf_BadBook) = some (.type "function"))
    (xlk_BadBook : K.lookup xf_BadBook = some ⟨xoc_BadBook, xod_BadBook, .func (PySem.W.fnOf "__init__" "BadBook.__init__" (defArgs s_BadBook___init__) (defBody s_BadBook___init__) (defScope s_BadBook___init__) .none xkV_BadBook xdc_BadBook xpm_BadBook xan_BadBook xcd_BadBook xct_BadBook), xsl_BadBook⟩)
    (xco_BadBook : PySem.W.codeIn K xcd_BadBook "BadBook.__init__" = true)
    (xkk_BadBook : PySem.W.keepIn K (.ref xf_BadBook) = true)
    (xp_BadPosting_PostError : PySem.W.subIn K (.ref aBadPosting) (.ref aPostError) = some true)
    (xp_BadPosting_BadBook : PySem.W.subIn K (.ref aBadPosting) (.ref aBadBook) = some false)
    (xp_BadPosting_NoOffice : PySem.W.subIn K (.ref aBadPosting) (.ref aNoOffice) = some false)
    (xp_BadPosting_BadPosting : PySem.W.subIn K (.ref aBadPosting) (.ref aBadPosting) = some true)
    (xp_BadPosting_NoPosting : PySem.W.subIn K (.ref aBadPosting) (.ref aNoPosting) = some false)
    (xp_BadPosting_BadText : PySem.W.subIn K (.ref aBadPosting) (.ref aBadText) = some false)
    (xv_BadPosting : PySem.W.subIn K (.ref aBadPosting) (.type "ValueError") = some true)
    (xiA_BadPosting : PySem.W.findIn K (.ref aBadPosting) "__getattribute__" = some (some (.builtin "BaseException.__getattribute__")))
    (xiB_BadPosting : PySem.W.findIn K (.ref aBadPosting) "__getattr__" = some none)
    (xiC_BadPosting : PySem.W.findIn K (.ref aBadPosting) "__class__" = some (some (.builtin "object.__class__")))
    (xiD_BadPosting : PySem.W.specialIn K (.builtin "object.__class__") "__get__" = some (some (.builtin "getset_descriptor.__get__")))
    (xiE_BadPosting : PySem.W.takesIn K (.builtin "object.__class__") = some true)
    (xiF_BadPosting : PySem.W.mroIn K aBadPosting (.type "object") = some true)
    (xkC_BadPosting : PySem.W.keepIn K (.ref aBadPosting) = true)
    (xe_BadPosting : PySem.W.excIn K aBadPosting [.type "ValueError", .type "Exception", .type "BaseException", .type "object"] "ValueError.__new__" = true)
    (xp_NoOffice_PostError : PySem.W.subIn K (.ref aNoOffice) (.ref aPostError) = some true)
    (xp_NoOffice_BadBook : PySem.W.subIn K (.ref aNoOffice) (.ref aBadBook) = some false)
    (xp_NoOffice_NoOffice : PySem.W.subIn K (.ref aNoOffice) (.ref aNoOffice) = some true)
    (xp_NoOffice_BadPosting : PySem.W.subIn K (.ref aNoOffice) (.ref aBadPosting) = some false)
    (xp_NoOffice_NoPosting : PySem.W.subIn K (.ref aNoOffice) (.ref aNoPosting) = some false)
    (xp_NoOffice_BadText : PySem.W.subIn K (.ref aNoOffice) (.ref aBadText) = some false)
    (xv_NoOffice : PySem.W.subIn K (.ref aNoOffice) (.type "ValueError") = some true)
    (xiA_NoOffice : PySem.W.findIn K (.ref aNoOffice) "__getattribute__" = some (some (.builtin "BaseException.__getattribute__")))
    (xiB_NoOffice : PySem.W.findIn K (.ref aNoOffice) "__getattr__" = some none)
    (xiC_NoOffice : PySem.W.findIn K (.ref aNoOffice) "__class__" = some (some (.builtin "object.__class__")))
    (xiD_NoOffice : PySem.W.specialIn K (.builtin "object.__class__") "__get__" = some (some (.builtin "getset_descriptor.__get__")))
    (xiE_NoOffice : PySem.W.takesIn K (.builtin "object.__class__") = some true)
    (xiF_NoOffice : PySem.W.mroIn K aNoOffice (.type "object") = some true)
    (xkC_NoOffice : PySem.W.keepIn K (.ref aNoOffice) = true)
    (xe_NoOffice : PySem.W.excIn K aNoOffice [.type "ValueError", .type "Exception", .type "BaseException", .type "object"] "ValueError.__new__" = true)
    (xVE : PySem.W.nsIn K mainGlobals "ValueError" = some none)
    (hts : tt ∈ ts) (hh : PySem.W.codeHdIn K cc tt = true) (ht : K.lookup tt = none)
    : ∃ L : LamC, L.tt ∈ ts ∧ PySem.W.codeHdIn K L.cc L.tt = true ∧ K.lookup L.tt = none ∧ Md K mg ∧ ∃ f fd, FunC K "law" s_law f fd LamC.cc ∧ mg "law" = some (.ref f) ∧ (∀ (s : Shared) (v : Value), BindsTo s fd ⟨[v], []⟩ [("_law_script", v)]) := by
  letI L : LamC := ⟨cc, tt⟩
  exact ⟨L, hts, hh, ht, {
    c_LEAST_OFFICES := let ⟨t, e⟩ := n0; ⟨t, PySem.W.mg_of X G e⟩
    c_MOST_OFFICES := let ⟨t, e⟩ := n1; ⟨t, PySem.W.mg_of X G e⟩
    c_MOST_FLIGHT := let ⟨t, e⟩ := n2; ⟨t, PySem.W.mg_of X G e⟩
    c_MOST_STORMS := let ⟨t, e⟩ := n3; ⟨t, PySem.W.mg_of X G e⟩
    c_MOST_CARTS := let ⟨t, e⟩ := n4; ⟨t, PySem.W.mg_of X G e⟩
    c_MOST_BIRDS := let ⟨t, e⟩ := n5; ⟨t, PySem.W.mg_of X G e⟩
    c_MOST_HOUR := let ⟨t, e⟩ := n6; ⟨t, PySem.W.mg_of X G e⟩
    c_FLIGHTS := let ⟨t, e⟩ := n7; ⟨t, PySem.W.mg_of X G e⟩
    c_STORMS := let ⟨t, e⟩ := n8; ⟨t, PySem.W.mg_of X G e⟩
    c_CARTS := let ⟨t, e⟩ := n9; ⟨t, PySem.W.mg_of X G e⟩
    c_BIRDS := let ⟨t, e⟩ := n10; ⟨t, PySem.W.mg_of X G e⟩
    t_SORTS := ⟨tp0, _, _, _, PySem.W.mg_of X G ta0, tb0, rfl, rfl, rfl, Nat.le_of_ble_eq_true rfl, (.cons ⟨_, rfl⟩ (.cons ⟨_, rfl⟩ (.cons ⟨_, rfl⟩ (.cons ⟨_, rfl⟩ .nil))))⟩
    d_need := have F := L2.fun_mk (st := s_need) l0 c0 k0; ⟨_, _, F, PySem.W.mg_of X G a0, F.binds fun _ _ _ _ _ _ us hl => match us, hl with | [_, _], _ => rfl⟩
    d_is_office := have F := L2.fun_mk (st := s_is_office) l1 c1 k1; ⟨_, _, F, PySem.W.mg_of X G a1, F.binds fun _ _ _ _ _ _ us hl => match us, hl with | [_, _], _ => rfl⟩
    d_need_flights := have F := L2.fun_mk (st := s_need_flights) l2 c2 k2; ⟨_, _, F, PySem.W.mg_of X G a2, F.binds fun _ _ _ _ _ _ us hl => match us, hl with | [_], _ => rfl⟩
    d_need_rows := have F := L2.fun_mk (st := s_need_rows) l3 c3 k3; ⟨_, _, F, PySem.W.mg_of X G a3, F.binds fun _ _ _ _ _ _ us hl => match us, hl with | [_, _, _, _], _ => rfl⟩
    d_need_book := have F := L2.fun_mk (st := s_need_book) l4 c4 k4; ⟨_, _, F, PySem.W.mg_of X G a4, F.binds fun _ _ _ _ _ _ us hl => match us, hl with | [_], _ => rfl⟩
    d_need_posting := have F := L2.fun_mk (st := s_need_posting) l5 c5 k5; ⟨_, _, F, PySem.W.mg_of X G a5, F.binds fun _ _ _ _ _ _ us hl => match us, hl with | [_, _], _ => rfl⟩
    d_need_office := have F := L2.fun_mk (st := s_need_office) l6 c6 k6; ⟨_, _, F, PySem.W.mg_of X G a6, F.binds fun _ _ _ _ _ _ us hl => match us, hl with | [_, _], _ => rfl⟩
    d_need_letters := have F := L2.fun_mk (st := s_need_letters) l7 c7 k7; ⟨_, _, F, PySem.W.mg_of X G a7, F.binds fun _ _ _ _ _ _ us hl => match us, hl with | [_, _], _ => rfl⟩
    d_arrivals := have F := L2.fun_mk (st := s_arrivals) l8 c8 k8; ⟨_, _, F, PySem.W.mg_of X G a8, F.binds fun _ _ _ _ _ _ us hl => match us, hl with | [_, _, _], _ => rfl⟩
    d_carried := have F := L2.fun_mk (st := s_carried) l9 c9 k9; ⟨_, _, F, PySem.W.mg_of X G a9, F.binds fun _ _ _ _ _ _ us hl => match us, hl with | [_, _, _], _ => rfl⟩
    d_by_carts := have F := L2.fun_mk (st := s_by_carts) l10 c10 k10; ⟨_, _, F, PySem.W.mg_of X G a10, F.binds fun _ _ _ _ _ _ us hl => match us, hl with | [_, _, _, _], _ => rfl⟩
    d_all_choices := have F := L2.fun_mk (st := s_all_choices) l11 c11 k11; ⟨_, _, F, PySem.W.mg_of X G a11, F.binds fun _ _ _ _ _ _ us hl => match us, hl with | [_, _, _, _], _ => rfl⟩
    d_choices := have F := L2.fun_mk (st := s_choices) l12 c12 k12; ⟨_, _, F, PySem.W.mg_of X G a12, F.binds fun _ _ _ _ _ _ us hl => match us, hl with | [_, _, _, _], _ => rfl⟩
    d_is_barred := have F := L2.fun_mk (st := s_is_barred) l13 c13 k13; ⟨_, _, F, PySem.W.mg_of X G a13, F.binds fun _ _ _ _ _ _ us hl => match us, hl with | [_, _, _, _], _ => rfl⟩
    d_let_go := have F := L2.fun_mk (st := s_let_go) l14 c14 k14; ⟨_, _, F, PySem.W.mg_of X G a14, F.binds fun _ _ _ _ _ _ us hl => match us, hl with | [_, _, _, _], _ => rfl⟩
    d_comes := have F := L2.fun_mk (st := s_comes) l15 c15 k15; ⟨_, _, F, PySem.W.mg_of X G a15, F.binds fun _ _ _ _ _ _ us hl => match us, hl with | [_, _, _, _], _ => rfl⟩
    d_home_by := have F := L2.fun_mk (st := s_home_by) l16 c16 k16; ⟨_, _, F, PySem.W.mg_of X G a16, F.binds fun _ _ _ _ _ _ us hl => match us, hl with | [_, _, _, _], _ => rfl⟩
    d_need_begins := have F := L2.fun_mk (st := s_need_begins) l17 c17 k17; ⟨_, _, F, PySem.W.mg_of X G a17, F.binds fun _ _ _ _ _ _ us hl => match us, hl with | [_, _], _ => rfl⟩
    d_posted := have F := L2.fun_mk (st := s_posted) l18 c18 k18; ⟨_, _, F, PySem.W.mg_of X G a18, F.binds fun _ _ _ _ _ _ us hl => match us, hl with | [_], _ => rfl⟩
    d_spread := have F := L2.fun_mk (st := s_spread) l19 c19 k19; ⟨_, _, F, PySem.W.mg_of X G a19, F.binds fun _ _ _ _ _ _ us hl => match us, hl with | [_, _, _], _ => rfl⟩
    d_reach := have F := L2.fun_mk (st := s_reach) l20 c20 k20; ⟨_, _, F, PySem.W.mg_of X G a20, F.binds fun _ _ _ _ _ _ us hl => match us, hl with | [_, _, _], _ => rfl⟩
    d_flights_of := have F := L2.fun_mk (st := s_flights_of) l21 c21 k21; ⟨_, _, F, PySem.W.mg_of X G a21, F.binds fun _ _ _ _ _ _ us hl => match us, hl with | [_, _, _], _ => rfl⟩
    d_flown := have F := L2.fun_mk (st := s_flown) l22 c22 k22; ⟨_, _, F, PySem.W.mg_of X G a22, F.binds fun _ _ _ _ _ _ us hl => match us, hl with | [_, _, _], _ => rfl⟩
    d_without := have F := L2.fun_mk (st := s_without) l23 c23 k23; ⟨_, _, F, PySem.W.mg_of X G a23, F.binds fun _ _ _ _ _ _ us hl => match us, hl with | [_, _], _ => rfl⟩
    d_losses := have F := L2.fun_mk (st := s_losses) l24 c24 k24; ⟨_, _, F, PySem.W.mg_of X G a24, F.binds fun _ _ _ _ _ _ us hl => match us, hl with | [_], _ => rfl⟩
    d_later := have F := L2.fun_mk (st := s_later) l25 c25 k25; ⟨_, _, F, PySem.W.mg_of X G a25, F.binds fun _ _ _ _ _ _ us hl => match us, hl with | [_, _], _ => rfl⟩
    d_sure := have F := L2.fun_mk (st := s_sure) l26 c26 k26; ⟨_, _, F, PySem.W.mg_of X G a26, F.binds fun _ _ _ _ _ _ us hl => match us, hl with | [_, _, _], _ => rfl⟩
    d_comes_by := have F := L2.fun_mk (st := s_comes_by) l27 c27 k27; ⟨_, _, F, PySem.W.mg_of X G a27, F.binds fun _ _ _ _ _ _ us hl => match us, hl with | [_, _, _], _ => rfl⟩
    d_first_failing := have F := L2.fun_mk (st := s_first_failing) l28 c28 k28; ⟨_, _, F, PySem.W.mg_of X G a28, F.binds fun _ _ _ _ _ _ us hl => match us, hl with | [_, _, _], _ => rfl⟩
    d_kept := have F := L2.fun_mk (st := s_kept) l29 c29 k29; ⟨_, _, F, PySem.W.mg_of X G a29, F.binds fun _ _ _ _ _ _ us hl => match us, hl with | [_, _, _], _ => rfl⟩
    d_is_cut := have F := L2.fun_mk (st := s_is_cut) l30 c30 k30; ⟨_, _, F, PySem.W.mg_of X G a30, F.binds fun _ _ _ _ _ _ us hl => match us, hl with | [_, _, _, _, _, _], _ => rfl⟩
    d_shows := have F := L2.fun_mk (st := s_shows) l31 c31 k31; ⟨_, _, F, PySem.W.mg_of X G a31, F.binds fun _ _ _ _ _ _ us hl => match us, hl with | [_, _, _, _, _, _, _], _ => rfl⟩
    d_narrowed := have F := L2.fun_mk (st := s_narrowed) l32 c32 k32; ⟨_, _, F, PySem.W.mg_of X G a32, F.binds fun _ _ _ _ _ _ us hl => match us, hl with | [_, _], _ => rfl⟩
    d_posting_of := have F := L2.fun_mk (st := s_posting_of) l33 c33 k33; ⟨_, _, F, PySem.W.mg_of X G a33, F.binds fun _ _ _ _ _ _ us hl => match us, hl with | [_, _], _ => rfl⟩
    d_fewest := have F := L2.fun_mk (st := s_fewest) l34 c34 k34; ⟨_, _, F, PySem.W.mg_of X G a34, F.binds fun _ _ _ _ _ _ us hl => match us, hl with | [_, _, _, _, _], _ => rfl⟩
    d_mended := have F := L2.fun_mk (st := s_mended) l35 c35 k35; ⟨_, _, F, PySem.W.mg_of X G a35, F.binds fun _ _ _ _ _ _ us hl => match us, hl with | [_, _, _, _, _], _ => rfl⟩
    d_begins_then := have F := L2.fun_mk (st := s_begins_then) l36 c36 k36; ⟨_, _, F, PySem.W.mg_of X G a36, F.binds fun _ _ _ _ _ _ us hl => match us, hl with | [_, _, _, _, _], _ => rfl⟩
    d_place_of := have F := L2.fun_mk (st := s_place_of) l37 c37 k37; ⟨_, _, F, PySem.W.mg_of X G a37, F.binds fun _ _ _ _ _ _ us hl => match us, hl with | [_, _], _ => rfl⟩
    d_first_to := have F := L2.fun_mk (st := s_first_to) l38 c38 k38; ⟨_, _, F, PySem.W.mg_of X G a38, F.binds fun _ _ _ _ _ _ us hl => match us, hl with | [_, _, _, _], _ => rfl⟩
    d_way_to := have F := L2.fun_mk (st := s_way_to) l39 c39 k39; ⟨_, _, F, PySem.W.mg_of X G a39, F.binds fun _ _ _ _ _ _ us hl => match us, hl with | [_, _, _, _], _ => rfl⟩
    d_way := have F := L2.fun_mk (st := s_way) l40 c40 k40; ⟨_, _, F, PySem.W.mg_of X G a40, F.binds fun _ _ _ _ _ _ us hl => match us, hl with | [_, _, _, _], _ => rfl⟩
    d_weak := have F := L2.fun_mk (st := s_weak) l41 c41 k41; ⟨_, _, F, PySem.W.mg_of X G a41, F.binds fun _ _ _ _ _ _ us hl => match us, hl with | [_, _, _], _ => rfl⟩
    d_latest := have F := L2.fun_mk (st := s_latest) l42 c42 k42; ⟨_, _, F, PySem.W.mg_of X G a42, F.binds fun _ _ _ _ _ _ us hl => match us, hl with | [_, _, _, _, _], _ => rfl⟩
    d_row_of := have F := L2.fun_mk (st := s_row_of) l43 c43 k43; ⟨_, _, F, PySem.W.mg_of X G a43, F.binds fun _ _ _ _ _ _ us hl => match us, hl with | [_, _], _ => rfl⟩
    d_written := have F := L2.fun_mk (st := s_written) l44 c44 k44; ⟨_, _, F, PySem.W.mg_of X G a44, F.binds fun _ _ _ _ _ _ us hl => match us, hl with | [_], _ => rfl⟩
    d__law_next := have F := L2.fun_mk (st := s__law_next) l45 c45 k45; ⟨_, _, F, PySem.W.mg_of X G a45, F.binds fun _ _ _ _ _ _ us hl => match us, hl with | [_, _], _ => rfl⟩
    d__law_hours := have F := L2.fun_mk (st := s__law_hours) l46 c46 k46; ⟨_, _, F, PySem.W.mg_of X G a46, F.binds fun _ _ _ _ _ _ us hl => match us, hl with | [_, _, _], _ => rfl⟩
    d__law_book := have F := L2.fun_mk (st := s__law_book) l47 c47 k47; ⟨_, _, F, PySem.W.mg_of X G a47, F.binds fun _ _ _ _ _ _ us hl => match us, hl with | [_, _, _], _ => rfl⟩
    d__law_posting := have F := L2.fun_mk (st := s__law_posting) l48 c48 k48; ⟨_, _, F, PySem.W.mg_of X G a48, F.binds fun _ _ _ _ _ _ us hl => match us, hl with | [_, _], _ => rfl⟩
    d__law_ask := have F := L2.fun_mk (st := s__law_ask) l49 c49 k49; ⟨_, _, F, PySem.W.mg_of X G a49, F.binds fun _ _ _ _ _ _ us hl => match us, hl with | [_, _, _, _], _ => rfl⟩
    d__law_plain := have F := L2.fun_mk (st := s__law_plain) l50 c50 k50; ⟨_, _, F, PySem.W.mg_of X G a50, F.binds fun _ _ _ _ _ _ us hl => match us, hl with | [_, _, _], _ => rfl⟩
    d__law_kind := have F := L2.fun_mk (st := s__law_kind) l51 c51 k51; ⟨_, _, F, PySem.W.mg_of X G a51, F.binds fun _ _ _ _ _ _ us hl => match us, hl with | [_], _ => rfl⟩
    d__law_wrong := have F := L2.fun_mk (st := s__law_wrong) l52 c52 k52; ⟨_, _, F, PySem.W.mg_of X G a52, F.binds fun _ _ _ _ _ _ us hl => match us, hl with | [_, _], _ => rfl⟩
    b_enumerate := PySem.W.mg_none_of X G z0
    b_int := PySem.W.mg_none_of X G z1
    b_isinstance := PySem.W.mg_none_of X G z2
    b_len := PySem.W.mg_none_of X G z3
    b_list := PySem.W.mg_none_of X G z4
    b_max := PySem.W.mg_none_of X G z5
    b_min := PySem.W.mg_none_of X G z6
    b_range := PySem.W.mg_none_of X G z7
    b_reversed := PySem.W.mg_none_of X G z8
    b_sorted := PySem.W.mg_none_of X G z9
    b_str := PySem.W.mg_none_of X G z10
    b_tuple := PySem.W.mg_none_of X G z11
    b_zip := PySem.W.mg_none_of X G z12
    g_Ground := ⟨C0, {
      cl := ⟨gpg0, ghd0, gpo0, gsa0⟩
      mkd := have F := L2.fun_mk (st := s_Ground___init__) glk0_0 gco0_0 gkk0_0; ⟨_, _, F, ⟨gmk0, gfi0_0, gfn0_0, gkp0⟩, PySem.W.mg_of X G ga0, F.binds fun _ _ _ _ _ _ us hl => match us, hl with | [_, _, _, _, _, _], _ => rfl⟩
      m_rows := have F := L2.fun_mk (st := s_Ground_rows) glk0_1 gco0_1 gkk0_1; ⟨_, _, F, ⟨gfi0_1, gfn0_1, gkk0_1⟩, F.binds fun _ _ _ _ _ _ us hl => match us, hl with | [_], _ => rfl⟩
      m_left := have F := L2.fun_mk (st := s_Ground_left) glk0_2 gco0_2 gkk0_2; ⟨_, _, F, ⟨gfi0_2, gfn0_2, gkk0_2⟩, F.binds fun _ _ _ _ _ _ us hl => match us, hl with | [_, _], _ => rfl⟩
      m_is_cut := have F := L2.fun_mk (st := s_Ground_is_cut) glk0_3 gco0_3 gkk0_3; ⟨_, _, F, ⟨gfi0_3, gfn0_3, gkk0_3⟩, F.binds fun _ _ _ _ _ _ us hl => match us, hl with | [_, _], _ => rfl⟩
      m_has_two := have F := L2.fun_mk (st := s_Ground_has_two) glk0_4 gco0_4 gkk0_4; ⟨_, _, F, ⟨gfi0_4, gfn0_4, gkk0_4⟩, F.binds fun _ _ _ _ _ _ us hl => match us, hl with | [_, _, _], _ => rfl⟩
      m_choosing := have F := L2.fun_mk (st := s_Ground_choosing) glk0_5 gco0_5 gkk0_5; ⟨_, _, F, ⟨gfi0_5, gfn0_5, gkk0_5⟩, F.binds fun _ _ _ _ _ _ us hl => match us, hl with | [_, _, _, _, _], _ => rfl⟩
      m_first_with := have F := L2.fun_mk (st := s_Ground_first_with) glk0_6 gco0_6 gkk0_6; ⟨_, _, F, ⟨gfi0_6, gfn0_6, gkk0_6⟩, F.binds fun _ _ _ _ _ _ us hl => match us, hl with | [_, _, _], _ => rfl⟩
      na_book := gna0_book
      na_letters := gna0_letters
      na_stands := gna0_stands
      na_free := gna0_free }⟩
    b_ValueError := PySem.W.mg_none_of X G xVE
    exs := ⟨aPostError, aBadBook, aNoOffice, aBadPosting, aNoPosting, aBadText, {
      g_PostError := PySem.W.mg_of X G xg_PostError
      c_PostError := xc_PostError
      t_PostError := xt_PostError
      s_PostError := xs_PostError
      h_PostError := xh_PostError
      g_BadBook := PySem.W.mg_of X G xg_BadBook
      c_BadBook := xc_BadBook
      t_BadBook := xt_BadBook
      s_BadBook := xs_BadBook
      h_BadBook := xh_BadBook
      g_NoOffice := PySem.W.mg_of X G xg_NoOffice
      c_NoOffice := xc_NoOffice
      t_NoOffice := xt_NoOffice
      s_NoOffice := xs_NoOffice
      h_NoOffice := xh_NoOffice
      g_BadPosting := PySem.W.mg_of X G xg_BadPosting
      c_BadPosting := xc_BadPosting
      t_BadPosting := xt_BadPosting
      s_BadPosting := xs_BadPosting
      h_BadPosting := xh_BadPosting
      g_NoPosting := PySem.W.mg_of X G xg_NoPosting
      c_NoPosting := xc_NoPosting
      t_NoPosting := xt_NoPosting
      s_NoPosting := xs_NoPosting
      h_NoPosting := xh_NoPosting
      g_BadText := PySem.W.mg_of X G xg_BadText
      c_BadText := xc_BadText
      t_BadText := xt_BadText
      s_BadText := xs_BadText
      h_BadText := xh_BadText
      p_BadBook_PostError := xp_BadBook_PostError
      p_BadBook_BadBook := xp_BadBook_BadBook
      p_BadBook_NoOffice := xp_BadBook_NoOffice
      p_BadBook_BadPosting := xp_BadBook_BadPosting
      p_BadBook_NoPosting := xp_BadBook_NoPosting
      p_BadBook_BadText := xp_BadBook_BadText
      v_BadBook := xv_BadBook
      i_BadBook := ⟨xc_BadBook, xiA_BadBook, xiB_BadBook, xs_BadBook, xiC_BadBook, xiD_BadBook, xiE_BadBook, xiF_BadBook, xh_BadBook⟩
      x_BadBook := have F := L2.fun_mk (st := s_BadBook___init__) xlk_BadBook xco_BadBook xkk_BadBook; ⟨PySem.W.mg_of X G xg_BadBook, ⟨⟨_, _, _, _, _, _, _, _, _, _, _, _, _, _, _, xl_BadBook, show PySem.HandSPX.refsVE [.type "ValueError", .type "Exception", .type "BaseException", .type "object"] = true by decide +kernel⟩, xsa_BadBook, xs_BadBook, xt_BadBook, xkC_BadBook⟩, xno_BadBook, _, _, xI_BadBook, xtI_BadBook, F.binds (fun _ _ _ _ _ _ us hl => match us, hl with | [_, _], _ => rfl), F⟩
      p_BadPosting_PostError := xp_BadPosting_PostError
      p_BadPosting_BadBook := xp_BadPosting_BadBook
      p_BadPosting_NoOffice := xp_BadPosting_NoOffice
      p_BadPosting_BadPosting := xp_BadPosting_BadPosting
      p_BadPosting_NoPosting := xp_BadPosting_NoPosting
      p_BadPosting_BadText := xp_BadPosting_BadText
      v_BadPosting := xv_BadPosting
      i_BadPosting := ⟨xc_BadPosting, xiA_BadPosting, xiB_BadPosting, xs_BadPosting, xiC_BadPosting, xiD_BadPosting, xiE_BadPosting, xiF_BadPosting, xh_BadPosting⟩
      z_BadPosting := ⟨PySem.W.mg_of X G xg_BadPosting, ⟨_, _, _, _, PySem.F.excBase_ValueError, xe_BadPosting⟩, xkC_BadPosting, xs_BadPosting, xt_BadPosting⟩
      p_NoOffice_PostError := xp_NoOffice_PostError
      p_NoOffice_BadBook := xp_NoOffice_BadBook
      p_NoOffice_NoOffice := xp_NoOffice_NoOffice
      p_NoOffice_BadPosting := xp_NoOffice_BadPosting
      p_NoOffice_NoPosting := xp_NoOffice_NoPosting
      p_NoOffice_BadText := xp_NoOffice_BadText
      v_NoOffice := xv_NoOffice
      i_NoOffice := ⟨xc_NoOffice, xiA_NoOffice, xiB_NoOffice, xs_NoOffice, xiC_NoOffice, xiD_NoOffice, xiE_NoOffice, xiF_NoOffice, xh_NoOffice⟩
      z_NoOffice := ⟨PySem.W.mg_of X G xg_NoOffice, ⟨_, _, _, _, PySem.F.excBase_ValueError, xe_NoOffice⟩, xkC_NoOffice, xs_NoOffice, xt_NoOffice⟩ }⟩
    }, 
  ⟨f53, _, fun_mkC (st := s_law) l53 c53 k53, PySem.W.mg_of X G a53, fun s v => .of_eq rfl⟩⟩
end
end K
open PySem PySem.W PyProof.Rows in
set_option maxRecDepth 100000 in
set_option maxHeartbeats 0 in
theorem PySem.Challenge.cw_homingpost_k14_refusals_holds : PySem.Challenge.rw_homingpost_k14_refusals.Holds := by
  w_on; o_law; k_head; (case hw => w_witness2)
  k_fill
  refine K.walk (l := PySem.Challenge.rw_homingpost_k14_refusals) rfl rfl (fun w h Y => ⟨PySem.W.km_in_of Y, PySem.W.km_tabs_of Y⟩) ?F rfl
  case F =>
    intro w mg fa h KX G hmg
    refine' K.md_mk KX G ?a0 ?l0 ?c0 ?k0 ?a1 ?l1 ?c1 ?k1 ?a2 ?l2 ?c2 ?k2 ?a3 ?l3 ?c3 ?k3 ?a4 ?l4 ?c4 ?k4 ?a5 ?l5 ?c5 ?k5 ?a6 ?l6 ?c6 ?k6 ?a7 ?l7 ?c7 ?k7 ?a8 ?l8 ?c8 ?k8 ?a9 ?l9 ?c9 ?k9 ?a10 ?l10 ?c10 ?k10 ?a11 ?l11 ?c11 ?k11 ?a12 ?l12 ?c12 ?k12 ?a13 ?l13 ?c13 ?k13 ?a14 ?l14 ?c14 ?k14 ?a15 ?l15 ?c15 ?k15 ?a16 ?l16 ?c16 ?k16 ?a17 ?l17 ?c17 ?k17 ?a18 ?l18 ?c18 ?k18 ?a19 ?l19 ?c19 ?k19 ?a20 ?l20 ?c20 ?k20 ?a21 ?l21 ?c21 ?k21 ?a22 ?l22 ?c22 ?k22 ?a23 ?l23 ?c23 ?k23 ?a24 ?l24 ?c24 ?k24 ?a25 ?l25 ?c25 ?k25 ?a26 ?l26 ?c26 ?k26 ?a27 ?l27 ?c27 ?k27 ?a28 ?l28 ?c28 ?k28 ?a29 ?l29 ?c29 ?k29 ?a30 ?l30 ?c30 ?k30 ?a31 ?l31 ?c31 ?k31 ?a32 ?l32 ?c32 ?k32 ?a33 ?l33 ?c33 ?k33 ?a34 ?l34 ?c34 ?k34 ?a35 ?l35 ?c35 ?k35 ?a36 ?l36 ?c36 ?k36 ?a37 ?l37 ?c37 ?k37 ?a38 ?l38 ?c38 ?k38 ?a39 ?l39 ?c39 ?k39 ?a40 ?l40 ?c40 ?k40 ?a41 ?l41 ?c41 ?k41 ?a42 ?l42 ?c42 ?k42 ?a43 ?l43 ?c43 ?k43 ?a44 ?l44 ?c44 ?k44 ?a45 ?l45 ?c45 ?k45 ?a46 ?l46 ?c46 ?k46 ?a47 ?l47 ?c47 ?k47 ?a48 ?l48 ?c48 ?k48 ?a49 ?l49 ?c49 ?k49 ?a50 ?l50 ?c50 ?k50 ?a51 ?l51 ?c51 ?k51 ?a52 ?l52 ?c52 ?k52 ?a53 ?l53 ?c53 ?k53 ?n0 ?n1 ?n2 ?n3 ?n4 ?n5 ?n6 ?n7 ?n8 ?n9 ?n10 ?ta0 ?tb0 ?z0 ?z1 ?z2 ?z3 ?z4 ?z5 ?z6 ?z7 ?z8 ?z9 ?z10 ?z11 ?z12 ?ga0 ?gpg0 ?ghd0 ?gpo0 ?gsa0 ?gmk0 ?gkp0 ?gfi0_0 ?gfn0_0 ?glk0_0 ?gco0_0 ?gkk0_0 ?gfi0_1 ?gfn0_1 ?glk0_1 ?gco0_1 ?gkk0_1 ?gfi0_2 ?gfn0_2 ?glk0_2 ?gco0_2 ?gkk0_2 ?gfi0_3 ?gfn0_3 ?glk0_3 ?gco0_3 ?gkk0_3 ?gfi0_4 ?gfn0_4 ?glk0_4 ?gco0_4 ?gkk0_4 ?gfi0_5 ?gfn0_5 ?glk0_5 ?gco0_5 ?gkk0_5 ?gfi0_6 ?gfn0_6 ?glk0_6 ?gco0_6 ?gkk0_6 ?gna0_book ?gna0_letters ?gna0_stands ?gna0_free ?xg_PostError ?xc_PostError ?xt_PostError ?xs_PostError ?xh_PostError ?xg_BadBook ?xc_BadBook ?xt_BadBook ?xs_BadBook ?xh_BadBook ?xg_NoOffice ?xc_NoOffice ?xt_NoOffice ?xs_NoOffice ?xh_NoOffice ?xg_BadPosting ?xc_BadPosting ?xt_BadPosting ?xs_BadPosting ?xh_BadPosting ?xg_NoPosting ?xc_NoPosting ?xt_NoPosting ?xs_NoPosting ?xh_NoPosting ?xg_BadText ?xc_BadText ?xt_BadText ?xs_BadText ?xh_BadText ?xp_BadBook_PostError ?xp_BadBook_BadBook ?xp_BadBook_NoOffice ?xp_BadBook_BadPosting ?xp_BadBook_NoPosting ?xp_BadBook_BadText ?xv_BadBook ?xiA_BadBook ?xiB_BadBook ?xiC_BadBook ?xiD_BadBook ?xiE_BadBook ?xiF_BadBook ?xkC_BadBook ?xl_BadBook ?xsa_BadBook ?xno_BadBook ?xI_BadBook ?xtI_BadBook ?xlk_BadBook ?xco_BadBook ?xkk_BadBook ?xp_BadPosting_PostError ?xp_BadPosting_BadBook ?xp_BadPosting_NoOffice ?xp_BadPosting_BadPosting ?xp_BadPosting_NoPosting ?xp_BadPosting_BadText ?xv_BadPosting ?xiA_BadPosting ?xiB_BadPosting ?xiC_BadPosting ?xiD_BadPosting ?xiE_BadPosting ?xiF_BadPosting ?xkC_BadPosting ?xe_BadPosting ?xp_NoOffice_PostError ?xp_NoOffice_BadBook ?xp_NoOffice_NoOffice ?xp_NoOffice_BadPosting ?xp_NoOffice_NoPosting ?xp_NoOffice_BadText ?xv_NoOffice ?xiA_NoOffice ?xiB_NoOffice ?xiC_NoOffice ?xiD_NoOffice ?xiE_NoOffice ?xiF_NoOffice ?xkC_NoOffice ?xe_NoOffice ?xVE ?hts ?hh ?ht
    (case a0 => k_is)
    (case l0 => k_is)
    (case c0 => k_is)
    (case k0 => k_is)
    (case a1 => k_is)
    (case l1 => k_is)
    (case c1 => k_is)
    (case k1 => k_is)
    (case a2 => k_is)
    (case l2 => k_is)
    (case c2 => k_is)
    (case k2 => k_is)
    (case a3 => k_is)
    (case l3 => k_is)
    (case c3 => k_is)
    (case k3 => k_is)
    (case a4 => k_is)
    (case l4 => k_is)
    (case c4 => k_is)
    (case k4 => k_is)
    (case a5 => k_is)
    (case l5 => k_is)
    (case c5 => k_is)
    (case k5 => k_is)
    (case a6 => k_is)
    (case l6 => k_is)
    (case c6 => k_is)
    (case k6 => k_is)
    (case a7 => k_is)
    (case l7 => k_is)
    (case c7 => k_is)
    (case k7 => k_is)
    (case a8 => k_is)
    (case l8 => k_is)
    (case c8 => k_is)
    (case k8 => k_is)
    (case a9 => k_is)
    (case l9 => k_is)
    (case c9 => k_is)
    (case k9 => k_is)
    (case a10 => k_is)
    (case l10 => k_is)
    (case c10 => k_is)
    (case k10 => k_is)
    (case a11 => k_is)
    (case l11 => k_is)
    (case c11 => k_is)
    (case k11 => k_is)
    (case a12 => k_is)
    (case l12 => k_is)
    (case c12 => k_is)
    (case k12 => k_is)
    (case a13 => k_is)
    (case l13 => k_is)
    (case c13 => k_is)
    (case k13 => k_is)
    (case a14 => k_is)
    (case l14 => k_is)
    (case c14 => k_is)
    (case k14 => k_is)
    (case a15 => k_is)
    (case l15 => k_is)
    (case c15 => k_is)
    (case k15 => k_is)
    (case a16 => k_is)
    (case l16 => k_is)
    (case c16 => k_is)
    (case k16 => k_is)
    (case a17 => k_is)
    (case l17 => k_is)
    (case c17 => k_is)
    (case k17 => k_is)
    (case a18 => k_is)
    (case l18 => k_is)
    (case c18 => k_is)
    (case k18 => k_is)
    (case a19 => k_is)
    (case l19 => k_is)
    (case c19 => k_is)
    (case k19 => k_is)
    (case a20 => k_is)
    (case l20 => k_is)
    (case c20 => k_is)
    (case k20 => k_is)
    (case a21 => k_is)
    (case l21 => k_is)
    (case c21 => k_is)
    (case k21 => k_is)
    (case a22 => k_is)
    (case l22 => k_is)
    (case c22 => k_is)
    (case k22 => k_is)
    (case a23 => k_is)
    (case l23 => k_is)
    (case c23 => k_is)
    (case k23 => k_is)
    (case a24 => k_is)
    (case l24 => k_is)
    (case c24 => k_is)
    (case k24 => k_is)
    (case a25 => k_is)
    (case l25 => k_is)
    (case c25 => k_is)
    (case k25 => k_is)
    (case a26 => k_is)
    (case l26 => k_is)
    (case c26 => k_is)
    (case k26 => k_is)
    (case a27 => k_is)
    (case l27 => k_is)
    (case c27 => k_is)
    (case k27 => k_is)
    (case a28 => k_is)
    (case l28 => k_is)
    (case c28 => k_is)
    (case k28 => k_is)
    (case a29 => k_is)
    (case l29 => k_is)
    (case c29 => k_is)
    (case k29 => k_is)
    (case a30 => k_is)
    (case l30 => k_is)
    (case c30 => k_is)
    (case k30 => k_is)
    (case a31 => k_is)
    (case l31 => k_is)
    (case c31 => k_is)
    (case k31 => k_is)
    (case a32 => k_is)
    (case l32 => k_is)
    (case c32 => k_is)
    (case k32 => k_is)
    (case a33 => k_is)
    (case l33 => k_is)
    (case c33 => k_is)
    (case k33 => k_is)
    (case a34 => k_is)
    (case l34 => k_is)
    (case c34 => k_is)
    (case k34 => k_is)
    (case a35 => k_is)
    (case l35 => k_is)
    (case c35 => k_is)
    (case k35 => k_is)
    (case a36 => k_is)
    (case l36 => k_is)
    (case c36 => k_is)
    (case k36 => k_is)
    (case a37 => k_is)
    (case l37 => k_is)
    (case c37 => k_is)
    (case k37 => k_is)
    (case a38 => k_is)
    (case l38 => k_is)
    (case c38 => k_is)
    (case k38 => k_is)
    (case a39 => k_is)
    (case l39 => k_is)
    (case c39 => k_is)
    (case k39 => k_is)
    (case a40 => k_is)
    (case l40 => k_is)
    (case c40 => k_is)
    (case k40 => k_is)
    (case a41 => k_is)
    (case l41 => k_is)
    (case c41 => k_is)
    (case k41 => k_is)
    (case a42 => k_is)
    (case l42 => k_is)
    (case c42 => k_is)
    (case k42 => k_is)
    (case a43 => k_is)
    (case l43 => k_is)
    (case c43 => k_is)
    (case k43 => k_is)
    (case a44 => k_is)
    (case l44 => k_is)
    (case c44 => k_is)
    (case k44 => k_is)
    (case a45 => k_is)
    (case l45 => k_is)
    (case c45 => k_is)
    (case k45 => k_is)
    (case a46 => k_is)
    (case l46 => k_is)
    (case c46 => k_is)
    (case k46 => k_is)
    (case a47 => k_is)
    (case l47 => k_is)
    (case c47 => k_is)
    (case k47 => k_is)
    (case a48 => k_is)
    (case l48 => k_is)
    (case c48 => k_is)
    (case k48 => k_is)
    (case a49 => k_is)
    (case l49 => k_is)
    (case c49 => k_is)
    (case k49 => k_is)
    (case a50 => k_is)
    (case l50 => k_is)
    (case c50 => k_is)
    (case k50 => k_is)
    (case a51 => k_is)
    (case l51 => k_is)
    (case c51 => k_is)
    (case k51 => k_is)
    (case a52 => k_is)
    (case l52 => k_is)
    (case c52 => k_is)
    (case k52 => k_is)
    (case a53 => k_is)
    (case l53 => k_is)
    (case c53 => k_is)
    (case k53 => k_is)
    (case n0 => exact ⟨_, by k_is⟩)
    (case n1 => exact ⟨_, by k_is⟩)
    (case n2 => exact ⟨_, by k_is⟩)
    (case n3 => exact ⟨_, by k_is⟩)
    (case n4 => exact ⟨_, by k_is⟩)
    (case n5 => exact ⟨_, by k_is⟩)
    (case n6 => exact ⟨_, by k_is⟩)
    (case n7 => exact ⟨_, by k_is⟩)
    (case n8 => exact ⟨_, by k_is⟩)
    (case n9 => exact ⟨_, by k_is⟩)
    (case n10 => exact ⟨_, by k_is⟩)
    (case ta0 => k_is)
    (case tb0 => k_is)
    (case z0 => k_is)
    (case z1 => k_is)
    (case z2 => k_is)
    (case z3 => k_is)
    (case z4 => k_is)
    (case z5 => k_is)
    (case z6 => k_is)
    (case z7 => k_is)
    (case z8 => k_is)
    (case z9 => k_is)
    (case z10 => k_is)
    (case z11 => k_is)
    (case z12 => k_is)
    (case ga0 => k_is)
    (case gpg0 => k_is)
    (case ghd0 => k_is)
    (case gpo0 => k_is)
    (case gsa0 => k_is)
    (case gmk0 => k_is)
    (case gkp0 => k_is)
    (case gfi0_0 => k_is)
    (case gfn0_0 => k_is)
    (case glk0_0 => k_is)
    (case gco0_0 => k_is)
    (case gkk0_0 => k_is)
    (case gfi0_1 => k_is)
    (case gfn0_1 => k_is)
    (case glk0_1 => k_is)
    (case gco0_1 => k_is)
    (case gkk0_1 => k_is)
    (case gfi0_2 => k_is)
    (case gfn0_2 => k_is)
    (case glk0_2 => k_is)
    (case gco0_2 => k_is)
    (case gkk0_2 => k_is)
    (case gfi0_3 => k_is)
    (case gfn0_3 => k_is)
    (case glk0_3 => k_is)
    (case gco0_3 => k_is)
    (case gkk0_3 => k_is)
    (case gfi0_4 => k_is)
    (case gfn0_4 => k_is)
    (case glk0_4 => k_is)
    (case gco0_4 => k_is)
    (case gkk0_4 => k_is)
    (case gfi0_5 => k_is)
    (case gfn0_5 => k_is)
    (case glk0_5 => k_is)
    (case gco0_5 => k_is)
    (case gkk0_5 => k_is)
    (case gfi0_6 => k_is)
    (case gfn0_6 => k_is)
    (case glk0_6 => k_is)
    (case gco0_6 => k_is)
    (case gkk0_6 => k_is)
    (case gna0_book => k_is)
    (case gna0_letters => k_is)
    (case gna0_stands => k_is)
    (case gna0_free => k_is)
    (case xg_PostError => k_is)
    (case xc_PostError => k_is)
    (case xt_PostError => k_is)
    (case xs_PostError => k_is)
    (case xh_PostError => k_is)
    (case xg_BadBook => k_is)
    (case xc_BadBook => k_is)
    (case xt_BadBook => k_is)
    (case xs_BadBook => k_is)
    (case xh_BadBook => k_is)
    (case xg_NoOffice => k_is)
    (case xc_NoOffice => k_is)
    (case xt_NoOffice => k_is)
    (case xs_NoOffice => k_is)
    (case xh_NoOffice => k_is)
    (case xg_BadPosting => k_is)
    (case xc_BadPosting => k_is)
    (case xt_BadPosting => k_is)
    (case xs_BadPosting => k_is)
    (case xh_BadPosting => k_is)
    (case xg_NoPosting => k_is)
    (case xc_NoPosting => k_is)
    (case xt_NoPosting => k_is)
    (case xs_NoPosting => k_is)
    (case xh_NoPosting => k_is)
    (case xg_BadText => k_is)
    (case xc_BadText => k_is)
    (case xt_BadText => k_is)
    (case xs_BadText => k_is)
    (case xh_BadText => k_is)
    (case xp_BadBook_PostError => k_is)
    (case xp_BadBook_BadBook => k_is)
    (case xp_BadBook_NoOffice => k_is)
    (case xp_BadBook_BadPosting => k_is)
    (case xp_BadBook_NoPosting => k_is)
    (case xp_BadBook_BadText => k_is)
    (case xv_BadBook => k_is)
    (case xiA_BadBook => k_is)
    (case xiB_BadBook => k_is)
    (case xiC_BadBook => k_is)
    (case xiD_BadBook => k_is)
    (case xiE_BadBook => k_is)
    (case xiF_BadBook => k_is)
    (case xkC_BadBook => k_is)
    (case xl_BadBook => k_is)
    (case xsa_BadBook => k_is)
    (case xno_BadBook => k_is)
    (case xI_BadBook => k_is)
    (case xtI_BadBook => k_is)
    (case xlk_BadBook => k_is)
    (case xco_BadBook => k_is)
    (case xkk_BadBook => k_is)
    (case xp_BadPosting_PostError => k_is)
    (case xp_BadPosting_BadBook => k_is)
    (case xp_BadPosting_NoOffice => k_is)
    (case xp_BadPosting_BadPosting => k_is)
    (case xp_BadPosting_NoPosting => k_is)
    (case xp_BadPosting_BadText => k_is)
    (case xv_BadPosting => k_is)
    (case xiA_BadPosting => k_is)
    (case xiB_BadPosting => k_is)
    (case xiC_BadPosting => k_is)
    (case xiD_BadPosting => k_is)
    (case xiE_BadPosting => k_is)
    (case xiF_BadPosting => k_is)
    (case xkC_BadPosting => k_is)
    (case xe_BadPosting => k_exc)
    (case xp_NoOffice_PostError => k_is)
    (case xp_NoOffice_BadBook => k_is)
    (case xp_NoOffice_NoOffice => k_is)
    (case xp_NoOffice_BadPosting => k_is)
    (case xp_NoOffice_NoPosting => k_is)
    (case xp_NoOffice_BadText => k_is)
    (case xv_NoOffice => k_is)
    (case xiA_NoOffice => k_is)
    (case xiB_NoOffice => k_is)
    (case xiC_NoOffice => k_is)
    (case xiD_NoOffice => k_is)
    (case xiE_NoOffice => k_is)
    (case xiF_NoOffice => k_is)
    (case xkC_NoOffice => k_is)
    (case xe_NoOffice => k_exc)
    (case xVE => k_is)
    (case hts => exact List.mem_cons_self)
    (case hh => kernel_rfl)
    (case ht => kernel_rfl)
